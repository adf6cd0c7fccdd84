import Derived.Test.YtfbhkfhbnkncoaaGreatDoorT40
set_option linter.all false
set_option maxRecDepth 100000
set_option maxHeartbeats 8000000
namespace Go.Proofs.YtfbhkfhbnkncoaaGreatDoor
open Go.RowKit
namespace Sx
theorem zav{P:Program}{N:Nat}{ir:Bool}{x y:Code}{fr:List Ent}{m:MS}{K:X→List Ent→MS→Prop}(h:Ok P N ir x fr m fun e fr' m'=>match e with
  | .nor=>Ok P N ir y fr' m' K
  |e=>K e fr' m'):Ok P N ir (.seq x y) fr m K:=fun E r nn ro bl a w hr hS=>by
 have hl:∀t∈zby x,t∈zby (.seq x y):=fun t ht=>zF2.2 (.inl ht);refine wpIn_seq (wpIn_mono (h E r nn ro bl a w hr hS) ?_);rintro e a' w' hq;cases e with
 |normal=>
  obtain⟨u,fr',m',ro',bl',L,h1,h2,h3,h4,h5,h6,h7,h8,h9⟩:=hq;cases zgQ h2;refine wpIn_mono (h1 E r nn ro' bl' a' w' hr ⟨h4 (by simp),h3⟩) fun e a2 w2 hq=>?_;exact hq.next h3 h6 h7 h8 (h9.sub hl) (fun t ht=>zF2.2 (.inr ht)) fun _ _ _ h=>h
 |exit id=>exact hq.of hl fun x fr m ro' bl' h2 h1=>by cases zex h2;exact⟨_,h1,h2,fun h=>h⟩
 |ret=>exact hq.of hl fun x fr m ro' bl' h2 h1=>by cases x<;>first|exact h2.elim|exact⟨_,h1,h2,fun h=>h⟩
 |goto l=>obtain⟨u,_,_,_,_,_,_,h2,_⟩:=hq;cases u<;>exact h2.elim
 |panic ch=>exact hq.of hl fun x fr m ro' bl' h2 h1=>by cases x<;>first|exact h2.elim|exact⟨_,h1,h2,fun h=>h⟩
 |outgrown=>obtain⟨u,_,_,_,_,_,_,h2,_⟩:=hq;cases u<;>exact h2.elim
theorem zaD{P:Program}{N:Nat}{ir:Bool}{c:Code}{fr:List Ent}{m:MS}{K:X→List Ent→MS→Prop}{l:List (Nat×SV)}{m':MS}(h0:zel fr l)(hm:m=m')(h:Ok P N ir c (zdx l []) m' K):Ok P N ir c fr m K:=fun E r nn ro bl a w hr hS=>by
 subst hm;refine h E r nn ro bl a w hr ⟨⟨hS.l.size,fun t c v hl _=>?_,fun t c v hl hc=>?_⟩,hS.m⟩
 ·simp only[zbr,zGj]at hl;obtain⟨u,hu,e⟩:=hl;cases e;rcases zi1 hu with h1|h1
  ·have h2:=zdU h0 _ h1;exact hS.l.yes t [] _ (by simp[zbr,h2]) fun _ hp=>by cases hp
  ·cases h1
 ·simp only[zbr,zGj]at hl;obtain⟨u,_,e⟩:=hl;cases e;exact absurd (fun _ hp=>by cases hp) hc
theorem zcp{f:FuncId}{fn:Func}{c:Code}(hf:Tryz.prog.funcs[f]?=some fn)(hb:fn.body=some c)(hn:(fn.name== "runtime.NumGoroutine")=false)(hl:Nat.ble fn.results.toList.length 3=true){args:List SV}(ha:Nat.ble args.length fn.ntmps=true){m:MS}{K:Out→MS→Prop}
 (h:Ok Tryz.prog fn.ntmps false c (zen 0 args) m (zeJ tbl m.c.length m.t.length m.o.length fn.results.toList K)):Con Tryz.prog f args m K:=by
 refine zh9 (zoP zaa hf hb (zdY hf hn (by rw[hb];rfl)) (zFG hl) (zFG ha) (zsE h fun x fr' m' h=>?_));have key:(match zBL tbl fr' m' fn.results.toList with
  |some v=>(v.ids m.c.length m.t.length m.o.length&&(zaG m.c.length m.t.length m.o.length (m'.c.take m.c.length)&&zbH m.c.length m.t.length m.o.length (m'.o.take m.o.length)))=true∧K (.ret v) (m'.take m.c.length m.t.length m.o.length)
  |none=>False)→match zqn tbl fr' m' fn.results.toList with
  |some v=>∃u,(∀ro bl x,zaX ro bl v x→zaX ro bl u x)∧(u.ids m.c.length m.t.length m.o.length&&(zaG m.c.length m.t.length m.o.length (m'.c.take m.c.length)&&zbH m.c.length m.t.length m.o.length (m'.o.take m.o.length)))=true∧K (.ret u) (m'.take m.c.length m.t.length m.o.length)
  |none=>False:=fun h=>by
  split at h
  ·rename_i v hv;obtain⟨u,hu,hr⟩:=zlA hv;rw[hu];exact⟨v,hr,h⟩
  ·exact h.elim
 cases x with
 |exit i=>exact h.elim
 |pan d=>exact h
 |nor=>exact key h
 |ret=>exact key h
theorem zgU{f:FuncId}{fn:Func}{c:Code}(hf:Tryz.prog.funcs[f]?=some fn)(hb:fn.body=some c)(hn:(fn.name== "runtime.NumGoroutine")=false)(hl:Nat.ble fn.results.toList.length 3=true){args:List SV}(ha:Nat.ble args.length fn.ntmps=true)(hi:zaG 0 0 0 args=true){v:SV}
 (h:Ok Tryz.prog fn.ntmps false c (zen 0 args) ⟨[],[],[]⟩ (zeJ tbl 0 0 0 fn.results.toList fun o m=>(∃u,o=.ret u∧u.le v)∧m=⟨[],[],[]⟩)):zay Tryz.prog f args v:=by
 have hc:=zcp hf hb hn hl ha (m:=⟨[],[],[]⟩) h;have:Con Tryz.prog f args ⟨[],[],[]⟩ (fun o m=>o=.ret v∧m=⟨[],[],[]⟩):=⟨hc.1,fun E ro bl w xs hM hA=>(hc.2 E ro bl w xs hM hA).mono (by
  rintro e w' ⟨ro',bl',m',out,h1,h2,h3,⟨u,rfl,hu⟩,h4⟩;obtain⟨x,he,hx⟩:=h3;exact⟨ro',bl',m',.ret v,h1,h2,⟨x,he,hu _ _ _ hx⟩,rfl,h4⟩)⟩
 exact zlv hi this
theorem zsW{P:Program}{tb:TT}{N:Nat}{ir:Bool}{c:Code}{fr:List Ent}{m:MS}{K:X→List Ent→MS→Prop}(fr':List Ent)(m':MS)(h1:∀K0:X→List Ent→MS→Prop,sxC P tb N ir c fr m K0=K0 .nor fr' m')(h2:K .nor fr' m'):sxC P tb N ir c fr m K:=(h1 K)▸h2
def zbR:Nat→Code→Code
 |0,c=>c
 |n+1,.seq _ b=>zbR n b
 |_+1,c=>c
def zbE(fn:Func):Code:=match fn.body with
 |some c=>c
 |none=>.skip
abbrev rgA:SV:=.fn (.func 253) (.pr (.pt 0 []) (.pr (.pt 1 []) (.d .un)))
abbrev rgU:SV:=.fn (.func 255) (.pr (.pt 0 []) (.pr (.pt 1 []) (.d .un)))
abbrev rgG:SV:=.fn (.func 256) (.pr (.pt 3 []) (.pr (.pt 0 []) (.pr (.pt 1 []) (.d .un))))
abbrev rgR:SV:=.fn (.func 258) (.pr (.pt 0 []) (.pr (.pt 1 []) (.d .un)))
abbrev rgS:SV:=.fn (.func 259) (.pr (.pt 1 []) (.pr (.pt 2 []) (.pr (.pt 3 []) (.d .un))))
def zFl:List (Int×SV):=[(1,rgA),(2,rgA),(3,rgA),(4,rgA),(5,rgA),(10,rgA),(12,rgA),(18,rgA),(19,rgA),(6,rgU),(7,rgU),(9,rgU),(11,rgU),(8,rgG),(13,rgR),(14,rgS)]
abbrev zlB(s:St)(c:Call):MS:=⟨[.d (za7 s),.d (zaW c),rgA,rgU],[],[.map .u8 zFl]⟩
attribute [local irreducible] Con zax zan zau zai zaw zbt zak zaC zbh zba I64
theorem zr8(l:List Int)(v:Int):decide (zmu (fun i=>l.getD i 0) v l.length≥0)=l.contains v:=by
 have key:∀n i,i+n=l.length→decide (zmv (fun i=>l.getD i 0) v i n≥0)=(l.drop i).contains v:=by
  intro n;induction n with
  |zero=>intro i hi;rw[List.drop_of_length_le (by omega)];rfl
  |succ n ih=>
   intro i hi;rw[zHQ (by omega:i<l.length)];show decide ((bif v==l.getD i 0 then(i:Int)else zmv (fun i=>l.getD i 0) v (i+1) n)≥0)=_;have hg:l.getD i 0=l[i]'(by omega):=by rw[zG9,zHa (by omega)];rfl
   rw[hg,List.contains_cons];cases hq:(v==l[i]'(by omega))with
   |true=>simp
   |false=>rw[zF8,←ih (i+1) (by omega)];rfl
 exact key l.length 0 (by omega)
theorem zqZ{s:St}(hs:SInv s){c:Call}(hr:U32 c.r)(hc:U32 c.s):zay Tryz.prog 235 [.d (za7 s),.d (zaW c)] (HS (zb0 s c)):=by
 obtain⟨d,ht⟩:=hs.t;have TA:zb0 s c=zpu s c.r→Ok Tryz.prog Tryz.f235.ntmps false (zbR 5 (zbE Tryz.f235)) (zdx [(8,rgA),(9,.d (.bo true))] []) (zlB s c) (zeJ tbl 0 0 0 Tryz.f235.results.toList fun o m=>(∃u,o=.ret u∧u.le (HS (zb0 s c)))∧m=⟨[],[],[]⟩):=fun e=>by
  refine zab zaa ?_;conv=>whnf
  refine⟨(fun h=>by cases h),fun _=>?_⟩;conv=>whnf
  refine zaM Tryz.func253 rfl (by kernel_rfl) rfl rfl ?_;conv=>whnf
  refine zad (zyb s c.r) ?_;conv=>whnf
  exact⟨rfl,zae (by rw[e];rfl)⟩
 have TU:zb0 s c=zbW s.t c.r→Ok Tryz.prog Tryz.f235.ntmps false (zbR 5 (zbE Tryz.f235)) (zdx [(8,rgU),(9,.d (.bo true))] []) (zlB s c) (zeJ tbl 0 0 0 Tryz.f235.results.toList fun o m=>(∃u,o=.ret u∧u.le (HS (zb0 s c)))∧m=⟨[],[],[]⟩):=fun e=>by
  refine zab zaa ?_;conv=>whnf
  refine⟨(fun h=>by cases h),fun _=>?_⟩;conv=>whnf
  refine zaM Tryz.func255 rfl (by kernel_rfl) rfl rfl ?_;conv=>whnf
  refine zad (zha ht.ok ht.rk hr) ?_;conv=>whnf
  exact⟨rfl,zae (by rw[e];rfl)⟩
 have TG:c.do_=8→Ok Tryz.prog Tryz.f235.ntmps false (zbR 5 (zbE Tryz.f235)) (zdx [(8,rgG),(9,.d (.bo true))] []) (zlB s c) (zeJ tbl 0 0 0 Tryz.f235.results.toList fun o m=>(∃u,o=.ret u∧u.le (HS (zb0 s c)))∧m=⟨[],[],[]⟩):=fun e=>by
  refine zab zaa ?_;conv=>whnf
  refine⟨(fun h=>by cases h),fun _=>?_⟩;conv=>whnf
  refine zaM Tryz.func256 rfl (by kernel_rfl) rfl rfl ?_;conv=>whnf
  refine zaM Tryz.func255 rfl (by kernel_rfl) rfl rfl ?_;conv=>whnf
  cases hg:zah s.t.b c.r with
  |false=>
   have hu:zbW s.t c.r=[]:=by rw[zbW,hg];rfl
   refine zad (zha ht.ok ht.rk hr) ?_;conv=>whnf
   rw[hu];refine⟨(show I64 0 from by first|omega|(refine⟨?_,?_⟩<;>omega)|(refine zac ?_ ?_<;>omega)),?_⟩;conv=>whnf
   refine zam (zbz s.t.b c.s) (fun _ h _=>h) ?_;conv=>whnf
   refine⟨fun _=>?_,fun h=>absurd (show true=false from h) (by decide)⟩;conv=>whnf
   refine⟨rfl,zeU ?_⟩;rw[show zb0 s c=[] by unfold zb0;rw[e,hu];rfl];exact zcO _ _ _ _
  |true=>
   have hu:zbW s.t c.r=zaV s.t c.r:=by rw[zbW,hg];rfl
   refine zw4 ht.ok ht.rk hr hg _ _ (fun v=>?_);have hn:(zaV s.t c.r).length≤33:=zd3 ht.ok ht.rk (zb2 hg);conv=>whnf
   have hl:(hL (zbW s.t c.r)).length≤33:=by rw[hu,zFH];exact hn
   refine⟨zac (by omega) (by omega),?_⟩;conv=>whnf
   refine zam (zbz s.t.b c.s) (fun _ h _=>h) ?_;conv=>whnf
   refine⟨fun h1=>?_,fun h1=>?_⟩
   ·have h1:(((hL (zbW s.t c.r)).length:Int)==0||!zah s.t.b c.s)=true:=h1;conv=>whnf
    refine⟨rfl,zeU ?_⟩;rw[show zb0 s c=[] by
     unfold zb0;rw[e];show(bif ((zbW s.t c.r).length==0)||!zah s.t.b c.s then _ else _)=_;have h2:(((zbW s.t c.r).length==0)||!zah s.t.b c.s)=true:=by simp only[zFH]at h1;simpa using h1
     rw[h2];rfl]
    exact zcO _ _ _ _
   have h1:(((hL (zbW s.t c.r)).length:Int)==0||!zah s.t.b c.s)=false:=h1;have eG:zb0 s c=bif (zbW s.t c.r).contains c.s then zbW s.t c.r else zbW s.t c.r++[c.s]:=by
    unfold zb0;rw[e];show(bif ((zbW s.t c.r).length==0)||!zah s.t.b c.s then _ else _)=_;have h2:(((zbW s.t c.r).length==0)||!zah s.t.b c.s)=false:=by simp only[zFH]at h1;simpa using h1
    rw[h2];rfl
   conv=>whnf
   refine zad ((zpP (zbW s.t c.r).length (fun i=>(zbW s.t c.r).getD i 0) c.s (by rw[hu];omega)).le ⟨fun ro bl x h=>zbZ .c hD 0 (zbW s.t c.r) ro bl x (zlo _ _ _ _ _ ro bl x h),SV.le_refl _,trivial⟩) ?_;conv=>whnf
   refine⟨fun h2=>?_,fun h2=>?_⟩
   ·have h2:decide (zmu (fun i=>(zbW s.t c.r).getD i 0) c.s (zbW s.t c.r).length≥0)=true:=h2;conv=>whnf
    refine⟨rfl,zae ?_⟩;rw[eG,←zr8,h2];rfl
   have h2:decide (zmu (fun i=>(zbW s.t c.r).getD i 0) c.s (zbW s.t c.r).length≥0)=false:=h2;rw[←zr8,h2]at eG;conv=>whnf
   refine Or.inl ?_;conv=>whnf
   refine⟨⟨rfl,by omega⟩,?_⟩;conv=>whnf
   refine⟨rfl,zae ?_⟩;rw[eG];show SV.d (.sl ((hL (zbW s.t c.r)).length+[hD c.s].length) .c (zdc (hL (zbW s.t c.r)).length (za4 (hL (zbW s.t c.r))) (za4 [hD c.s])))=HS (zbW s.t c.r++[c.s]);rw[zeg,←zFY,←zHk,←zF6]
 have TR:c.do_=13→Ok Tryz.prog Tryz.f235.ntmps false (zbR 5 (zbE Tryz.f235)) (zdx [(8,rgR),(9,.d (.bo true))] []) (zlB s c) (zeJ tbl 0 0 0 Tryz.f235.results.toList fun o m=>(∃u,o=.ret u∧u.le (HS (zb0 s c)))∧m=⟨[],[],[]⟩):=fun e=>by
  refine zab zaa ?_;conv=>whnf
  refine⟨(fun h=>by cases h),fun _=>?_⟩;conv=>whnf
  refine zaM Tryz.func258 rfl (by kernel_rfl) rfl rfl ?_;conv=>whnf
  refine zad (zgw s.k c.s hs.k.ok) ?_;conv=>whnf
  refine⟨fun h1=>?_,fun h1=>?_⟩
  ·conv=>whnf
   refine⟨rfl,zeU ?_⟩;rw[show zb0 s c=[] by
    have h1:((bif zah s.k.b c.s then(0:Int)else 4) != 0)=true:=h1;unfold zb0;rw[e];show(bif zah s.k.b c.s then _ else _)=_;cases hk:zah s.k.b c.s with
    |false=>rfl
    |true=>rw[hk]at h1;cases h1]
   exact zcO _ _ _ _
  have h1:((bif zah s.k.b c.s then(0:Int)else 4) != 0)=false:=h1;conv=>whnf
  refine zad (zyb s (zcg s.k c.s).reg) ?_;conv=>whnf
  refine⟨rfl,zae ?_⟩;rw[show zb0 s c=zpu s (zcg s.k c.s).reg by
   unfold zb0;rw[e];show(bif zah s.k.b c.s then _ else _)=_;cases hk:zah s.k.b c.s with
   |true=>rfl
   |false=>rw[hk]at h1;cases h1]
  rfl
 have TS:c.do_=14→Ok Tryz.prog Tryz.f235.ntmps false (zbR 5 (zbE Tryz.f235)) (zdx [(8,rgS),(9,.d (.bo true))] []) (zlB s c) (zeJ tbl 0 0 0 Tryz.f235.results.toList fun o m=>(∃u,o=.ret u∧u.le (HS (zb0 s c)))∧m=⟨[],[],[]⟩):=fun e=>by
  refine zab zaa ?_;conv=>whnf
  refine⟨(fun h=>by cases h),fun _=>?_⟩;conv=>whnf
  refine zaM Tryz.func259 rfl (by kernel_rfl) rfl rfl ?_;conv=>whnf
  refine⟨fun h1=>?_,fun h1=>?_⟩
  ·have h1:(c.b==1)=true:=h1;conv=>whnf
   refine zaM Tryz.func253 rfl (by kernel_rfl) rfl rfl ?_;conv=>whnf
   refine zad (zyb s c.r) ?_;conv=>whnf
   exact⟨rfl,zae (by rw[show zb0 s c=zpu s c.r by unfold zb0;rw[e,h1];rfl];rfl)⟩
  have h1:(c.b==1)=false:=h1;conv=>whnf
  refine zaM Tryz.func255 rfl (by kernel_rfl) rfl rfl ?_;conv=>whnf
  refine zad (zha ht.ok ht.rk hr) ?_;conv=>whnf
  exact⟨rfl,zae (by rw[show zb0 s c=zbW s.t c.r by unfold zb0;rw[e,h1];rfl];rfl)⟩
 have TN:zb0 s c=[]→Ok Tryz.prog Tryz.f235.ntmps false (zbR 5 (zbE Tryz.f235)) (zdx [(8,.d .nf),(9,.d (.bo false))] []) (zlB s c) (zeJ tbl 0 0 0 Tryz.f235.results.toList fun o m=>(∃u,o=.ret u∧u.le (HS (zb0 s c)))∧m=⟨[],[],[]⟩):=fun e=>by
  refine zab zaa ?_;conv=>whnf
  refine⟨fun _=>?_,(fun h=>by cases h)⟩;conv=>whnf
  refine⟨rfl,zeU ?_⟩;rw[e];exact zcO _ _ _ _
 refine zgU Tryz.func235 rfl (by kernel_rfl) rfl rfl rfl ?_;refine zav (zab zaa ?_);conv=>whnf
 refine zav (zab zaa ?_);conv=>whnf
 refine zav (zab zaa ?_);conv=>whnf
 refine zaD (l:=[(2,.pt 0 []),(3,.pt 1 []),(5,.pt 2 []),(6,.pt 3 [])]) (m':=⟨[.d (za7 s),.d (zaW c),rgA,rgU],[],[]⟩) ⟨rfl,rfl,rfl,rfl,trivial⟩ rfl ?_;refine zav (zab zaa ?_);refine zsW (ze4 [(7,[],some (.ob (.mo 0))),(29,[],some (.ob (.mo 0))),(28,[],some rgS),(27,[],some rgR),(26,[],some rgG),(25,[],some rgU),(24,[],some rgU),(23,[],some rgU),(22,[],some rgU),(21,[],some rgA),(20,[],some rgA),(19,[],some rgA),(18,[],some rgA),(17,[],some rgA),(16,[],some rgA),(15,[],some rgA),(14,[],some rgA),(13,[],some rgA),(12,[],some (.ob (.mo 0)))] (zdx [(2,.pt 0 []),(3,.pt 1 []),(5,.pt 2 []),(6,.pt 3 [])] [])) (zlB s c) (fun K0=>by kernel_rfl) ?_;refine zaD (l:=[(7,.ob (.mo 0)),(3,.pt 1 [])]) (m':=zlB s c) ⟨rfl,rfl,trivial⟩ rfl ?_;refine zav (zab zaa ?_);conv=>whnf
 refine⟨fun h=>?_,fun h1=>?_⟩
 ·conv=>whnf
  exact zaD (l:=[(8,rgA),(9,.d (.bo true))]) ⟨rfl,rfl,trivial⟩ rfl (TA (by unfold zb0;rw[h];rfl))
 conv=>whnf
 refine⟨fun h=>?_,fun h2=>?_⟩
 ·conv=>whnf
  exact zaD (l:=[(8,rgA),(9,.d (.bo true))]) ⟨rfl,rfl,trivial⟩ rfl (TA (by unfold zb0;rw[h];rfl))
 conv=>whnf
 refine⟨fun h=>?_,fun h3=>?_⟩
 ·conv=>whnf
  exact zaD (l:=[(8,rgA),(9,.d (.bo true))]) ⟨rfl,rfl,trivial⟩ rfl (TA (by unfold zb0;rw[h];rfl))
 conv=>whnf
 refine⟨fun h=>?_,fun h4=>?_⟩
 ·conv=>whnf
  exact zaD (l:=[(8,rgA),(9,.d (.bo true))]) ⟨rfl,rfl,trivial⟩ rfl (TA (by unfold zb0;rw[h];rfl))
 conv=>whnf
 refine⟨fun h=>?_,fun h5=>?_⟩
 ·conv=>whnf
  exact zaD (l:=[(8,rgA),(9,.d (.bo true))]) ⟨rfl,rfl,trivial⟩ rfl (TA (by unfold zb0;rw[h];rfl))
 conv=>whnf
 refine⟨fun h=>?_,fun h10=>?_⟩
 ·conv=>whnf
  exact zaD (l:=[(8,rgA),(9,.d (.bo true))]) ⟨rfl,rfl,trivial⟩ rfl (TA (by unfold zb0;rw[h];rfl))
 conv=>whnf
 refine⟨fun h=>?_,fun h12=>?_⟩
 ·conv=>whnf
  exact zaD (l:=[(8,rgA),(9,.d (.bo true))]) ⟨rfl,rfl,trivial⟩ rfl (TA (by unfold zb0;rw[h];rfl))
 conv=>whnf
 refine⟨fun h=>?_,fun h18=>?_⟩
 ·conv=>whnf
  exact zaD (l:=[(8,rgA),(9,.d (.bo true))]) ⟨rfl,rfl,trivial⟩ rfl (TA (by unfold zb0;rw[h];rfl))
 conv=>whnf
 refine⟨fun h=>?_,fun h19=>?_⟩
 ·conv=>whnf
  exact zaD (l:=[(8,rgA),(9,.d (.bo true))]) ⟨rfl,rfl,trivial⟩ rfl (TA (by unfold zb0;rw[h];rfl))
 conv=>whnf
 refine⟨fun h=>?_,fun h6=>?_⟩
 ·conv=>whnf
  exact zaD (l:=[(8,rgU),(9,.d (.bo true))]) ⟨rfl,rfl,trivial⟩ rfl (TU (by unfold zb0;rw[h];rfl))
 conv=>whnf
 refine⟨fun h=>?_,fun h7=>?_⟩
 ·conv=>whnf
  exact zaD (l:=[(8,rgU),(9,.d (.bo true))]) ⟨rfl,rfl,trivial⟩ rfl (TU (by unfold zb0;rw[h];rfl))
 conv=>whnf
 refine⟨fun h=>?_,fun h9=>?_⟩
 ·conv=>whnf
  exact zaD (l:=[(8,rgU),(9,.d (.bo true))]) ⟨rfl,rfl,trivial⟩ rfl (TU (by unfold zb0;rw[h];rfl))
 conv=>whnf
 refine⟨fun h=>?_,fun h11=>?_⟩
 ·conv=>whnf
  exact zaD (l:=[(8,rgU),(9,.d (.bo true))]) ⟨rfl,rfl,trivial⟩ rfl (TU (by unfold zb0;rw[h];rfl))
 conv=>whnf
 refine⟨fun h=>?_,fun h8=>?_⟩
 ·conv=>whnf
  exact zaD (l:=[(8,rgG),(9,.d (.bo true))]) ⟨rfl,rfl,trivial⟩ rfl (TG h)
 conv=>whnf
 refine⟨fun h=>?_,fun h13=>?_⟩
 ·conv=>whnf
  exact zaD (l:=[(8,rgR),(9,.d (.bo true))]) ⟨rfl,rfl,trivial⟩ rfl (TR h)
 conv=>whnf
 refine⟨fun h=>?_,fun h14=>?_⟩
 ·conv=>whnf
  exact zaD (l:=[(8,rgS),(9,.d (.bo true))]) ⟨rfl,rfl,trivial⟩ rfl (TS h)
 conv=>whnf
 refine zaD (l:=[(8,.d .nf),(9,.d (.bo false))]) (m':=zlB s c) ⟨rfl,rfl,trivial⟩ rfl (TN ?_);have h15:(decide (1≤c.do_)&&decide (c.do_≤5))=false:=by rw[zHK,zFO,zFO];omega
 unfold zb0;rw[h15];rw[show(c.do_==6)=false from zHj h6,show(c.do_==7)=false from zHj h7,show(c.do_==9)=false from zHj h9,show(c.do_==11)=false from zHj h11,show(c.do_==8)=false from zHj h8,show(c.do_==13)=false from zHj h13,show(c.do_==14)=false from zHj h14,show(c.do_==10)=false from zHj h10,show(c.do_==12)=false from zHj h12,show(c.do_==18)=false from zHj h18,show(c.do_==19)=false from zHj h19];rfl
end Sx
namespace Sx
def zaH(p:Pl):D:=.pr (.z .i64 p.n) (.pr (zeT p.fr) (.pr (.ar 64 (.ar 32 .c) fun i=>.ar 32 .c fun j=>.z .u8 (p.by_ i j)) .un))
abbrev M3(Z P C:SV)(a b:Nat):MS:=⟨[Z,P,C],[a,b],[]⟩
theorem zDX{P:Program}{f:FuncId}{args:List SV}{Z Q C:SV}{a b:Nat}{c2:List SV}{t2:List Nat}{o2:List Ob}{R:Out→MS→Prop}(h:Con P f args (M3 Z Q C a b) R)(ha:zaG 3 2 0 args=true)(hi:zaG 3 2 0 [Z,Q,C]=true)(hQ:∀o m,R o m→∃Z' Q' C' a' b',m=M3 Z' Q' C' a' b'){K:Out→MS→Prop}(hK:∀o Z' Q' C' a' b',R o (M3 Z' Q' C' a' b')→K o ⟨Z'::Q'::C'::c2,a'::b'::t2,o2⟩):Con P f args ⟨Z::Q::C::c2,a::b::t2,o2⟩ K:=
 zal (zcb c2 t2 o2 h ha (by rw[show[Z,Q,C].length=3 from rfl,show[a,b].length=2 from rfl,show([]:List Ob).length=0 from rfl,hi];rfl) fun o m hm=>by
  obtain⟨Z',Q',C',a',b',rfl⟩:=hQ o m hm;exact⟨rfl,rfl,rfl⟩) fun o m ⟨m',h1,h2⟩=>by
  obtain⟨Z',Q',C',a',b',rfl⟩:=hQ o m' h1;subst h2;exact hK o Z' Q' C' a' b' h1
attribute [local irreducible] Con zax zan zau zai zaw zbt zak zaC zbh zba I64
theorem zaJ{v:SV}{l:List SV}{n k j:Nat}(h1:v.ids n k j=true)(h2:zaG n k j l=true):(v.ids n k j&&(zaG n k j l&&zbH n k j []))=true:=by rw[h1,h2];rfl
theorem zq5{p:Nat→Bool}:∀{n:Nat},(∀i,i<n→p i=true)→zy6 p n=true
 |0,_=>rfl
 |n+1,h=>by unfold zy6;rw[zq5 fun i hi=>h i (by omega),h n (by omega)];rfl
theorem zkJ{a n n':Nat}(h:n≤n')(k:Nat.blt a n=true):Nat.blt a n'=true:=zHN (zFU (zFG k) h)
theorem zeX{n k j n' k' j':Nat}(hn:n≤n')(hk:k≤k')(hj:j≤j'):∀v:SV,v.ids n k j=true→v.ids n' k' j'=true
 | .d _,_| .el _,_=>rfl
 | .pt _ _,h=>zkJ hn h
 | .fn _ c,h=>zeX hn hk hj c h
 | .ow _ _ _ _ _,h=>zHN (zFU (zFG h) hk)
 | .pr a b,h=>by have h:=zHr.1 h;exact zHr.2 ⟨zeX hn hk hj a h.1,zeX hn hk hj b h.2⟩
 | .tu a,h=>zeX hn hk hj a h
 | .ob (.mr ..),h| .ob (.mq ..),h| .ob (.mp ..),h| .ob (.yl _),h| .ob (.mo _),h=>zkJ hj h
 | .ob (.sb ..),h=>zkJ hn h
 | .ob (.gl _),_| .ob .gm,_=>rfl
 | .fb _ a,h=>zeX hn hk hj a h
 | .ar m _ f,h=>zq5 fun i hi=>zeX hn hk hj (f i) (zkD h hi)
theorem zcr{Z:SV}(hz:Z.ids 3 2 0=true){l:List SV}{n:Nat}(hn:3≤n)(hl:zaG n 2 0 l=true):(zaG n 2 0 (Z::l)&&zbH n 2 0 [])=true:=by show((Z.ids n 2 0&&zaG n 2 0 l)&&true)=true;rw[zeX hn (zF5 2) (zF5 0) Z hz,hl];rfl
structure ZC (Z C:SV):Prop where
 z:Z.ids 3 2 0=true
 c:C.ids 3 2 0=true
theorem ZC.all{Z C:SV}(h:ZC Z C)(d:D):zaG 3 2 0 [Z,.d d,C]=true:=by show(Z.ids 3 2 0&&(true&&(C.ids 3 2 0&&true)))=true;rw[h.z,h.c];rfl
section
variable {Z C:SV} {a b:Nat} {p:Pl}
theorem zng(hz:ZC Z C):Con Tryz.prog 17 [.pt 1 []] (M3 Z (.d (zaH p)) C a b) fun o m=>o=.ret (.d (zeT p.fr))∧m=M3 Z (.d (zaH p)) C a b:=by
 refine za3 Tryz.func17 rfl (by kernel_rfl) rfl rfl ?_;conv=>whnf
 refine⟨(fun h=>by cases h),fun _=>?_⟩;conv=>whnf
 exact⟨zaJ rfl (hz.all _),rfl,rfl⟩
theorem zox(hz:ZC Z C):Con Tryz.prog 49 [.pt 1 []] (M3 Z (.d (zaH p)) C a b) fun o m=>o=.ret (I p.n)∧m=M3 Z (.d (zaH p)) C a b:=by
 refine za3 Tryz.func49 rfl (by kernel_rfl) rfl rfl ?_;conv=>whnf
 refine⟨(fun h=>by cases h),fun _=>?_⟩;conv=>whnf
 exact⟨zaJ rfl (hz.all _),rfl,rfl⟩
theorem zwD(hz:ZC Z C)(hf:∀y∈p.fr,zbd y)(hl:p.fr.length≤500){n:Int}(hn:I64 n):Con Tryz.prog 237 [.pt 1 [],I n] (M3 Z (.d (zaH p)) C a b) fun o m=>o=.ret (T2 (I (zgD p n)) (I (zb4 p n)))∧m=M3 Z (.d (zaH (zf0 p n))) C a b:=by
 refine za3 Tryz.func237 rfl (by kernel_rfl) rfl rfl ?_;conv=>whnf
 refine⟨(fun h=>by cases h),fun _=>?_⟩;conv=>whnf
 refine⟨fun h1=>?_,fun h1=>?_⟩
 ·have h1:decide (n<1)=true:=h1;have e:zb4 p n=2:=by unfold zb4;rw[h1];rfl
  conv=>whnf
  refine⟨zaJ rfl (hz.all _),?_,?_⟩
  ·rw[zgD,e];rfl
  ·rw[zf0,e];rfl
 ·have h1:decide (n<1)=false:=h1;conv=>whnf
  refine zad (zvA p.fr n (by omega)) ?_;conv=>whnf
  refine⟨fun h2=>?_,fun h2=>?_⟩
  ·have h2:(!(zdM p.fr n).isSome)=true:=h2;have e:zb4 p n=6:=by unfold zb4;rw[h1];revert h2;cases(zdM p.fr n).isSome<;>intro h<;>first|rfl|cases h
   conv=>whnf
   refine⟨zaJ rfl (hz.all _),?_,?_⟩
   ·rw[zgD,e];rfl
   ·rw[zf0,e];rfl
  ·have h2:(!(zdM p.fr n).isSome)=false:=h2;have e:zb4 p n=0:=by unfold zb4;rw[h1];revert h2;cases(zdM p.fr n).isSome<;>intro h<;>first|rfl|cases h
   conv=>whnf
   refine zad (zw2 (l:=p.fr) hf hl ⟨zmm p.fr n,n⟩ hn) ?_;conv=>whnf
   refine⟨zaJ rfl (hz.all _),?_,?_⟩
   ·rw[zgD,e];rfl
   ·rw[zf0,e];rfl
theorem zu5(p:Pl)(k:Nat)(g:Nat→Int):(zaH p).set [2,k] (.ar 32 .c fun j=>.z .u8 (g j))=zaH {p with by_:=zaq p.by_ k g}:=by show D.pr _ (.pr _ (.pr (.ar 64 (.ar 32 .c) (zaq (fun i=>.ar 32 .c fun j=>.z .u8 (p.by_ i j)) k (.ar 32 .c fun j=>.z .u8 (g j)))) .un))=_;rw[zaY (fun g:Nat→Int=>D.ar 32 .c fun j=>.z .u8 (g j)) p.by_ k g];rfl
theorem ztZ(hz:ZC Z C)(hf:∀y∈p.fr,zbd y)(hl:p.fr.length≤500)(page:Int)(hp:p.n≤64):Con Tryz.prog 238 [.pt 1 [],I page] (M3 Z (.d (zaH p)) C a b) fun o m=>(∃e:Int,o=.ret (I e))∧m=M3 Z (.d (zaH (zgE p page))) C a b:=by
 refine za3 Tryz.func238 rfl (by kernel_rfl) rfl rfl ?_;conv=>whnf
 refine zaM Tryz.func119 rfl (by kernel_rfl) rfl rfl ?_;conv=>whnf
 refine⟨(fun h=>by cases h),fun _=>?_⟩;conv=>whnf
 refine⟨fun h1=>?_,fun h1=>?_⟩
 ·have h1:(decide (page<0)||decide (page≥p.n))=true:=h1;have e:zdv p page=2:=by unfold zdv;rw[h1];rfl
  conv=>whnf
  refine⟨zaJ rfl (hz.all _),⟨_,rfl⟩,?_⟩;rw[zgE,e];rfl
 ·have h1:(decide (page<0)||decide (page≥p.n))=false:=h1;conv=>whnf
  refine zad (ztU (l:=p.fr) hf (by omega) page) ?_;conv=>whnf
  refine⟨fun h2=>?_,fun h2=>?_⟩
  ·have h2:zpe p.fr page=true:=h2;have e:zdv p page=12:=by unfold zdv;rw[h1,h2];rfl
   conv=>whnf
   refine⟨zaJ rfl (hz.all _),⟨_,rfl⟩,?_⟩;rw[zgE,e];rfl
  ·have h2:zpe p.fr page=false:=h2;have e:zdv p page=0:=by unfold zdv;rw[h1,h2];rfl
   simp only[zFM,zFO]at h1;conv=>whnf
   refine⟨⟨by omega,by omega⟩,?_⟩;conv=>whnf
   refine zaM Tryz.func261 rfl (by kernel_rfl) rfl rfl ?_;conv=>whnf
   refine⟨⟨zFJ 0,(by show(0:Int)≤32;decide),zFJ _⟩,?_⟩;conv=>whnf
   refine⟨fun j=>.z .u8 (zCh (p.by_ page.toNat) j),?_,?_⟩
   ·funext j
    show(bif Nat.ble 0 j&&Nat.blt j (0+32)then D.z .u8 0 else D.z .u8 (p.by_ page.toNat j))=D.z .u8 (bif Nat.blt j 32 then 0 else p.by_ page.toNat j);rw[show Nat.ble 0 j=true from rfl,zGt];cases Nat.blt j 32<;>rfl
   conv=>whnf
   refine⟨zaJ rfl (hz.all _),⟨_,rfl⟩,?_⟩;have e2:zgE p page={p with by_:=zaq p.by_ page.toNat (zCh (p.by_ page.toNat))}:=by unfold zgE;rw[e];rfl
   rw[e2,←zu5];rfl
end
end Sx
namespace Sx
attribute [local irreducible] Con zax zan zau zai zaw zbt zak zaC zbh zba I64
section
variable {Z C:SV} {a b:Nat} {p:Pl}
theorem zwZ(hz:ZC Z C)(hf:∀y∈p.fr,zbd y)(hl:p.fr.length≤500)(page:Int)(hp:p.n≤64):Con Tryz.prog 65 [.pt 1 [],I page] (M3 Z (.d (zaH p)) C a b) fun o m=>(∃e:Int,o=.ret (I e))∧m=M3 Z (.d (zaH (znp p page))) C a b:=by
 refine za3 Tryz.func65 rfl (by kernel_rfl) rfl rfl ?_;conv=>whnf
 refine zaM Tryz.func119 rfl (by kernel_rfl) rfl rfl ?_;conv=>whnf
 refine⟨(fun h=>by cases h),fun _=>?_⟩;conv=>whnf
 refine⟨fun h1=>?_,fun h1=>?_⟩
 ·have h1:(decide (page<0)||decide (page≥p.n))=true:=h1;have e:zdv p page=2:=by unfold zdv;rw[h1];rfl
  conv=>whnf
  refine⟨zaJ rfl (hz.all _),⟨_,rfl⟩,?_⟩;rw[znp,e];rfl
 ·have h1:(decide (page<0)||decide (page≥p.n))=false:=h1;conv=>whnf
  refine zad (ztU (l:=p.fr) hf (by omega) page) ?_;conv=>whnf
  refine⟨fun h2=>?_,fun h2=>?_⟩
  ·have h2:zpe p.fr page=true:=h2;have e:zdv p page=12:=by unfold zdv;rw[h1,h2];rfl
   conv=>whnf
   refine⟨zaJ rfl (hz.all _),⟨_,rfl⟩,?_⟩;rw[znp,e];rfl
  ·have h2:zpe p.fr page=false:=h2;have e:zdv p page=0:=by unfold zdv;rw[h1,h2];rfl
   simp only[zFM,zFO]at h1;conv=>whnf
   refine⟨⟨by omega,by omega⟩,?_⟩;conv=>whnf
   refine zaM Tryz.func120 rfl (by kernel_rfl) rfl rfl ?_;conv=>whnf
   refine zaA zaa (by kernel_rfl) (List.range 13) [(12,512)] (by kernel_rfl) ?_;conv=>whnf
   refine zam (zqN (l:=p.fr) hf ⟨page,1⟩ (zac (x:=(1:Int)) (by decide) (by decide)) (by omega)) (fun _ h=>h) ?_;conv=>whnf
   refine⟨zaJ rfl (hz.all _),⟨_,rfl⟩,?_⟩;rw[znp,e];rfl
theorem zuh(p:Pl)(k i:Nat)(v:Int):(zaH p).set [2,k,i] (.z .u8 v)=zaH {p with by_:=zaq p.by_ k (zaq (p.by_ k) i v)}:=by show D.pr _ (D.pr _ (D.pr (.ar 64 (.ar 32 .c) (zaq (fun i=>D.ar 32 .c fun j=>D.z .u8 (p.by_ i j)) k (D.ar 32 .c (zaq (fun j=>D.z .u8 (p.by_ k j)) i (D.z .u8 v))))) .un))=_;rw[zaY (fun x=>D.z .u8 x),zaY (fun g:Nat→Int=>D.ar 32 .c fun j=>D.z .u8 (g j)) p.by_ k];rfl
theorem zAL{x:Int}(h:¬x<0):0≤ofA x∧ofA x<32:=by have e:x.tmod 32=x % 32:=zGa (by omega);unfold ofA;rw[e];omega
theorem zwf{x:Int}(h:0≤ofA x∧ofA x<32):(32:Int)≠0∧inK .i64 (ofA x)=true:=⟨by decide,zbL (by simp only[zcB];omega) (fun _=>by omega) (by simp only[zcB];omega)⟩
theorem zqU(hz:ZC Z C)(hf:∀y∈p.fr,zbd y)(hl:p.fr.length≤500)(at_:Int)(hp:p.n≤64)(ha: -1000000≤at_∧at_≤1000000):Con Tryz.prog 46 [.pt 1 [],I at_] (M3 Z (.d (zaH p)) C a b) fun o m=>o=.ret (T2 (.d (.z .u8 (zly p at_))) (I (zeE p at_)))∧m=M3 Z (.d (zaH p)) C a b:=by
 refine za3 Tryz.func46 rfl (by kernel_rfl) rfl rfl ?_;conv=>whnf
 refine zaM Tryz.func92 rfl (by kernel_rfl) rfl rfl ?_;conv=>whnf
 refine⟨fun h0=>?_,fun h0=>?_⟩
 ·have h0:decide (at_<0)=true:=h0;have e:zeE p at_=2:=by unfold zeE;rw[h0];rfl
  conv=>whnf
  refine⟨zaJ rfl (hz.all _),?_,rfl⟩;rw[zly,e];rfl
 have h0:decide (at_<0)=false:=h0;have h00:¬at_<0:=zFK h0;have hm:=zAL (x:=at_) h00;have hE:zeE p at_=zdv p (pgA at_):=by unfold zeE;rw[h0];rfl
 conv=>whnf
 refine⟨(show(32:Int)≠0 by decide),?_⟩;conv=>whnf
 refine zaM Tryz.func119 rfl (by kernel_rfl) rfl rfl ?_;conv=>whnf
 refine⟨(fun h=>by cases h),fun _=>?_⟩;conv=>whnf
 refine⟨fun h1=>?_,fun h1=>?_⟩
 ·have h1:(decide (pgA at_<0)||decide (pgA at_≥p.n))=true:=h1;have e:zeE p at_=2:=by rw[hE];unfold zdv;rw[h1];rfl
  conv=>whnf
  refine⟨zaJ rfl (hz.all _),?_,rfl⟩;rw[zly,e];rfl
 ·have h1:(decide (pgA at_<0)||decide (pgA at_≥p.n))=false:=h1;conv=>whnf
  refine zad (ztU (l:=p.fr) hf (by omega) (pgA at_)) ?_;conv=>whnf
  refine⟨fun h2=>?_,fun h2=>?_⟩
  ·have h2:zpe p.fr (pgA at_)=true:=h2;have e:zeE p at_=12:=by rw[hE];unfold zdv;rw[h1,h2];rfl
   conv=>whnf
   refine⟨zaJ rfl (hz.all _),?_,rfl⟩;rw[zly,e];rfl
  ·have h2:zpe p.fr (pgA at_)=false:=h2;have e:zeE p at_=0:=by rw[hE];unfold zdv;rw[h1,h2];rfl
   simp only[zFM,zFO]at h1;conv=>whnf
   refine⟨(show 0≤pgA at_∧pgA at_<64 from⟨by omega,by omega⟩),?_⟩;conv=>whnf
   refine zaM Tryz.func172 rfl (by kernel_rfl) rfl rfl ?_;conv=>whnf
   refine zao zaa (by kernel_rfl) 6 (by kernel_rfl) ?_;conv=>whnf
   refine⟨zwf hm,?_⟩;conv=>whnf
   refine⟨⟨hm.1,hm.2⟩,?_⟩;conv=>whnf
   refine zaM Tryz.func93 rfl (by kernel_rfl) rfl rfl ?_;conv=>whnf
   refine⟨zaJ rfl (hz.all _),?_,rfl⟩;rw[zly,e];rfl
theorem zoy(hz:ZC Z C)(hf:∀y∈p.fr,zbd y)(hl:p.fr.length≤500)(at_ v:Int)(hp:p.n≤64)(ha: -1000000≤at_∧at_≤1000000):Con Tryz.prog 242 [.pt 1 [],I at_,.d (.z .u8 v)] (M3 Z (.d (zaH p)) C a b) fun o m=>(∃e:Int,o=.ret (I e))∧m=M3 Z (.d (zaH (zdI p at_ v))) C a b:=by
 refine za3 Tryz.func242 rfl (by kernel_rfl) rfl rfl ?_;conv=>whnf
 refine zaM Tryz.func92 rfl (by kernel_rfl) rfl rfl ?_;conv=>whnf
 refine⟨fun h0=>?_,fun h0=>?_⟩
 ·have h0:decide (at_<0)=true:=h0;have e:zeE p at_=2:=by unfold zeE;rw[h0];rfl
  conv=>whnf
  refine⟨zaJ rfl (hz.all _),⟨_,rfl⟩,?_⟩;rw[zdI,e];rfl
 have h0:decide (at_<0)=false:=h0;have h00:¬at_<0:=zFK h0;have hm:=zAL (x:=at_) h00;have hE:zeE p at_=zdv p (pgA at_):=by unfold zeE;rw[h0];rfl
 conv=>whnf
 refine⟨(show(32:Int)≠0 by decide),?_⟩;conv=>whnf
 refine zaM Tryz.func119 rfl (by kernel_rfl) rfl rfl ?_;conv=>whnf
 refine⟨(fun h=>by cases h),fun _=>?_⟩;conv=>whnf
 refine⟨fun h1=>?_,fun h1=>?_⟩
 ·have h1:(decide (pgA at_<0)||decide (pgA at_≥p.n))=true:=h1;have e:zeE p at_=2:=by rw[hE];unfold zdv;rw[h1];rfl
  conv=>whnf
  refine⟨zaJ rfl (hz.all _),⟨_,rfl⟩,?_⟩;rw[zdI,e];rfl
 ·have h1:(decide (pgA at_<0)||decide (pgA at_≥p.n))=false:=h1;conv=>whnf
  refine zad (ztU (l:=p.fr) hf (by omega) (pgA at_)) ?_;conv=>whnf
  refine⟨fun h2=>?_,fun h2=>?_⟩
  ·have h2:zpe p.fr (pgA at_)=true:=h2;have e:zeE p at_=12:=by rw[hE];unfold zdv;rw[h1,h2];rfl
   conv=>whnf
   refine⟨zaJ rfl (hz.all _),⟨_,rfl⟩,?_⟩;rw[zdI,e];rfl
  ·have h2:zpe p.fr (pgA at_)=false:=h2;have e:zeE p at_=0:=by rw[hE];unfold zdv;rw[h1,h2];rfl
   simp only[zFM,zFO]at h1;conv=>whnf
   refine⟨(show 0≤pgA at_∧pgA at_<64 from⟨by omega,by omega⟩),?_⟩;conv=>whnf
   refine zaM Tryz.func172 rfl (by kernel_rfl) rfl rfl ?_;conv=>whnf
   refine zao zaa (by kernel_rfl) 6 (by kernel_rfl) ?_;conv=>whnf
   refine⟨zwf hm,?_⟩;conv=>whnf
   refine⟨⟨hm.1,hm.2⟩,?_⟩;conv=>whnf
   refine zaM Tryz.func263 rfl (by kernel_rfl) rfl rfl ?_;conv=>whnf
   refine⟨_,congrArg SV.d (zuh p (pgA at_).toNat (ofA at_).toNat v),?_⟩;conv=>whnf
   refine⟨zaJ rfl (hz.all _),⟨_,rfl⟩,?_⟩;rw[zdI,e];rfl
end
end Sx
end Go.Proofs.YtfbhkfhbnkncoaaGreatDoor
