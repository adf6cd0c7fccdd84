import Derived.Test.YtfbhkfhbnkncoaaGreatDoorT13
set_option linter.all false
namespace Go.Proofs.YtfbhkfhbnkncoaaGreatDoor
open Go.RowKit
namespace Sx
variable {E:Gh} {r:Option Nat} {nn:Nat}
variable {P:Program} {tb:TT}
def zmT(tb:TT)(fr:List Ent)(m:MS):ResultVar→Option SV
 | .tmp t=>match look fr t with
  |some v=>match v.nt with
   |true=>some v.res
   |false=>none
  |none=>none
 | .cell a T=>match look fr a with
  |some (.pt id path)=>match zg6 m.c id with
   |some v=>match v.nav path with
    |some v'=>match tb.get T with
     |some i=>match zc4 v'.shape v'.agg i&&v'.nt with
      |true=>some v'.res
      |false=>none
     |none=>none
    |none=>none
   |none=>none
  |_=>none
def zmS(tb:TT)(fr:List Ent)(m:MS):List ResultVar→Option SV
 |[]=>some (.d .un)
 |r::l=>match zmT tb fr m r,zmS tb fr m l with
  |some v,some c=>some (.pr v c)
  |_,_=>none
def zBL(tb:TT)(fr:List Ent)(m:MS):List ResultVar→Option SV
 |[r]=>zmT tb fr m r
 |l=>(zmS tb fr m l).map .tu
def zen:Nat→List SV→List Ent
 |_,[]=>[]
 |n,v::r=>.put n v::zen (n+1) r
def zf5(tb:TT)(fr:List Ent)(m:MS):ResultVar→Option SV
 | .tmp t=>match look fr t with
  |some v=>match v.nt with
   |true=>some v
   |false=>none
  |none=>none
 | .cell a T=>match look fr a with
  |some (.pt id path)=>match zg6 m.c id with
   |some v=>match v.nav path with
    |some v'=>match tb.get T with
     |some i=>match zc4 v'.shape v'.agg i&&v'.nt with
      |true=>some v'
      |false=>none
     |none=>none
    |none=>none
   |none=>none
  |_=>none
def zji(tb:TT)(fr:List Ent)(m:MS):List ResultVar→Option SV
 |[]=>some (.d .un)
 |r::l=>match zf5 tb fr m r,zji tb fr m l with
  |some v,some c=>some (.pr v c)
  |_,_=>none
def zqn(tb:TT)(fr:List Ent)(m:MS):List ResultVar→Option SV
 |[r]=>zf5 tb fr m r
 |l=>(zji tb fr m l).map .tu
def zy9(tb:TT)(rs:List ResultVar)(K:Out→MS→Prop)(x:X)(fr:List Ent)(m:MS):Prop:=
 match x with
 | .exit _=>False
 | .pan d=>K (.pan d) m
 |_=>match zqn tb fr m rs with
  |some v=>K (.ret v) m
  |none=>False
def zeJ(tb:TT)(n k j:Nat)(rs:List ResultVar)(K:Out→MS→Prop)(x:X)(fr:List Ent)(m:MS):Prop:=
 match x with
 | .exit _=>False
 | .pan d=>(zaG n k j (m.c.take n)&&zbH n k j (m.o.take j))=true∧K (.pan d) (m.take n k j)
 |_=>match zBL tb fr m rs with
  |some v=>(v.ids n k j&&(zaG n k j (m.c.take n)&&zbH n k j (m.o.take j)))=true∧K (.ret v) (m.take n k j)
  |none=>False
def zzg(tmps:Array Value):ResultVar→Sem Value
 | .tmp t=>pure (tmps.getD t undef)
 | .cell p t=>do loadVar t (←asAddr (tmps.getD p undef))
theorem zko{fr:List Ent}{m:MS}{r:ResultVar}{v:SV}(h:zmT tb fr m r=some v):∃u,zf5 tb fr m r=some u∧v=u.res:=by
 cases r with
 |tmp t=>
  simp only[zmT,zf5]at h ⊢;split at h
  ·split at h
   ·cases h;exact⟨_,rfl,rfl⟩
   ·cases h
  ·cases h
 |cell p T=>
  simp only[zmT,zf5]at h ⊢
  repeat' split at h
  all_goals first|(cases h;done)|(cases h;exact⟨_,rfl,rfl⟩)
theorem zkk(hP:tb.ok P){ro:Ro}{bl:Bl}{fr:List Ent}{m:MS}{N:Nat}{a:Act}{w:World}(hS:SimL ro bl [] fr N a)(hM:Mem E ro bl m w){r:ResultVar}{v:SV}(h:zf5 tb fr m r=some v):
 ∃x,(zzg a.tmps r).run P w=.ok x w∧zcD ro bl v x:=by
 have zjL:∀t v,look fr t=some v→zaX ro bl v (a.tmps.getD t undef):=fun t v h=>hS.yes t [] v (by simp[zbr,h]) (fun p hp=>by cases hp);cases r with
 |tmp t=>
  simp only[zf5]at h;split at h
  ·rename_i u hu;split at h
   ·rename_i hnt;cases h;exact⟨_,rfl,(zjL _ _ hu).a (SV.nt_ne hnt)⟩
   ·cases h
  ·cases h
 |cell p T=>
  simp only[zf5]at h;split at h
  ·rename_i id path hx;obtain⟨blk,t,o,t',hb,ho,hxv⟩:=(zjL _ _ hx).pt;split at h
   ·rename_i u hu;rw[zdi]at hu;split at h
    ·rename_i v' hn;split at h
     ·rename_i i hi;split at h
      ·rename_i hs;cases h;simp only[zc4,zFR,zGG]at hs;obtain⟨y,hy,hr⟩:=zsl (P:=P) hM hb hu ho hn (T:=T) (by rw[zGk hs.1.1,hs.1.2];exact(hP _ _ hi).1);refine⟨y,?_,hr⟩;unfold zzg;simp only[hxv];simp[asAddr,hy]
      ·cases h
     ·cases h
    ·cases h
   ·cases h
  ·cases h
def zjR(tmps:Array Value):List ResultVar→Sem (List Value)
 |[]=>pure []
 |r::l=>do
  let x←zzg tmps r
  let xs←zjR tmps l
  pure (x::xs)
theorem zkj(hP:tb.ok P){ro:Ro}{bl:Bl}{fr:List Ent}{m:MS}{N:Nat}{a:Act}{w:World}(hS:SimL ro bl [] fr N a)(hM:Mem E ro bl m w):∀{l:List ResultVar} {v:SV},zji tb fr m l=some v→
 ∃xs:List Value,(zjR a.tmps l).run P w=.ok xs w∧zkz ro bl v xs∧xs.length=l.length
 |[],v,h=>by simp only[zji,zGh]at h;subst h;exact⟨[],rfl,rfl,rfl⟩
 |r::l,v,h=>by
  simp only[zji]at h;split at h
  ·rename_i u c hu hc;cases h;obtain⟨x,hx,hrx⟩:=zkk hP hS hM hu;obtain⟨xs,hxs,hrs,hl⟩:=zkj hP hS hM hc;exact⟨x::xs,by unfold zjR;simp[Sem.run_bind,hx,hxs],⟨x,xs,rfl,hrx,hrs⟩,by simp[hl]⟩
  ·cases h
def zmL:List Value→Value
 |[x]=>x
 |xs=>.tuple xs.toArray
theorem zhb{α β γ:Type}(A:Result α)(f:α→World→Result β)(g:β→World→Result γ):(A.andThen f).andThen g=A.andThen fun a w=>(f a w).andThen g:=by cases A<;>rfl
theorem zpV{α:Type}(A:Result α):(A.andThen fun a w=>.ok a w)=A:=by cases A<;>rfl
theorem zkp{fn:Func}{tmps:Array Value}{w:World}(hl:fn.results.toList.length≤3){xs:List Value}(h:(zjR tmps fn.results.toList).run P w=.ok xs w):(results fn tmps).run P w=.ok (zmL xs) w:=by
 have e:∀l,fn.results.toList=l→fn.results=l.toArray:=fun l hl=>zH3 (by simpa using hl);have fin:∀{R:Result (List Value)},R=.ok xs w→R.andThen (fun xs w=>.ok (zmL xs) w)=.ok (zmL xs) w:=fun h=>by rw[h];rfl
 rw[←fin h]
 match hq:fn.results.toList,hl with
 |[],_=>unfold results;rw[e _ hq];simp[zmL,zjR]
 |[r],_=>unfold results;rw[e _ hq];cases r<;>simp[zmL,zjR,zzg,Sem.run_bind,zhb,zpV]
 |[r,s],_=>unfold results;rw[e _ hq];cases r<;>cases s<;>simp[zmL,zjR,zzg,Sem.run_bind,zhb]
 |[r,s,t],_=>unfold results;rw[e _ hq];cases r<;>cases s<;>cases t<;>simp[zmL,zjR,zzg,Sem.run_bind,zhb]
 |_::_::_::_::_,h4=>simp at h4
theorem zsS(hP:tb.ok P){ro:Ro}{bl:Bl}{fr:List Ent}{m:MS}{N:Nat}{a:Act}{w:World}(hS:SimL ro bl [] fr N a)(hM:Mem E ro bl m w){fn:Func}(hl:fn.results.toList.length≤3){v:SV}(h:zqn tb fr m fn.results.toList=some v):
 ∃x,(results fn a.tmps).run P w=.ok x w∧zaX ro bl v x:=by
 unfold zqn at h;split at h
 ·rename_i r hq;obtain⟨x,hx,hr⟩:=zkk hP hS hM h;have:=zkp (P:=P) (fn:=fn) (tmps:=a.tmps) (w:=w) hl (xs:=[x]) (by rw[hq];unfold zjR zjR;simp[Sem.run_bind,hx]);exact⟨x,this,hr.v⟩
 ·rename_i hne;obtain⟨c,hc,rfl⟩:=zGj.1 h;obtain⟨xs,hxs,hrs,hlen⟩:=zkj hP hS hM hc;have:=zkp (P:=P) hl hxs;refine⟨_,this,xs,hrs,?_⟩;unfold zmL;split
  ·rename_i x;have:fn.results.toList.length=1:=by rw[←hlen];rfl
   match hq:fn.results.toList,this with
   |[r],_=>exact absurd hq (hne r)
  ·rfl
theorem zoA{ro:Ro}{bl:Bl}:∀{args:List SV} {xs:List Value} {n t:Nat} {v:SV},za5 ro bl args xs→look (zen n args) t=some v→n≤t∧∃x,xs[t - n]?=some x∧zaX ro bl v x
 |[],_,_,_,_,_,h=>by simp[zen,look]at h
 |u::r,x::xs,n,t,v,⟨h1,h2⟩,h=>by
  simp only[zen,look]at h;split at h
  ·rename_i ht;have:=zGk ht;subst this;cases h;exact⟨zF5 _,x,by simp,h1⟩
  ·obtain⟨hle,y,hy,hr⟩:=zoA h2 h;refine⟨by omega,y,?_,hr⟩;rw[show t - n=(t -(n+1))+1 by omega];simpa using hy
 |_::_,[],_,_,_,h,_=>h.elim
structure Shut (L:List Nat) (w wf:World):Prop where
 os:wf.os=w.os
 tape:wf.tape=w.tape
 output:wf.output=w.output
 size:wf.heap.size=w.heap.size
 same:∀b,b∉L→wf.heap[b]?=w.heap[b]?
theorem zfp{F:Fence}{n:Nat}{fn:Func}{tmps:Array Value}{R:Ending→World→Prop}{u:FrameMode}(hu:u≠.run):∀{L:List Nat} {w:World},L.Nodup→(∀D∈L,w.heap[D]?=some (.deferred (some [])))→(∀wf,Shut L w wf→LeavesIn F n P fn tmps R [] u wf)→LeavesInM F n P fn tmps R (L.map zjM) u w
 |[],w,_,_,h=>h w ⟨rfl,rfl,rfl,rfl,fun _ _=>rfl⟩
 |D::L,w,hn,hm,h=>by
  have hn:=zIp.1 hn;have hD:=hm D (zF3 ..);refine⟨hu,.inl ⟨D,w.putObj D (.deferred none),rfl,run_takeDeferred hD,zfp hu hn.2 (fun D' hD'=>?_) fun wf hs=>h wf ⟨hs.os,hs.tape,hs.output,by rw[hs.size];simp,fun b hb=>?_⟩⟩⟩
  ·rw[World.putObj_heap_other (fun e=>hn.1 (by subst e;exact hD'))];exact hm D' (zF4 _ hD')
  ·rw[hs.same b (fun h=>hb (zF4 _ h)),World.putObj_heap_other (fun e=>hb (by subst e;exact zF3 ..))]
theorem Mem.shut{ro:Ro}{bl:Bl}{m:MS}{w wf:World}(h:Mem E ro bl m w){L k:List Nat}(hk:bl.k=L++k)(hs:Shut L w wf)(hd:∀D∈k,D∉L):Mem E ro (bl.unk k) m wf:=by
 have hm:∀D∈L,w.heap[D]?=some (.deferred (some [])):=fun D hD=>h.marks D (by rw[hk];exact zF2.2 (.inl hD));have hb:∀b,bl.hb b→wf.heap[b]?=w.heap[b]?:=fun b hb=>hs.same b fun hL=>h.mark_ne (hm b hL) hb;have hkn:∀b row,ro b=some row→wf.heap[b]?=w.heap[b]?:=fun b row hr=>hs.same b fun hL=>by obtain⟨_,_,_,h1,_⟩:=h.known b row hr;rw[hm b hL]at h1;cases h1
 have hle:Le ro bl ro (bl.unk k):=⟨Ro.le_refl _,fun _ _ h=>h,(Le.refl ro bl).t,(Le.refl ro bl).o,rfl⟩;have hC:MemC ro (bl.unk k) m wf:=⟨h.len,h.ver,fun id blk t v hx hc=>by
  obtain⟨cl,e',h1,h2,h3⟩:=h.box id blk t v hx hc;exact⟨cl,e',(hb blk (Bl.hb_b hx)).trans h1,h2.mono hle,h3⟩,h.inj,fun id e blk he hx=>by
  obtain⟨row,cl,ty,h1,h2,h3⟩:=h.tail id e blk he hx;exact⟨row,cl,ty,h1,(hkn _ _ h1).trans h2,h3⟩,h.tinj,fun b row hr=>by
  obtain⟨cl,e',fz,h1,h2⟩:=h.known b row hr;exact⟨cl,e',fz,(hkn _ _ hr).trans h1,h2⟩,h.olen,fun id y x hy hx=>(h.obj id y x hy hx).to hle fun b hx=>⟨hb b (Bl.hb_o hy hx),rfl⟩,h.oinj,h.bo⟩
 refine⟨hC,E.on h.gh ⟨hs.os,hs.tape,hs.output,zGO hs.size.symm,fun b _ hn=>⟨hs.same b fun hL=>hn (.inr (by rw[hk];exact zF2.2 (.inl hL))),rfl⟩,Ro.le_refl _,fun b hx=>.inl (hx.elim .inl fun hx=>.inr (by rw[hk];exact zF2.2 (.inr hx)))⟩ hC.known,?_,h.gno,fun D hD=>?_⟩
 ·obtain⟨⟨cl,ty,fz,h1,h2⟩,⟨es,cl2,h3,h4⟩⟩:=h.glob;exact h.glob.to (hs.same 0 fun hL=>by rw[hm 0 hL]at h1;cases h1) (hs.same bl.g fun hL=>by rw[hm bl.g hL]at h3;cases h3)
 ·rw[hs.same D (hd D hD)];exact h.marks D (by rw[hk];exact zF2.2 (.inr hD))
theorem ziD{ro:Ro}{bl:Bl}{m:MS}{w:World}(hM:Mem E ro bl m w){args:List SV}{xs:List Value}(hA:za5 ro bl args xs){N:Nat}(ha:args.length≤N):Sim E ro bl (zen 0 args) m N {tmps:=xs.toArray++Array.replicate (N - xs.toArray.size) undef,defers:=[]} w:=by
 have hlen:=hA.len;have hsz:(xs.toArray++Array.replicate (N - xs.toArray.size) undef).size=N:=by simp;omega
 refine⟨⟨hsz,fun t cc v hlk _=>?_,fun t cc v hlk hc=>?_⟩,hM⟩
 ·simp only[zbr,zGj]at hlk;obtain⟨u,hu,hlk⟩:=hlk;cases hlk;obtain⟨_,x,hx,hr⟩:=zoA hA hu;have hlt:t<xs.length:=by have:=(zGf.1 hx).1;omega
  have hget:(xs.toArray++Array.replicate (N - xs.toArray.size) undef).getD t undef=x:=by simp only[zGe];rw[Array.getElem?_append_left (by simpa using hlt)];simp at hx ⊢;rw[hx];rfl
  show zaX ro bl _ ((xs.toArray++Array.replicate (N - xs.toArray.size) undef).getD t undef);rw[hget];exact hr
 ·simp only[zbr,zGj]at hlk;obtain⟨u,hu,hlk⟩:=hlk;cases hlk;exact absurd (fun _ hp=>by cases hp) hc
theorem zsE{N:Nat}{ir:Bool}{c:Code}{fr:List Ent}{m:MS}{K K':X→List Ent→MS→Prop}(h:Ok P N ir c fr m K)(hK:∀x fr m,K x fr m→K' x fr m):Ok P N ir c fr m K':=fun E r nn ro bl a w hr hS=>
 wpIn_mono (h E r nn ro bl a w hr hS) fun _ _ _ ⟨x,fr',m',ro',bl',L,h1,h2⟩=>⟨x,fr',m',ro',bl',L,hK _ _ _ h1,h2⟩
theorem zoP(hP:tb.ok P){f:FuncId}{fn:Func}{c:Code}(hf:P.funcs[f]?=some fn)(hb:fn.body=some c)(hE:zgs P f)(hl:fn.results.toList.length≤3){args:List SV}(ha:args.length≤fn.ntmps){m:MS}{K:Out→MS→Prop}
 (h:Ok P fn.ntmps false c (zen 0 args) m (zy9 tb fn.results.toList K)):Con P f args m K:=by
 refine⟨hE,fun E ro bl w xs hM hA=>callsIn_wide (n:=0) |>.1 (callsIn_of_wp_marks hf hb trivial ?_)⟩;refine wpIn_mono (h E none 0 ro bl _ w (fun _=>rfl) (ziD hM hA ha)) ?_;rintro e a' w' ⟨x,fr',m',ro',bl',L,h1,h2,h3,h4,h5,h6,⟨h7,h8,_⟩,h9,_⟩;have hd:a'.defers=L.map zjM:=by rw[h9];simp
 have hmk:∀D∈L,w'.heap[D]?=some (.deferred (some [])):=fun D hD=>h3.marks D (by rw[h7];exact zF2.2 (.inl hD));have hdis:∀D∈bl.k,D∉L:=fun D hD hL=>by have:=h8.ge D hL;have:=(zIq.1 (hM.marks D hD)).1;omega
 have hGf:∀wf,Shut L w' wf→Gr ro bl w ro' (bl'.unk bl.k) wf:=fun wf hs=>⟨hs.os.trans h6.os,hs.tape.trans h6.tape,hs.output.trans h6.output,by rw[hs.size];exact h6.size,fun b hb hn=>by
  obtain⟨g1,g2⟩:=h6.old b hb hn;exact⟨(hs.same b fun hL=>by have:=h8.ge b hL;omega).trans g1,g2⟩,h6.le,h6.new,rfl⟩
 have fin:∀(hx:x=.nor∨x=.ret),LeavesInM Fence.wide 0 P fn a'.tmps (fun e w'=>∃ro' bl' m' out,Mem E ro' bl' m' w'∧Gr ro bl w ro' bl' w'∧zow ro' bl' out e∧K out m') a'.defers .returning w':=fun hx=>by
  rw[hd];refine zfp (by simp) h8.nd hmk fun wf hs=>?_;have h1':match zqn tb fr' m' fn.results.toList with
   |some v=>K (.ret v) m'
   |none=>False:=by rcases hx with rfl|rfl<;>exact h1
  split at h1'
  ·rename_i v hv;have hMf:=h3.shut h7 hs hdis;have hle:Le ro' bl' ro' (bl'.unk bl.k):=⟨Ro.le_refl _,fun _ _ h=>h,(Le.refl ro' bl').t,(Le.refl ro' bl').o,rfl⟩;obtain⟨y,hy,hr⟩:=zsS hP ((h4 (fun d=>by rcases hx with rfl|rfl<;>simp)).le hle) hMf hl hv;exact⟨y,hy,ro',bl'.unk bl.k,m',.ret v,hMf,hGf wf hs,⟨y,rfl,hr⟩,h1'⟩
  ·exact h1'.elim
 cases e with
 |normal=>cases zgQ h2;exact fin (.inl rfl)
 |ret=>cases x<;>first|exact h2.elim|exact fin (.inr rfl)
 |exit i=>cases zex h2;exact h1.elim
 |goto l=>cases x<;>exact h2.elim
 |panic ch=>
  cases x with
  |pan d=>
   obtain⟨y,rfl,hy⟩:=h2;show LeavesInM Fence.wide 0 P fn a'.tmps _ a'.defers (.panicking _) w';rw[hd];refine zfp (by simp) h8.nd hmk fun wf hs=>?_;exact⟨ro',bl'.unk bl.k,m',.pan d,h3.shut h7 hs hdis,hGf wf hs,⟨y,rfl,hy.mono ⟨Ro.le_refl _,fun _ _ h=>h,(Le.refl ro' bl').t,(Le.refl ro' bl').o,rfl⟩⟩,h1⟩
  |_=>exact h2.elim
 |outgrown=>cases x<;>exact h2.elim
theorem zxr(hP:tb.ok P){f:FuncId}{fn:Func}{c:Code}(hf:P.funcs[f]?=some fn)(hb:fn.body=some c)(hE:zgs P f)(hl:fn.results.toList.length≤3){args:List SV}(ha:args.length≤fn.ntmps){m:MS}{K:Out→MS→Prop}
 (h:sxC P tb fn.ntmps false c (zen 0 args) m (zy9 tb fn.results.toList K)):Con P f args m K:=zoP hP hf hb hE hl ha (zab hP h)
theorem zh9{f:FuncId}{args:List SV}{m:MS}{K:Out→MS→Prop}(h:Con P f args m fun o m'=>match o with
  | .pan d=>(zaG m.c.length m.t.length m.o.length (m'.c.take m.c.length)&&zbH m.c.length m.t.length m.o.length (m'.o.take m.o.length))=true∧K (.pan d) (m'.take m.c.length m.t.length m.o.length)
  | .ret v=>∃u,(∀ro bl x,zaX ro bl v x→zaX ro bl u x)∧(u.ids m.c.length m.t.length m.o.length&&(zaG m.c.length m.t.length m.o.length (m'.c.take m.c.length)&&zbH m.c.length m.t.length m.o.length (m'.o.take m.o.length)))=true∧K (.ret u) (m'.take m.c.length m.t.length m.o.length)):Con P f args m K:=by
 refine⟨h.1,fun E ro bl w xs hM hA=>(h.2 E ro bl w xs hM hA).mono ?_⟩;rintro e w' ⟨ro',bl',m',out,h1,h2,h3,h4⟩;obtain⟨l1,l2,l3⟩:=hM.lens;cases out with
 |pan d=>
  obtain⟨hi,hK⟩:=h4;simp only[zFR]at hi;obtain⟨x,rfl,hx⟩:=h3;exact⟨ro',bl'.take m.c.length m.t.length m.o.length,_,.pan d,h1.drop hi.1 hi.2,h2.drop (by omega) (by omega) (by omega),⟨x,rfl,hx.drop rfl⟩,hK⟩
 |ret v=>
  obtain⟨u,hu,hi,hK⟩:=h4;simp only[zFR]at hi;obtain⟨x,rfl,hx⟩:=h3;exact⟨ro',bl'.take m.c.length m.t.length m.o.length,_,.ret u,h1.drop hi.2.1 hi.2.2,h2.drop (by omega) (by omega) (by omega),⟨x,rfl,(hu _ _ _ hx).drop hi.1⟩,hK⟩
theorem zkn{fr:List Ent}{m:MS}:∀{l:List ResultVar} {v:SV},zmS tb fr m l=some v→∃u,zji tb fr m l=some u∧∀ro bl xs,zkz ro bl u xs→zkz ro bl v xs
 |[],v,h=>by simp only[zmS,zGh]at h;subst h;exact⟨_,rfl,fun _ _ _ h=>h⟩
 |r::l,v,h=>by
  simp only[zmS]at h;split at h
  ·rename_i a b ha hb;cases h;obtain⟨a',ha',rfl⟩:=zko ha;obtain⟨b',hb',hr⟩:=zkn hb;refine⟨.pr a' b',by simp only[zji,ha',hb'],fun ro bl xs hx=>?_⟩;obtain⟨x,s,e,h1,h2⟩:=hx;exact⟨x,s,e,h1.res,hr _ _ _ h2⟩
  ·cases h
theorem zsR{fr:List Ent}{m:MS}{r:ResultVar}{u:SV}(h:zf5 tb fr m r=some u):u.nt=true:=by
 cases r<;>simp only[zf5]at h<;>repeat' split at h
 all_goals first|(cases h;done)|skip
 ·rename_i hn;cases h;exact hn
 ·rename_i hn;cases h;simp only[zFR]at hn;exact hn.2
theorem zlA{fr:List Ent}{m:MS}{l:List ResultVar}{v:SV}(h:zBL tb fr m l=some v):∃u,zqn tb fr m l=some u∧∀ro bl x,zaX ro bl u x→zaX ro bl v x:=by
 unfold zBL at h;unfold zqn;split at h
 ·obtain⟨u,hu,rfl⟩:=zko h;exact⟨u,hu,fun ro bl x hx=>(hx.a (SV.nt_ne (zsR hu))).res.v⟩
 ·rename_i hne;obtain⟨c,hc,rfl⟩:=zGj.1 h;obtain⟨u,hu,hr⟩:=zkn hc;refine⟨.tu u,?_,fun ro bl x ⟨xs,h1,h2⟩=>⟨xs,hr _ _ _ h1,h2⟩⟩;rw[hu];rfl
theorem zvW(hP:tb.ok P){f:FuncId}{fn:Func}{c:Code}(hf:P.funcs[f]?=some fn)(hb:fn.body=some c)(hE:zgs P f)(hl:fn.results.toList.length≤3){args:List SV}(ha:args.length≤fn.ntmps){m:MS}{K:Out→MS→Prop}
 (h:sxC P tb fn.ntmps false c (zen 0 args) m (zeJ tb m.c.length m.t.length m.o.length fn.results.toList K)):Con P f args m K:=by
 refine zh9 (zoP hP hf hb hE hl ha (zsE (zab hP h) fun x fr' m' h=>?_));cases x with
 |exit i=>exact h.elim
 |pan d=>exact h
 |nor=>
  simp only[zeJ]at h;split at h
  ·rename_i v hv;obtain⟨u,hu,hr⟩:=zlA hv;simp only[zy9,hu];exact⟨v,hr,h⟩
  ·exact h.elim
 |ret=>
  simp only[zeJ]at h;split at h
  ·rename_i v hv;obtain⟨u,hu,hr⟩:=zlA hv;simp only[zy9,hu];exact⟨v,hr,h⟩
  ·exact h.elim
end Sx
end Go.Proofs.YtfbhkfhbnkncoaaGreatDoor
