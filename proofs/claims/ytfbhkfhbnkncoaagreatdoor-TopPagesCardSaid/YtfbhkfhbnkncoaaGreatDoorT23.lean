import Derived.Test.YtfbhkfhbnkncoaaGreatDoorT22
set_option linter.all false
namespace Go.Proofs.YtfbhkfhbnkncoaaGreatDoor
open Go.RowKit
namespace Sx
structure TbOk (t:Tb):Prop where
 bk:zlK t.b
 ret:zg7 t.b
 up:∀i,i<32→U32 (t.r i).up
theorem zb2{b:zc7}{h:Int}(hg:zah b h=true):h≠0:=by
 intro e;subst e;have:slB 0=true:=by rw[ztd ⟨by decide,by decide⟩];decide
 unfold zah at hg;rw[this]at hg;simp at hg
theorem zgi{t:Tb}(ht:TbOk t){x y:Int}:y∈zcz t x↔(U32 y∧zah t.b y=true)∧upT t y=x:=by
 unfold zcz;rw[zGH,zcX ht.bk ht.ret];constructor
 ·rintro⟨h1,h2⟩;refine⟨h1,?_⟩;unfold zdd zaj at h2;rw[h1.2]at h2;simpa using h2
 ·rintro⟨h1,h2⟩;refine⟨h1,?_⟩;unfold zdd zaj;rw[h1.2];simpa using h2
inductive Anc (t:Tb):Int→Int→Prop
 |refl (x:Int):Anc t x x
 |up {a z:Int}:upT t z≠0→Anc t a (upT t z)→Anc t a z
theorem Anc.rk{t:Tb}{rk:Int→Nat}(hr:Rk t rk){a z:Int}(h:Anc t a z):rk a≤rk z:=by
 induction h with
 |refl=>exact zF5 _
 |up hz _ ih=>exact zFU ih (zGn (hr.lt _ hz))
theorem Anc.trans{t:Tb}{a b z:Int}(h:Anc t a b)(k:Anc t b z):Anc t a z:=by
 induction k with
 |refl=>exact h
 |up hz _ ih=>exact .up hz ih
theorem Anc.or{t:Tb}{a b z:Int}(h:Anc t a z):Anc t b z→Anc t a b∨Anc t b a:=by
 induction h with
 |refl=>exact fun k=>.inr k
 |up hz h ih=>
  intro k;cases k with
  |refl=>exact .inl (.up hz h)
  |up _ k=>exact ih k
def pre(t:Tb):Nat→Int→List Int
 |0,_=>[]
 |k+1,x=>x::(zcz t x).flatMap (pre t k)
def zaV(t:Tb)(h:Int):List Int:=pre t 40 h
theorem zmy{t:Tb}(ht:TbOk t){rk:Int→Nat}(hr:Rk t rk){x y:Int}(hx:x≠0)(hy:y∈zcz t x):rk x<rk y:=by
 obtain⟨_,h⟩:=(zgi ht).1 hy;have:=hr.lt y (by rw[h];exact hx)
 rwa [h]at this
theorem zgO{t:Tb}(ht:TbOk t){x y:Int}(hy:y∈zcz t x):y≠0:=zb2 ((zgi ht).1 hy).1.2
theorem ziR{α β:Type}{f g:α→List β}:∀{l:List α},(∀y∈l,f y=g y)→l.flatMap f=l.flatMap g
 |[],_=>rfl
 |y::l,h=>by rw[zIG,zIG,h y (by simp),ziR (l:=l) fun z hz=>h z (by simp[hz])]
theorem zkh{t:Tb}(ht:TbOk t){rk:Int→Nat}(hr:Rk t rk):∀{k:Nat} {x:Int},x≠0→40≤k+rk x→pre t (k+1) x=pre t k x
 |0,x,_,h=>by have:=hr.le x;omega
 |k+1,x,hx,h=>by show x::(zcz t x).flatMap (pre t (k+1))=x::(zcz t x).flatMap (pre t k);rw[ziR fun y hy=>zkh ht hr (k:=k) (x:=y) (zgO ht hy) (by have:=zmy ht hr hx hy;omega)]
theorem zio{t:Tb}(ht:TbOk t){rk:Int→Nat}(hr:Rk t rk){x:Int}(hx:x≠0):zaV t x=x::(zcz t x).flatMap (zaV t):=by unfold zaV;show x::(zcz t x).flatMap (pre t 39)=x::(zcz t x).flatMap (pre t 40);rw[ziR fun y hy=>(zkh ht hr (k:=39) (x:=y) (zgO ht hy) (by have:=zmy ht hr hx hy;omega)).symm]
theorem zjd{t:Tb}(ht:TbOk t):∀{k:Nat} {x z:Int},x≠0→z∈pre t k x→Anc t x z
 |0,_,_,_,h=>by cases h
 |k+1,x,z,hx,h=>by
  rcases zGm.1 h with rfl|h
  ·exact .refl _
  ·obtain⟨y,hy,hz⟩:=zF0.1 h;have h1:=((zgi ht).1 hy).2;have h2:Anc t x y:=.up (by rw[h1];exact hx) (by rw[h1];exact .refl _);exact h2.trans (zjd ht (zgO ht hy) hz)
theorem zlu{t:Tb}(ht:TbOk t):∀{k:Nat} {x z:Int},z∈pre t k x→z=x∨(U32 z∧zah t.b z=true)
 |0,_,_,h=>by cases h
 |k+1,x,z,h=>by
  rcases zGm.1 h with rfl|h
  ·exact .inl rfl
  ·obtain⟨y,hy,hz⟩:=zF0.1 h;rcases zlu ht hz with rfl|h
   ·exact .inr ((zgi ht).1 hy).1
   ·exact .inr h
theorem zgS{t:Tb}(ht:TbOk t){rk:Int→Nat}(hr:Rk t rk):∀{k:Nat} {x:Int},x≠0→(pre t k x).Nodup
 |0,_,_=>List.Pairwise.nil
 |k+1,x,hx=>by
  refine zIp.2 ⟨fun h=>?_,List.pairwise_flatMap.2 ⟨fun y hy=>zgS ht hr (zgO ht hy),?_⟩⟩
  ·obtain⟨y,hy,hz⟩:=zF0.1 h;have:=(zjd ht (zgO ht hy) hz).rk hr;have:=zmy ht hr hx hy;omega
  ·refine List.Pairwise.imp_of_mem (R:=fun a b=>a≠b) (fun{a b} ha hb hab z hz z' hz' e=>?_) ((ziB ht.bk).filter _);subst e;have key:∀{a b:Int},a∈zcz t x→b∈zcz t x→a≠b→Anc t a b→False:=fun{a b} ha hb hab h=>by
    cases h with
    |refl=>exact hab rfl
    |up _ h=>
     rw[((zgi ht).1 hb).2]at h;have:=h.rk hr;have:=zmy ht hr hx ha;omega
   rcases(zjd ht (zgO ht ha) hz).or (zjd ht (zgO ht hb) hz')with h|h
   ·exact key ha hb hab h
   ·exact key hb ha (zIj hab) h
theorem zi7{l m:List Int}(h:l.Nodup)(hs:∀x∈l,x∈m):l.length≤m.length:=by
 induction l generalizing m with
 |nil=>exact zFV _
 |cons x l ih=>
  obtain⟨h1,h2⟩:=zIp.1 h;have hx:=hs x (by simp);have:=ih (m:=m.erase x) h2 fun y hy=>(List.mem_erase_of_ne (fun e=>h1 (by rw[←e];exact hy))).2 (hs y (by simp[hy]));rw[List.length_erase_of_mem hx]at this;have:0<m.length:=List.length_pos_of_mem hx;simp only[zFI];omega
theorem zd3{t:Tb}(ht:TbOk t){rk:Int→Nat}(hr:Rk t rk){x:Int}(hx:x≠0):(zaV t x).length≤33:=by
 have h1:(zaV t x).length≤(x::zb6 t.b).length:=zi7 (zgS ht hr hx) fun z hz=>by
  rcases zlu ht hz with rfl|h
  ·simp
  ·exact zF4 _ ((zcX ht.bk ht.ret).2 h)
 have:=zem t.b;simp only[zFI]at h1;omega
def stk(t:Tb)(l:List Int):List Int:=l.reverse.flatMap (zaV t)
theorem zpG{t:Tb}(ht:TbOk t){rk:Int→Nat}(hr:Rk t rk){l:List Int}{x:Int}(hx:x≠0):stk t (l++[x])=x::stk t (l++(zcz t x).reverse):=by unfold stk;rw[List.reverse_append,List.reverse_append,List.reverse_reverse,List.reverse_singleton,List.singleton_append,zIG,zio ht hr hx,zFX];rfl
theorem zfP{P:Program}{N:Nat}{f:Operand}{ps:Array Nat}{asg body:Code}{fr:List Ent}{m:MS}{K:X→List Ent→MS→Prop}(id:Nat)(path:List Nat)(ty:Ty)(F:Nat→D){ty0:Ty}{f0:Nat→D}{v v':SV}(hc:zg6 m.c id=some v)(hl:v.nav path=some (.ow 0 0 0 ty0 f0))(hv:v.set path (.ow (m.t.length+1) 0 0 ty F)=some v')(hoff:∃o t',v.shape.off path=some (o,t'))
 (h:zai P N f ps asg body fr ⟨zmV m.c id v',m.t++[0],m.o⟩ K):zai P N f ps asg body fr m K:=zi8 id path ty F hc hl hv hoff h
theorem zmA{P:Program}{N:Nat}{ir:Bool}{c:Code}{fr:List Ent}{m:MS}{K:X→List Ent→MS→Prop}(id:Nat){v n:Nat}{t:Ty}{f:Nat→D}(f':Nat→D)(ho:zqB m.o id=some (.row v n t f))(hf:∀i,i<n→f i=f' i)
 (h:zau P N ir c fr ⟨m.c,m.t,zmW m.o id (.row v n t f')⟩ K):zau P N ir c fr m K:=by
 intro E r nn ro bl a w hr hS;have hr0:zd6 m id=some (v,n,t,f):=by unfold zd6;rw[ho]
 obtain⟨b,c',hR⟩:=hS.m.row_is hr0;obtain⟨hM',_⟩:=hS.m.oturn (y':=.row v b n c' t.size) (x':=.row v n t f') (w':=w) hR.bo (BO.le_refl _) (fun b hb=>.inl hb) rfl rfl rfl (zF5 _) (fun _ _ _=>rfl) (fun hl=>zcK hR.nc hR.nil fun k hk=>by
  obtain⟨h0,cells,ty,g1,g2,g3⟩:=hR.blk k hk;exact⟨h0,cells,ty,g1,g2,fun i hi=>by rw[←hf i hi];exact g3 i hi⟩)
 rw[zfr hR.bo]at hM';rw[zez]at h;exact h E r nn ro bl a w hr ⟨hS.l,hM'⟩
theorem zeO{P:Program}{id:Nat}{ps:List Nat}{asg body:Code}{N:Nat}{fr:List Ent}{args:List SV}{m:MS}{K:SV→MS→Prop}
 (h:zak P id ps asg body N fr args m fun v m'=>(v.ids m.c.length m.t.length m.o.length&&(zaG m.c.length m.t.length m.o.length (m'.c.take m.c.length)&&zbH m.c.length m.t.length m.o.length (m'.o.take m.o.length)))=true∧K v (m'.take m.c.length m.t.length m.o.length)):zak P id ps asg body N fr args m K:=by
 refine⟨h.1,fun E nn ro bl w xs l fn tmps df h1 h2 h3 h4 h5 h6=>RoundIn.mono (h.2 E nn ro bl w xs l fn tmps df h1 h2 h3 h4 h5 h6) ?_⟩;rintro e w' ⟨ro',bl',m',v,x,he,hx,hM,hG,hi,hK⟩;simp only[zFR]at hi;obtain⟨l1,l2,l3⟩:=h1.lens;exact⟨ro',bl'.take m.c.length m.t.length m.o.length,_,v,x,he,hx.drop hi.1,hM.drop hi.2.1 hi.2.2,hG.drop (by omega) (by omega) (by omega),hK⟩
theorem zdS{P:Program}{id:Nat}{ps:List Nat}{asg body:Code}{N:Nat}{fr:List Ent}{args:List SV}{m:MS}{K K':SV→MS→Prop}(h:zak P id ps asg body N fr args m K)(hK:∀v m',K v m'→K' v m'):zak P id ps asg body N fr args m K':=
 ⟨h.1,fun E nn ro bl w xs l fn tmps df h1 h2 h3 h4 h5 h6=>RoundIn.mono (h.2 E nn ro bl w xs l fn tmps df h1 h2 h3 h4 h5 h6) fun e w' ⟨ro',bl',m',v,x,he,hx,hM,hG,hk⟩=>⟨ro',bl',m',v,x,he,hx,hM,hG,hK _ _ hk⟩⟩
theorem zsO{tb:TT}{cs:List SV}{ρ:Operand→Option SV}{T:TypeId}{x:Operand}{id:Nat}{v:SV}{i:TI}(h1:ρ x=some (.pt id []))(h2:zg6 cs id=some v)(h3:tb.get T=some i)(h4:zc4 v.shape v.agg i=true):pv tb cs ρ (.load T x)=some v:=by
 have e:v.nav []=some v:=by cases v<;>first|rfl|(rename_i d;cases d<;>rfl)
 simp only[pv,h1,h2,e,h3,h4]
theorem zrM{t:Tb}:∀l:List Int,l.length≤(l.flatMap (zaV t)).length
 |[]=>zF5 _
 |x::l=>by have:=zrM (t:=t) l;rw[zIG,zFY,zFI];have:0<(zaV t x).length:=Nat.succ_pos _;omega
theorem zBe{t:Tb}(l:List Int):l.length≤(stk t l).length:=by
 have:=zrM (t:=t) l.reverse
 rwa [List.length_reverse]at this
abbrev lF(l:List Int):Nat→D:=fun i=>hD (l.getD i 0)
theorem zv6{l:List Int}{i:Nat}(hi:i<l.length):lF l i=za4 (hL l) i:=(zc3 hD 0 hi).symm
theorem zxS(l:List Int)(x:Int)(k:List Int):(zdc l.length (lF (l++[x])) fun i=>hD (if i<k.length then k.getD (k.length - 1 - i) 0 else k.getD i 0))=lF (l++k.reverse):=by
 funext i
 unfold zdc lF;cases hb:Nat.blt i l.length with
 |true=>
  have:=zFG hb;simp only[zHH]
  congr 1
  simp[zG9,zH2 (show i<l.length from this)]
 |false=>
  have hge:l.length≤i:=by
   rcases zGc i l.length with h|h
   ·rw[show Nat.blt i l.length=true from zHN h]at hb;cases hb
   ·exact h
  simp only[zHJ]
  congr 1
  simp only[zG9,zHY hge];split
  ·rename_i h;rw[List.getElem?_reverse h]
  ·rename_i h;rw[zIR (by simpa using zIr.1 h),zIR (by simpa using zIr.1 h)]
attribute [local irreducible] Con zax zan zau zai zaw zbt zak zaC zbh zba I64
theorem ziq{t:Tb}(ht:TbOk t){rk:Int→Nat}(hr:Rk t rk){h:Int}(hg:zah t.b h=true)(hu:U32 h){ps:List Nat}{asg body:Code}{N:Nat}{fr:List Ent}{σ:Type}(cs:σ→List SV)(ts:σ→List Nat)(out:σ→List Int)(inv:σ→Prop)(a b nc nt:Nat)(s0:σ)
 (ha:∀s,zg6 (cs s) a=some (H h))(hb:∀s,zg6 (cs s) b=some (.d (zaU t)))(hc:∀s,(cs s).length=nc∧(ts s).length=nt∧zaG nc nt 2 (cs s)=true)
 (hi0:inv s0)(ho0:out s0=[]){K:Out→MS→Prop}(hfr:zbH nc nt 2 [.loop ps asg body N fr .ready]=true)
 (hround:∀s x r,inv s→zaV t h=out s++x::r→zah t.b x=true→∀rv rn rf,zak Tryz.prog 0 ps asg body N fr [H x] ⟨cs s,ts s,[.loop ps asg body N fr .ready,.row rv rn .c rf]⟩ fun v m'=>v=B true∧∃s',(inv s'∧out s'=out s++[x])∧m'=⟨cs s',ts s',[.loop ps asg body N fr .ready,.row rv rn .c rf]⟩)
 (hK:∀s os,inv s→out s=zaV t h→K (.ret (.tu (.d .un))) ⟨cs s,ts s,.loop ps asg body N fr .ready::os⟩):
 Con Tryz.prog 225 [.ob (.yl 0),.pt a [],.pt b []] ⟨cs s0,ts s0,[.loop ps asg body N fr .ready]⟩ K:=by
 refine zaM Tryz.func225 rfl (by kernel_rfl) rfl rfl ?_;conv=>whnf
 have e0:pv tbl (cs s0) (evL [] (zen 0 [SV.ob (Hd.yl 0),SV.pt a [],SV.pt b []]) []) (.load 69 (.tmp 1))=some (H h):=zsO rfl (ha s0) rfl rfl;rw[e0];conv=>whnf
 refine Or.inr ?_;conv=>whnf
 refine zmA 1 (lF [h]) rfl (fun i hi=>by
  cases i with
  |zero=>rfl
  |succ i=>omega) ?_
 refine zed zaa (fun(q:σ×List Int×Nat)=>(inv q.1∧zaV t h=out q.1++stk t q.2.1)∧(∀x∈q.2.1,U32 x∧zah t.b x=true)∧q.2.1.length≤33) (fun q=>(stk t q.2.1).length) (fun q=>[(4,.ob (.mr 1 q.2.2))]) (fun q=>⟨cs q.1,ts q.1,[.loop ps asg body N fr .ready,.row q.2.2 q.2.1.length .c (lF q.2.1)]⟩) (s0,[h],0) ⟨⟨hi0,?_⟩,?_,by simp⟩ ⟨rfl,trivial⟩ ?_ ?_ ?_
 ·rw[ho0];show zaV t h=[]++([h].reverse.flatMap (zaV t));simp
 ·intro x hx;simp at hx;subst hx;exact⟨hu,hg⟩
 ·rfl
 ·rintro⟨s,l,v⟩;obtain⟨h1,h2,_⟩:=hc s;obtain⟨h3,h4,_⟩:=hc s0;exact⟨by show(cs s0).length≤(cs s).length;omega,by show(ts s0).length≤(ts s).length;omega,zF5 _⟩
 rintro⟨s,l,v⟩ ⟨⟨hi,ho⟩,hl,hn⟩;simp only at hi ho hl hn;conv=>whnf
 refine⟨⟨rfl,zac (x:=(l.length:Int)) (by omega) (by omega)⟩,?_⟩;conv=>whnf
 refine⟨fun hq=>?_,fun hq=>?_⟩
 ·have hne:l≠[]:=by rintro rfl;simp at hq
  obtain⟨l',x,rfl⟩:∃l' x,l=l'++[x]:=⟨l.dropLast,l.getLast hne,(List.dropLast_concat_getLast hne).symm⟩;have ex:(l'++[x]).getD (((l'++[x]).length:Int) - 1).toNat 0=x:=by rw[show(((l'++[x]).length:Int) - 1).toNat=l'.length by simp];simp[zG9]
  have hlen:(l'++[x]).length=l'.length+1:=by simp
  obtain⟨hux,hgx⟩:=hl x (by simp);rw[zpG ht hr (zb2 hgx)]at ho;conv=>whnf
  refine⟨⟨rfl,zac (x:=((l'++[x]).length:Int)) (by omega) (by omega)⟩,?_⟩;conv=>whnf
  refine⟨zac (x:=((l'++[x]).length:Int) - 1) (by omega) (by omega),?_⟩;conv=>whnf
  refine⟨⟨rfl,(by omega:(0:Int)≤((l'++[x]).length:Int) - 1),(by omega:((l'++[x]).length:Int) - 1<((l'++[x]).length:Int))⟩,?_⟩;conv=>whnf
  refine⟨⟨rfl,(by omega:(((l'++[x]).length:Int) - 1).toNat<(l'++[x]).length)⟩,?_⟩;conv=>whnf
  have es:SV.d (lF (l'++[x]) (((l'++[x]).length:Int) - 1).toNat)=H x:=congrArg (fun y=>SV.d (hD y)) ex;rw[es];refine zdS (hround s x _ hi ho hgx _ _ _) ?_;rintro _ _ ⟨rfl,s',⟨hi',ho'⟩,rfl⟩;conv=>whnf
  refine⟨fun hq=>absurd hq (by simp),fun _=>?_⟩;conv=>whnf
  have hρ:∀ρ:Operand→Option SV,ρ (.tmp 2)=some (.pt b [])→pv tbl (cs s') ρ (.load 96 (.tmp 2))=some (.d (zaU t)):=fun ρ h1=>zsO h1 (hb s') rfl rfl;rw[hρ];rotate_left
  ·rfl
  conv=>whnf
  refine zk3 rfl ((zzv t x hgx).fn (F':=lF (zcz t x)) fun i hi=>(zv6 hi).symm) _ _ fun vk=>?_;conv=>whnf
  have hkl:(zcz t x).length≤32:=zFU (zHT _ _) (zem t.b);refine zal (zq0 (cs s') (ts s') (.loop ps asg body N fr .ready) (.row v (l'++[x]).length .c (lF (l'++[x]))) vk (zcz t x).length (fun i=>(zcz t x).getD i 0) (by omega)) ?_;rintro _ _ ⟨rfl,rfl⟩;conv=>whnf
  refine⟨⟨rfl,zac (x:=((l'++[x]).length:Int)) (by omega) (by omega)⟩,?_⟩;conv=>whnf
  refine⟨zac (x:=((l'++[x]).length:Int) - 1) (by omega) (by omega),?_⟩;conv=>whnf
  refine⟨⟨rfl,(by omega:(0:Int)≤((l'++[x]).length:Int) - 1),(by omega:((l'++[x]).length:Int) - 1≤((l'++[x]).length:Int))⟩,?_⟩;conv=>whnf
  refine⟨⟨rfl,(by decide:(1:Nat)≠2)⟩,⟨rfl,(by omega:(((l'++[x]).length:Int) - 1).toNat+(zcz t x).length≤2147483648)⟩,?_⟩;conv=>whnf
  have hn2:(stk t (l'++(zcz t x).reverse)).length≤33:=by have h1:=congrArg List.length ho;have h2:=zd3 ht hr (zb2 hg);simp only[zFY,zFI]at h1;omega
  have e1:(((l'++[x]).length:Int) - 1).toNat=l'.length:=by omega
  obtain⟨c1,c2,c3⟩:=hc s';refine⟨(s',l'++(zcz t x).reverse,v+1+1),⟨⟨hi',?_⟩,?_,?_⟩,?_,⟨rfl,trivial⟩,.inr ⟨⟨?_,?_⟩,?_⟩⟩
  ·simp only;rw[ho',ho,zG5];rfl
  ·intro y hy;rcases zF2.1 hy with hy|hy
   ·exact hl y (by simp[hy])
   ·exact((zgi ht).1 (by simpa using hy)).1
  ·exact zFU (zBe _) hn2
  ·show(stk t (l'++(zcz t x).reverse)).length<(stk t (l'++[x])).length;rw[zpG ht hr (zb2 hgx)];simp
  ·show(⟨(cs s').take (cs s').length,(ts s').take (ts s').length,[_,.row (v+1+1) ((((l'++[x]).length:Int) - 1).toNat+(zcz t x).length) .c (zdc (((l'++[x]).length:Int) - 1).toNat (lF (l'++[x])) fun i=>hD (if i<(zcz t x).length then(zcz t x).getD ((zcz t x).length - 1 - i) 0 else(zcz t x).getD i 0))]⟩:MS)=⟨cs s',ts s',[_,.row (v+1+1) (l'++(zcz t x).reverse).length .c (lF (l'++(zcz t x).reverse))]⟩;rw[e1,zxS,zHe,zHe,zFY,List.length_reverse]
  ·show(zaG (cs s').length (ts s').length 2 (cs s')&&zbH (cs s').length (ts s').length 2 [.loop ps asg body N fr .ready,.row _ _ _ _])=true;rw[c1,c2,c3];exact hfr
  ·rfl
 ·have hne:l=[]:=by
   cases l with
   |nil=>rfl
   |cons x r=>simp at hq
  subst hne;conv=>whnf
  exact hK s _ hi (by rw[ho];simp[stk])
end Sx
namespace Sx
attribute [local irreducible] Con zax zan zau zai zaw zbt zak zaC zbh zba I64
def zbW(t:Tb)(h:Int):List Int:=bif zah t.b h then zaV t h else[]
theorem zha{t:Tb}(ht:TbOk t){rk:Int→Nat}(hr:Rk t rk){h:Int}(hu:U32 h):zay Tryz.prog 110 [.d (zaU t),H h] (HS (zbW t h)):=by
 refine zat Tryz.func110 rfl (by kernel_rfl) rfl rfl rfl ?_;conv=>whnf
 refine zad (zbz t.b h) ?_;conv=>whnf
 refine⟨fun hq=>?_,fun hq=>?_⟩
 ·have hg:zah t.b h=false:=by simpa using hq
  conv=>whnf
  refine⟨rfl,⟨_,rfl,?_⟩,rfl⟩;rw[zbW,hg];exact zcO _ _ _ _
 ·have hg:zah t.b h=true:=by simpa using hq
  conv=>whnf
  refine zaM Tryz.func184 rfl (by kernel_rfl) rfl rfl ?_;conv=>whnf
  refine zaM Tryz.func183 rfl (by kernel_rfl) rfl rfl ?_;conv=>whnf
  refine zaM Tryz.func224 rfl (by kernel_rfl) rfl rfl ?_;conv=>whnf
  refine zfP 3 [] .c (za4 []) rfl rfl rfl ⟨_,_,rfl⟩ (zcs rfl rfl ?_);refine ziq ht hr hg hu (σ:=List Int) (fun o=>[.d (zaU t),.d (zaU t),H h,owl 1 (hL o).length .c (hL o)]) (fun o=>[(hL o).length]) id (fun _=>True) 2 1 4 1 [] (fun _=>rfl) (fun _=>rfl) (fun _=>⟨rfl,rfl,rfl⟩) trivial rfl rfl ?_ ?_
  ·intro s x r _ ho hgx rv rn rf;have hn:s.length≤33:=by have h1:=congrArg List.length ho;have h2:=zd3 ht hr (zb2 hg);simp only[zFY,zFI,id]at h1;omega
   refine zct zaa rfl (by decide) ?_;conv=>whnf
   refine Or.inl ?_;conv=>whnf
   refine⟨⟨rfl,by simp;omega⟩,?_⟩;conv=>whnf
   refine⟨rfl,s++[x],⟨trivial,rfl⟩,?_⟩;show(⟨[.d (zaU t),.d (zaU t),H h,.ow 1 ((hL s).length+1) ((hL s).length+[hD x].length) .c (zdc (hL s).length (za4 (hL s)) (za4 [hD x]))],[(hL s).length+1],_⟩:MS)=⟨[.d (zaU t),.d (zaU t),H h,owl 1 (hL (s++[x])).length .c (hL (s++[x]))],[(hL (s++[x])).length],_⟩;rw[zcq,show hL s++[hD x]=hL (s++[x]) by simp,show(hL s).length+1=(hL (s++[x])).length by simp];rfl
  ·intro s os _ ho;have ho:s=zaV t h:=ho;subst ho;have e:zbW t h=zaV t h:=by rw[zbW,hg];rfl
   rw[e];generalize zaV t h=l;conv=>whnf
   exact⟨rfl,zae rfl⟩
def zhK(t:Tb)(h:Int)(n:Int):List Int→Int
 |[]=>n
 |x::l=>zhK t h (bif decide (zeQ t x - zeQ t h+1>n)then zeQ t x - zeQ t h+1 else n) l
def zjs(t:Tb)(h:Int):Int:=zhK t h 0 (zaV t h)
theorem zrA{t:Tb}:∀(k:Nat) (x:Int),zvX t k x≤k
 |0,_=>zF5 _
 |k+1,x=>by
  unfold zvX;cases(upT t x==0)with
  |true=>exact zFV _
  |false=>have:=zrA (t:=t) k (upT t x);simp only[zHJ];omega
theorem zmf(t:Tb)(x:Int):0≤zeQ t x∧zeQ t x≤41:=by
 unfold zeQ;have:=zrA (t:=t) 40 x;cases zah t.b x with
 |true=>simp only[zHH];omega
 |false=>simp only[zHJ];omega
theorem zpJ(t:Tb)(h:Int):∀(l:List Int) (n:Int) (x:Int),zhK t h n (l++[x])=(bif decide (zeQ t x - zeQ t h+1>zhK t h n l)then zeQ t x - zeQ t h+1 else zhK t h n l)
 |[],_,_=>rfl
 |y::l,n,x=>zpJ t h l _ x
theorem zoo(t:Tb)(h:Int):∀(l:List Int) (n:Int),0≤n∧n≤42→0≤zhK t h n l∧zhK t h n l≤42
 |[],_,hn=>hn
 |x::l,n,hn=>by
  refine zoo t h l _ ?_;have:=zmf t x;have:=zmf t h;cases hb:decide (zeQ t x - zeQ t h+1>n)with
  |true=>simp only[zFS]at hb;simp only[zHH];omega
  |false=>exact hn
theorem zBj{t:Tb}(ht:TbOk t){rk:Int→Nat}(hr:Rk t rk){h:Int}(hu:U32 h)(hg:zah t.b h=true):zay Tryz.prog 353 [.d (zaU t),H h] (I (zjs t h)):=by
 refine zat Tryz.func353 rfl (by kernel_rfl) rfl rfl rfl ?_;conv=>whnf
 refine zaM Tryz.func184 rfl (by kernel_rfl) rfl rfl ?_;conv=>whnf
 refine zcs rfl rfl ?_;refine ziq ht hr hg hu (σ:=List Int) (fun o=>[.d (zaU t),H h,I (zhK t h 0 o),.d (zaU t),H h]) (fun _=>[]) id (fun _=>True) 4 3 5 0 [] (fun _=>rfl) (fun _=>rfl) (fun _=>⟨rfl,rfl,rfl⟩) trivial rfl rfl ?_ ?_
 ·intro s x r _ _ _ rv rn rf;have h1:=zmf t x;have h2:=zmf t h;have h3:=zoo t h s 0 (by omega);refine zct zaa rfl (by decide) ?_;conv=>whnf
  refine zao zaa (by kernel_rfl) 10 (by kernel_rfl) ?_;conv=>whnf
  refine zam (zky t x hr) (fun _ h=>h) ?_;conv=>whnf
  refine zam (zky t h hr) (fun _ h=>h) ?_;conv=>whnf
  refine⟨zac (by omega) (by omega),?_⟩;conv=>whnf
  refine⟨zac (by omega) (by omega),?_⟩;conv=>whnf
  refine⟨⟨zac (by omega) (by omega),zac (by omega) (by omega)⟩,?_⟩;conv=>whnf
  refine⟨rfl,s++[x],⟨trivial,rfl⟩,?_⟩;show _=(⟨[.d (zaU t),H h,I (zhK t h 0 (s++[x])),.d (zaU t),H h],[],_⟩:MS);rw[zpJ];rfl
 ·intro s os _ ho;have ho:s=zaV t h:=ho;subst ho;conv=>whnf
  exact⟨rfl,zae rfl⟩
end Sx
namespace Sx
theorem zvK{a b b' c:SV}(h:∀ro bl x,zcD ro bl b x→zcD ro bl b' x):(T3 a b c).le (T3 a b' c):=fun ro bl x ⟨vs,h1,h2⟩=>by obtain⟨x1,r1,rfl,g1,x2,r2,rfl,g2,g3⟩:=h1;exact⟨_,⟨x1,_,rfl,g1,x2,_,rfl,h _ _ _ g2,g3⟩,h2⟩
attribute [local irreducible] Con zax zan zau zai zaw zbt zak zaC zbh zba I64
def zbv(t:Tb)(l:List Int):Tb:=l.foldl zdB t
def zAe(t:Tb)(h:Int):Int:=bif (zbW t h).length==0 then 4 else 0
abbrev LS(l:List Int):SV:=.d (.sl l.length .c (lF l))
theorem zzp{t:Tb}(ht:TbOk t){rk:Int→Nat}(hr:Rk t rk){h:Int}(hu:U32 h):zay Tryz.prog 350 [.d (zaU t),H h] (T3 (.d (zaU (zbv t (zbW t h)))) (LS (zbW t h)) (I (zAe t h))):=by
 have hn:(zbW t h).length≤33:=by
  unfold zbW;cases hg:zah t.b h with
  |true=>exact zd3 ht hr (zb2 hg)
  |false=>exact zFV _
 have hU:=(zha ht hr hu).out (zbZ .c hD 0 (zbW t h));unfold zAe;generalize zbW t h=l at hn hU ⊢;refine zat Tryz.func350 rfl (by kernel_rfl) rfl rfl rfl ?_;conv=>whnf
 refine zad (hU) ?_;conv=>whnf
 refine⟨zac (x:=(l.length:Int)) (by omega) (by omega),?_⟩;conv=>whnf
 refine⟨fun hq=>?_,fun hq=>?_⟩
 ·have hl:l=[]:=by have:((l.length:Int)==0)=true:=hq;simpa using this
  subst hl;conv=>whnf
  exact⟨rfl,⟨_,rfl,zvK fun ro bl x h=>zcO .c .c _ _ ro bl x h⟩,rfl⟩
 ·have hl:(l.length==0)=false:=by have:((l.length:Int)==0)=false:=hq;simpa using this
  conv=>whnf
  refine⟨zac (x:=(l.length:Int)) (by omega) (by omega),?_⟩;conv=>whnf
  refine zaB zaa (fun i=>i≤l.length) (fun i=>l.length - i) (fun i=>[(19,I i)]) (fun i=>⟨[.d (zaU (zbv t (l.take i))),.d (ZT.d z96)],[],[]⟩) 0 (zFV _) ⟨rfl,trivial⟩ rfl (fun i=>⟨zF5 _,zF5 _,zF5 _⟩) ?_;intro i hi;conv=>whnf
  refine⟨fun hq=>?_,fun hq=>?_⟩
  ·have hlt:i<l.length:=by
    have:(i:Int)<l.length:=by simpa using hq
    omega
   conv=>whnf
   refine⟨⟨(by omega:(0:Int)≤(i:Int)),(by omega:(i:Int)<(l.length:Int))⟩,?_⟩;conv=>whnf
   refine zad (zzn (zbv t (l.take i)) (l.getD i 0)) ?_;conv=>whnf
   refine⟨zac (x:=(i:Int)+1) (by omega) (by omega),?_⟩;conv=>whnf
   have e:zdB (zbv t (l.take i)) (l.getD i 0)=zbv t (l.take (i+1)):=by unfold zbv;rw[zHb,zHc,zHa hlt,zG9,zHa hlt];rfl
   refine⟨i+1,hlt,by omega,⟨rfl,trivial⟩,⟨?_,rfl⟩,rfl⟩;rw[←e];rfl
  ·have hlt:i=l.length:=by
    have:¬((i:Int)<l.length):=by simpa using hq
    omega
   subst hlt;conv=>whnf
   refine⟨rfl,zae ?_⟩;rw[zHe,hl];rfl
def zmF(t:Tb)(up n:Int):Bool:=((zne t up n==0)||(zne t up n==7))&&decide (zeQ t up≥6)
def zdj(t:Tb)(up n:Int):Tb:=bif zmF t up n then t else zx9 t up n
def zdw(t:Tb)(up n:Int):Int:=bif zmF t up n then 0 else zx8 t up n
def zjO(t:Tb)(up n:Int):Int:=bif zmF t up n then 8 else zne t up n
theorem zvz{t:Tb}{rk:Int→Nat}(hr:Rk t rk)(up n:Int):zay Tryz.prog 313 [.d (zaU t),H up,I n] (T3 (.d (zaU (zdj t up n))) (H (zdw t up n)) (I (zjO t up n))):=by
 refine zat Tryz.func313 rfl (by kernel_rfl) rfl rfl rfl ?_;conv=>whnf
 refine zad (zB6 t up n) ?_;conv=>whnf
 refine zam (zky t up hr) (fun _ h _=>h) ?_;conv=>whnf
 refine⟨fun hq=>?_,fun hq=>?_⟩
 ·have hb:zmF t up n=true:=hq;conv=>whnf
  refine⟨rfl,zae ?_⟩;rw[zdj,zdw,zjO,hb];rfl
 ·have hb:zmF t up n=false:=hq;conv=>whnf
  refine⟨rfl,zae ?_⟩;rw[zdj,zdw,zjO,hb];rfl
def grE(t:Tb)(h up:Int):Int:=bif !zah t.b h||!zah t.b up then 4 else bif (zbN t h != h)||zpv t h up then 12 else bif decide (zeQ t up+zjs t h>6)then 8 else zeh t h up
def grT(t:Tb)(h up:Int):Tb:=bif !zah t.b h||!zah t.b up then t else bif (zbN t h != h)||zpv t h up then t else bif decide (zeQ t up+zjs t h>6)then t else zd1 t h up
theorem zwN{t:Tb}(ht:TbOk t){rk:Int→Nat}(hr:Rk t rk){h:Int}(hu:U32 h)(up:Int):zay Tryz.prog 327 [.d (zaU t),H h,H up] (T2 (.d (zaU (grT t h up))) (I (grE t h up))):=by
 refine zat Tryz.func327 rfl (by kernel_rfl) rfl rfl rfl ?_;conv=>whnf
 refine zad (zbz t.b h) ?_;conv=>whnf
 refine zam (zbz t.b up) (fun _ h _=>h) ?_;conv=>whnf
 refine⟨fun hq=>?_,fun hq=>?_⟩
 ·have h1:(!zah t.b h||!zah t.b up)=true:=hq;conv=>whnf
  refine⟨rfl,zae ?_⟩;rw[grT,grE,h1];rfl
 ·have h1:(!zah t.b h||!zah t.b up)=false:=hq;have hg:zah t.b h=true:=by
   revert h1;cases zah t.b h<;>simp
  conv=>whnf
  refine zad (zhO t h hr) ?_;conv=>whnf
  refine zam (zg8 t h up hr) (fun _ h _=>h) ?_;conv=>whnf
  refine⟨fun hq=>?_,fun hq=>?_⟩
  ·have h2:((zbN t h != h)||zpv t h up)=true:=hq;conv=>whnf
   refine⟨rfl,zae ?_⟩;rw[grT,grE,h1,h2];rfl
  ·have h2:((zbN t h != h)||zpv t h up)=false:=hq;conv=>whnf
   refine zao zaa (by kernel_rfl) 9 (by kernel_rfl) ?_;conv=>whnf
   refine zam (zky t up hr) (fun _ h=>h) ?_;conv=>whnf
   refine zam (zBj ht hr hu hg) (fun _ h=>h) ?_;conv=>whnf
   have h3:=zmf t up;have h4:=zoo t h (zaV t h) 0 (by omega);refine⟨zac (x:=zeQ t up+zjs t h) (by unfold zjs;omega) (by unfold zjs;omega),?_⟩;conv=>whnf
   refine⟨fun hq=>?_,fun hq=>?_⟩
   ·have h5:decide (zeQ t up+zjs t h>6)=true:=hq;conv=>whnf
    refine⟨rfl,zae ?_⟩;rw[grT,grE,h1,h2,h5];rfl
   ·have h5:decide (zeQ t up+zjs t h>6)=false:=hq;conv=>whnf
    refine zad (zqX t h up hr) ?_;conv=>whnf
    refine⟨rfl,zae ?_⟩;rw[grT,grE,h1,h2,h5];rfl
end Sx
namespace Sx
attribute [local irreducible] Con zax zan zau zai zaw zbt zak zaC zbh zba I64
structure Ow where
 kind:Int
 task:Int
 hold:Int
structure Sd where
 root:Int
 own:Ow
def zrI(x:Ow):D:=.pr (.z .u8 x.kind) (.pr (.z .u8 x.task) (.pr (.z .u8 x.hold) .un))
def tSd:Ty:=.p .c (.p (.p .c (.p .c (.p .c .u))) .u)
def zxx(s:Sd):D:=.pr (.z .u32 s.root) (.pr (zrI s.own) .un)
def zds(o:Nat→Sd):D:=.pr (.ar 32 tSd fun i=>zxx (o i)) .un
def ow0:Ow:=⟨0,0,0⟩
def ofO(o:Nat→Sd)(t:Tb)(h:Int):Ow:=bif (!!slB (zbN t h))||((o (slN (zbN t h))).root != zbN t h)then ow0 else(o (slN (zbN t h))).own
theorem zlT(o:Nat→Sd)(t:Tb)(h:Int){rk:Int→Nat}(hr:Rk t rk):zay Tryz.prog 39 [.d (zds o),.d (zaU t),H h] (.d (zrI (ofO o t h))):=by
 refine zat Tryz.func39 rfl (by kernel_rfl) rfl rfl rfl ?_;conv=>whnf
 refine zad (zhO t h hr) ?_;conv=>whnf
 refine zad (zeC (zbN t h)) ?_;conv=>whnf
 refine⟨fun _=>zc5 _,?_⟩;conv=>whnf
 refine⟨fun hq=>?_,fun hq=>?_⟩
 ·have hq:((!!slB (zbN t h))||((o (slN (zbN t h))).root != zbN t h))=true:=hq;conv=>whnf
  refine⟨rfl,zae ?_⟩;rw[ofO,hq];rfl
 ·have hq:((!!slB (zbN t h))||((o (slN (zbN t h))).root != zbN t h))=false:=hq;conv=>whnf
  refine⟨zc5 _,?_⟩;conv=>whnf
  refine⟨rfl,zae ?_⟩;rw[ofO,hq];rfl
def zdP(t:Tb)(root task:Int):Int:=bif !zah t.b root then 4 else bif zbN t root != root then 12 else bif decide (task<0)||decide (task≥8)then 2 else 0
def zfv(o:Nat→Sd)(t:Tb)(root task:Int)(x:Ow):Nat→Sd:=bif zdP t root task==0 then zaq o (slN root) ⟨root,x⟩else o
theorem zs9(o:Nat→Sd)(t:Tb)(root task:Int)(x:Ow){rk:Int→Nat}(hr:Rk t rk):zay Tryz.prog 355 [.d (zds o),.d (zaU t),H root,I task,.d (zrI x)] (T2 (.d (zds (zfv o t root task x))) (I (zdP t root task))):=by
 refine zat Tryz.func355 rfl (by kernel_rfl) rfl rfl rfl ?_;conv=>whnf
 refine zad (zbz t.b root) ?_;conv=>whnf
 refine⟨fun hq=>?_,fun hq=>?_⟩
 ·have h1:(!zah t.b root)=true:=hq;conv=>whnf
  refine⟨rfl,zae ?_⟩;rw[zfv,zdP,h1];rfl
 ·have h1:(!zah t.b root)=false:=hq;conv=>whnf
  refine zad (zhO t root hr) ?_;conv=>whnf
  refine⟨fun hq=>?_,fun hq=>?_⟩
  ·have h2:(zbN t root != root)=true:=hq;conv=>whnf
   refine⟨rfl,zae ?_⟩;rw[zfv,zdP,h1,h2];rfl
  ·have h2:(zbN t root != root)=false:=hq;conv=>whnf
   refine⟨fun hq=>?_,fun hq=>?_⟩
   ·have h3:(decide (task<0)||decide (task≥8))=true:=hq;conv=>whnf
    refine⟨rfl,zae ?_⟩;rw[zfv,zdP,h1,h2,h3];rfl
   ·have h3:(decide (task<0)||decide (task≥8))=false:=hq;conv=>whnf
    refine zad (zeC root) ?_;conv=>whnf
    refine⟨zc5 _,?_⟩;conv=>whnf
    refine⟨.d (zds (zaq o (slN root) ⟨root,x⟩)),congrArg (fun f=>SV.d (.pr (.ar 32 tSd f) .un)) (zaY zxx o (slN root) ⟨root,x⟩),?_⟩;conv=>whnf
    refine⟨rfl,zae ?_⟩;rw[zfv,zdP,h1,h2,h3];rfl
def tkB(task:Int):Int:=IntKind.u8.wrap task
theorem zzs(o:Nat→Sd)(t:Tb)(root task:Int){rk:Int→Nat}(hr:Rk t rk):zay Tryz.prog 344 [.d (zds o),.d (zaU t),H root,I task] (T2 (.d (zds (zfv o t root task ⟨1,tkB task,0⟩))) (I (zdP t root task))):=by
 refine zat Tryz.func344 rfl (by kernel_rfl) rfl rfl rfl ?_;conv=>whnf
 refine zad (zs9 o t root task ⟨1,tkB task,0⟩ hr) ?_;conv=>whnf
 exact⟨rfl,zae rfl⟩
theorem zB2(o:Nat→Sd)(t:Tb)(root:Int){rk:Int→Nat}(hr:Rk t rk):zay Tryz.prog 335 [.d (zds o),.d (zaU t),H root] (T2 (.d (zds (zfv o t root 0 ⟨2,0,0⟩))) (I (zdP t root 0))):=by
 refine zat Tryz.func335 rfl (by kernel_rfl) rfl rfl rfl ?_;conv=>whnf
 refine zad (zs9 o t root 0 ⟨2,0,0⟩ hr) ?_;conv=>whnf
 exact⟨rfl,zae rfl⟩
theorem ztT(o:Nat→Sd)(t:Tb)(root task:Int){rk:Int→Nat}(hr:Rk t rk):zay Tryz.prog 328 [.d (zds o),.d (zaU t),H root,I task] (T2 (.d (zds (zfv o t root task ⟨3,0,zjB task⟩))) (I (zdP t root task))):=by
 refine zat Tryz.func328 rfl (by kernel_rfl) rfl rfl rfl ?_;conv=>whnf
 refine zao zaa (by kernel_rfl) 10 (by kernel_rfl) ?_;conv=>whnf
 refine zam (zuf task) (fun _ h=>h) ?_;conv=>whnf
 refine zam (zs9 o t root task ⟨3,0,zjB task⟩ hr) (fun _ h=>h) ?_;conv=>whnf
 exact⟨rfl,zae rfl⟩
def zr1(x:Ow)(task:Int):Bool:=zaC .and .u8 x.hold (zjB task) != 0
def znL(o:Nat→Sd)(t:Tb)(root task:Int):Ow:={ofO o t root with hold:=zaC .xor .u8 (ofO o t root).hold (zjB task)}
def zuM(t:Tb)(root task:Int):Bool:=(zdP t root task==4)||(zah t.b root&&(zbN t root != root))
def zgh(o:Nat→Sd)(t:Tb)(root task:Int)(hold:Bool):Int:=bif zuM t root task then zdP t root task else bif (ofO o t root).kind != 3 then 12 else bif zdP t root task != 0 then zdP t root task else bif zr1 (ofO o t root) task&&hold then 7 else bif !zr1 (ofO o t root) task&&!hold then 5 else 0
def ze5(o:Nat→Sd)(t:Tb)(root task:Int)(hold:Bool):Nat→Sd:=bif zgh o t root task hold==0 then zfv (zfv o t root task (ofO o t root)) t root task (znL o t root task)else o
def zhp(o:Nat→Sd)(t:Tb)(root task:Int)(hold:Bool):Int:=bif zgh o t root task hold==0 then(znL o t root task).hold else 0
theorem zA3(t:Tb)(root task:Int):zdP t root task=4∨zdP t root task=12∨zdP t root task=2∨zdP t root task=0:=by unfold zdP;cases zah t.b root<;>cases(zbN t root != root)<;>cases(decide (task<0)||decide (task≥8))<;>simp
theorem zv3(o:Nat→Sd)(t:Tb)(root task:Int)(hold:Bool){rk:Int→Nat}(hr:Rk t rk):zay Tryz.prog 356 [.d (zds o),.d (zaU t),H root,I task,B hold] (T3 (.d (zds (ze5 o t root task hold))) (.d (.z .u8 (zhp o t root task hold))) (I (zgh o t root task hold))):=by
 have hnz:∀{b:Int},b=12∨b=7∨b=5→(b==0)=false:=by rintro b (rfl|rfl|rfl)<;>rfl
 refine zat Tryz.func356 rfl (by kernel_rfl) rfl rfl rfl ?_;conv=>whnf
 refine zad (zlT o t root hr) ?_;conv=>whnf
 refine zad (zs9 o t root task (ofO o t root) hr) ?_;conv=>whnf
 refine zao zaa (by kernel_rfl) 7 (by kernel_rfl) ?_;conv=>whnf
 refine zam (zuf task) (fun _ h=>h) ?_;conv=>whnf
 refine zam (zbz t.b root) (fun _ h _=>h) ?_;conv=>whnf
 refine zam (zhO t root hr) (fun _ h _ _=>h) ?_;conv=>whnf
 refine⟨fun hq=>?_,fun hq=>?_⟩
 ·have h1:zuM t root task=true:=hq;have e:(zdP t root task==0)=false:=by
   unfold zuM at h1;rcases zA3 t root task with h|h|h|h<;>rw[h]at h1 ⊢<;>first|rfl|skip
   unfold zdP at h
   revert h h1
   cases zah t.b root<;>cases(zbN t root != root)<;>simp
  conv=>whnf
  refine⟨rfl,zae ?_⟩;rw[ze5,zhp,zgh,h1];simp only[zHH,e,zHJ];rfl
 ·have h1:zuM t root task=false:=hq;conv=>whnf
  refine⟨fun hq=>?_,fun hq=>?_⟩
  ·have h2:((ofO o t root).kind != 3)=true:=hq;conv=>whnf
   refine⟨rfl,zae ?_⟩;rw[ze5,zhp,zgh,h1,h2];rfl
  ·have h2:((ofO o t root).kind != 3)=false:=hq;conv=>whnf
   refine⟨fun hq=>?_,fun hq=>?_⟩
   ·have h3:(zdP t root task != 0)=true:=hq;have e:(zdP t root task==0)=false:=by simpa using h3
    conv=>whnf
    refine⟨rfl,zae ?_⟩;rw[ze5,zhp,zgh,h1,h2,h3];simp only[zHH,e,zHJ];rfl
   ·have h3:(zdP t root task != 0)=false:=hq;have e0:zdP t root task=0:=by simpa using h3
    conv=>whnf
    refine⟨fun hq=>?_,fun hq=>?_⟩
    ·have h4:(zr1 (ofO o t root) task&&hold)=true:=hq;conv=>whnf
     refine⟨rfl,zae ?_⟩;rw[ze5,zhp,zgh,h1,h2,h3,h4];rfl
    ·have h4:(zr1 (ofO o t root) task&&hold)=false:=hq;conv=>whnf
     refine⟨fun hq=>?_,fun hq=>?_⟩
     ·have h5:(!zr1 (ofO o t root) task&&!hold)=true:=hq;conv=>whnf
      refine⟨rfl,zae ?_⟩;rw[ze5,zhp,zgh,h1,h2,h3,h4,h5];rfl
     ·have h5:(!zr1 (ofO o t root) task&&!hold)=false:=hq;conv=>whnf
      refine zao zaa (by kernel_rfl) 6 (by kernel_rfl) ?_;conv=>whnf
      refine zam (zuf task) (fun _ h=>h) ?_;conv=>whnf
      refine zad (zs9 (zfv o t root task (ofO o t root)) t root task (znL o t root task) hr) ?_;conv=>whnf
      refine zaA zaa (by kernel_rfl) (List.range 7) [(4,14)] (by kernel_rfl) ?_;conv=>whnf
      repeat' (first|(refine⟨(show _∧_ from⟨rfl,rfl⟩),?_⟩;conv=>whnf))
      refine⟨rfl,zae ?_⟩;rw[ze5,zhp,zgh,h1,h2,h3,h4,h5,e0];rfl
theorem zvE(o:Nat→Sd)(t:Tb)(root task:Int){rk:Int→Nat}(hr:Rk t rk):zay Tryz.prog 331 [.d (zds o),.d (zaU t),H root,I task] (T2 (.d (zds (ze5 o t root task true))) (I (zgh o t root task true))):=by
 refine zat Tryz.func331 rfl (by kernel_rfl) rfl rfl rfl ?_;conv=>whnf
 refine zad (zv3 o t root task true hr) ?_;conv=>whnf
 exact⟨rfl,zae rfl⟩
end Sx
end Go.Proofs.YtfbhkfhbnkncoaaGreatDoor
