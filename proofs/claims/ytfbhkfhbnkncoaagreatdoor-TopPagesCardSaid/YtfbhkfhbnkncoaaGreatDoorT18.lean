import Derived.Test.YtfbhkfhbnkncoaaGreatDoorT17
import Derived.Orders
set_option linter.all false
namespace Go.Proofs.YtfbhkfhbnkncoaaGreatDoor
open Go.RowKit
namespace Sx
variable {P:Program} {tb:TT}
theorem zjY{ρ ρ':Operand→Option SV}:∀{l:List Operand},(∀x∈l,ρ x=ρ' x)→zjC ρ l=zjC ρ' l
 |[],_=>rfl
 |x::r,h=>by simp only[zjC];rw[h x (by simp),zjY (fun y hy=>h y (by simp[hy]))]
theorem zdV{ρ ρ':Operand→Option SV}:∀{l:List Operand},(∀x∈l,ρ x=ρ' x)→zeo ρ l=zeo ρ' l
 |[],_=>rfl
 |x::r,h=>by simp only[zeo];rw[h x (by simp),zdV (fun y hy=>h y (by simp[hy]))]
theorem zhR{ρ ρ':Operand→Option SV}{T:TypeId}:∀{l:List (Nat×Operand)} {v:SV},(∀x∈l,ρ x.2=ρ' x.2)→zfZ tb T ρ l v=zfZ tb T ρ' l v
 |[],_,_=>rfl
 |x::r,v,h=>by
  simp only[zfZ];rw[h x (by simp)]
  repeat' split
  all_goals first|rfl|exact zhR (fun y hy=>h y (by simp[hy]))
theorem zhD{ρ ρ':Operand→Option SV}{t:Ty}:∀{l:List (Nat×Operand)} {i:Nat},(∀x∈l,ρ x.2=ρ' x.2)→zoj ρ t l i=zoj ρ' t l i
 |[],_,_=>rfl
 |x::r,i,h=>by simp only[zoj];rw[h x (by simp),zhD (l:=r) (fun y hy=>h y (by simp[hy]))]
theorem zdR{ρ ρ':Operand→Option SV}{o:Option Operand}(h:∀x,o=some x→ρ x=ρ' x):zlM ρ o=zlM ρ' o:=by
 cases o with
 |none=>rfl
 |some x=>simp only[zlM];rw[h x rfl]
theorem zqv{op:Op}{m:MS}{ρ ρ':Operand→Option SV}{G:Prop→Prop}{pr:Bool}{K:SV→MS→Prop}{Kp:D→MS→Prop}(h:∀x∈op.operands.toList,ρ x=ρ' x):zc6 P tb op m ρ G pr K Kp=zc6 P tb op m ρ' G pr K Kp:=by
 cases op
 case call c=>
  obtain⟨callee,args,argTypes⟩:=c;cases callee with
  |value f=>simp only[zc6];rw[h f (by simp[Op.operands,Call.operands]),zdV (fun y hy=>h y (by simp[Op.operands,Call.operands];simp at hy;exact .inr hy))]
  |invoke r s=>simp only[zc6]
  |builtin b=>simp only[zc6];cases b<;>first|rfl|(rw[zdV (fun y hy=>h y (by simp[Op.operands,Call.operands];simpa using hy))])
 case buildSlice T n ps=>
  simp only[zc6];have:∀t,zoj ρ t ps.toList 0=zoj ρ' t ps.toList 0:=fun t=>zhD (fun y hy=>h y.2 (by simp[Op.operands];exact⟨y.1,by simpa using hy⟩));simp only[this]
 case slice T x lo hi mx=>
  simp only[zc6];rw[h x (by simp[Op.operands]),zdR (o:=lo) (fun y hy=>h y (by subst hy;simp[Op.operands])),zdR (o:=hi) (fun y hy=>h y (by subst hy;cases lo<;>simp[Op.operands])),zdR (o:=mx) (fun y hy=>h y (by subst hy;cases lo<;>cases hi<;>simp[Op.operands]))]
 case build T ps=>
  simp only[zc6,pv];have:∀z,zfZ tb T ρ ps.toList z=zfZ tb T ρ' ps.toList z:=fun z=>zhR (fun y hy=>h y.2 (by simp[Op.operands];exact⟨y.1,by simpa using hy⟩));simp only[this]
 case makeFunc f a b=>
  have hb:zjC ρ b.toList=zjC ρ' b.toList:=zjY (fun y hy=>h y (by simp[Op.operands];simp at hy;exact .inr hy));have ha:∀x∈a.toList,ρ x=ρ' x:=fun y hy=>h y (by simp[Op.operands];simp at hy;exact .inl hy);simp only[zc6,pv];rw[hb];generalize a.toList=l at ha;rcases l with _|⟨x,_|⟨y,r⟩⟩<;>simp_all
 case store T x y=>simp only[zc6];rw[h x (by simp[Op.operands]),h y (by simp[Op.operands])]
 case indexAddr T x y=>simp only[zc6];rw[h x (by simp[Op.operands]),h y (by simp[Op.operands])]
 case index T x y=>simp only[zc6];rw[h x (by simp[Op.operands]),h y (by simp[Op.operands])]
 case binOp op T x y yT=>simp only[zc6,pv];rw[h x (by simp[Op.operands]),h y (by simp[Op.operands])]
 case box T x=>simp only[zc6];rw[h x (by simp[Op.operands])]
 case convert S T x=>simp only[zc6];rw[h x (by simp[Op.operands])]
 case move x=>simp only[zc6,pv];rw[h x (by simp[Op.operands])]
 case assign x=>simp only[zc6,pv];rw[h x (by simp[Op.operands])]
 case load T x=>simp only[zc6,pv];rw[h x (by simp[Op.operands])]
 case fieldAddr T x k=>simp only[zc6,pv];rw[h x (by simp[Op.operands])]
 case field T x k=>simp only[zc6,pv];rw[h x (by simp[Op.operands])]
 case extract x k=>simp only[zc6,pv];rw[h x (by simp[Op.operands])]
 case unOp op T x=>cases op<;>simp only[zc6,pv]<;>rw[h x (by simp[Op.operands])]
 case nilCheck x=>simp only[zc6,pv];rw[h x (by simp[Op.operands])]
 case makeInterface T x=>simp only[zc6,pv];rw[h x (by simp[Op.operands])]
 all_goals simp only[zc6,pv]
theorem zhQ{ρ ρ':Operand→Option SV}{n:Nat}{t:Ty}:∀{l:List (Nat×Operand)} {v:SV},(∀x∈l,ρ x.2=ρ' x.2)→zfX ρ n t l v=zfX ρ' n t l v
 |[],_,_=>rfl
 |x::r,v,h=>by
  simp only[zfX];rw[h x (by simp)]
  repeat' split
  all_goals first|rfl|exact zhQ (fun y hy=>h y (by simp[hy]))
theorem zn2{op:Op}{ρ ρ':Operand→Option SV}{pr:Bool}(h:∀x∈op.operands.toList,ρ x=ρ' x):zhu tb op ρ pr=zhu tb op ρ' pr:=by
 cases op
 case call c=>
  obtain⟨callee,args,argTypes⟩:=c;cases callee with
  |value f=>simp only[zhu];rw[h f (by simp[Op.operands,Call.operands])]
  |invoke r s=>rfl
  |builtin b=>
   have ha:∀x∈args.toList,ρ x=ρ' x:=fun y hy=>h y (by simp[Op.operands,Call.operands];simpa using hy);cases b<;>first
    |rfl
    |(simp only[zhu];generalize args.toList=l at ha;rcases l with _|⟨x,_|⟨y,_|⟨z,r⟩⟩⟩<;>simp_all)
 case slice T x lo hi mx=>simp only[zhu];rw[h x (by simp[Op.operands])]
 case store T x y=>simp only[zhu];rw[h x (by simp[Op.operands])]
 case indexAddr T x y=>simp only[zhu];rw[h x (by simp[Op.operands])]
 case index T x y=>simp only[zhu];rw[h x (by simp[Op.operands])]
 case convert S T x=>simp only[zhu];rw[h x (by simp[Op.operands])]
 case load T x=>simp only[zhu];rw[h x (by simp[Op.operands])]
 all_goals rfl
theorem zqx{op:Op}{m:MS}{ρ ρ':Operand→Option SV}{G:Prop→Prop}{pr:Bool}{K:SV→MS→Prop}{Kp:D→MS→Prop}(h:∀x∈op.operands.toList,ρ x=ρ' x):zek P tb op m ρ G pr K Kp=zek P tb op m ρ' G pr K Kp:=by
 cases op
 case call c=>
  obtain⟨callee,args,argTypes⟩:=c;cases callee with
  |value f=>simp only[zek];rw[h f (by simp[Op.operands,Call.operands]),zdV (fun y hy=>h y (by simp[Op.operands,Call.operands];simp at hy;exact .inr hy))]
  |invoke r s=>simp only[zek]
  |builtin b=>simp only[zek];cases b<;>first|rfl|(simp only[];rw[zdV (fun y hy=>h y (by simp[Op.operands,Call.operands];simpa using hy))])
 case buildSlice T n ps=>
  simp only[zek];have:∀t,zoj ρ t ps.toList 0=zoj ρ' t ps.toList 0:=fun t=>zhD (fun y hy=>h y.2 (by simp[Op.operands];exact⟨y.1,by simpa using hy⟩));simp only[this]
 case slice T x lo hi mx=>
  simp only[zek];rw[h x (by simp[Op.operands]),zdR (o:=lo) (fun y hy=>h y (by subst hy;simp[Op.operands])),zdR (o:=hi) (fun y hy=>h y (by subst hy;cases lo<;>simp[Op.operands])),zdR (o:=mx) (fun y hy=>h y (by subst hy;cases lo<;>cases hi<;>simp[Op.operands]))]
 case build T ps=>
  simp only[zek];have:∀n t z,zfX ρ n t ps.toList z=zfX ρ' n t ps.toList z:=fun n t z=>zhQ (fun y hy=>h y.2 (by simp[Op.operands];exact⟨y.1,by simpa using hy⟩));simp only[this]
 case store T x y=>simp only[zek];rw[h x (by simp[Op.operands]),h y (by simp[Op.operands])]
 case indexAddr T x y=>simp only[zek];rw[h x (by simp[Op.operands]),h y (by simp[Op.operands])]
 case index T x y=>simp only[zek];rw[h x (by simp[Op.operands]),h y (by simp[Op.operands])]
 case convert S T x=>simp only[zek];rw[h x (by simp[Op.operands])]
 case load T x=>simp only[zek];rw[h x (by simp[Op.operands])]
 case insert T x y z=>simp only[zek];rw[h x (by simp[Op.operands]),h y (by simp[Op.operands]),h z (by simp[Op.operands])]
 case mapUpdate T x y z=>simp only[zek];rw[h x (by simp[Op.operands]),h y (by simp[Op.operands]),h z (by simp[Op.operands])]
 case lookup T x y ok=>simp only[zek];rw[h x (by simp[Op.operands]),h y (by simp[Op.operands])]
 case typeAssert x A T ok=>simp only[zek];rw[h x (by simp[Op.operands])]
 case panic x=>simp only[zek];rw[h x (by simp[Op.operands])]
 all_goals simp only[zek]
theorem zm8{op:Op}{m:MS}{ρ ρ':Operand→Option SV}{G:Prop→Prop}{pr:Bool}{K:SV→MS→Prop}{Kp:D→MS→Prop}(h:∀x∈op.operands.toList,ρ x=ρ' x):xop P tb op m ρ G pr K Kp=xop P tb op m ρ' G pr K Kp:=by unfold xop;rw[zn2 h,zqx h,zqv h]
def zwb(ms:List Nat)(o:Oper):Nat:=o.after.toList.foldl (fun s e=>if Region.binds .any e then s|||2 ^ e.on|||ms.getD e.on 0 else s) 0
def zjN:List Oper→List Nat→List Nat
 |[],acc=>acc
 |o::r,acc=>zjN r (acc++[zwb acc o])
theorem zo6{ms:List Nat}{j:Nat}:∀{l:List Edge} {s:Nat},(l.foldl (fun s e=>if Region.binds .any e then s|||2 ^ e.on|||ms.getD e.on 0 else s) s).testBit j=true→
 s.testBit j=true∨∃e∈l,Region.binds .any e=true∧(e.on=j∨(ms.getD e.on 0).testBit j=true)
 |[],s,h=>.inl h
 |e::l,s,h=>by
  rw[zH4]at h;rcases zo6 (l:=l) h with h|⟨x,hx,hb⟩
  ·split at h
   ·rename_i hb;simp only[Nat.testBit_or,zGD,Nat.testBit_two_pow,zFS]at h;rcases h with(h|h)|h
    ·exact .inl h
    ·exact .inr ⟨e,zF3 ..,hb,.inl h⟩
    ·exact .inr ⟨e,zF3 ..,hb,.inr h⟩
   ·exact .inl h
  ·exact .inr ⟨x,zF4 _ hx,hb⟩
def zdT(ops:List Oper)(ls:Nat→Bool):Prop:=∀i o,ops[i]?=some o→ls i=true→∀e∈o.after,Region.binds .any e=true→ls e.on=true
def zfT(ops:List Oper)(ls:Nat→Bool)(i:Nat):Prop:=∃o,ops[i]?=some o∧∀e∈o.after,Region.binds .any e=true→ls e.on=true
theorem zlg{ls:Nat→Bool}{all:List Oper}(hc:zdT all ls):∀{r:List Oper} {acc:List Nat},all=all.take acc.length++r→(∀k,k<acc.length→∀j,(acc.getD k 0).testBit j=true→zfT all ls k→ls j=true)→
 ∀k j,((zjN r acc).getD k 0).testBit j=true→zfT all ls k→ls j=true
 |[],acc,_,h,k,j,hb,hw=>by
  rcases zGc k acc.length with hk|hk
  ·exact h k hk j hb hw
  ·simp only[zjN]at hb;rw[zG9,zIR hk]at hb;simp at hb
 |o::r,acc,ha,h,k,j,hb,hw=>by
  have hlen:acc.length≤all.length:=by
   rcases zGc all.length acc.length with hl|hl
   ·have:=congrArg List.length ha;rw[zGN (by omega)]at this;simp at this
   ·exact hl
  have hget:all[acc.length]?=some o:=by rw[ha,zHY (by simp[zGW hlen])];simp[zGW hlen]
  refine zlg hc (r:=r) (acc:=acc++[zwb acc o]) ?_ ?_ k j hb hw
  ·have h1:all.take (acc.length+1)=all.take acc.length++[o]:=by rw[zHb,hget];rfl
   simp only[zFY,zIk];rw[h1,zG5];exact ha
  ·intro k hk j hb hw;rcases zGc k acc.length with hk1|hk1
   ·rw[zG9,zH2 hk1,←zG9]at hb;exact h k hk1 j hb hw
   ·have:k=acc.length:=by simp at hk;omega
    subst this;rw[zG9,zHY (zF5 _)]at hb;simp at hb;obtain⟨o',ho',hwt⟩:=hw;rw[hget]at ho';cases ho';rcases zo6 hb with h0|⟨e,he,hbd,h1⟩
    ·simp at h0
    ·have hl:=hwt e (by simpa using he) hbd;rcases h1 with rfl|h1
     ·exact hl
     ·rcases zGc e.on acc.length with h2|h2
      ·refine h e.on h2 j h1 ?_;have h3:e.on<all.length:=by omega
       exact⟨all[e.on],zHa h3,fun e' he' hb'=>hc e.on _ (zHa h3) hl e' he' hb'⟩
      ·rw[zG9,zIR h2]at h1;simp at h1
def zfz(l:List Operand):List Nat:=l.filterMap fun| .tmp t=>some t|_=>none
def zAX(ops:List Oper)(ms:List Nat)(i t:Nat):Bool:=ops.zipIdx.all fun x=>match x.1.dst with
 |some d=>!(Nat.beq d t)||(Nat.blt x.2 i&&(ms.getD i 0).testBit x.2)
 |none=>true
def zrE(ops:List Oper)(hd:Nat):Bool:=
 let ms:=zjN ops []
 Nat.ble hd ops.length&&decide ((ops.filterMap (·.dst)).Nodup)&&ops.zipIdx.all fun x=>
  (x.1.after.toList.all fun e=>!Region.binds .any e||Nat.blt e.on x.2)&&
  match Nat.blt x.2 hd with
  |true=>(zfz x.1.op.operands.toList).all (zAX ops ms x.2)&&x.1.dst.isSome&&(match x.1.guard with
   |none=>true
   |some (j,_)=>Nat.blt j x.2&&(ms.getD x.2 0).testBit j)
  |false=>(List.range x.2).all fun j=>(ms.getD x.2 0).testBit j
end Sx
namespace Sx
variable {E:Gh} {r:Option Nat} {nn:Nat}
variable {P:Program} {tb:TT}
def At(ro:Ro)(bl:Bl)(L:Loc)(fr:List Ent)(a:Act)(t:Nat):Prop:=∀c u,zbr L fr t=some (c,u)→zaI a c→zaX ro bl u (a.tmps.getD t undef)
theorem zo0{ro:Ro}{bl:Bl}{L:Loc}{fr:List Ent}{a:Act}{g:zeA}{x:Operand}(hS:∀t,x=.tmp t→At ro bl L fr a t)(hg:zaI a g){v:SV}(h:evL L fr g x=some v):zaX ro bl v (a.eval x):=by
 unfold evL at h;split at h
 ·split at h
  ·rename_i c v' hl;split at h
   ·rename_i hs;cases h;exact hS _ rfl _ _ hl (hg.sub hs)
   ·cases h
  ·cases h
 ·exact zsB h
 ·cases h;exact⟨(fun h=>by cases h),fun _=>⟨[],rfl,rfl⟩⟩
 ·cases h;exact zgv.v rfl
theorem zAh{ro:Ro}{bl:Bl}{L:Loc}{fr:List Ent}{a:Act}{g:zeA}(hS:∀p∈g,At ro bl L fr a p.1)(hg:zaI a g):∀{c:zeA},(∀p∈c,p∈g)→∀p,gP L fr g c p→p
 |[],_,_,hp=>hp
 |(t,want)::r,hs,p,hp=>by
  unfold gP at hp;have hr:=zAh hS hg (c:=r) (fun q hq=>hs q (by simp[hq])) p;split at hp
  ·rename_i c b hl;split at hp
   ·rename_i hsub;refine hr (hp ?_);have h1:=(hS (t,want) (hs _ (by simp)) _ _ hl (hg.sub hsub)).bo;rw[hg (t,want) (hs _ (by simp))]at h1;cases h1;rfl
   ·exact hr hp
  ·exact hr hp
def ziv(P:Program)(tb:TT)(m:MS)(fr:List Ent)(L:Loc)(g:zeA)(o:Oper)(v:SV):Prop:=
 xop P tb o.op m (evL L fr g) (gP L fr g g) true (ztz v m) (fun _ _=>False)∨
 ∃tc a b cc t,o.op=.pick (.tmp tc) a b∧zbr L fr tc=some (cc,.d (.bo t))∧zer cc g=true∧zql a b t (evL L fr ((tc,true)::g) a) (evL L fr ((tc,false)::g) b)=some v
theorem zsJ{ro:Ro}{bl:Bl}{oa ob:Operand}{t:Bool}{u1 u2:Option SV}{v:SV}(hv:zql oa ob t u1 u2=some v){xa xb:Value}(ha:t=true→∀x,u1=some x→zaX ro bl x xa)(hb:t=false→∀x,u2=some x→zaX ro bl x xb)
 (hca:t=true→∀b,oa=.const (.bool b)→xa=.bool b)(hcb:t=false→∀b,ob=.const (.bool b)→xb=.bool b):zaX ro bl v (if t then xa else xb):=by
 have hbool:∀{u:Option SV} {y:Bool},u.bind zl3=some y→u=some (.d (.bo y)):=fun{u y} hu=>by
  obtain⟨z,hz,hy⟩:=zGl.1 hu;subst hz;unfold zl3 at hy;split at hy
  ·cases hy;rfl
  ·cases hy
 unfold zql at hv;split at hv
 ·split at hv
  ·rename_i y hy;cases hv;cases t with
   |true=>rw[hca rfl true rfl];exact zbM true
   |false=>have:=hb rfl _ (hbool hy);simpa using this
  ·cases hv
 ·split at hv
  ·split at hv
   ·rename_i x hx;cases hv;cases t with
    |true=>have:=ha rfl _ (hbool hx);simpa using this
    |false=>have:=hcb rfl false rfl;rw[this];exact zbM false
   ·cases hv
  ·split at hv
   ·rename_i x y hx hy;cases hv;cases t with
    |true=>have:=ha rfl _ (hbool hx);simpa using this
    |false=>have:=hb rfl _ (hbool hy);simpa using this
   ·cases hv
def zzd(l:List Nat):Operand→Bool
 | .tmp t=>decide (t∈l)
 |_=>true
theorem zth(hP:tb.ok P){m:MS}{fr:List Ent}{L:Loc}{g:zeA}{o:Oper}{v:SV}(h:ziv P tb m fr L g o v){ro:Ro}{bl:Bl}{a:Act}{w:World}(hM:Mem E ro bl m w)(hg:zaI a g)
 (ho:∀t∈zfz o.op.operands.toList,At ro bl L fr a t)(hgt:∀p∈g,At ro bl L fr a p.1){next:Act→World→Prop}{Q:Exit→Act→World→Prop}
 (hn:∀ro' bl' w' x,zaX ro' bl' v x→Mem E ro' bl' m w'→Gr ro bl w ro' bl' w'→next (a.put o.dst x) w'):o.wpIn (FR r) nn P a w next Q:=by
 have hmem:∀x∈o.op.operands.toList,∀t,x=.tmp t→At ro bl L fr a t:=fun x hx t e=>ho t (by subst e;exact zIs.2 ⟨_,hx,rfl⟩);rcases h with h|⟨tc,oa,ob,cc,t,hop,hl,hsub,hv⟩
 ·have hcg:∀x∈o.op.operands.toList,evL L fr g x=(if zzd (zfz o.op.operands.toList) x=true then evL L fr g x else none):=fun x hx=>by
   have:zzd (zfz o.op.operands.toList) x=true:=by
    cases x with
    |tmp t=>exact zFQ (zIs.2 ⟨_,hx,rfl⟩)
    |_=>rfl
   exact(if_pos this).symm
  rw[zm8 hcg]at h;refine zfA hP hM (fun x u hx=>?_) (fun p hp=>zAh hgt hg (fun q hq=>hq) p hp) h ⟨fun ro' bl' m' w' u x hK hx hM' hG=>?_,fun ro' bl' m' w' d x hK _ _ _=>hK.elim⟩
  ·split at hx
   ·rename_i hc;refine zo0 (fun t e=>?_) hg hx;subst e;exact ho t (by simpa[zzd]using hc)
   ·cases hx
  ·obtain⟨rfl,rfl⟩:=hK;exact hn _ _ _ _ hx hM' hG
 ·have ht:=(ho tc (by rw[hop];simp[Op.operands,zfz]) _ _ hl (hg.sub hsub)).bo;have hx:zaX ro bl v (if t then a.eval oa else a.eval ob):=zsJ hv
   (fun e x hx=>zo0 (g:=(tc,true)::g) (hmem oa (by rw[hop];simp[Op.operands])) (fun p hp=>by
    rcases zGm.1 hp with rfl|hp
    ·rw[ht,e]
    ·exact hg p hp) hx)
   (fun e x hx=>zo0 (g:=(tc,false)::g) (hmem ob (by rw[hop];simp[Op.operands])) (fun p hp=>by
    rcases zGm.1 hp with rfl|hp
    ·rw[ht,e]
    ·exact hg p hp) hx)
   (fun _ b e=>by subst e;rfl) (fun _ b e=>by subst e;rfl)
  have hrun:(execOp a.eval o).run P w=.ok (.value (if t then a.eval oa else a.eval ob)) w:=by have e1:a.eval (.tmp tc)=.bool t:=ht;unfold execOp;rw[hop];cases t<;>simp[e1,asBool]
  refine zmJ (fun c hc=>by rw[hop]at hc;cases hc) ?_;rw[hrun];exact hn _ _ _ _ hx hM (Gr.refl _ _ _)
def zwO(P:Program)(tb:TT)(N:Nat)(ops:List Oper)(hd:Nat)(m:MS)(fr:List Ent)(Lh:Loc)(k:Nat):Prop:=
 ∃o d g v,ops[k]?=some o∧o.dst=some d∧Lh.drop (hd -(k+1))=(d,g,some v)::Lh.drop (hd - k)∧zgL ops (Lh.drop (hd - k)) fr o.guard=some g∧Nat.blt d N=true∧ziv P tb m fr (Lh.drop (hd - k)) g o v
theorem zAm{N:Nat}{ops:List Oper}{hd:Nat}{m:MS}{fr:List Ent}{K:List Ent→MS→Prop}{Kp:D→MS→Prop}(hdst:∀k o,k<hd→ops[k]?=some o→o.dst.isSome=true)(hlen:hd≤ops.length):
 ∀{rest:List Oper} {i:Nat} {L:Loc},ops.drop i=rest→i≤hd→L.length=i→zgo P tb N ops hd rest i L fr m K Kp→
  ∃Lh:Loc,Lh.length=hd∧Lh.drop (hd - i)=L∧(∀k,i≤k→k<hd→zwO P tb N ops hd m fr Lh k)∧zgo P tb N ops hd (ops.drop hd) hd Lh fr m K Kp
 |[],i,L,hr,hi,hL,h=>by
  have h1:=congrArg List.length hr;simp at h1;have:i=hd:=by omega
  subst this;exact⟨L,hL,by simp,fun k h1 h2=>by omega,by rw[hr];exact h⟩
 |o::rest,i,L,hr,hi,hL,h=>by
  rcases zGc i hd with hlt|hge
  ·have ho:ops[i]?=some o:=by have:=congrArg (fun l=>l[0]?) hr;simpa[zHy]using this
   have hr':ops.drop (i+1)=rest:=by rw[←zGV,hr];rfl
   have hb:Nat.blt i hd=true:=zHN hlt;have hds:=hdst i o hlt ho;unfold zgo at h;split at h
   ·exact h.elim
   rename_i g hg;rw[show(!(Nat.blt i hd)&&zDm o (evL L fr g))=false from by rw[hb];rfl]at h;simp only at h;split at h
   ·rename_i hn;rw[hn]at hds;cases hds
   ·rename_i d hd';split at h
    ·exact h.elim
    rename_i hnc;have go:∀v,ziv P tb m fr L g o v→zgo P tb N ops hd rest (i+1) ((d,g,some v)::L) fr m K Kp→∃Lh:Loc,Lh.length=hd∧Lh.drop (hd - i)=L∧(∀k,i≤k→k<hd→zwO P tb N ops hd m fr Lh k)∧zgo P tb N ops hd (ops.drop hd) hd Lh fr m K Kp:=fun v hs hx=>by
     obtain⟨Lh,h1,h2,h3,h4⟩:=zAm hdst hlen (rest:=rest) (i:=i+1) (L:=(d,g,some v)::L) hr' hlt (by simp[hL]) hx;have h5:Lh.drop (hd - i)=L:=by rw[show hd - i=hd -(i+1)+1 by omega,←zGV,h2];rfl
     refine⟨Lh,h1,h5,fun k hk1 hk2=>?_,h4⟩;rcases zGc i k with hik|hik
     ·exact h3 k hik hk2
     ·have:k=i:=by omega
      subst this;simp only[zFR]at hnc;exact⟨o,d,g,v,ho,hd',by rw[h2,h5],by rw[h5];exact hg,hnc.1,by rw[h5];exact hs⟩
    split at h
    ·rename_i tc oa ob hop;split at h
     ·rename_i cc t hl;split at h
      ·rename_i hsub;split at h
       ·rename_i v hv;exact go v (.inr ⟨tc,oa,ob,cc,t,hop,hl,hsub,hv⟩) h
       ·exact h.elim
      ·exact h.elim
     ·exact h.elim
    ·rw[hb,zIo]at h;obtain⟨v,h1,h2⟩:=zor h;exact go v (.inl h1) h2
  ·have:i=hd:=by omega
   subst this;exact⟨L,hL,by simp,fun k h1 h2=>by omega,by rw[hr];exact h⟩
end Sx
namespace Sx
variable {P:Program} {tb:TT}
structure DOk (ops:List Oper) (hd:Nat):Prop where
 le:hd≤ops.length
 inj:∀(i j:Nat) (o o':Oper) (d:Nat),ops[i]?=some o→ops[j]?=some o'→o.dst=some d→o'.dst=some d→i=j
 back:∀(i:Nat) (o:Oper),ops[i]?=some o→∀e∈o.after,Region.binds .any e=true→e.on<i
 reads:∀(i:Nat) (o:Oper),i<hd→ops[i]?=some o→∀t∈zfz o.op.operands.toList,∀(j:Nat) (o':Oper),ops[j]?=some o'→o'.dst=some t→j<i∧((zjN ops []).getD i 0).testBit j=true
 dst:∀(i:Nat) (o:Oper),i<hd→ops[i]?=some o→o.dst.isSome=true
 guard:∀(i:Nat) (o:Oper) (j:Nat) (want:Bool),i<hd→ops[i]?=some o→o.guard=some (j,want)→j<i∧((zjN ops []).getD i 0).testBit j=true
 tail:∀(i:Nat) (o:Oper),hd≤i→ops[i]?=some o→∀j,j<i→((zjN ops []).getD i 0).testBit j=true
theorem zlJ{ops:List Oper}{p:Oper×Nat→Bool}(h:ops.zipIdx.all p=true){i:Nat}{o:Oper}(ho:ops[i]?=some o):p (o,i)=true:=by refine zGr.1 h (o,i) ?_;rw[List.mem_zipIdx_iff_getElem?];exact ho
theorem zgP:∀{ops:List Oper},(ops.filterMap (·.dst)).Nodup→∀{i j:Nat} {o o':Oper} {d:Nat},ops[i]?=some o→ops[j]?=some o'→o.dst=some d→o'.dst=some d→i=j
 |[],_,_,_,_,_,_,h,_,_,_=>by cases h
 |x::r,hn,i,j,o,o',d,hi,hj,hd,hd'=>by
  have hmem:∀{k:Nat} {y:Oper},r[k]?=some y→y.dst=some d→d∈r.filterMap (·.dst):=fun hk hy=>zIs.2 ⟨_,zGz hk,hy⟩;cases hx:x.dst with
  |none=>
   rw[List.filterMap_cons_none hx]at hn;cases i with
   |zero=>cases hi;rw[hx]at hd;cases hd
   |succ i=>
    cases j with
    |zero=>cases hj;rw[hx]at hd';cases hd'
    |succ j=>exact congrArg (·+1) (zgP hn (by simpa using hi) (by simpa using hj) hd hd')
  |some c=>
   rw[List.filterMap_cons_some hx,zIp]at hn;cases i with
   |zero=>
    cases hi;cases j with
    |zero=>rfl
    |succ j=>rw[hx]at hd;cases hd;exact absurd (hmem (by simpa using hj) hd') hn.1
   |succ i=>
    cases j with
    |zero=>cases hj;rw[hx]at hd';cases hd';exact absurd (hmem (by simpa using hi) hd) hn.1
    |succ j=>exact congrArg (·+1) (zgP hn.2 (by simpa using hi) (by simpa using hj) hd hd')
theorem dok{ops:List Oper}{hd:Nat}(h:zrE ops hd=true):DOk ops hd:=by
 unfold zrE at h;simp only[zFR,zFS]at h;obtain⟨⟨h1,h2⟩,h3⟩:=h;have key:∀{i o},ops[i]?=some o→_:=fun{i o} ho=>zlJ h3 (i:=i) (o:=o) ho;simp only[zFR]at key;refine⟨zFG h1,fun i j o o' d hi hj=>zgP h2 hi hj,fun i o ho e he hb=>?_,fun i o hi ho t ht j o' hj hd'=>?_,fun i o hi ho=>?_,fun i o j want hi ho hg=>?_,fun i o hi ho j hj=>?_⟩
 ·have:=zGr.1 (key ho).1 e (by simpa using he);simp only[hb,zGB,zF8]at this;exact zFG this
 ·have h4:=(key ho).2;rw[show Nat.blt i hd=true from zHN hi]at h4;simp only[zFR]at h4;have h5:=zGr.1 h4.1.1 t ht;have h6:=zlJ h5 hj;simp only[hd',zGD,zGC,zFR]at h6;rcases h6 with h6|h6
  ·simp at h6
  ·exact⟨zFG h6.1,h6.2⟩
 ·have h4:=(key ho).2;rw[show Nat.blt i hd=true from zHN hi]at h4;simp only[zFR]at h4;exact h4.1.2
 ·have h4:=(key ho).2;rw[show Nat.blt i hd=true from zHN hi]at h4;simp only[zFR,hg]at h4;exact⟨zFG h4.2.1,h4.2.2⟩
 ·have h4:=(key ho).2;have:Nat.blt i hd=false:=by
   cases hb:Nat.blt i hd with
   |false=>rfl
   |true=>have:=zFG hb;omega
  rw[this]at h4;exact zGr.1 h4 j (by simpa using hj)
def zd5(listed:Array Bool)(j:Nat):Bool:=listed.getD j false
theorem zdk{ops:Array Oper}{listed:Array Bool}(hs:listed.size=ops.size){i:Nat}:i∈Region.ready .any ops listed↔zd5 listed i=false∧zfT ops.toList (zd5 listed) i:=by
 unfold Region.ready zfT zd5;simp only[zGH,zF1,zFR,zGC,zGo];constructor
 ·rintro⟨hi,h1,h2⟩;have ho:ops[i]?=some ops[i]:=zIS hi;refine⟨?_,ops[i],ho,fun e he hb=>?_⟩
  ·have:listed[i]?=some listed[i]:=zIS (by omega);simp only[zGe,this,zIy]at h1 ⊢;exact h1
  ·simp only[ho,zGE,zIy]at h2;have:=zIT.1 h2 e he;simpa[hb]using this
 ·rintro⟨h1,o,ho,h2⟩;have hi:=(zIq.1 ho).1;refine⟨hi,?_,?_⟩
  ·have:listed[i]?=some listed[i]:=zIS (by omega);simp only[zGe,this,zIy]at h1 ⊢;exact h1
  ·simp only[ho,zGE,zIy];refine zIT.2 fun e he=>?_;cases hb:Region.binds .any e with
   |false=>rfl
   |true=>simp[h2 e he hb]
theorem zlf{listed:Array Bool}{i j:Nat}(hi:i<listed.size):zd5 (listed.setIfInBounds i true) j=if j=i then true else zd5 listed j:=by
 unfold zd5;simp only[zGe,zIl];by_cases h:i=j
 ·subst h;simp[hi]
 ·simp[h,zIj h]
def cnt(n:Nat)(ls:Nat→Bool):Nat:=(List.range n).countP fun j=>!ls j
theorem zro{n i:Nat}{ls ls':Nat→Bool}(hi:i<n)(h0:ls i=false)(h:∀j,ls' j=if j=i then true else ls j):cnt n ls=cnt n ls'+1:=by
 unfold cnt;induction n with
 |zero=>omega
 |succ n ih=>
  rw[zFW,List.countP_append,List.countP_append];by_cases hin:i<n
  ·rw[ih hin];have:ls' n=ls n:=by rw[h];simp[show¬n=i by omega]
   simp[this];omega
  ·have:i=n:=by omega
   subst this;have e:(List.range i).countP (fun j=>!ls' j)=(List.range i).countP (fun j=>!ls j):=by apply List.countP_congr;intro j hj;have:=zF1.1 hj;rw[h];simp[show¬j=i by omega]
   rw[e];simp[h0,h]
theorem zCH{n:Nat}{ls:Nat→Bool}:∀{k:Nat},k<n→ls k=false→∃i,i<n∧ls i=false∧∀j,j<i→ls j=true
 |0,hk,h=>⟨0,hk,h,fun j hj=>by omega⟩
 |k+1,hk,h=>by
  by_cases hall:∀j,j<k+1→ls j=true
  ·exact⟨k+1,hk,h,hall⟩
  ·have⟨j,hj⟩:=zIU.1 hall;have⟨h1,h2⟩:=Classical.not_imp.1 hj;have h2:ls j=false:=by cases hq:ls j<;>simp_all
   exact leastAux h1 hk h2
 where
 leastAux {n k j:Nat} {ls:Nat→Bool} (h1:j<k+1) (hk:k+1<n) (h2:ls j=false):∃i,i<n∧ls i=false∧∀j,j<i→ls j=true:=by
  induction j using Nat.strongRecOn with
  |_ j ih=>
   by_cases hall:∀x,x<j→ls x=true
   ·exact⟨j,by omega,h2,hall⟩
   ·have⟨x,hx⟩:=zIU.1 hall;have⟨h3,h4⟩:=Classical.not_imp.1 hx;exact ih x h3 (by omega) (by cases hq:ls x<;>simp_all)
end Sx
end Go.Proofs.YtfbhkfhbnkncoaaGreatDoor
