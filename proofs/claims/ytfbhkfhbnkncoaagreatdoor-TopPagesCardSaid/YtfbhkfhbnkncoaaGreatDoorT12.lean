import Derived.Test.YtfbhkfhbnkncoaaGreatDoorT11
set_option linter.all false
namespace Go.Proofs.YtfbhkfhbnkncoaaGreatDoor
open Go.RowKit
namespace Sx
variable {P:Program} {tb:TT} {ro:Ro} {bl:Bl} {m:MS} {w:World}
def zuz:List Oper→Nat→Option Nat
 |[],_=>none
 |o::_,0=>o.dst
 |_::r,j+1=>zuz r j
def zgL(ops:List Oper)(L:Loc)(fr:List Ent):Option (Nat×Bool)→Option zeA
 |none=>some []
 |some (j,want)=>match zuz ops j with
  |some d=>match zbr L fr d with
   |some (c,.d (.bo _))=>some ((d,want)::c)
   |_=>none
  |none=>none
def gP(L:Loc)(fr:List Ent)(g:zeA):zeA→Prop→Prop
 |[],p=>p
 |(t,want)::r,p=>match zbr L fr t with
  |some (c,.d (.bo b))=>match zer c g with
   |true=>b=want→gP L fr g r p
   |false=>gP L fr g r p
  |_=>gP L fr g r p
def zi6(d:Nat):Loc→Bool
 |[]=>true
 |(_,c,_)::r=>c.all (fun p=>!(Nat.beq p.1 d))&&zi6 d r
def ze4:Loc→List Ent→List Ent
 |[],fr=>fr
 |(t,[],some v)::r,fr=>.put t v::ze4 r fr
 |(t,_,_)::r,fr=>.kill [t]::ze4 r fr
def zl3:SV→Option Bool
 | .d (.bo x)=>some x
 |_=>none
def zql(a b:Operand)(t:Bool)(x y:Option SV):Option SV:=
 match a with
 | .const (.bool true)=>match y.bind zl3 with
  |some y=>some (.d (.bo (t||y)))
  |none=>none
 |_=>match b with
  | .const (.bool false)=>match x.bind zl3 with
   |some x=>some (.d (.bo (t&&x)))
   |none=>none
  |_=>match x.bind zl3,y.bind zl3 with
   |some x,some y=>some (.d (.bo (bif t then x else y)))
   |_,_=>none
def zuG(L:Loc)(fr:List Ent):zeA→Option Bool
 |[]=>some true
 |(t,want)::r=>match zbr L fr t with
  |some (c,.d (.bo b))=>match zer c r,zuG L fr r with
   |true,some q=>some ((b==want)&&q)
   |_,_=>none
  |_=>none
def brF(k:Nat):Bool:=Nat.beq k 50
def zDm(o:Oper)(ρ:Operand→Option SV):Bool:=o.guard.isSome&&match o.op with
 | .call c=>match c.callee with
  | .value f=>match ρ f with
   |some (.ob (.yl _))=>true
   |some (.fn (.func k) _)=>brF k
   |_=>false
  |_=>false
 |_=>false
def zgo(P:Program)(tb:TT)(N:Nat)(ops:List Oper)(hd:Nat):List Oper→Nat→Loc→List Ent→MS→(List Ent→MS→Prop)→(D→MS→Prop)→Prop
 |[],_,L,fr,m,K,_=>K (ze4 L fr) m
 |o::rest,i,L,fr,m,K,Kp=>match zgL ops L fr o.guard with
  |none=>False
  |some g=>
   match !(Nat.blt i hd)&&zDm o (evL L fr g)with
   |true=>match o.dst,zuG L fr g with
    |some d,some q=>match Nat.blt d N&&zi6 d ((d,g,none)::L)with
     |true=>(q=true→xop P tb o.op m (evL L fr g) (fun p=>p) false (fun v m'=>zgo P tb N ops hd rest (i+1) ((d,g,some v)::L) fr m' K Kp) Kp)∧(q=false→∃v,zgo P tb N ops hd rest (i+1) ((d,g,some v)::L) fr m K Kp)
     |false=>False
    |_,_=>False
   |false=>match o.dst with
   |none=>xop P tb o.op m (evL L fr g) (gP L fr g g) (Nat.blt i hd||o.guard.isSome) (fun _ m'=>zgo P tb N ops hd rest (i+1) L fr m' K Kp) Kp
   |some d=>match Nat.blt d N&&zi6 d ((d,g,none)::L)with
    |false=>False
    |true=>match o.op with
     | .pick (.tmp tc) a b=>match zbr L fr tc with
      |some (cc,.d (.bo t))=>match zer cc g with
       |true=>match zql a b t (evL L fr ((tc,true)::g) a) (evL L fr ((tc,false)::g) b)with
        |some v=>zgo P tb N ops hd rest (i+1) ((d,g,some v)::L) fr m K Kp
        |none=>False
       |false=>False
      |_=>False
     |op=>xop P tb op m (evL L fr g) (gP L fr g g) (Nat.blt i hd||o.guard.isSome) (fun v m'=>zgo P tb N ops hd rest (i+1) ((d,g,some v)::L) fr m' K Kp) Kp
def zaI(a:Act)(c:zeA):Prop:=∀p∈c,a.tmps.getD p.1 undef=.bool p.2
structure SimL (ro:Ro) (bl:Bl) (L:Loc) (fr:List Ent) (N:Nat) (a:Act):Prop where
 size:a.tmps.size=N
 yes:∀t c v,zbr L fr t=some (c,v)→zaI a c→zaX ro bl v (a.tmps.getD t undef)
 no:∀t c v,zbr L fr t=some (c,v)→¬zaI a c→a.tmps.getD t undef=undef
theorem ziL{p:Nat×Bool}:∀{c:zeA},ziK p c=true→p∈c
 |[],h=>by simp[ziK]at h
 |q::r,h=>by
  unfold ziK at h;split at h
  ·rename_i hq;simp only[zFR,zGG]at hq;have:=zGk hq.1;exact zGm.2 (.inl (Prod.ext this hq.2))
  ·exact zGm.2 (.inr (ziL h))
theorem ziM:∀{c g:zeA},zer c g=true→∀p∈c,p∈g
 |[],_,_,_,hp=>by cases hp
 |q::r,g,h,p,hp=>by
  simp only[zer,zFR]at h;rcases zGm.1 hp with rfl|hp
  ·exact ziL h.1
  ·exact ziM h.2 p hp
theorem zaI.sub{a:Act}{c g:zeA}(h:zaI a g)(hs:zer c g=true):zaI a c:=fun p hp=>h p (ziM hs p hp)
theorem zsB{x:Value}{v:SV}(h:ofV x=some v):zaX ro bl v x:=by
 unfold ofV at h;split at h
 ·split at h
  ·rename_i hk;cases h;exact zdf hk
  ·cases h
 ·cases h;exact zbM _
 ·cases h;exact⟨(fun h=>by cases h),fun _=>rfl⟩
 ·cases h;exact⟨(fun h=>by cases h),fun _=>rfl⟩
 ·cases h;exact⟨(fun h=>by cases h),fun _=>zlm _ _ _ _⟩
 ·cases h;exact⟨(fun h=>by cases h),fun _=>rfl⟩
 ·cases h;exact⟨(fun h=>by cases h),fun _=>rfl⟩
 ·split at h
  ·rename_i hk;cases h;exact⟨(fun h=>by cases h),fun _=>⟨_,⟨rfl,hk⟩,rfl⟩⟩
  ·cases h
 ·cases h
theorem zgf{L:Loc}{fr:List Ent}{N:Nat}{a:Act}{g:zeA}(hS:SimL ro bl L fr N a)(hg:zaI a g){x:Operand}{v:SV}(h:evL L fr g x=some v):zaX ro bl v (a.eval x):=by
 unfold evL at h;split at h
 ·split at h
  ·rename_i c v' hl;split at h
   ·rename_i hs;cases h;exact hS.yes _ _ _ hl (hg.sub hs)
   ·cases h
  ·cases h
 ·exact zsB h
 ·cases h;exact⟨(fun h=>by cases h),fun _=>⟨[],rfl,rfl⟩⟩
 ·cases h;exact zgv.v rfl
def ztz(v:SV)(m:MS)(u:SV)(m':MS):Prop:=u=v∧m'=m
theorem zbx(v:SV)(m:MS):ztz v m v m:=⟨rfl,rfl⟩
theorem zyv{G:Prop→Prop}{K:SV→MS→Prop}{o:Unit ⊕(Nat×Nat)}{n:Nat}{t:Ty}{f:Nat→D}{l:Int}{h x:Option Int}(hh:slV G K m o n t f l h x):∃v,slV G (ztz v m) m o n t f l h x∧K v m:=by
 unfold slV at hh
 repeat' split at hh
 all_goals first|exact hh.elim|exact⟨_,⟨hh.1,zbx _ _⟩,hh.2⟩
theorem zvu{op:Op}{ρ:Operand→Option SV}{G:Prop→Prop}{K:SV→MS→Prop}{Kp:D→MS→Prop}(h:zc6 P tb op m ρ G true K Kp):∃v,zc6 P tb op m ρ G true (ztz v m) (fun _ _=>False)∧K v m:=by
 cases op<;>simp only[zc6]at h ⊢
 case call c=>
  obtain⟨callee,args,argTypes⟩:=c;cases callee with
  |value f=>
   simp only at h ⊢;split at h
   ·split at h
    ·split at h<;>(obtain⟨v,h1,hK⟩:=h;exact⟨v,⟨v,h1,zbx _ _⟩,hK⟩)
    ·exact h.elim
   ·exact h.elim
  |invoke r s=>exact h.elim
  |builtin b=>
   cases b with
   |len|min|max=>
    simp only at h ⊢
    repeat' split at h
    all_goals first|exact h.elim|exact⟨_,⟨h.1,zbx _ _⟩,h.2⟩
   |_=>exact h.elim
 case binOp op T x y yT=>
  repeat' split at h
  all_goals first|exact h.elim|exact⟨_,zbx _ _,h⟩|exact⟨_,⟨h.1,zbx _ _⟩,h.2⟩|skip
  all_goals first
   |(unfold obl at h ⊢;split at h<;>first|(rename_i hq;simp only[hq];exact⟨_,zbx _ _,h⟩)|(rename_i hq;simp only[hq];exact⟨_,⟨h.1,zbx _ _⟩,h.2⟩)|exact⟨_,zbx _ _,h⟩|exact⟨_,⟨h.1,zbx _ _⟩,h.2⟩)
   |(obtain⟨r,h1,h⟩:=h;split at h<;>first|exact⟨_,⟨r,h1,by simp only[*];exact zbx _ _⟩,h⟩|exact h.elim)
 case slice T x lo hi mx=>
  repeat' split at h
  all_goals first|exact h.elim|(obtain⟨v,h1,h2⟩:=zyv h;exact⟨v,h1,h2⟩)
 all_goals (repeat' split at h)
 all_goals first|exact h.elim|exact⟨_,zbx _ _,h⟩|exact⟨_,⟨h.1,zbx _ _⟩,h.2⟩|(simp only[pv,reduceCtorEq]at*;done)|contradiction
theorem zvv{op:Op}{ρ:Operand→Option SV}{G:Prop→Prop}{K:SV→MS→Prop}{Kp:D→MS→Prop}(h:zek P tb op m ρ G true K Kp):∃v,zek P tb op m ρ G true (ztz v m) (fun _ _=>False)∧K v m:=by
 cases op<;>simp only[zek]at h ⊢
 case call c=>
  obtain⟨callee,args,argTypes⟩:=c;cases callee with
  |value f=>
   simp only at h ⊢
   repeat' split at h
   all_goals first|exact h.elim|(obtain⟨v,h1,hK⟩:=h;exact⟨v,⟨v,h1,zbx _ _⟩,hK⟩)
  |invoke r s=>exact h.elim
  |builtin b=>
   cases b with
   |len|cap=>
    simp only at h ⊢
    repeat' split at h
    all_goals first|exact h.elim|exact⟨_,⟨h.1,zbx _ _⟩,h.2⟩
   |_=>first|exact h.elim|(simp only at h;exact h.elim)
 case slice T x lo hi mx=>
  unfold mrV at h ⊢
  repeat' split at h
  all_goals first|exact h.elim|exact⟨_,⟨h.1,zbx _ _⟩,h.2⟩|(simp at*;done)
 case insert T x k y=>
  unfold zzj at h
  repeat' split at h
  all_goals first|exact h.elim|contradiction
 case mapUpdate T x k y=>
  unfold zzj at h
  repeat' split at h
  all_goals first|exact h.elim|contradiction|(simp at*;done)
 all_goals (repeat' split at h)
 all_goals first|exact h.elim|exact⟨_,zbx _ _,h⟩|exact⟨_,⟨h.1,zbx _ _⟩,h.2⟩|contradiction|(simp at*;done)
theorem zor{op:Op}{ρ:Operand→Option SV}{G:Prop→Prop}{K:SV→MS→Prop}{Kp:D→MS→Prop}(h:xop P tb op m ρ G true K Kp):∃v,xop P tb op m ρ G true (ztz v m) (fun _ _=>False)∧K v m:=by
 unfold xop at h ⊢;split at h
 ·exact zvv h
 ·exact zvu h
theorem zpM{op:Op}{ρ:Operand→Option SV}{G:Prop→Prop}{K:SV→MS→Prop}{Kp:D→MS→Prop}(h:xop P tb op m ρ G true K Kp):∃v,K v m:=by obtain⟨v,_,hK⟩:=zor h;exact⟨v,hK⟩
end Sx
namespace Sx
variable {E:Gh}
variable {P:Program} {tb:TT} {ro:Ro} {bl:Bl} {m:MS} {w:World}
theorem zfI:∀{l:List Oper} {j:Nat},zuz l j=(l[j]?).bind (·.dst)
 |[],_=>rfl
 |_::_,0=>rfl
 |_::r,j+1=>by simpa[zuz]using zfI (l:=r) (j:=j)
theorem SimL.le{ro':Ro}{bl':Bl}{L:Loc}{fr:List Ent}{N:Nat}{a:Act}(h:SimL ro bl L fr N a)(hl:Le ro bl ro' bl'):SimL ro' bl' L fr N a:=⟨h.size,fun t c v h1 h2=>(h.yes t c v h1 h2).mono hl,h.no⟩
theorem zcm{a:Act}{d t:Nat}{x:Value}(hd:d<a.tmps.size):(a.put (some d) x).tmps.getD t undef=if t=d then x else a.tmps.getD t undef:=by
 show(a.tmps.setIfInBounds d x).getD t undef=_;simp only[zGe,zIl];by_cases h:d=t
 ·subst h;simp[hd]
 ·simp[h,zIj h]
theorem zcS{a:Act}{d:Nat}{x:Value}(hd:d<a.tmps.size){c:zeA}(hc:c.all (fun p=>!(Nat.beq p.1 d))=true):zaI (a.put (some d) x) c↔zaI a c:=by
 have:∀p∈c,p.1≠d:=fun p hp e=>by have:=zGr.1 hc p hp;rw[e]at this;simp at this
 constructor
 ·intro h p hp;have h2:=h p hp
  rwa [zcm hd,if_neg (this p hp)]at h2
 ·intro h p hp;rw[zcm hd,if_neg (this p hp)];exact h p hp
theorem zfq{d:Nat}:∀{L:Loc} {fr:List Ent} {t:Nat} {c:zeA} {v:SV},zi6 d L=true→zbr L fr t=some (c,v)→c.all (fun p=>!(Nat.beq p.1 d))=true
 |[],fr,t,c,v,_,h=>by simp only[zbr,zGj]at h;obtain⟨_,_,h⟩:=h;cases h;rfl
 |(t',c',v')::r,fr,t,c,v,hn,h=>by
  simp only[zi6,zFR]at hn;unfold zbr at h;split at h
  ·obtain⟨_,_,h⟩:=zGj.1 h;cases h;exact hn.1
  ·exact zfq hn.2 h
theorem SimL.put{L:Loc}{fr:List Ent}{N:Nat}{a:Act}(h:SimL ro bl L fr N a){d:Nat}{g:zeA}(hd:(Nat.blt d N&&zi6 d ((d,g,none)::L))=true){v:SV}{x:Value}
 (hy:zaI a g→zaX ro bl v x)(hn:¬zaI a g→x=undef):SimL ro bl ((d,g,some v)::L) fr N (a.put (some d) x):=by
 simp only[zFR,zi6]at hd;obtain⟨h1,h2,h3⟩:=hd;have hlt:d<a.tmps.size:=by rw[h.size];exact zFG h1
 refine⟨by show(a.tmps.setIfInBounds d x).size=N;simp[h.size],fun t c u hl hc=>?_,fun t c u hl hc=>?_⟩
 ·unfold zbr at hl;split at hl
  ·rename_i ht;have:=zGk ht;subst this;cases hl;rw[zcm hlt,if_pos rfl];exact hy ((zcS hlt h2).1 hc)
  ·rename_i ht;have hne:t≠d:=fun e=>by subst e;simp at ht
   rw[zcm hlt,if_neg hne];exact h.yes t c u hl ((zcS hlt (zfq h3 hl)).1 hc)
 ·unfold zbr at hl;split at hl
  ·rename_i ht;have:=zGk ht;subst this;cases hl;rw[zcm hlt,if_pos rfl];exact hn (fun h4=>hc ((zcS hlt h2).2 h4))
  ·rename_i ht;have hne:t≠d:=fun e=>by subst e;simp at ht
   rw[zcm hlt,if_neg hne];exact h.no t c u hl (fun h4=>hc ((zcS hlt (zfq h3 hl)).2 h4))
theorem zfM:∀{L:Loc} {fr:List Ent} {t:Nat} {v:SV},look (ze4 L fr) t=some v→zbr L fr t=some ([],v)
 |[],fr,t,v,h=>by simp only[ze4]at h;simp[zbr,h]
 |(t',[],some u)::r,fr,t,v,h=>by
  simp only[ze4,look]at h;simp only[zbr];split at h<;>rename_i ht<;>rw[ht]
  ·cases h;rfl
  ·exact zfM h
 |(t',[],none)::r,fr,t,v,h=>by
  simp only[ze4,look,zHF,List.any_nil,zIP]at h;simp only[zbr];split at h<;>rename_i ht
  ·cases h
  ·have:Nat.beq t' t=false:=by
    cases hb:Nat.beq t' t with
    |false=>rfl
    |true=>have:=zGk hb;subst this;simp at ht
   rw[this];exact zfM h
 |(t',p::c,u)::r,fr,t,v,h=>by
  simp only[ze4,look,zHF,List.any_nil,zIP]at h;simp only[zbr];split at h<;>rename_i ht
  ·cases h
  ·have:Nat.beq t' t=false:=by
    cases hb:Nat.beq t' t with
    |false=>rfl
    |true=>have:=zGk hb;subst this;simp at ht
   rw[this];exact zfM h
theorem SimL.flush{L:Loc}{fr:List Ent}{N:Nat}{a:Act}(h:SimL ro bl L fr N a):SimL ro bl [] (ze4 L fr) N a:=by
 refine⟨h.size,fun t c v hl hc=>?_,fun t c v hl hc=>?_⟩
 ·simp only[zbr,zGj]at hl;obtain⟨u,hu,hl⟩:=hl;cases hl;exact h.yes t [] _ (zfM hu) hc
 ·simp only[zbr,zGj]at hl;obtain⟨u,hu,hl⟩:=hl;cases hl;exact absurd (fun _ hp=>by cases hp) hc
theorem zqt{ops:Array Oper}{L:Loc}{fr:List Ent}{N:Nat}{a:Act}(h:SimL ro bl L fr N a){o:Oper}{g:zeA}(hg:zgL ops.toList L fr o.guard=some g):Region.wanted o (yielded ops a.tmps)=true↔zaI a g:=by
 unfold zgL at hg;unfold Region.wanted;split at hg
 ·rename_i hn;cases hg;rw[hn];simp only[true_iff];intro p hp;cases hp
 ·rename_i j want hn;rw[hn];split at hg
  ·rename_i d hd;rw[zfI,zGo]at hd;split at hg
   ·rename_i c b hl;cases hg;simp only[yielded,hd,zGp];have hgd:a.tmps.getD d undef=(a.tmps[d]?).getD undef:=by simp
    constructor
    ·intro hy;have hb:a.tmps.getD d undef=.bool want:=by
      rw[hgd];cases hq:a.tmps[d]? with
      |none=>rw[hq]at hy;simp at hy
      |some x=>
       rw[hq]at hy;cases x<;>simp at hy;subst hy;rfl
     have hc:zaI a c:=zGq fun hc=>by have:=h.no d c _ hl hc;rw[hb]at this;cases this
     intro p hp;rcases zGm.1 hp with rfl|hp
     ·exact hb
     ·exact hc p hp
    ·intro hy;have hb:=hy (d,want) (by simp);rw[hgd]at hb;cases hq:a.tmps[d]? with
     |none=>rw[hq]at hb;cases hb
     |some x=>rw[hq]at hb;cases hb;simp
   ·cases hg
  ·cases hg
theorem zxF{L:Loc}{fr:List Ent}{N:Nat}{a:Act}(h:SimL ro bl L fr N a){g:zeA}(hg:zaI a g):∀{c:zeA},(∀p∈c,p∈g)→∀p,gP L fr g c p→p
 |[],_,_,hp=>hp
 |(t,want)::r,hs,p,hp=>by
  unfold gP at hp;have hr:=zxF h hg (c:=r) (fun q hq=>hs q (by simp[hq])) p;split at hp
  ·rename_i c b hl;split at hp
   ·rename_i hsub;refine hr (hp ?_);have h1:=(h.yes _ _ _ hl (hg.sub hsub)).bo;rw[hg (t,want) (hs _ (by simp))]at h1;cases h1;rfl
   ·exact hr hp
  ·exact hr hp
end Sx
namespace Sx
variable {E:Gh} {r:Option Nat} {nn:Nat}
variable {P:Program} {tb:TT}
def zdJ(ws:List Nat)(a a':Act):Prop:=∀t,t∉ws→a'.tmps.getD t undef=a.tmps.getD t undef
theorem zdJ.refl(ws:List Nat)(a:Act):zdJ ws a a:=fun _ _=>rfl
theorem zdJ.trans{ws:List Nat}{a b c:Act}(h:zdJ ws a b)(k:zdJ ws b c):zdJ ws a c:=fun t ht=>(k t ht).trans (h t ht)
theorem zdJ.sub{ws ws':List Nat}{a b:Act}(h:zdJ ws a b)(hs:∀t∈ws,t∈ws'):zdJ ws' a b:=fun t ht=>h t (fun h1=>ht (hs t h1))
theorem zdJ.put{ws:List Nat}{a:Act}{d:Nat}{x:Value}(hd:d∈ws):zdJ ws a (a.put (some d) x):=fun t ht=>by show(a.tmps.setIfInBounds d x).getD t undef=_;have hne:d≠t:=fun e=>ht (e▸hd);simp only[zGe,zIl,if_neg hne]
def zcx:List Oper→List Nat
 |[]=>[]
 |o::r=>match o.dst with
  |some d=>d::zcx r
  |none=>zcx r
structure Conts (E:Gh) (ro:Ro) (bl:Bl) (N:Nat) (ws:List Nat) (a:Act) (w:World) (Q:Exit→Act→World→Prop) (K:List Ent→MS→Prop) (Kp:D→MS→Prop):Prop where
 ok:∀ro' bl' fr' m' a' w',K fr' m'→SimL ro' bl' [] fr' N a'→Mem E ro' bl' m' w'→Gr ro bl w ro' bl' w'→a'.defers=a.defers→zdJ ws a a'→Q .normal a' w'
 pan:∀ro' bl' m' a' w' d x,Kp d m'→zaX ro' bl' (.d d) x→Mem E ro' bl' m' w'→Gr ro bl w ro' bl' w'→a'.tmps.size=N→a'.defers=a.defers→zdJ ws a a'→Q (.panic [{v:=x,recovered:=false}]) a' w'
theorem Conts.next{ro ro':Ro}{bl bl':Bl}{N:Nat}{ws:List Nat}{a a':Act}{w w':World}{Q:Exit→Act→World→Prop}{K:List Ent→MS→Prop}{Kp:D→MS→Prop}(c:Conts E ro bl N ws a w Q K Kp)(hG:Gr ro bl w ro' bl' w')
 (hd:a'.defers=a.defers)(hu:zdJ ws a a'):Conts E ro' bl' N ws a' w' Q K Kp:=
 ⟨fun _ _ _ _ _ _ h1 h2 h3 h4 h5 h6=>c.ok _ _ _ _ _ _ h1 h2 h3 (hG.trans h4) (h5.trans hd) (hu.trans h6),fun _ _ _ _ _ _ _ h1 h2 h3 h4 h5 h6 h7=>c.pan _ _ _ _ _ _ _ h1 h2 h3 (hG.trans h4) h5 (h6.trans hd) (hu.trans h7)⟩
theorem zj7{ro:Ro}{bl:Bl}{L:Loc}{fr:List Ent}{N:Nat}{a:Act}(hS:SimL ro bl L fr N a):∀{g:zeA} {q:Bool},zuG L fr g=some q→(zaI a g↔q=true)
 |[],q,h=>by cases h;exact⟨fun _=>rfl,fun _ p hp=>by cases hp⟩
 |(t,want)::g,q,h=>by
  unfold zuG at h;split at h
  ·rename_i c b hl;split at h
   ·rename_i q' hsub hq';cases h;have ih:=zj7 hS hq';constructor
    ·intro hc;have hg:zaI a g:=fun p hp=>hc p (zF4 _ hp);have hv:=(hS.yes t c _ hl (hg.sub hsub)).bo;have hw:=hc (t,want) (zF3 ..);simp only at hw;rw[hv]at hw;cases hw;simp[ih.1 hg]
    ·intro hq;simp only[zFR,zGG]at hq;obtain⟨rfl,hq⟩:=hq;have hg:=ih.2 hq;intro p hp;rcases zGm.1 hp with rfl|hp
     ·exact(hS.yes t c _ hl (hg.sub hsub)).bo
     ·exact hg p hp
   ·cases h
  ·cases h
theorem zcH(hP:tb.ok P){ops:Array Oper}{N hd:Nat}{ws:List Nat}{Q:Exit→Act→World→Prop}{K:List Ent→MS→Prop}{Kp:D→MS→Prop}:∀{rest:List Oper} {i:Nat} {L:Loc} {fr:List Ent} {m:MS} {ro:Ro} {bl:Bl} {a:Act} {w:World},
 zgo P tb N ops.toList hd rest i L fr m K Kp→ops.toList.drop i=rest→(∀t∈zcx rest,t∈ws)→SimL ro bl L fr N a→Mem E ro bl m w→Conts E ro bl N ws a w Q K Kp→wpOpsIn (FR r) nn P ops Q (List.range' i rest.length) a w
 |[],i,L,fr,m,ro,bl,a,w,h,_,_,hS,hM,c=>by simp only[zIe,List.range'_zero,wpOpsIn];exact c.ok _ _ _ _ _ _ h hS.flush hM (Gr.refl _ _ _) rfl (zdJ.refl _ _)
 |o::rest,i,L,fr,m,ro,bl,a,w,h,hdr,hws,hS,hM,c=>by
  have ho:ops[i]?=some o:=by have:=congrArg (fun l=>l[0]?) hdr;simpa[zHy]using this
  have hdr':ops.toList.drop (i+1)=rest:=by rw[←zGV,hdr];rfl
  simp only[zFI,List.range'_succ,wpOpsIn,ho];unfold zgo at h;split at h
  ·exact h.elim
  rename_i g hg;have hw:=zqt hS hg;split at h
  ·split at h
   ·rename_i d q hdst hq;split at h
    ·rename_i hnc;have hd':d∈ws:=hws d (by simp only[zcx,hdst];exact zF3 ..);have hws':∀t∈zcx rest,t∈ws:=fun t ht=>hws t (by simp only[zcx,hdst];exact zF4 _ ht);have hsp:=zj7 hS hq;split
     ·rename_i hwt;have hc:=hw.1 hwt;refine zfA hP hM (fun x v hx=>zgf hS hc hx) (fun p hp=>hp) (h.1 (hsp.1 hc)) ⟨fun ro' bl' m' w' v x hK hx hM' hG=>?_,fun ro' bl' m' w' d x hK hx hM' hG=>c.pan _ _ _ _ _ _ _ hK hx hM' hG hS.size rfl (zdJ.refl _ _)⟩;rw[hdst];exact zcH hP hK hdr' hws' ((hS.le hG.le).put hnc (fun _=>hx) (fun hn=>absurd hc hn)) hM' (c.next hG rfl (zdJ.put hd'))
     ·rename_i hwt;rw[hdst];obtain⟨v,hK⟩:=h.2 (by cases q with
       |false=>rfl
       |true=>exact absurd (hw.2 (hsp.2 rfl)) hwt)
      exact⟨fun _ _=>trivial,zcH hP hK hdr' hws' (hS.put hnc (fun hc=>absurd (hw.2 hc) hwt) (fun _=>rfl)) hM (c.next (Gr.refl _ _ _) rfl (zdJ.put hd'))⟩
    ·exact h.elim
   ·exact h.elim
  split at h
  ·rename_i hdst;have hws':∀t∈zcx rest,t∈ws:=fun t ht=>hws t (by simp only[zcx,hdst];exact ht);have hput:∀x,a.put o.dst x=a:=fun x=>by rw[hdst];rfl
   split
   ·rename_i hwt;have hc:=hw.1 hwt;refine zfA hP hM (fun x v hx=>zgf hS hc hx) (fun p hp=>zxF hS hc (fun q hq=>hq) p hp) h ⟨fun ro' bl' m' w' v x hK hx hM' hG=>?_,fun ro' bl' m' w' d x hK hx hM' hG=>c.pan _ _ _ _ _ _ _ hK hx hM' hG hS.size rfl (zdJ.refl _ _)⟩;rw[hput];exact zcH hP hK hdr' hws' (hS.le hG.le) hM' (c.next hG rfl (zdJ.refl _ _))
   ·rename_i hwt;rw[hput];cases hgd:o.guard with
    |none=>rw[hgd]at hg;cases hg;exact absurd (hw.2 (fun p hp=>by cases hp)) hwt
    |some q=>
     rw[hgd]at h;simp only[Option.isSome_some,zHu]at h;obtain⟨v,hK⟩:=zpM h;exact⟨fun _ _=>trivial,zcH hP hK hdr' hws' hS hM c⟩
  ·rename_i d hdst;split at h
   ·exact h.elim
   rename_i hnc;have hd':d∈ws:=hws d (by simp only[zcx,hdst];exact zF3 ..);have hws':∀t∈zcx rest,t∈ws:=fun t ht=>hws t (by simp only[zcx,hdst];exact zF4 _ ht);have gen:∀{G:Prop→Prop},(zaI a g→∀p,G p→p)→xop P tb o.op m (evL L fr g) G (Nat.blt i hd||o.guard.isSome) (fun v m'=>zgo P tb N ops.toList hd rest (i+1) ((d,g,some v)::L) fr m' K Kp) Kp→
    (if Region.wanted o (yielded ops a.tmps)=true then o.wpIn (FR r) nn P a w (wpOpsIn (FR r) nn P ops Q (List.range' (i+1) rest.length)) Q else(∀f,o.about P w a.eval=some f→(FR r).fn f)∧wpOpsIn (FR r) nn P ops Q (List.range' (i+1) rest.length) (a.put o.dst undef) w):=by
    intro G hG h;split
    ·rename_i hwt;have hc:=hw.1 hwt;refine zfA hP hM (fun x v hx=>zgf hS hc hx) (hG hc) h ⟨fun ro' bl' m' w' v x hK hx hM' hG=>?_,fun ro' bl' m' w' d x hK hx hM' hG=>c.pan _ _ _ _ _ _ _ hK hx hM' hG hS.size rfl (zdJ.refl _ _)⟩;rw[hdst];exact zcH hP hK hdr' hws' ((hS.le hG.le).put hnc (fun _=>hx) (fun hn=>absurd hc hn)) hM' (c.next hG rfl (zdJ.put hd'))
    ·rename_i hwt;rw[hdst];cases hgd:o.guard with
     |none=>rw[hgd]at hg;cases hg;exact absurd (hw.2 (fun p hp=>by cases hp)) hwt
     |some q=>
      rw[hgd]at h;simp only[Option.isSome_some,zHu]at h;obtain⟨v,hK⟩:=zpM h;exact⟨fun _ _=>trivial,zcH hP hK hdr' hws' (hS.put hnc (fun hc=>absurd (hw.2 hc) hwt) (fun _=>rfl)) hM (c.next (Gr.refl _ _ _) rfl (zdJ.put hd'))⟩
   split at h
   ·rename_i tc oa ob hop;split at h
    ·rename_i cc t hl;split at h
     ·rename_i hsub;split at h
      ·rename_i v hv;have key:zaI a g→∃x,(execOp a.eval o).run P w=.ok (.value x) w∧zaX ro bl v x:=fun hc=>by
        have ht:=(hS.yes _ _ _ hl (hc.sub hsub)).bo;have ha:t=true→∀x,evL L fr ((tc,true)::g) oa=some x→zaX ro bl x (a.eval oa):=fun e x hx=>zgf hS (fun p hp=>by
         rcases zGm.1 hp with rfl|hp
         ·rw[ht,e]
         ·exact hc p hp) hx
        have hb:t=false→∀x,evL L fr ((tc,false)::g) ob=some x→zaX ro bl x (a.eval ob):=fun e x hx=>zgf hS (fun p hp=>by
         rcases zGm.1 hp with rfl|hp
         ·rw[ht,e]
         ·exact hc p hp) hx
        have hrun:(execOp a.eval o).run P w=.ok (.value (if t then a.eval oa else a.eval ob)) w:=by have e1:a.eval (.tmp tc)=.bool t:=ht;unfold execOp;rw[hop];cases t<;>simp[e1,asBool]
        refine⟨_,hrun,?_⟩;have hbool:∀{u:Option SV} {y:Bool},u.bind zl3=some y→u=some (.d (.bo y)):=fun{u y} hu=>by
         obtain⟨z,hz,hy⟩:=zGl.1 hu;subst hz;unfold zl3 at hy;split at hy
         ·cases hy;rfl
         ·cases hy
        unfold zql at hv;split at hv
        ·split at hv
         ·rename_i y hy;cases hv;cases t with
          |true=>exact zbM true
          |false=>have:=hb rfl _ (hbool hy);simpa using this
         ·cases hv
        ·split at hv
         ·split at hv
          ·rename_i x hx;cases hv;cases t with
           |true=>have:=ha rfl _ (hbool hx);simpa using this
           |false=>exact zbM false
          ·cases hv
         ·split at hv
          ·rename_i x y hx hy;cases hv;cases t with
           |true=>have:=ha rfl _ (hbool hx);simpa using this
           |false=>have:=hb rfl _ (hbool hy);simpa using this
          ·cases hv
       split
       ·rename_i hwt;obtain⟨x,hr,hx⟩:=key (hw.1 hwt);refine zmJ (fun c hc=>by rw[hop]at hc;cases hc) ?_;rw[hr];show wpOpsIn (FR r) nn P ops Q _ (a.put o.dst x) w;rw[hdst];exact zcH hP h hdr' hws' (hS.put hnc (fun _=>hx) (fun hn=>absurd (hw.1 hwt) hn)) hM (c.next (Gr.refl _ _ _) rfl (zdJ.put hd'))
       ·rename_i hwt;rw[hdst];exact⟨fun _ _=>trivial,zcH hP h hdr' hws' (hS.put hnc (fun hc=>absurd (hw.2 hc) hwt) (fun _=>rfl)) hM (c.next (Gr.refl _ _ _) rfl (zdJ.put hd'))⟩
      ·exact h.elim
     ·exact h.elim
    ·exact h.elim
   ·exact gen (fun hc p hp=>zxF hS hc (fun q hq=>hq) p hp) h
end Sx
end Go.Proofs.YtfbhkfhbnkncoaaGreatDoor
