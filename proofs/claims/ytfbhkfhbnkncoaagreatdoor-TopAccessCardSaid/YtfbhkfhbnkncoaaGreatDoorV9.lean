import Derived.Test.YtfbhkfhbnkncoaaGreatDoorV8
import Derived.Deep.LoopGhost
import Derived.ControlIn
set_option linter.all false
namespace Go.Proofs.YtfbhkfhbnkncoaaGreatDoor
open Go.RowKit
namespace Sx
variable {P:Program} {tb:TT} {O:Ro} {J:Bl} {m:MS} {w:World}
variable{a:Act}{g:jl}{Kp:D->MS->Prop}{op:Op}{ρ:Operand->Option SV}{G:Prop->Prop}{K:SV->MS->Prop}
def DJ:List Oper->Nat->Option Nat
 |[],_=>none
 |o::_,0=>o.dst
 |_::r,j+1=>DJ r j
def qF(b:List Oper)(L:j9)(V:List Ent):Option (Nat×Bool)->Option jl
 |none=>some []
 |some (j,a)=>match DJ b j with
  |some d=>match fP L V d with
   |some (c,.d (.I _))=>some ((d,a)::c)
   |_=>none
  |none=>none
def gP(L:j9)(V:List Ent)(g:jl):jl->Prop->Prop
 |[],p=>p
 |(t,a)::r,p=>match fP L V t with
  |some (c,.d (.I b))=>match tX c g with
   |true=>b=a->gP L V g r p
   |false=>gP L V g r p
  |_=>gP L V g r p
def xI(d:Nat):j9->Bool
 |[]=>true
 |(_,c,_)::r=>c.all (λp=>!(Nat.beq p.1 d))&&xI d r
def sr:j9->List Ent->List Ent
 |[],V=>V
 |(t,[],some v)::r,V=>.put t v::sr r V
 |(t,_,_)::r,V=>.kill [t]::sr r V
def vU:SV->Option Bool
 | .d (.I x)=>some x
 |_=>none
def zt(a b:Operand)(t:Bool)(x y:Option SV):Option SV:=
 match a with
 | .const (.bool true)=>match y.bind vU with
  |some y=>some (.d (.I (t||y)))
  |none=>none
 |_=>match b with
  | .const (.bool false)=>match x.bind vU with
   |some x=>some (.d (.I (t&&x)))
   |none=>none
  |_=>match x.bind vU,y.bind vU with
   |some x,some y=>some (.d (.I (bif t then x else y)))
   |_,_=>none
def DV(L:j9)(V:List Ent):jl->Option Bool
 |[]=>some true
 |(t,a)::r=>match fP L V t with
  |some (c,.d (.I b))=>match tX c r,DV L V r with
   |true,some q=>some ((b==a)&&q)
   |_,_=>none
  |_=>none
def Ww(k:Nat):Bool:=Nat.beq k 50
def Wx(o:Oper)(ρ:Operand->Option SV):Bool:=o.guard.isSome&&match o.op with
 | .call c=>match c.callee with
  | .value f=>match ρ f with
   |some (.ob (.yl _))=>true
   |some (.fn (.func k) _)=>Ww k
   |_=>false
  |_=>false
 |_=>false
def vB(P:Program)(tb:TT)(N:Nat)(c:List Oper)(hd:Nat):List Oper->Nat->j9->List Ent->MS->(List Ent->MS->Prop)->(D->MS->Prop)->Prop
 |[],_,L,V,m,K,_=>K (sr L V) m
 |o::C,i,L,V,m,K,e=>match qF c L V o.guard with
  |none=>False
  |some g=>
   match !(Nat.blt i hd)&&Wx o (iQ L V g)with
   |true=>match o.dst,DV L V g with
    |some d,some q=>match Nat.blt d N&&xI d ((d,g,none)::L)with
     |true=>(q=true->lN P tb o.op m (iQ L V g) (λp=>p) false (λv U=>vB P tb N c hd C (i+1) ((d,g,some v)::L) V U K e) e)/\(q=false->∃v,vB P tb N c hd C (i+1) ((d,g,some v)::L) V m K e)
     |false=>False
    |_,_=>False
   |false=>match o.dst with
   |none=>lN P tb o.op m (iQ L V g) (gP L V g g) (Nat.blt i hd||o.guard.isSome) (λ_ U=>vB P tb N c hd C (i+1) L V U K e) e
   |some d=>match Nat.blt d N&&xI d ((d,g,none)::L)with
    |false=>False
    |true=>match o.op with
     | .pick (.tmp f) a b=>match fP L V f with
      |some (h,.d (.I t))=>match tX h g with
       |true=>match zt a b t (iQ L V ((f,true)::g) a) (iQ L V ((f,false)::g) b)with
        |some v=>vB P tb N c hd C (i+1) ((d,g,some v)::L) V m K e
        |none=>False
       |false=>False
      |_=>False
     |j=>lN P tb j m (iQ L V g) (gP L V g g) (Nat.blt i hd||o.guard.isSome) (λv U=>vB P tb N c hd C (i+1) ((d,g,some v)::L) V U K e) e
def iu(a:Act)(c:jl):Prop:=∀p∈c,a.tmps.getD p.1 undef=.bool p.2
structure SimL (ro:Ro) (bl:Bl) (L:j9) (K:List Ent) (N:Nat) (a:Act):Prop where
 size:a.tmps.size=N
 yes:∀t c v,fP L K t=some (c,v)->iu a c->du ro bl v (a.tmps.getD t undef)
 no:∀t c v,fP L K t=some (c,v)->¬iu a c->a.tmps.getD t undef=undef
def N0{p:Nat×Bool}:∀{c:jl},Aq p c=true->p∈c
 |[],h=>by simp[Aq]at h
 |q::r,h=>by
  unfold Aq at h;split at h
  .rename_i a;simp only[dH,gG]at a;have:=fp a.1;exact iB.2 (.inl (Prod.ext this a.2))
  .exact iB.2 (.inr (N0 h))
def N1:∀{c g:jl},tX c g=true->∀p∈c,p∈g
 |[],_,_,_,a=>by cases a
 |q::r,g,h,p,a=>by
  simp only[tX,dH]at h;rcases iB.1 a with rfl|a
  .exact N0 h.1
  .exact N1 h.2 p a
def iu.sub{c:jl}(h:iu a g)(j:tX c g=true):iu a c:=λp f=>h p (N1 j p f)
def QB{x:Value}{v:SV}(h:JC x=some v):du O J v x:=by
 unfold JC at h;split at h
 .split at h
  .rename_i a;cases h;exact oc a
  .cases h
 .cases h;exact lY _
 .cases h;exact⟨ef,λ_=>rfl⟩
 .cases h;exact⟨ef,λ_=>rfl⟩
 .cases h;exact⟨ef,λ_=>Jw _ _ _ _⟩
 .cases h;exact⟨ef,λ_=>rfl⟩
 .cases h;exact⟨ef,λ_=>rfl⟩
 .split at h
  .rename_i a;cases h;exact⟨ef,λ_=>⟨_,⟨rfl,a⟩,rfl⟩⟩
  .cases h
 .cases h
def v9{L:j9}{V:List Ent}{N:Nat}(b:SimL O J L V N a)(d:iu a g){x:Operand}{v:SV}(h:iQ L V g x=some v):du O J v (a.eval x):=by
 unfold iQ at h;split at h
 .split at h
  .rename_i c i e;split at h
   .rename_i f;cases h;exact b.yes _ _ _ e (d.sub f)
   .cases h
  .cases h
 .exact QB h
 .cases h;exact⟨ef,λ_=>⟨[],rfl,rfl⟩⟩
 .cases h;exact ka.v rfl
def tQ(v:SV)(m:MS)(u:SV)(U:MS):Prop:=u=v/\U=m
def ph(v:SV)(m:MS):tQ v m v m:=⟨rfl,rfl⟩
def zdw{o:Unit ⊕(Nat×Nat)}{n:Nat}{t:Ty}{f:Nat->D}{l:Int}{h x:Option Int}(a:qW G K m o n t f l h x):∃v,qW G (tQ v m) m o n t f l h x/\K v m:=by
 unfold qW at a
 repeat' split at a
 all_goals first|exact a.elim|exact⟨_,⟨a.1,ph _ _⟩,a.2⟩
def ze6(h:gu P tb op m ρ G true K Kp):∃v,gu P tb op m ρ G true (tQ v m) (λ_ _=>False)/\K v m:=by
 cases op<;>simp only[gu]at h ⊢
 case call c=>
  obtain⟨callee,args,argTypes⟩:=c;cases callee with
  |value f=>
   simp only at h ⊢;split at h
   .split at h
    .split at h<;>(obtain⟨v,h1,hK⟩:=h;exact⟨v,⟨v,h1,ph _ _⟩,hK⟩)
    .exact h.elim
   .exact h.elim
  |invoke r s=>exact h.elim
  |builtin b=>
   cases b with
   |len|min|max=>
    simp only at h ⊢
    repeat' split at h
    all_goals first|exact h.elim|exact⟨_,⟨h.1,ph _ _⟩,h.2⟩
   |_=>exact h.elim
 case binOp op T x y yT=>
  repeat' split at h
  all_goals first|exact h.elim|exact⟨_,ph _ _,h⟩|exact⟨_,⟨h.1,ph _ _⟩,h.2⟩|skip
  all_goals first
   |(unfold tn at h ⊢;split at h<;>first|(rename_i hq;simp only[hq];exact⟨_,ph _ _,h⟩)|(rename_i hq;simp only[hq];exact⟨_,⟨h.1,ph _ _⟩,h.2⟩)|exact⟨_,ph _ _,h⟩|exact⟨_,⟨h.1,ph _ _⟩,h.2⟩)
   |(obtain⟨r,h1,h⟩:=h;split at h<;>first|exact⟨_,⟨r,h1,by simp only[*];exact ph _ _⟩,h⟩|exact h.elim)
 case slice T x lo hi mx=>
  repeat' split at h
  all_goals first|exact h.elim|(obtain⟨v,h1,h2⟩:=zdw h;exact⟨v,h1,h2⟩)
 all_goals (repeat' split at h)
 all_goals first|exact h.elim|exact⟨_,ph _ _,h⟩|exact⟨_,⟨h.1,ph _ _⟩,h.2⟩|(simp only[pv,reduceCtorEq]at*;done)|contradiction
def ze9(h:ib P tb op m ρ G true K Kp):∃v,ib P tb op m ρ G true (tQ v m) (λ_ _=>False)/\K v m:=by
 cases op<;>simp only[ib]at h ⊢
 case call c=>
  obtain⟨callee,args,argTypes⟩:=c;cases callee with
  |value f=>
   simp only at h ⊢
   repeat' split at h
   all_goals first|exact h.elim|(obtain⟨v,h1,hK⟩:=h;exact⟨v,⟨v,h1,ph _ _⟩,hK⟩)
  |invoke r s=>exact h.elim
  |builtin b=>
   cases b with
   |len|cap=>
    simp only at h ⊢
    repeat' split at h
    all_goals first|exact h.elim|exact⟨_,⟨h.1,ph _ _⟩,h.2⟩
   |_=>first|exact h.elim|(simp only at h;exact h.elim)
 case slice T x lo hi mx=>
  unfold Jp at h ⊢
  repeat' split at h
  all_goals first|exact h.elim|exact⟨_,⟨h.1,ph _ _⟩,h.2⟩|(simp at*;done)
 case insert T x k y=>
  unfold zQ at h
  repeat' split at h
  all_goals first|exact h.elim|contradiction
 case mapUpdate T x k y=>
  unfold zQ at h
  repeat' split at h
  all_goals first|exact h.elim|contradiction|(simp at*;done)
 all_goals (repeat' split at h)
 all_goals first|exact h.elim|exact⟨_,ph _ _,h⟩|exact⟨_,⟨h.1,ph _ _⟩,h.2⟩|contradiction|(simp at*;done)
def Ts{a:Op}(h:lN P tb a m ρ G true K Kp):∃v,lN P tb a m ρ G true (tQ v m) (λ_ _=>False)/\K v m:=by
 unfold lN at h ⊢;split at h
 .exact ze9 h
 .exact ze6 h
def Tt{b:Op}(h:lN P tb b m ρ G true K Kp):∃v,K v m:=by obtain⟨v,_,a⟩:=Ts h;exact⟨v,a⟩
end Sx
namespace Sx
variable {E:Gh}
variable {P:Program} {tb:TT} {O:Ro} {J:Bl} {m:MS} {w:World}
variable{a:Act}{g:jl}{V:List Ent}{L:j9}{N d:Nat}{x:Value}
def yW:∀{l:List Oper} {j:Nat},DJ l j=(l[j]?).bind (·.dst)
 |[],_=>rfl
 |_::_,0=>rfl
 |_::r,j+1=>by simpa[DJ]using yW (l:=r) (j:=j)
def SimL.le{j:Ro}{f:Bl}(h:SimL O J L V N a)(C:Le O J j f):SimL j f L V N a:=⟨h.size,λt c v u A=>(h.yes t c v u A).mono C,h.no⟩
def qR{t:Nat}(hd:d<a.tmps.size):(a.put (some d) x).tmps.getD t undef=if t=d then x else a.tmps.getD t undef:=by
 show(a.tmps.setIfInBounds d x).getD t undef=_;simp only[oO,uH];by_cases h:d=t
 .subst h;simp[hd]
 .simp[h,sZ h]
def yM(hd:d<a.tmps.size){c:jl}(g:c.all (λp=>!(Nat.beq p.1 d))=true):iu (a.put (some d) x) c↔iu a c:=by
 have:∀p∈c,p.1≠d:=λp b e=>by have:=pQ.1 g p b;rw[e]at this;simp at this
 constructor
 .intro h p b;have f:=h p b
  rwa [qR hd,if_neg (this p b)]at f
 .intro h p b;rw[qR hd,if_neg (this p b)];exact h p b
def Jx{d:Nat}:∀{L:j9} {V:List Ent} {t:Nat} {c:jl} {v:SV},xI d L=true->fP L V t=some (c,v)->c.all (λp=>!(Nat.beq p.1 d))=true
 |[],V,t,c,v,_,h=>by simp only[fP,fB]at h;obtain⟨_,_,h⟩:=h;cases h;rfl
 |(b,Z,e)::r,V,t,c,v,a,h=>by
  simp only[xI,dH]at a;unfold fP at h;split at h
  .obtain⟨_,_,h⟩:=fB.1 h;cases h;exact a.1
  .exact Jx a.2 h
def SimL.put(h:SimL O J L V N a)(hd:(Nat.blt d N&&xI d ((d,g,none)::L))=true){v:SV}(S:iu a g->du O J v x)(R:¬iu a g->x=undef):SimL O J ((d,g,some v)::L) V N (a.put (some d) x):=by
 simp only[dH,xI]at hd;obtain⟨Q,K,M⟩:=hd;have f:d<a.tmps.size:=by rw[h.size];exact dF Q
 refine⟨by show(a.tmps.setIfInBounds d x).size=N;simp[h.size],λt c u j F=>?_,λt c u j F=>?_⟩
 .unfold fP at j;split at j
  .rename_i C;have:=fp C;subst this;cases j;rw[qR f,if_pos rfl];exact S ((yM f K).1 F)
  .rename_i C;have A:t≠d:=λe=>by subst e;simp at C
   rw[qR f,if_neg A];exact h.yes t c u j ((yM f (Jx M j)).1 F)
 .unfold fP at j;split at j
  .rename_i C;have:=fp C;subst this;cases j;rw[qR f,if_pos rfl];exact R λG=>F ((yM f K).2 G)
  .rename_i C;have A:t≠d:=λe=>by subst e;simp at C
   rw[qR f,if_neg A];exact h.no t c u j λG=>F ((yM f (Jx M j)).2 G)
def Ew:∀{L:j9} {V:List Ent} {t:Nat} {v:SV},look (sr L V) t=some v->fP L V t=some ([],v)
 |[],V,t,v,h=>by simp only[sr]at h;simp[fP,h]
 |(a,[],some u)::r,V,t,v,h=>by
  simp only[sr,look]at h;simp only[fP];split at h<;>rename_i b<;>rw[b]
  .cases h;rfl
  .exact Ew h
 |(a,[],none)::r,V,t,v,h=>by
  simp only[sr,look,z3,List.any_nil,wP]at h;simp only[fP];split at h<;>rename_i b
  .cases h
  .have:Nat.beq a t=false:=by
    cases d:Nat.beq a t with
    |false=>rfl
    |true=>have:=fp d;subst this;simp at b
   rw[this];exact Ew h
 |(a,p::c,u)::r,V,t,v,h=>by
  simp only[sr,look,z3,List.any_nil,wP]at h;simp only[fP];split at h<;>rename_i b
  .cases h
  .have:Nat.beq a t=false:=by
    cases d:Nat.beq a t with
    |false=>rfl
    |true=>have:=fp d;subst this;simp at b
   rw[this];exact Ew h
def SimL.flush(h:SimL O J L V N a):SimL O J [] (sr L V) N a:=by
 refine⟨h.size,λt c v f j=>?_,λt c v f j=>?_⟩
 .simp only[fP,fB]at f;obtain⟨u,A,f⟩:=f;cases f;exact h.yes t [] _ (Ew A) j
 .simp only[fP,fB]at f;obtain⟨u,A,f⟩:=f;cases f;exact b3 (λ_ C=>by cases C) j
def zeK{r:Array Oper}(h:SimL O J L V N a){o:Oper}(f:qF r.toList L V o.guard=some g):Region.wanted o (yielded r a.tmps)=true↔iu a g:=by
 unfold qF at f;unfold Region.wanted;split at f
 .rename_i t;cases f;rw[t];simp only[true_iff];intro p n;cases n
 .rename_i j i t;rw[t];split at f
  .rename_i d u;rw[yW,pN]at u;split at f
   .rename_i c b v;cases f;simp only[yielded,u,sd];have l:a.tmps.getD d undef=(a.tmps[d]?).getD undef:=eA
    constructor
    .intro k;have e:a.tmps.getD d undef=.bool i:=by
      rw[l];cases q:a.tmps[d]? with
      |none=>rw[q]at k;simp at k
      |some x=>
       rw[q]at k;cases x<;>simp at k;subst k;rfl
     have s:iu a c:=Gl λs=>by have:=h.no d c _ v s;rw[e]at this;cases this
     intro p n;rcases iB.1 n with rfl|n
     .exact e
     .exact s p n
    .intro k;have e:=k (d,i) eA;rw[l]at e;cases q:a.tmps[d]? with
     |none=>rw[q]at e;cases e
     |some x=>rw[q]at e;cases e;simp
   .cases f
  .cases f
def Is{L:j9}{V:List Ent}{N:Nat}{a:Act}(h:SimL O J L V N a){g:jl}(i:iu a g):∀{c:jl},(∀p∈c,p∈g)->∀p,gP L V g c p->p
 |[],_,_,d=>d
 |(t,f)::r,l,p,d=>by
  unfold gP at d;have j:=Is h i (c:=r) (λq o=>l q (by simp[o])) p;split at d
  .rename_i c b n;split at d
   .rename_i e;refine j (d ?_);have k:=(h.yes _ _ _ n (i.sub e)).I;rw[i (t,f) (l _ eA)]at k;cases k;rfl
   .exact j d
  .exact j d
end Sx
namespace Sx
variable {E:Gh} {r:Option Nat} {nn:Nat}
variable {P:Program} {tb:TT}
variable{G T a b:Act}{F:Bool}{Kp:D->MS->Prop}{e:Exit}{Q:Exit->Act->World->Prop}{S:List Nat}{U:MS}{N:Nat}{O j:Ro}{M w:World}
def gN(S:List Nat)(a T:Act):Prop:=∀t,t∉S->T.tmps.getD t undef=a.tmps.getD t undef
def gN.refl(S:List Nat)(a:Act):gN S a a:=λ_ _=>rfl
def gN.trans{c:Act}(h:gN S a b)(k:gN S b c):gN S a c:=λt f=>(k t f).trans (h t f)
def gN.sub{f:List Nat}(h:gN S a b)(u:∀t∈S,t∈f):gN f a b:=λt A=>h t λj=>A (u t j)
def gN.put{d:Nat}{x:Value}(hd:d∈S):gN S a (a.put (some d) x):=λt j=>by show(a.tmps.setIfInBounds d x).getD t undef=_;have f:d≠t:=λe=>j (e▸hd);simp only[oO,uH,if_neg f]
def lB:List Oper->List Nat
 |[]=>[]
 |o::r=>match o.dst with
  |some d=>d::lB r
  |none=>lB r
structure Conts (E:Gh) (ro:Ro) (bl:Bl) (N:Nat) (ws:List Nat) (a:Act) (w:World) (Q:Exit->Act->World->Prop) (K:List Ent->MS->Prop) (Kp:D->MS->Prop):Prop where
 ok:∀ro' bl' fr' m' a' w',K fr' m'->SimL ro' bl' [] fr' N a'->Mem E ro' bl' m' w'->Gr ro bl w ro' bl' w'->a'.defers=a.defers->gN ws a a'->Q .normal a' w'
 P:∀ro' bl' m' a' w' d x,Kp d m'->du ro' bl' (.d d) x->Mem E ro' bl' m' w'->Gr ro bl w ro' bl' w'->a'.tmps.size=N->a'.defers=a.defers->gN ws a a'->Q (.panic [{v:=x,recovered:=false}]) a' w'
def Conts.next{J f:Bl}{K:List Ent->MS->Prop}(c:Conts E O J N S a w Q K Kp)(R:Gr O J w j f M)(hd:T.defers=a.defers)(U:gN S a T):Conts E j f N S T M Q K Kp:=
 ⟨λ_ _ _ _ _ _ u A C F G L=>c.ok _ _ _ _ _ _ u A C (R.trans F) (G.trans hd) (U.trans L),λ_ _ _ _ _ _ _ u A C F G L V=>c.P _ _ _ _ _ _ _ u A C (R.trans F) G (L.trans hd) (U.trans V)⟩
def O1{O:Ro}{J:Bl}{L:j9}{V:List Ent}{N:Nat}{a:Act}(k:SimL O J L V N a):∀{g:jl} {q:Bool},DV L V g=some q->(iu a g↔q=true)
 |[],q,h=>by cases h;exact⟨λ_=>rfl,λ_ p e=>by cases e⟩
 |(t,i)::g,q,h=>by
  unfold DV at h;split at h
  .rename_i c b o;split at h
   .rename_i v d l;cases h;have s:=O1 k l;constructor
    .intro n;have f:iu a g:=λp e=>n p (fA _ e);have u:=(k.yes t c _ o (f.sub d)).I;have m:=n (t,i) (fQ ..);simp only at m;rw[u]at m;cases m;simp[s.1 f]
    .intro j;simp only[dH,gG]at j;obtain⟨rfl,j⟩:=j;have f:=s.2 j;intro p e;rcases iB.1 e with rfl|e
     .exact(k.yes t c _ o (f.sub d)).I
     .exact f p e
   .cases h
  .cases h
def vp(hP:tb.ok P){T:Array Oper}{N hd:Nat}{S:List Nat}{Q:Exit->Act->World->Prop}{K:List Ent->MS->Prop}{Kp:D->MS->Prop}:∀{C:List Oper} {i:Nat} {L:j9} {V:List Ent} {m:MS} {O:Ro} {J:Bl} {a:Act} {w:World},
 vB P tb N T.toList hd C i L V m K Kp->T.toList.drop i=C->(∀t∈lB C,t∈S)->SimL O J L V N a->Mem E O J m w->Conts E O J N S a w Q K Kp->wpOpsIn (FR r) nn P T Q (List.range' i C.length) a w
 |[],i,L,V,m,O,J,a,w,h,_,_,R,hM,c=>by simp only[yn,List.range'_zero,wpOpsIn];exact c.ok _ _ _ _ _ _ h R.flush hM (Gr.refl _ _ _) rfl (gN.refl _ _)
 |o::C,i,L,V,m,O,J,a,w,h,ah,ae,R,hM,c=>by
  have ho:T[i]?=some o:=by have:=dE (λl=>l[0]?) ah;simpa[sT]using this
  have n:T.toList.drop (i+1)=C:=by rw[<-pS,ah];rfl
  simp only[jV,List.range'_succ,wpOpsIn,ho];unfold vB at h;split at h
  .cases h
  rename_i g hg;have hw:=zeK R hg;split at h
  .split at h
   .rename_i d q b hq;split at h
    .rename_i ab;have aa:d∈S:=ae d (by simp only[lB,b];exact fQ ..);have k:∀t∈lB C,t∈S:=λt ht=>ae t (by simp only[lB,b];exact fA _ ht);have ak:=O1 R hq;split
     .rename_i j;have A:=hw.1 j;refine Cc hP hM (λx v s=>v9 R A s) (λp Z=>Z) (h.1 (ak.1 A)) ⟨λaf ac U M v x Y s F hG=>?_,λaf ac U M d x Y s F hG=>c.P _ _ _ _ _ _ _ Y s F hG R.size rfl (gN.refl _ _)⟩;rw[b];exact vp hP Y n k ((R.le hG.le).put ab (λ_=>s) λhn=>b3 A hn) F (c.next hG rfl (gN.put aa))
     .rename_i j;rw[b];obtain⟨v,Y⟩:=h.2 (by cases q with
       |false=>rfl
       |true=>exact b3 (hw.2 (ak.2 rfl)) j)
      exact⟨λ_ _=>trivial,vp hP Y n k (R.put ab (λA=>b3 (hw.2 A) j) λ_=>rfl) hM (c.next (Gr.refl _ _ _) rfl (gN.put aa))⟩
    .cases h
   .cases h
  split at h
  .rename_i b;have k:∀t∈lB C,t∈S:=λt ht=>ae t (by simp only[lB,b];exact ht);have ag:∀x,a.put o.dst x=a:=λx=>by rw[b];rfl
   split
   .rename_i j;have A:=hw.1 j;refine Cc hP hM (λx v s=>v9 R A s) (λp Z=>Is R A (λq hq=>hq) p Z) h ⟨λaf ac U M v x Y s F hG=>?_,λaf ac U M d x Y s F hG=>c.P _ _ _ _ _ _ _ Y s F hG R.size rfl (gN.refl _ _)⟩;rw[ag];exact vp hP Y n k (R.le hG.le) F (c.next hG rfl (gN.refl _ _))
   .rename_i j;rw[ag];cases ad:o.guard with
    |none=>rw[ad]at hg;cases hg;exact b3 (hw.2 λp Z=>by cases Z) j
    |some q=>
     rw[ad]at h;simp only[Option.isSome_some,Gk]at h;obtain⟨v,Y⟩:=Tt h;exact⟨λ_ _=>trivial,vp hP Y n k R hM c⟩
  .rename_i d b;split at h
   .cases h
   rename_i ab;have aa:d∈S:=ae d (by simp only[lB,b];exact fQ ..);have k:∀t∈lB C,t∈S:=λt ht=>ae t (by simp only[lB,b];exact fA _ ht);have am:∀{G:Prop->Prop},(iu a g->∀p,G p->p)->lN P tb o.op m (iQ L V g) G (Nat.blt i hd||o.guard.isSome) (λv U=>vB P tb N T.toList hd C (i+1) ((d,g,some v)::L) V U K Kp) Kp->
    (if Region.wanted o (yielded T a.tmps)=true then o.wpIn (FR r) nn P a w (wpOpsIn (FR r) nn P T Q (List.range' (i+1) C.length)) Q else(∀f,o.about P w a.eval=some f->(FR r).fn f)/\wpOpsIn (FR r) nn P T Q (List.range' (i+1) C.length) (a.put o.dst undef) w):=by
    intro G hG h;split
    .rename_i j;have A:=hw.1 j;refine Cc hP hM (λx v s=>v9 R A s) (hG A) h ⟨λaf ac U M v x Y s F hG=>?_,λaf ac U M d x Y s F hG=>c.P _ _ _ _ _ _ _ Y s F hG R.size rfl (gN.refl _ _)⟩;rw[b];exact vp hP Y n k ((R.le hG.le).put ab (λ_=>s) λhn=>b3 A hn) F (c.next hG rfl (gN.put aa))
    .rename_i j;rw[b];cases ad:o.guard with
     |none=>rw[ad]at hg;cases hg;exact b3 (hw.2 λp Z=>by cases Z) j
     |some q=>
      rw[ad]at h;simp only[Option.isSome_some,Gk]at h;obtain⟨v,Y⟩:=Tt h;exact⟨λ_ _=>trivial,vp hP Y n k (R.put ab (λA=>b3 (hw.2 A) j) λ_=>rfl) hM (c.next (Gr.refl _ _ _) rfl (gN.put aa))⟩
   split at h
   .rename_i tc oa ob ai;split at h
    .rename_i cc t hl;split at h
     .rename_i al;split at h
      .rename_i v hv;have an:iu a g->∃x,(execOp a.eval o).run P w=.ok (.value x) w/\du O J v x:=λA=>by
        have ht:=(R.yes _ _ _ hl (A.sub al)).I;have ha:t=true->∀x,iQ L V ((tc,true)::g) oa=some x->du O J x (a.eval oa):=λe x s=>v9 R (λp Z=>by
         rcases iB.1 Z with rfl|Z
         .rw[ht,e]
         .exact A p Z) s
        have hb:t=false->∀x,iQ L V ((tc,false)::g) ob=some x->du O J x (a.eval ob):=λe x s=>v9 R (λp Z=>by
         rcases iB.1 Z with rfl|Z
         .rw[ht,e]
         .exact A p Z) s
        have aj:(execOp a.eval o).run P w=.ok (.value (if t then a.eval oa else a.eval ob)) w:=by have e1:a.eval (.tmp tc)=.bool t:=ht;unfold execOp;rw[ai];cases t<;>simp[e1,asBool]
        refine⟨_,aj,?_⟩;have W:∀{u:Option SV} {y:Bool},u.bind vU=some y->u=some (.d (.I y)):=λ{u y} hu=>by
         obtain⟨z,hz,hy⟩:=w4.1 hu;subst hz;unfold vU at hy;split at hy
         .cases hy;rfl
         .cases hy
        unfold zt at hv;split at hv
        .split at hv
         .rename_i y hy;cases hv;cases t with
          |true=>exact lY true
          |false=>have:=hb rfl _ (W hy);simpa using this
         .cases hv
        .split at hv
         .split at hv
          .rename_i x s;cases hv;cases t with
           |true=>have:=ha rfl _ (W s);simpa using this
           |false=>exact lY false
          .cases hv
         .split at hv
          .rename_i x y s hy;cases hv;cases t with
           |true=>have:=ha rfl _ (W s);simpa using this
           |false=>have:=hb rfl _ (W hy);simpa using this
          .cases hv
       split
       .rename_i j;obtain⟨x,hr,s⟩:=an (hw.1 j);refine wB (λc A=>by rw[ai]at A;cases A) ?_;rw[hr];show wpOpsIn (FR r) nn P T Q _ (a.put o.dst x) w;rw[b];exact vp hP h n k (R.put ab (λ_=>s) λhn=>b3 (hw.1 j) hn) hM (c.next (Gr.refl _ _ _) rfl (gN.put aa))
       .rename_i j;rw[b];exact⟨λ_ _=>trivial,vp hP h n k (R.put ab (λA=>b3 (hw.2 A) j) λ_=>rfl) hM (c.next (Gr.refl _ _ _) rfl (gN.put aa))⟩
      .cases h
     .cases h
    .cases h
   .exact am (λA p Z=>Is R A (λq hq=>hq) p Z) h
inductive X where
 |U|exit (id:Nat)|ret|P (d:D)
def w5(O:Ro)(J:Bl):X->Exit->Prop
 | .U,.normal=>True
 | .exit i,.exit j=>i=j
 | .ret,.ret=>True
 | .P d,.panic a=>∃x,a=[{v:=x,recovered:=false}]/\du O J (.d d) x
 |_,_=>False
structure Sim (E:Gh) (ro:Ro) (bl:Bl) (K:List Ent) (m:MS) (N:Nat) (a:Act) (w:World):Prop where
 l:SimL ro bl [] K N a
 m:Mem E ro bl m w
def jK:Code->List Nat
 | .region _ d _=>lB d.toList
 | .seq a b=>jK a++jK b
 | .cond _ a b=>jK a++jK b
 | .block _ c| .loop c| .scope c=>jK c
 | .rangeFunc _ e a b=>e.toList++jK a++jK b
 |_=>[]
def Bl.A5(J:Bl)(k:List Nat):Bl:=⟨J.b,J.t,J.o,k,J.g⟩
def Bl.H6(J:Bl):J.A5 J.k=J:=rfl
def ur(D:Nat):Deferred:={target:=.collected D,args:= #[]}
def Le.A5{J f:Bl}(h:Le O J j f)(k u:List Nat):Le O (J.A5 k) j (f.A5 u):=⟨h.r,h.b,h.t,h.o,h.g⟩
def Gr.A5{u:Ro}{J Z f:Bl}{C F:World}{k:List Nat}(h:Gr O J w j (Z.A5 J.k) C)(g:Gr j Z C u (f.A5 k) F):Gr O J w u (f.A5 J.k) F:=by have A:Gr j (Z.A5 J.k) C u (f.A5 J.k) F:=⟨g.os,g.tape,g.output,g.size,g.old,g.le.A5 _ _,g.new,rfl⟩;exact h.trans A
structure Mks (L:List Nat) (w:World):Prop where
 nd:L.Nodup
 ge:∀D∈L,w.heap.size<=D
def Jo(w:World):Mks [] w:=⟨wV,λ_ h=>by cases h⟩
def QK(E:Gh)(O:Ro)(J:Bl)(N:Nat)(F:Bool)(S:List Nat)(a:Act)(w:World)(K:X->List Ent->MS->Prop)(e:Exit)(T:Act)(M:World):Prop:=
 ∃x A U c b L,K x A U/\w5 c b x e/\Mem E c b U M/\((∀d,x≠.P d)->SimL c b [] A N T)/\T.tmps.size=N/\Gr O J w c (b.A5 J.k) M/\(b.k=L++J.k/\Mks L w/\(F=true->L=[]))/\T.defers=L.map ur++a.defers/\gN S a T
def Ok(P:Program)(N:Nat)(F:Bool)(c:Code)(V:List Ent)(m:MS)(K:X->List Ent->MS->Prop):Prop:=
 ∀E r nn O J a w,(F=false->r=none)->Sim E O J V m N a w->c.wpIn (FR r) nn P (QK E O J N F (jK c) a w K) a w
def ez(P:Program)(N:Nat)(F:Bool)(c:Code)(V:List Ent)(m:MS)(K:X->List Ent->MS->Prop):Prop:=Ok P N F (.loop c) V m K
def eH(P:Program)(N:Nat)(f:Operand)(ps:Array Tmp)(a b:Code)(V:List Ent)(m:MS)(K:X->List Ent->MS->Prop):Prop:=Ok P N false (.rangeFunc f ps a b) V m K
def eB(P:Program)(N:Nat)(F:Bool)(id:Nat)(a:Array Oper)(V:List Ent)(m:MS)(K:X->List Ent->MS->Prop):Prop:=Ok P N F (.region id a true) V m K
def ji(P:Program)(tb:TT)(N:Nat)(F:Bool):Code->List Ent->MS->(X->List Ent->MS->Prop)->Prop
 | .skip,V,m,K=>K .U V m
 | .region id e g,V,m,K=>match g with
  |true=>eB P N F id e V m K
  |false=>vB P tb N e.toList 0 e.toList 0 [] V m (λA U=>K .U A U) λd U=>K (.P d) V U
 | .seq a b,V,m,K=>ji P tb N F a V m λx A U=>match x with
  | .U=>ji P tb N F b A U K
  |x=>K x A U
 | .cond c x y,V,m,K=>match iQ [] V [] c with
  |some (.d (.I b))=>(b=true->ji P tb N F x V m K)/\(b=false->ji P tb N F y V m K)
  |_=>False
 | .block id c,V,m,K=>ji P tb N F c V m λx A U=>match x with
  | .exit i=>match Nat.beq i id with
   |true=>K .U A U
   |false=>K (.exit i) A U
  |x=>K x A U
 | .exit id,V,m,K=>K (.exit id) V m
 | .ret,V,m,K=>K .ret V m
 | .loop c,V,m,K=>ez P N F c V m K
 | .rangeFunc f h a b,V,m,K=>match F with
  |true=>False
  |false=>eH P N f h a b V m K
 |_,_,_,_=>False
def QK.next{J f:Bl}{G:List Nat}{L:List Nat}{K C:X->List Ent->MS->Prop}{W:Act}{w2:World}(h:QK E j f N F G T M C e W w2)(hM:Mem E j f U M)(hG:Gr O J w j (f.A5 J.k) M)(hL:f.k=L++J.k/\Mks L w/\(F=true->L=[]))(hd:T.defers=L.map ur++a.defers)(hu:gN S a T)(hs:∀t∈G,t∈S)(hK:∀x V m,C x V m->K x V m):QK E O J N F S a w K e W w2:=by
 obtain⟨x,A,m2,R,Q,L2,Z,h2,h3,h4,h5,h6,u,h8,h9⟩:=h;refine⟨x,A,m2,R,Q,L2++L,hK _ _ _ Z,h2,h3,h4,h5,hG.A5 h6,⟨by rw[u.1,hL.1,iJ],⟨?_,λD hD=>?_⟩,λhi=>by rw[u.2.2 hi,hL.2.2 hi];rfl⟩,by rw[h8,hd,je,iJ],hu.trans (h9.sub hs)⟩
 .refine mB.2 ⟨u.2.1.nd,hL.2.1.nd,λx hx y hy e=>?_⟩;subst e;have Z:=u.2.1.ge x hx;have h2:=(nX.1 (hM.marks x (by rw[hL.1];exact eP.2 (.inl hy)))).1;omega
 .rcases eP.1 hD with hD|hD
  .exact eY hG.size (u.2.1.ge D hD)
  .exact hL.2.1.ge D hD
def QK.same{J:Bl}{u:List Nat}{K C:X->List Ent->MS->Prop}{Q:World}{f:Bl}(h:QK E j f N F u T M C e G Q)(W:Mem E j f U M)(A:Gr O J w j f M)(hd:T.defers=a.defers)(hu:gN S a T)(Z:∀t∈u,t∈S)(R:∀x V m,C x V m->K x V m):QK E O J N F S a w K e G Q:=
 h.next W (L:=[]) (by rw[<-A.k];exact A) ⟨A.k,Jo w,λ_=>rfl⟩ hd hu Z R
def QK.put{J f:Bl}{K:X->List Ent->MS->Prop}{x:X}{A:List Ent}(C:K x A U)(G:w5 j f x e)(L:Mem E j f U M)(Q:(∀d,x≠.P d)->SimL j f [] A N T)(R:T.tmps.size=N)(u:Gr O J w j f M)(V:T.defers=a.defers)(W:gN S a T):QK E O J N F S a w K e T M:=
 ⟨x,A,U,j,f,[],C,G,L,Q,R,by rw[<-u.k];exact u,⟨u.k,Jo w,λ_=>rfl⟩,V,W⟩
def QK.of{J:Bl}{f:List Nat}{K C:X->List Ent->MS->Prop}{L:Exit}(h:QK E O J N F f a w C e G M)(hs:∀t∈f,t∈S)(hK:∀x V m ro' bl',w5 ro' bl' x e->C x V m->∃x',K x' V m/\w5 ro' bl' x' L/\((∀d,x'≠.P d)->∀d,x≠.P d)):QK E O J N F S a w K L G M:=by obtain⟨x,A,m2,u,j,Q,W,Z,h3,h4,h5,h6,h7,h8,h9⟩:=h;obtain⟨x',R,T,U⟩:=hK _ _ _ _ _ Z W;exact⟨x',A,m2,u,j,Q,R,T,h3,λhx=>h4 (U hx),h5,h6,h7,h8,h9.sub hs⟩
def vn{J:Bl}{x:X}(h:w5 O J x .normal):x=.U:=by cases x<;>first|rfl|cases h
def ud{J:Bl}{x:X}{i:Nat}(h:w5 O J x (.exit i)):x=.exit i:=by cases x<;>first|(cases h;rfl)|cases h
def eJ(R:tb.ok P){N:Nat}{F:Bool}:∀{c:Code} {V:List Ent} {m:MS} {K:X->List Ent->MS->Prop},ji P tb N F c V m K->Ok P N F c V m K
 | .skip,V,m,K,h=>λE r nn O J a w z q=>wpIn_skip (QK.put h trivial q.m (λ_=>q.l) q.l.size (Gr.refl _ _ _) rfl (gN.refl _ _))
 | .region id C true,V,m,K,h=>h
 | .region id C false,V,m,K,h=>λE r nn O J a w z q=>by
  unfold ji at h;refine wpIn_region ?_;rw[List.range_eq_range'];have:=vp (r:=r) (nn:=nn) (S:=lB C.toList) (i:=0) (Q:=QK E O J N F (lB C.toList) a w K) R h rfl (λt v=>v) q.l q.m
   ⟨λo n A U T M k j G S Z W=>QK.put (x:=.U) k trivial G (λ_=>j) j.size S Z W,
    λo n U T M d x k j G S Z W h7=>QK.put (x:=.P d) (A:=V) k ⟨x,rfl,j⟩ G (λhd=>b3 rfl (hd d)) Z S W h7⟩
  simpa[jK]using this
 | .seq x y,V,m,K,h=>λE r nn O J a w z q=>by
  unfold ji at h;have hl:∀t∈jK x,t∈jK (.seq x y):=λt v=>eP.2 (.inl v);refine wpIn_seq (wpIn_mono (eJ (c:=x) R h E r nn O J a w z q) ?_);rintro e T M s;cases e with
  |normal=>
   obtain⟨u,A,U,o,n,L,k,j,G,S,Z,W,h7,h8,h9⟩:=s;cases vn j;refine wpIn_mono (eJ R k E r nn o n T M z ⟨S eA,G⟩) λe a2 w2 s=>?_;exact s.next G W h7 h8 (h9.sub hl) (λt v=>eP.2 (.inr v)) λ_ _ _ h=>h
  |exit id=>exact s.of hl λx V m o n j k=>by cases ud j;exact⟨_,k,j,λh=>h⟩
  |ret=>exact s.of hl λx V m o n j k=>by cases x<;>first|exact j.elim|exact⟨_,k,j,λh=>h⟩
  |goto l=>obtain⟨u,_,_,_,_,_,_,j,_⟩:=s;cases u<;>cases j
  |panic ch=>exact s.of hl λx V m o n j k=>by cases x<;>first|exact j.elim|exact⟨_,k,j,λh=>h⟩
  |outgrown=>obtain⟨u,_,_,_,_,_,_,j,_⟩:=s;cases u<;>cases j
 | .cond c x y,V,m,K,h=>λE r nn O J a w z q=>by
  unfold ji at h;split at h
  .rename_i b hc;have Y:=(v9 q.l (g:=[]) (λp hp=>by cases hp) hc).I;refine wpIn_cond_split Y (λv=>wpIn_mono (eJ R (h.1 v) E r nn O J a w z q) λe a2 w2 s=>?_) λv=>wpIn_mono (eJ R (h.2 v) E r nn O J a w z q) λe a2 w2 s=>?_
   .exact s.of (λt v=>eP.2 (.inl v)) λx _ _ _ _ j k=>⟨x,k,j,λh=>h⟩
   .exact s.of (λt v=>eP.2 (.inr v)) λx _ _ _ _ j k=>⟨x,k,j,λh=>h⟩
  .cases h
 | .block id c,V,m,K,h=>λE r nn O J a w z q=>by
  unfold ji at h;refine wpIn_block (wpIn_mono (eJ (c:=c) R h E r nn O J a w z q) ?_);rintro e T M s;cases e with
  |exit i=>
   simp only[Exit.inBlock];split
   .rename_i Y;subst Y;refine s.of (λ_ h=>h) λx V m o n j k=>?_;cases ud j;simp only[uO]at k;exact⟨.U,k,trivial,λ_=>eA⟩
   .rename_i Y;refine s.of (λ_ h=>h) λx V m o n j k=>?_;cases ud j;have aa:Nat.beq i id=false:=by
     cases s:Nat.beq i id with
     |false=>rfl
     |true=>exact b3 (fp s) Y
    simp only[aa]at k;exact⟨_,k,rfl,λh=>h⟩
  |normal=>exact s.of (λ_ h=>h) λx V m o n j k=>by cases vn j;exact⟨_,k,j,λh=>h⟩
  |ret=>exact s.of (λ_ h=>h) λx V m o n j k=>by cases x<;>first|exact j.elim|exact⟨_,k,j,λh=>h⟩
  |goto l=>obtain⟨u,_,_,_,_,_,_,j,_⟩:=s;cases u<;>cases j
  |panic ch=>exact s.of (λ_ h=>h) λx V m o n j k=>by cases x<;>first|exact j.elim|exact⟨_,k,j,λh=>h⟩
  |outgrown=>obtain⟨u,_,_,_,_,_,_,j,_⟩:=s;cases u<;>cases j
 | .exit id,V,m,K,h=>λE r nn O J a w z q=>wpIn_exit (QK.put (x:=.exit id) h rfl q.m (λ_=>q.l) q.l.size (Gr.refl _ _ _) rfl (gN.refl _ _))
 | .ret,V,m,K,h=>λE r nn O J a w z q=>wpIn_ret (QK.put (x:=.ret) h trivial q.m (λ_=>q.l) q.l.size (Gr.refl _ _ _) rfl (gN.refl _ _))
 | .loop c,V,m,K,h=>h
 | .rangeFunc f ps a b,V,m,K,h=>by
  unfold ji at h;split at h
  .cases h
  .exact h
 | .scope _,_,_,_,h| .label _,_,_,_,h| .goto _,_,_,_,h| .refuse _,_,_,_,h=>h.elim
end Sx
end Go.Proofs.YtfbhkfhbnkncoaaGreatDoor
