import Derived.Test.YtfbhkfhbnkncoaaGreatDoorV13
set_option linter.all false
namespace Go.Proofs.YtfbhkfhbnkncoaaGreatDoor
open Go.RowKit Tryz
open Tryz renaming prog→a6
namespace Sx
variable {E:Gh} {r:Option Nat} {nn:Nat}
variable {P:Program} {tb:TT}
variable{F:Bool}{Kp:D->MS->Prop}{K:X->List Ent->MS->Prop}
section
variable {N:Nat} {ops:List Oper} {ord:List Nat} {im:List (Nat×Nat)} {V:List Ent} {ro0:Ro} {bl0:Bl} {a0:Act} {w0:World} {s:Nat} {hs:Hs} {S:List (Nat×(MS->Prop))} {m:MS} {ls:Nat->Bool} {O:Ro} {J:Bl} {a:Act} {w:World}
def DI.put(D:DOk2 ops ord im)(Q:DI E P tb N ops ord im V ro0 bl0 a0 w0 s hs m ls O J a w)(hc:re ops ls){s2:Nat}{C:Hs}{S2:List (Nat×(MS->Prop))}(C2:Ch tb P N ops ord im V s2 C S2)(ap:s<=s2)(ae:∀k,k<s->C k=hs k){k i:Nat}{o:Oper}(hk:k<s2)(ak:∀f,f<s2->s<=f->f=k)(hi:ord[k]?=some i)(Z:ops[i]?=some o)(hw:pw ops ls i)(h0:ls i=false){ad:Ro}{aa:Bl}{U:MS}{M:World}{y:Value}(hM:Mem E ad aa U M)(hG:Gr O J w ad aa M)(hy:iu a (C k).1->du ad aa (C k).2 y)(hn:¬iu a (C k).1->y=undef){R:Nat->Bool}(ab:∀j,R j=if j=i then true else ls j)(ah:∀(f j:Nat) o',f<s2->ord[f]?=some j->ops[j]?=some o'->R j=false->yq P tb U V (Lf ops ord C f) (C f).1 o' (C f).2)(af:∀(f j:Nat),f<s2->ord[f]?=some j->(mT im j).isSome=true->R j=true):
 DI E P tb N ops ord im V ro0 bl0 a0 w0 s2 C U R ad aa (a.put o.dst y) M:=by
 have an:(a.put o.dst y).tmps.size=N:=by
  cases o.dst with
  |none=>exact Q.size
  |some d=>show(a.tmps.setIfInBounds d y).size=N;simp[Q.size]
 have ag:R i=true:=by rw[ab];simp
 have L:∀{f j:Nat},f<s2->ord[f]?=some j->pw ops ls j->(iu (a.put o.dst y) (C f).1↔iu a (C f).1):=λ{f j} A G ao=>by
  cases F:o.dst with
  |none=>exact Iff.rfl
  |some d=>
   have K:d<a.tmps.size:=by rw[Q.size];exact C2.lt k i o d hk hi Z F
   refine yM K (pQ.2 λp hp=>?_);obtain⟨k3,i3,o3,_,_,h3,h4,h5⟩:=C2.F8 D hc f A G ao p hp;have:p.1≠d:=λe=>by have:i3=i:=D.inj _ _ _ _ _ h4 Z (e▸h5) F;subst this;rw[h0]at h3;cases h3
   cases hb:Nat.beq p.1 d with
   |false=>rfl
   |true=>exact b3 (fp hb) this
 have T:∀{j:Nat} {oj:Oper} {d':Nat},ops[j]?=some oj->oj.dst=some d'->j≠i->(a.put o.dst y).tmps.getD d' undef=a.tmps.getD d' undef:=λ{j oj d'} G aj ac=>by
  cases F:o.dst with
  |none=>rfl
  |some d=>
   have K:d<a.tmps.size:=by rw[Q.size];exact C2.lt k i o d hk hi Z F
   rw[qR K,if_neg λ(e:d'=d)=>ac (D.inj _ _ _ _ _ G Z (e▸aj) F)]
 have W:∀{d:Nat},o.dst=some d->(a.put o.dst y).tmps.getD d undef=y:=λ{d} F=>by
  have K:d<a.tmps.size:=by rw[Q.size];exact C2.lt k i o d hk hi Z F
  rw[F,qR K,if_pos rfl]
 have ai:∀{f j:Nat},f<s2->ord[f]?=some j->R j=true->(f=k/\j=i)\/(f<s/\ls j=true/\j≠i):=λ{f j} A G hl=>by
  rw[ab]at hl;split at hl
  .rename_i e;subst e;exact .inl ⟨D.one _ _ _ G hi,rfl⟩
  .rename_i ac;refine .inr ⟨?_,hl,ac⟩;rcases jB f s with h|h
   .exact h
   .have:=ak f A h;subst this;rw[hi]at G;cases G;exact b3 rfl ac
 refine⟨hM,Q.gr.trans hG,an,?_,Q.F4.trans ?_,af,λj G=>?_,λf j o' d A G u F hl hh=>?_,λf j o' d A G u F hl hh=>?_,λt ht=>?_,ah⟩
 .cases F:o.dst<;>exact Q.defers
 .cases F:o.dst with
  |none=>exact gN.refl _ _
  |some d=>exact gN.put (Lx Z F)
 .rw[ab]at G;split at G
  .rename_i e;subst e;exact⟨k,hk,hi⟩
  .obtain⟨f,h1,h2⟩:=Q.sub j G;exact⟨f,a3,h2⟩
 .rcases ai A G hl with⟨rfl,rfl⟩|⟨h1,h2,h3⟩
  .rw[Z]at u;cases u;rw[W F];exact hy ((L A G hw).1 hh)
  .rw[T u F h3,ae f h1];have:=(L A G (yH hc u h2)).1 hh;rw[ae f h1]at this;exact(Q.yes f j o' d h1 G u F h2 this).mono hG.le
 .rcases ai A G hl with⟨rfl,rfl⟩|⟨h1,h2,h3⟩
  .rw[Z]at u;cases u;rw[W F];exact hn λh=>hh ((L A G hw).2 h)
  .rw[T u F h3];refine Q.no f j o' d h1 G u F h2 λh=>hh ((L A G (yH hc u h2)).2 ?_);rw[ae f h1];exact h
 .have u:(a.put o.dst y).tmps.getD t undef=a.tmps.getD t undef:=by
   cases F:o.dst with
   |none=>rfl
   |some d=>
    have K:d<a.tmps.size:=by rw[Q.size];exact C2.lt k i o d hk hi Z F
    rw[qR K,if_neg λ(e:t=d)=>ht i o Z ag (e▸F)]
  rw[u];refine Q.out t λj oj am al=>ht j oj am ?_;rw[ab,al];simp
def sl{α:Type}{l:List α}{s:Nat}{x:α}(h:l[s]?=some x):l.drop s=x::l.drop (s+1):=by obtain⟨b,c⟩:=iA.1 h;rw[yk b,c]
def GQ(dk:DOk2 ops ord im){K:List Ent->MS->Prop}{Kp:D->MS->Prop}:∀(n:Nat) {s:Nat} {hs:Hs} {S:List (Nat×(MS->Prop))},n=ord.length - s->Ch tb P N ops ord im V s hs S->DI E P tb N ops ord im V ro0 bl0 a0 w0 s hs m ls O J a w->nA P tb N ops im V (ord.drop s) (Lf ops ord hs s) S m K Kp->
 ∃W q x,Ch tb P N ops ord im V W q x/\DI E P tb N ops ord im V ro0 bl0 a0 w0 W q m ls O J a w/\nA P tb N ops im V (ord.drop W) (Lf ops ord q W) x m K Kp/\(W=ord.length\/∃i:Nat,ord[W]?=some i/\(mT im i).isSome=true)
 |0,s,hs,S,hn,C,p,h=>⟨s,hs,S,C,p,h,.inl (by have:=C.le;omega)⟩
 |n+1,s,hs,S,hn,C,p,h=>by
  have ac:s<ord.length:=a3
  have M:ord[s]?=some ord[s]:=ed ac;generalize ord[s]=i at M;cases T:mT im i with
  |some lm=>exact⟨s,hs,S,C,p,h,.inr ⟨i,M,by rw[T];rfl⟩⟩
  |none=>
   rw[sl M]at h;unfold nA at h;split at h
   .cases h
   rename_i o ho;split at h
   .cases h
   rename_i g hg;rw[T]at h;simp only at h;split at h
   .cases h
   rename_i d hd;split at h
   .cases h
   rename_i ab;have go:∀{v:SV} {x:List (Nat×(MS->Prop))},yq P tb m V (Lf ops ord hs s) g o v->nA P tb N ops im V (ord.drop (s+1)) ((d,g,some v)::Lf ops ord hs s) x m K Kp->(∀e∈S,e∈x)->
    (xG tb o.op (iQ (Lf ops ord hs s) V g)=true->(∀tc a b,o.op≠.pick (.tmp tc) a b)->(i,λm2=>lN P tb o.op m2 (iQ (Lf ops ord hs s) V g) (gP (Lf ops ord hs s) V g g) true (tQ v m2) λ_ _=>False)∈x)->
    ∃W q x,Ch tb P N ops ord im V W q x/\DI E P tb N ops ord im V ro0 bl0 a0 w0 W q m ls O J a w/\nA P tb N ops im V (ord.drop W) (Lf ops ord q W) x m K Kp/\(W=ord.length\/∃i:Nat,ord[W]?=some i/\(mT im i).isSome=true):=λ{v x} G hx A Y=>by
    have C':Ch tb P N ops ord im V (s+1) (kj hs s (g,v)) x:=C.next M ho hg (λZ u=>by rw[hd]at u;cases u;exact dF ab) (λ_=>by rw[hd];rfl) A λ_=>Y;have eL:∀k,k<=s->Lf ops ord (kj hs s (g,v)) k=Lf ops ord hs k:=λk Q=>yi λj f=>vu a3;have eS:Lf ops ord (kj hs s (g,v)) (s+1)=(d,g,some v)::Lf ops ord hs s:=by
     show(match(ord[s]?).bind λi=>(ops[i]?).bind (·.dst)with
      |none=>Lf ops ord (kj hs s (g,v)) s
      |some d=>(d,(kj hs s (g,v) s).1,some (kj hs s (g,v) s).2)::Lf ops ord (kj hs s (g,v)) s)=_
     rw[M,sd,ho,sd,hd,Bu,eL s (a9 _)]
    have R:ls i=true->False:=λz=>by obtain⟨k',F,l⟩:=p.sub i z;have:=dk.one _ _ _ l M;omega
    have U:∀{k j:Nat} {L:Oper},k<s+1->ord[k]?=some j->ops[j]?=some L->(k<s/\kj hs s (g,v) k=hs k)\/(k=s/\j=i/\L=o/\kj hs s (g,v) k=(g,v)):=λ{k j L} Q f c=>by
     rcases jB k s with h|h
     .exact .inl ⟨h,vu h⟩
     .have:k=s:=a3
      subst this;rw[M]at f;cases f;rw[ho]at c;cases c;exact .inr ⟨rfl,rfl,rfl,Bu⟩
    have aa:DI E P tb N ops ord im V ro0 bl0 a0 w0 (s+1) (kj hs s (g,v)) m ls O J a w:=by
     refine⟨p.mem,p.gr,p.size,p.defers,p.F4,λk j Q f y=>?_,λj f=>?_,λk j L Z Q f c u z=>?_,λk j L Z Q f c u z=>?_,p.out,λk j L Q f c z=>?_⟩
     .rcases jB k s with h|h
      .exact p.H9 k j h f y
      .have:k=s:=a3
       subst this;rw[M]at f;cases f;rw[T]at y;cases y
     .obtain⟨k,F,l⟩:=p.sub j f;exact⟨k,a3,l⟩
     .rcases U Q f c with⟨F,l⟩|⟨rfl,rfl,rfl,l⟩
      .rw[l];exact p.yes k j L Z F f c u z
      .exact(R z).elim
     .rcases U Q f c with⟨F,l⟩|⟨rfl,rfl,rfl,l⟩
      .rw[l];exact p.no k j L Z F f c u z
      .exact(R z).elim
     .rcases U Q f c with⟨F,l⟩|⟨rfl,rfl,rfl,l⟩
      .rw[l,eL k a3];exact p.I2 k j L F f c z
      .rw[l,eL k a3];exact G
    exact GQ dk n a3 C' aa (by rw[eS];exact hx)
   split at h
   .rename_i tc oa ob G;split at h
    .rename_i cc t z;split at h
     .rename_i A;split at h
      .rename_i v hv;exact go (.inr ⟨tc,oa,ob,cc,t,G,z,A,hv⟩) h (λ_ he=>he) λ_ hp=>b3 G (hp _ _ _)
      .cases h
     .cases h
    .cases h
   .obtain⟨v,F,l⟩:=Ts h;refine go (.inl F) l (λe he=>?_) λad _=>?_
    .split
     .exact fA _ he
     .exact he
    .rw[ad];exact fQ ..
end
def PU{n:Nat}{p:Nat->Bool}(d:Nat->Nat):∀(b k:Nat),d k<=b->k<n->p k=false->∃i,i<n/\p i=false/\∀j,j<n->d j<d i->p j=true
 |0,k,o,g,h=>⟨k,g,h,λj _ q=>a3⟩
 |b+1,k,o,g,h=>by
  by_cases c:∃j,j<n/\d j<d k/\p j=false
  .obtain⟨j,e,l,f⟩:=c;exact PU d b j a3 e f
  .refine⟨k,g,h,λj e l=>?_⟩;cases f:p j with
   |true=>rfl
   |false=>exact b3 ⟨j,e,l,f⟩ c
def zcL{ops:Array Oper}(b:∃c:Nat->Nat,∀(i:Nat) (o:Oper),ops.toList[i]?=some o->∀e∈o.after,Region.binds .any e=true->c e.on<c i/\e.on<ops.toList.length){A:Array Bool}(hs:A.size=ops.size)(p:Region.ready .any ops A=[]):∀k,k<ops.size->kK A k=true:=λk n=>by
 cases h:kK A k with
 |true=>rfl
 |false=>
  obtain⟨c,b⟩:=b;obtain⟨i,d,f,g⟩:=PU c (c k) k (a9 _) n h;have:i∈Region.ready .any ops A:=(Kk hs).2 ⟨f,ops[i],by simp[d],λe l j=>by
   have:=b i ops[i] (by simp[d]) e l j;exact g _ (b8 this.2) this.1⟩
  rw[p]at this;cases this
def Aw(hP:tb.ok P){N:Nat}{ops:Array Oper}{ord:List Nat}{im:List (Nat×Nat)}{V:List Ent}(R:DOk2 ops.toList ord im){ro0:Ro}{bl0:Bl}{a0:Act}{w0:World}(hS:SimL ro0 bl0 [] V N a0){Q:Exit->Act->World->Prop}{K:List Ent->MS->Prop}{Kp:D->MS->Prop}
 (c:Conts E ro0 bl0 N (lB ops.toList) a0 w0 Q K Kp):∀(f:Nat) (A:Array Bool) (O:Ro) (J:Bl) (a:Act) (w:World) (s:Nat) (hs:Hs) (S:List (Nat×(MS->Prop))) (m:MS),A.size=ops.size->rq ops.size (kK A)=f->re ops.toList (kK A)->
  Ch tb P N ops.toList ord im V s hs S->DI E P tb N ops.toList ord im V ro0 bl0 a0 w0 s hs m (kK A) O J a w->nA P tb N ops.toList im V (ord.drop s) (Lf ops.toList ord hs s) S m K Kp->wpAnyIn (FR r) nn P .any ops Q f A a w
 |0,A,O,J,a,w,s,hs,S,m,ah,ai,Z,C,hI,h=>by
  have ag:∀j,j<ops.size->kK A j=true:=λj G=>by
   cases h:kK A j with
   |true=>rfl
   |false=>
    have:=Vk (p:=λj=>!kK A j) (l:=List.range ops.size) |>.2 ⟨j,gZ.2 G,by simp[h]⟩;unfold rq at ai;omega
  obtain⟨W,z,S',C',n,h',ak⟩:=GQ R _ rfl C hI h;have z:W=ord.length:=by
   rcases ak with h|⟨i,hi,_⟩
   .exact h
   .have L:=R.lt _ _ hi;simp only[pO]at L;obtain⟨k,h1,h2⟩:=n.sub i (ag i L);have:=R.one _ _ _ h2 hi;omega
  subst z;rw[pU]at h';refine⟨?_,c.ok _ _ _ _ _ _ h' (SimL.flush ⟨n.size,λt cc v hl ad=>?_,λt cc v hl ad=>?_⟩) n.mem n.gr n.defers n.F4⟩
  .cases hq:Region.ready .any ops A with
   |nil=>rfl
   |cons x r=>
    have hm:x∈Region.ready .any ops A:=by rw[hq];exact fQ ..
    obtain⟨h1,o,Y,_⟩:=(Kk ah).1 hm;have h2:=(iA.1 Y).1;simp only[pO]at h2;rw[ag x h2]at h1;cases h1
  .rcases xB hl with⟨k,i,o,h1,h2,h3,h4,h5⟩|⟨rfl,hl,hn⟩
   .have L:=R.lt _ _ h2;simp only[pO]at L;have:=n.yes k i o t h1 h2 h3 h4 (ag i L);rw[h5]at this;exact this ad
   .rw[n.out t λi o Y _ hd=>?_]
    .exact(ve hS hl).mono n.gr.le
    .obtain⟨k,hk⟩:=R.all i (iA.1 Y).1;exact hn k i o (iA.1 hk).1 hk Y hd
  .rcases xB hl with⟨k,i,o,h1,h2,h3,h4,h5⟩|⟨rfl,hl,hn⟩
   .have L:=R.lt _ _ h2;simp only[pO]at L;have:=n.no k i o t h1 h2 h3 h4 (ag i L);rw[h5]at this;exact this ad
   .exact b3 (λp hp=>by cases hp) ad
 |f+1,A,O,J,a,w,s,hs,S,m,ah,ai,Z,C,hI,h=>by
  obtain⟨j0,aW,aX⟩:∃j,j<ops.size/\kK A j=false:=by have:=Vk (p:=λj=>!kK A j) (l:=List.range ops.size) |>.1 (by unfold rq at ai;omega);obtain⟨j,G,h⟩:=this;exact⟨j,gZ.1 G,b8 h⟩
  refine⟨λhr=>?_,λi hi=>?_⟩
  .have:=zcL R.back ah hr j0 aW;rw[aX]at this;cases this
  obtain⟨h0,hw⟩:=(Kk ah).1 hi;obtain⟨o,Y,_⟩:=id hw;have aI:=(iA.1 Y).1;simp only[pO]at aI;obtain⟨W,z,S',C',n,h',ak⟩:=GQ R _ rfl C hI h;have ac:=λj=>zav (A:=A) (j:=j) (i:=i) a3;have au:re ops.toList (kK (A.setIfInBounds i true)):=λj oj aN aC e aH hb=>by
   rw[ac]at aC ⊢;split
   .rfl
   .split at aC
    .rename_i e';subst e';obtain⟨o2,aL,aR⟩:=hw;rw[aN]at aL;cases aL;exact aR e aH hb
    .exact Z j oj aN aC e aH hb
  have aj:rq ops.size (kK (A.setIfInBounds i true))=f:=by have:=Xw aI h0 ac;omega
  have aw:∀(k j:Nat),k<W->ord[k]?=some j->(mT im j).isSome=true->kK (A.setIfInBounds i true) j=true:=λk j hk G T=>by rw[ac,n.H9 k j hk G T];simp
  obtain⟨k,F⟩:=R.all i (iA.1 Y).1;have aM:ops[i]?=some o:=by rw[pN]at Y;exact Y
  rcases jB k W with af|af
  .
   cases ae:mT im i with
   |some lm=>
    have:=n.H9 k i af F (by rw[ae];rfl);rw[h0]at this;cases this
   |none=>
    have aZ:=n.I2 k i o af F Y h0;have ar:∀{ab aa M x},Mem E ab aa m M->Gr O J w ab aa M->(iu a (z k).1->du ab aa (z k).2 x)->(¬iu a (z k).1->x=undef)->wpAnyIn (FR r) nn P .any ops Q f (A.setIfInBounds i true) (a.put o.dst x) M:=λ{ab aa M x} hM hG hy hn=>
     Aw hP R hS c f _ ab aa _ _ W z S' m (b8 ah) aj au C' (n.put R Z C' (a9 _) (λ_ _=>rfl) af (λk' h1 h2=>b3 h1 (CH.2 h2)) F Y hw h0 hM hG hy hn ac (λk' j o' aA G ap hl=>n.I2 k' j o' aA G ap (by
      rw[ac]at hl;split at hl
      .cases hl
      .exact hl)) aw) h'
    have aq:=n.wanted R C' Z af F Y hw;unfold wpOpIn;simp only[aM];split
    .rename_i aD;have ad:=aq.1 aD;refine zd3 hP aZ n.mem ad (λt ht=>n.at R hS Z (uP af) F Y hw h0 λy o' hy hd=>R.reads k i o F Y t ht y o' hy hd) (n.J1 R C' Z af F hw) λab aa M x hx hM hG=>?_;exact ar hM hG (λ_=>hx) λh=>b3 ad h
    .rename_i aD;exact⟨λ_ _=>trivial,ar n.mem (Gr.refl _ _ _) (λh=>b3 (aq.2 h) aD) λ_=>rfl⟩
  .
   rcases ak with he|⟨q,hq,av⟩
   .have:=(iA.1 F).1;omega
   have aJ:k=W:=by
    rcases jB W k with L|bb
    .have hb:=(R.prec W k q i L hq F).2 av;have:=vX Z hw hb;obtain⟨k',h1,h2⟩:=n.sub q this;have:=R.one _ _ _ h2 hq;omega
    .omega
   subst aJ;rw[F]at hq;cases hq;obtain⟨lm,ae⟩:=GF.1 av;have az:o.guard=none:=by
    cases aV:o.guard with
    |none=>rfl
    |some g=>
     have:=(R.guard k i o g.1 g.2 F Y (by rw[aV])).1;rw[ae]at this;cases this
   rw[sl F]at h';unfold nA at h';rw[Y]at h';simp only[az,qF,ae]at h';have aq:Region.wanted o (yielded ops a.tmps)=true:=by unfold Region.wanted;rw[az]
   have aG:iu a []:=λp hp=>by cases hp
   unfold wpOpIn;simp only[aM,aq,xw];have aT:∀x∈o.op.operands.toList,iQ (Lf ops.toList ord z k) V [] x=(if zo (uE o.op.operands.toList) x=true then iQ (Lf ops.toList ord z k) V [] x else none):=λx hx=>by
    have:zo (uE o.op.operands.toList) x=true:=by
     cases x with
     |tmp t=>exact eI (Gw.2 ⟨_,hx,rfl⟩)
     |_=>rfl
    exact(if_pos this).symm
   have ax:∀{hd:(o.dst=none\/∃d,o.dst=some d/\d<N)} {Ln:SV->j9},(∀v,Ln v=Lf ops.toList ord (kj z k ([],v)) (k+1))->
    lN P tb o.op m (iQ (Lf ops.toList ord z k) V []) (gP (Lf ops.toList ord z k) V [] []) false (λv U=>uk lm U (nA P tb N ops.toList im V (ord.drop (k+1)) (Ln v) S' U K Kp) S') Kp->
    o.wpIn (FR r) nn P a w (wpAnyIn (FR r) nn P .any ops Q f (A.setIfInBounds i true)) Q:=λ{hd Ln} aQ hx=>by
    rw[Tr aT]at hx;refine Cc hP n.mem (λx u aE=>?_) (λp hp=>hp) hx ⟨λab aa U M v x hK aF ay hG=>?_,λab aa U M d x hK aF ay hG=>c.P _ _ _ _ _ _ _ hK aF ay (n.gr.trans hG) n.size n.defers n.F4⟩
    .split at aE
     .rename_i aS;refine DP (λt e=>?_) aG aE;subst e;have ba:t∈uE o.op.operands.toList:=by simpa[zo]using aS
      exact n.at R hS Z (a9 _) F Y hw h0 λy o' hy hd=>R.reads k i o F Y t ba y o' hy hd
     .cases aE
    .obtain⟨am,aB⟩:=IZ hK;rw[aQ]at am;have C2:Ch tb P N ops.toList ord im V (k+1) (kj z k ([],v)) S':=C'.next F Y (by rw[az];rfl) (λd an=>by
      rcases hd with hd|⟨d',hd,L⟩
      .rw[hd]at an;cases an
      .rw[hd]at an;cases an;exact L) (λhn=>by rw[ae]at hn;cases hn) (λ_ he=>he) λhn=>by rw[ae]at hn;cases hn
     have eL:∀j,j<=k->Lf ops.toList ord (kj z k ([],v)) j=Lf ops.toList ord z j:=λj G=>yi λi hi=>vu a3;have e1:kj z k ([],v) k=([],v):=Bu;refine Aw hP R hS c f _ ab aa _ _ (k+1) _ S' U (b8 ah) aj au C2 (n.put R Z C2 (Nat.le_succ _) (λj G=>vu G) (mL _) (λk' h1 h2=>a3) F Y hw h0 ay hG (λ_=>by rw[e1];exact aF) (λhn=>by rw[e1]at hn;exact b3 aG hn) ac (λk' j o' aA G ap hl=>?_) λk' j aA G T=>?_) am
     .have ao:kK A j=false/\j≠i:=by
       rw[ac]at hl;split at hl
       .cases hl
       .exact⟨hl,by assumption⟩
      have al:k'<k:=by
       rcases jB k' k with h|h
       .exact h
       .have:k'=k:=a3
        subst this;rw[F]at G;cases G;exact b3 rfl ao.2
      rw[vu al,eL k' a3];rcases n.I2 k' j o' al G ap ao.1 with h|h
      .by_cases aK:xG tb o'.op (iQ (Lf ops.toList ord z k') V (z k').1)=true
       .cases T:mT im j with
        |some bc=>
         have:=n.H9 k' j al G (by rw[T];rfl);rw[ao.1]at this;cases this
        |none=>
         by_cases aO:∃tc a b,o'.op=.pick (.tmp tc) a b
         .obtain⟨tc,oa,ob,aY⟩:=aO;rw[aY]at h;unfold lN rN at h;simp only[gu,pv]at h
         .have aP:=C'.I8 k' j o' al G ap T aK λtc oa ob e=>aO ⟨tc,oa,ob,e⟩;refine .inl (aB _ aP (R.late k' k j i lm al G F ae T ?_));cases hb:(uw ops.toList i).testBit j with
          |false=>rfl
          |true=>
           have:=vX Z hw hb;rw[ao.1]at this;cases this
       .exact .inl (zfb (b8 aK) (λu hu=>⟨hu.1,rfl⟩) h)
      .exact .inr h
     .rcases jB k' k with h|h
      .exact aw k' j h G T
      .have:k'=k:=a3
       subst this;rw[F]at G;cases G;rw[ac];simp
   cases hd:o.dst with
   |none=>
    rw[hd]at h';simp only at h';refine ax (hd:=.inl hd) (Ln:=λ_=>Lf ops.toList ord z k) (λv=>?_) h';show _=(match(ord[k]?).bind λi=>(ops.toList[i]?).bind (·.dst)with
     |none=>Lf ops.toList ord (kj z k ([],v)) k
     |some d=>(d,(kj z k ([],v) k).1,some (kj z k ([],v) k).2)::Lf ops.toList ord (kj z k ([],v)) k)
    rw[F,sd,Y,sd,hd];exact yi λj G=>(vu G).symm
   |some d=>
    rw[hd]at h';simp only at h';split at h'
    .exact h'.elim
    rename_i aU;refine ax (hd:=.inr ⟨d,hd,dF aU⟩) (Ln:=λv=>(d,[],some v)::Lf ops.toList ord z k) (λv=>?_) h';show _=(match(ord[k]?).bind λi=>(ops.toList[i]?).bind (·.dst)with
     |none=>Lf ops.toList ord (kj z k ([],v)) k
     |some d=>(d,(kj z k ([],v) k).1,some (kj z k ([],v) k).2)::Lf ops.toList ord (kj z k ([],v)) k)
    rw[F,sd,Y,sd,hd,Bu];simp only;rw[show Lf ops.toList ord (kj z k ([],v)) k=Lf ops.toList ord z k from yi λj G=>vu G]
def Oo(Y:tb.ok P)(hm:P.follows .mixedOrders=true)(ord:List Nat)(im:List (Nat×Nat)){N id:Nat}{ops:Array Oper}{V:List Ent}{m:MS}(G:yS ops.toList ord im=true)(h:nA P tb N ops.toList im V ord [] [] m (λA U=>K .U A U) λd U=>K (.P d) V U):eB P N F id ops V m K:=by
 have R:=X3 G;intro E r nn O J a0 w0 aa c;refine wpIn_region_any hm ?_;have e:∀j,kK (Array.replicate ops.size false) j=false:=λj=>by unfold kK;simp only[oO,LN];split<;>rfl
 have g:rq ops.size (kK (Array.replicate ops.size false))=ops.size:=by unfold rq;rw[Mg.2 λj _=>by simp[e],tJ]
 have f:Gr O J w0 O J {w0 with drawn:=w0.drawn+1}:=⟨rfl,rfl,rfl,a9 _,λ_ _ _=>⟨rfl,rfl⟩,Le.refl _ _,λ_ h=>.inl h,rfl⟩;have C:Mem E O J m {w0 with drawn:=w0.drawn+1}:=c.m.to f ⟨c.m.len,c.m.A6,c.m.box,c.m.inj,c.m.tail,c.m.A3,c.m.known,c.m.R,λi y x hy hx=>(c.m.obj i y x hy hx).to (Le.refl _ _) λ_ _=>⟨rfl,rfl⟩,c.m.A2,c.m.I⟩;exact Aw Y R c.l (Q:=QK E O J N F (jK (.region id ops true)) a0 w0 K) (K:=λA U=>K .U A U) (Kp:=λd U=>K (.P d) V U)
  ⟨λL p A U T M q n t u v z=>QK.put (x:=.U) q trivial t (λ_=>n) n.size u v z,
   λL p U T M d x q n t u v z W=>QK.put (x:=.P d) q ⟨x,rfl,n⟩ t (λZ=>b3 rfl (Z d)) v u z W⟩
  ops.size (Array.replicate ops.size false) O J a0 _ 0 (λ_=>([],.d .un)) [] m eA g λj o ho l=>by rw[e]at l;cases l
  ⟨dG _,λk _ _ b=>b3 b (jm _),λk _ _ _ b=>b3 b (jm _),λk _ _ b=>b3 b (jm _),λk _ _ b=>b3 b (jm _)⟩
  ⟨C,f,c.l.size,rfl,gN.refl _ _,λk _ b=>b3 b (jm _),(λj l=>by rw[e]at l;cases l),λk _ _ _ b=>b3 b (jm _),λk _ _ _ b=>b3 b (jm _),λ_ _=>rfl,λk _ _ b=>b3 b (jm _)⟩ h
def zN(hd:Nat):List Oper->Nat->List (Nat×Nat)
 |[],_=>[]
 |o::r,i=>match Nat.blt i hd||(match o.op with| .pick .. =>true|_=>false)with
  |true=>zN hd r (i+1)
  |false=>(i,0)::zN hd r (i+1)
def X8(c:tb.ok P)(e:P.follows .mixedOrders=true)(hd:Nat){N id:Nat}{ops:Array Oper}{V:List Ent}{m:MS}(b:yS ops.toList (List.range ops.toList.length) (zN hd ops.toList 0)=true)(h:nA P tb N ops.toList (zN hd ops.toList 0) V (List.range ops.toList.length) [] [] m (λA U=>K .U A U) λd U=>K (.P d) V U):eB P N F id ops V m K:=
 Oo c e _ _ b h
def dL(hd:Nat){N id:Nat}{ops:Array Oper}{V:List Ent}{m:MS}(h:nA a6 ff N ops.toList (zN hd ops.toList 0) V (List.range ops.toList.length) [] [] m (λA U=>K .U A U) (λd U=>K (.P d) V U))(b:yS ops.toList (List.range ops.toList.length) (zN hd ops.toList 0)=true:=by kernel_rfl)(c:a6.follows .mixedOrders=true:=by kernel_rfl):eB a6 N F id ops V m K:=X8 c6 c hd b h
def fg(ord:List Nat)(im:List (Nat×Nat)){N id:Nat}{ops:Array Oper}{V:List Ent}{m:MS}(h:nA a6 ff N ops.toList im V ord [] [] m (λA U=>K .U A U) (λd U=>K (.P d) V U))(b:yS ops.toList ord im=true:=by kernel_rfl)(c:a6.follows .mixedOrders=true:=by kernel_rfl):eB a6 N F id ops V m K:=Oo c6 c ord im b h
end Sx
namespace Sx
variable{f:FuncId}{x:Int}{L:List D}{a args b:List SV}{m:MS}{K:Out->MS->Prop}{P:Program}{G:Prop->Prop}{α:Type}
def eD(a: -9223372036854775808<=x)(b:x<=9223372036854775807):dx x:=by unfold dx;exact⟨a,b⟩
abbrev fq(t:Ty)(L:List D):D:=.X L.length t (c7 L)
abbrev gx(id a:Nat)(t:Ty)(L:List D):SV:=.ow id a L.length t (c7 L)
def rO:∀(L M:List D),fE L.length (c7 L) (c7 M)=c7 (L++M)
 |[],M=>rfl
 |d::L,M=>by
  funext i
  cases i with
  |zero=>rfl
  |succ i=>
   have:=congrFun (rO L M) i;simp only[r7,c7]at this ⊢;rw[<-this];unfold fE;have e:Nat.blt (i+1) (d::L).length=Nat.blt i L.length:=by simp only[Nat.blt,jV];rfl
   rw[e];cases Nat.blt i L.length with
   |true=>rfl
   |false=>simp
def kA(id a:Nat)(t:Ty)(L M:List D):SV.ow id a (L.length+M.length) t (fE L.length (c7 L) (c7 M))=gx id a t (L++M):=by unfold gx;rw[rO,ew]
def qe{α:Type}(e:α->D)(x:α):∀{l:List α} {i:Nat},i<l.length->c7 (l.map e) i=e (l.getD i x)
 |_::_,0,_=>by simp[c7]
 |_::l,i+1,h=>by simp only[oT,c7];rw[qe e x (l:=l) (b8 h)];simp
def KG:∀{l:List D} {k:Nat},jT (c7 l) k=c7 (l.drop k)
 |l,0=>by funext i;simp[jT]
 |[],k+1=>by funext i;simp[jT,c7]
 |d::l,k+1=>by
  funext i
  have:=congrFun (KG (l:=l) (k:=k)) i;simp only[jT,List.drop_succ_cons]at this ⊢;rw[show k+1+i=(k+i)+1 by omega];exact this
def vq(id a:Nat)(n:Nat)(t:Ty)(f:Nat->D):(SV.ow id a n t f).le (.d (.X n t f)):=λ_ _ _ h=>h.B9 rfl
def za4(t t':Ty)(f f':Nat->D)(id a:Nat):(SV.ow id a 0 t f).le (.d (.X 0 t' f')):=λ_ _ _ h=>⟨ef,λ_=>((h.B9 (d:=.X 0 t f) rfl).X).C8⟩
def Af:List SV->List SV->Prop
 |[],[]=>True
 |u::r,v::s=>u.le v/\Af r s
 |_,_=>False
def Af.rep{O:Ro}{J:Bl}:∀{a b:List SV} {G:List Value},Af a b->jf O J a G->jf O J b G
 |[],[],_,_,h=>h
 |_::_,_::_,_::_,⟨f,j⟩,⟨u,A⟩=>⟨f _ _ _ u,j.rep A⟩
 |_::_,_::_,[],_,h=>h.elim
 |[],_::_,_,h,_=>h.elim
 |_::_,[],_,h,_=>h.elim
def b6.le(h:b6 P f b m K)(A:Af a b):b6 P f a m K:=
 ⟨h.1,λE O J w G u j=>h.2 E O J w G u (A.rep j)⟩
def c5.le{v:SV}(h:c5 P f b v)(j:Af a b):c5 P f a v:=λm=>(h m).le j
def c5.out{u v:SV}(h:c5 P f a u)(S:u.le v):c5 P f a v:=λm=>⟨(h m).1,λE O J w G Q N=>((h m).2 E O J w G Q N).mono (by
 rintro e M ⟨A,j,U,V,C,F,K,rfl,L⟩;obtain⟨x,R,T⟩:=K;exact⟨A,j,U,.ret v,C,F,⟨x,R,S _ _ _ T⟩,rfl,L⟩)⟩
def iE(t:Ty)(e:α->D)(x:α)(l:List α):(SV.d (fq t (l.map e))).le (.d (.X l.length t λi=>e (l.getD i x))):=λO J y h=>by refine⟨ef,λ_=>?_⟩;have:=h.X;rw[dD]at this;exact this.congr λi a=>(qe e x a).symm
def zdJ(t:Ty)(e:α->D)(x:α)(l:List α):(SV.d (.X l.length t λi=>e (l.getD i x))).le (.d (fq t (l.map e))):=λO J y h=>by refine⟨ef,λ_=>?_⟩;show dM O (.X (l.map e).length t (c7 (l.map e))) [y];rw[dD];exact h.X.congr λi a=>qe e x a
def uT(n k j:Nat)(A:m.c.length<=n/\m.t.length<=k/\m.o.length<=j)(h:b6 P f args m λo U=>match o with
  | .P _=>False
  | .ret v=>∃u:SV,v.le u/\(u.ids n k j&&(eV n k j (U.c.take n)&&gV n k j (U.o.take j)))=true/\K (.ret u) (U.take n k j)):b6 P f args m K:=by
 refine⟨h.1,λE O J w G l s=>(h.2 E O J w G l s).mono ?_⟩;rintro e M ⟨g,b,U,c,p,q,r,i⟩;obtain⟨C,F,L⟩:=l.lens;cases c with
 |P d=>cases i
 |ret v=>
  obtain⟨u,y,a,t⟩:=i;simp only[dH]at a;obtain⟨x,rfl,z⟩:=r;exact⟨g,b.take n k j,_,.ret u,p.drop a.2.1 a.2.2,q.drop a3 a3 a3,⟨x,rfl,(y _ _ _ z).drop a.1⟩,t⟩
def pd(t t':Ty)(f f':Nat->D):(sD t f).le (.d (.X 0 t' f')):=za4 t t' f f' 0 0
def CE(P:Program)(f:FuncId)(args:List SV)(t:Ty)(L:List D):Prop:=match L with
 |[]=>c5 P f args (sD .c (c7 []))
 |_::_=>sR P f args L.length t (c7 L)
def Qe{t:Ty}(a:eV 0 0 0 args=true)(h:CE P f args t L):c5 P f args (.d (fq t L)):=by
 cases L with
 |nil=>exact c5.out h (pd _ _ _ _)
 |cons x r=>exact JZ a h
def Sl(j:Nat)(L:List D):SV:=match L with
 |[]=>sD .c (c7 [])
 |x::r=>.ob (.mr j (x::r).length)
def KB(t:Ty)(L:List D):List Ob:=match L with
 |[]=>[]
 |x::r=>[.row (x::r).length (x::r).length t (c7 (x::r))]
def zax{t:Ty}(b:eV 0 0 0 args=true)(h:b6 P f args ⟨[],[],[]⟩ λo m=>o=.ret (Sl 0 L)/\m.o=KB t L):CE P f args t L:=by
 cases L with
 |nil=>
  refine ES b (uT 0 0 0 ⟨a9 _,a9 _,a9 _⟩ (fa h ?_));rintro o m ⟨rfl,_⟩;exact⟨_,SV.le_refl _,by simp;exact⟨rfl,rfl,rfl⟩,rfl,by simp[MS.take]⟩
 |cons x r=>
  refine uT 0 0 1 ⟨a9 _,a9 _,dG _⟩ (fa h ?_);rintro o m ⟨rfl,a⟩;have e:m.take 0 0 1=⟨[],[],[.row (x::r).length (x::r).length t (c7 (x::r))]⟩:=by simp[MS.take,a,KB]
  refine⟨_,SV.le_refl _,?_,(x::r).length,rfl,e⟩;rw[a];rfl
def JX{K:SV->Prop}(v:SV)(h:G (b6 P f args m λo U=>o=.ret v/\U=m))(a:K v):fR P f args m G K:=⟨v,h,a⟩
def JY{K:SV->Prop}(v:SV)(h:G (c5 P f args v))(a:K v):eF P f args G K:=⟨v,h,a⟩
def b2{q:Prop}(k:q)(a: -9223372036854775808<=x:=by omega)(b:x<=9223372036854775807:=by omega):dx x/\q:=⟨eD a b,k⟩
attribute [local irreducible] b6 eF ez eH eB eM dC ec dU dx
structure Slot where
 gen:Int
 L:Bool
 ret:Bool
abbrev fG:=Nat->Slot
def BT:Ty:=.p .c (.p .c (.p .c .u))
def ua(s:Slot):D:=.H (.z .u32 s.gen) (.H (.I s.L) (.H (.I s.ret) .un))
def Ft(b:fG)(k:Nat){r:List Nat}{v:D}{s:Slot}(h:(ua (b k)).set r v=ua s):a7 (λi=>ua (b i)) k ((ua (b k)).set r v)=λi=>ua (a7 b k s i):=by rw[h];exact iU ua b k s
def kR(b:fG):D:=.H (.ar 32 BT λi=>ua (b i)) .un
abbrev H(h:Int):SV:=.d (.z .u32 h)
abbrev I(x:Int):SV:=.d (.z .i64 x)
abbrev B(x:Bool):SV:=.d (.I x)
abbrev T2(a b:SV):SV:=.tu (.H a (.H b (.d .un)))
abbrev T3(a b c:SV):SV:=.tu (.H a (.H b (.H c (.d .un))))
def x5(h:Int):Int:=dC .and .u32 h 255 - 1
def mv(h:Int):Bool:=decide (x5 h<0)||decide (x5 h>=32)||decide (dU .u32 h 8>8388607)
def M4(h:Int):0<=dC .and .u32 h 255/\dC .and .u32 h 255<=255:=by
 unfold dC;have a:(BitVec.ofInt IntKind.u32.bits h&&& BitVec.ofInt IntKind.u32.bits 255).toNat<=255:=by rw[Gg];exact eY Nat.and_le_right a8
 have:=l5 (k:=.u32) (x:=((BitVec.ofInt IntKind.u32.bits h&&& BitVec.ofInt IntKind.u32.bits 255).toNat:Int)) (iL (by simp only[eU];omega) (λ_=>a3) (by simp only[eU];omega));show 0<=IntKind.u32.wrap _/\IntKind.u32.wrap _<=255;rw[this];omega
def rm(h:Int):c5 a6 56 [H h] (T2 (I (bif mv h then 0 else x5 h)) (B (!mv h))):=by
 refine dq func56 ?_;refine a4 (eD (by have:=M4 h;omega) (by have:=M4 h;omega)) ?_;conv=>whnf
 have e:(decide (dC .and .u32 h 255 - 1<0)||decide (dC .and .u32 h 255 - 1>=32)||decide (dU .u32 h 8>8388607))=mv h:=rfl;apply a4<;>intro a
 .refine b7 ?_;rw[show mv h=true from a];rfl
 .refine b7 ?_;rw[show mv h=false from a];rfl
def fT(i a:Int):Int:=IntKind.u32.wrap (IntKind.u32.wrap (ec .u32 a 8+IntKind.u32.wrap i)+1)
def QC(i a:Int):c5 a6 176 [I i,H a] (H (fT i a)):=by
 refine dq func176 ?_;exact b7
def Yh(a b:Slot):zX a6 82 (ua a) (ua b) (a.gen==b.gen&&(a.L==b.L&&a.ret==b.ret)):=by
 intro O J x y X Y w m k l;obtain⟨n,c,rfl⟩:=k.1 rfl;obtain⟨o,e,rfl⟩:=l.1 rfl;obtain⟨_,_,rfl,⟨rfl,_⟩,_,_,rfl,rfl,_,_,rfl,rfl,rfl⟩:=c;obtain⟨_,_,rfl,⟨rfl,_⟩,_,_,rfl,rfl,_,_,rfl,rfl,rfl⟩:=e;refine⟨?_,?_⟩
 .have i:a6.eqGuardType a6.depth 82=false:=ey
  unfold eqGuard;cases m<;>simp[i]
 .have j:a6.stoodInHeld 82=false:=ey
  have h:∀w,(isAgg 4).run a6 w=.ok false w:=λw=>ey
  have f:∀w,(isAgg 68).run a6 w=.ok false w:=λw=>ey
  unfold Op.equal Op.maxDepth Op.equalIn;simp only[jt,run_underlying underlying82,lQ,run_program,j];simp[part,h,f,OF (d:=9998) underlying68,uc (d:=9998) underlying4];by_cases c:a.gen=b.gen<;>by_cases e:a.L=b.L<;>by_cases g:a.ret=b.ret<;>simp[c,e,g]
def ny(h:Int):Int:=bif mv h then 0 else x5 h
def nR(h:Int):0<=ny h/\ny h<32:=by
 unfold ny;cases a:mv h with
 |true=>exact⟨i6 _,(a8:(0:Int)<32)⟩
 |false=>
  simp only[mv,gX,kq]at a;simp only[eQ];omega
def a5(h:Int):Nat:=(ny h).toNat
def bk(b:fG)(h:Int):Bool:=!mv h&&((b (a5 h)).gen==dU .u32 h 8&&((b (a5 h)).L==true&&(b (a5 h)).ret==false))
def jA(b:fG)(h:Int):c5 a6 24 [.d (kR b),H h] (B (bk b h)):=by
 refine dq func24 ?_;refine bo (rm h) (a4 (λ_=>nR h) (DO (Yh _ ⟨dU .u32 h 8,true,false⟩) (λ_ h _=>h) ?_));exact b7
def mj(b:fG)(i:Int):Bool:=decide (i<0)||decide (i>=32)||!(b i.toNat).L
def Ur(b:fG)(i:Int):c5 a6 100 [.d (kR b),I i] (T2 (H (bif mj b i then 0 else fT i (b i.toNat).gen)) (B (!mj b i))):=by
 refine dq func100 ?_;refine a4 ?_ ?_
 .intro h;conv=>whnf
  simp at h ⊢;omega
 apply a4<;>intro a
 .refine b7 ?_;rw[show mj b i=true from a];rfl
 .refine a4 ?_ ?_
  .conv=>whnf
   simp at a ⊢;omega
  refine bo (QC _ _) (b7 ?_);rw[show mj b i=false from a];rfl
abbrev hD(h:Int):D:=.z .u32 h
abbrev hL(l:List Int):List D:=l.map hD
abbrev HS(l:List Int):SV:=.d (fq .c (hL l))
def ga(b:fG):Nat->List Int
 |0=>[]
 |i+1=>ga b i++(bif mj b i then[]else[fT i (b i).gen])
def dI(b:fG):List Int:=ga b 32
def vb(b:fG):dI b=ga b 32:=rfl
attribute [irreducible] dI
def AK(b:fG)(i:Nat):(hL (ga b i)).length<=i:=by
 induction i with
 |zero=>exact a9 _
 |succ i a=>
  simp only[ga,hL,je,ew]at a ⊢;cases mj b i<;>simp at a ⊢<;>omega
def Md(b:fG):CE a6 52 [.d (kR b)] .c (hL (dI b)):=by
 rw[vb];generalize d:hL (ga b 32)=L32;refine zax rfl (zy func52 rfl ey rfl rfl ?_);refine dX c6 (λi=>i<=32) (λi=>32 - i) (λi=>[(7,I i),(3,Sl 0 (hL (ga b i)))]) (λi=>⟨[.d (kR b)],[],KB .c (hL (ga b i))⟩) 0 a3 ⟨rfl,rfl,trivial⟩ rfl (λi=>⟨a9 _,a9 _,dG _⟩) ?_;intro i j;have c:=AK b i;apply a4<;>intro h
 .have a:i<32:=eZ h
  refine bo (Ur b i) ?_;apply a4<;>intro f
  .have g:mj b i=false:=b8 f
   have e:hL (ga b (i+1))=hL (ga b i)++[hD (bif mj b i then 0 else fT i (b i).gen)]:=by simp[ga,g]
   generalize hL (ga b i)=L at e c ⊢;cases L with
   |nil=>
    refine Or.inl (a4 a3 (.inr ⟨a3,?_⟩));refine b2 (x:=(i:Int)+1) ?_;conv=>whnf
    refine⟨i+1,a,a3,⟨rfl,?_,trivial⟩,⟨?_,?_⟩,?_⟩<;>rw[e]<;>rfl
   |cons x r=>
    refine Or.inl (a4 ⟨rfl,by simp at c ⊢;omega⟩ (b2 (x:=(i:Int)+1) ?_));conv=>whnf
    refine⟨i+1,a,a3,⟨rfl,?_,trivial⟩,⟨?_,?_⟩,?_⟩<;>rw[e]
    .show some (SV.ob (.mr 0 ((x::r).length+1)))=some (SV.ob (.mr 0 ((x::r)++[hD (bif mj b i then 0 else fT i (b i).gen)]).length));rw[ew];rfl
    .show(⟨[.d (kR b)],[],[.row ((x::r).length+1) ((x::r).length+1) .c (fE (x::r).length (c7 (x::r)) (c7 [hD (bif mj b i then 0 else fT i (b i).gen)]))]⟩:MS)=⟨[.d (kR b)],[],[.row ((x::r)++[hD (bif mj b i then 0 else fT i (b i).gen)]).length ((x::r)++[hD (bif mj b i then 0 else fT i (b i).gen)]).length .c (c7 ((x::r)++[hD (bif mj b i then 0 else fT i (b i).gen)]))]⟩;rw[rO,ew];rfl
    .rfl
    .rfl
  .have g:mj b i=true:=b8 f
   have e:hL (ga b (i+1))=hL (ga b i):=by simp[ga,g]
   refine b2 (x:=(i:Int)+1) ?_;conv=>whnf
   refine⟨i+1,a,a3,⟨rfl,?_,trivial⟩,⟨?_,?_⟩,?_⟩<;>rw[e]
   all_goals (generalize hL (ga b i)=L;cases L<;>rfl)
 .have a:i=32:=e9 h
  subst a;subst d;generalize hL (ga b 32)=L;cases L with
  |nil=>
   exact a4 rfl rfl
  |cons x r=>
   exact a4 rfl rfl
def z1(b:fG):c5 a6 52 [.d (kR b)] (HS (dI b)):=Qe rfl (Md b)
end Sx
namespace Sx
attribute [local irreducible] b6 eF ez eH eB eM dC ec dU dx
def uf(b:fG)(i:Nat):Nat->Option Nat
 |0=>none
 |k+1=>match(b i).L||(b i).ret with
  |true=>uf b (i+1) k
  |false=>some i
def kH(b:fG):Option Nat:=uf b 0 32
def fK(b:fG):fG:=match kH b with
 |some i=>a7 b i ⟨(b i).gen,true,(b i).ret⟩
 |none=>b
def dY(b:fG):Int:=match kH b with
 |some i=>fT i (b i).gen
 |none=>0
def Mb(b:fG):c5 a6 359 [.d (kR b)] (T3 (.d (kR (fK b))) (H (dY b)) (B (kH b).isSome)):=by
 refine dq func359 ?_;refine dX c6 (λi=>i<=32/\kH b=uf b i (32 - i)) (λi=>32 - i) (λi=>[(9,I i)]) (λ_=>⟨[.d (kR b),.d (ZT.d Ga)],[],[]⟩) 0 ⟨a3,rfl⟩ ⟨rfl,trivial⟩ rfl (λi=>⟨a9 _,a9 _,a9 _⟩) ?_;rintro i ⟨g,a⟩;apply a4<;>intro e
 .have c:i<32:=eZ e
  rw[show 32 - i=(32 -(i+1))+1 by omega]at a;refine a4 ?_ ?_
  .conv=>whnf
   omega
  apply a4<;>intro d
  .have d:((b i).L||(b i).ret)=true:=d;simp only[uf,d]at a;refine a4 ?_ ?_
   .exact eD (x:=(i:Int)+1) a3 a3
   conv=>whnf
   exact⟨i+1,⟨c,a⟩,a3,⟨rfl,trivial⟩,⟨rfl,rfl⟩,rfl⟩
  .have d:((b i).L||(b i).ret)=false:=d;simp only[uf,d]at a;refine a4 ?_ ?_
   .conv=>whnf
    omega
   conv=>whnf
   refine⟨.d (kR (a7 b i ⟨(b i).gen,true,(b i).ret⟩)),dE (λf=>SV.d (.H (.ar 32 BT f) .un)) (Ft b i rfl),?_⟩;refine dL 5 (c9 (QC _ _) (λ_ h=>h) (b7 ?_));rw[fK,dY,a];rfl
 .have c:i=32:=e9 e
  subst c;have a:kH b=none:=a;refine b7 ?_;rw[fK,dY,a];rfl
def e8(b:fG)(h:Int):fG:=bif bk b h then a7 b (a5 h) (bif (b (a5 h)).gen==8388607 then⟨(b (a5 h)).gen,false,true⟩else⟨IntKind.u32.wrap ((b (a5 h)).gen+1),false,(b (a5 h)).ret⟩)else b
def ML(b:fG)(h:Int):c5 a6 374 [.d (kR b),H h] (T2 (.d (kR (e8 b h))) (B (bk b h))):=by
 refine dq func374 ?_;conv=>whnf
 refine bo (jA b h) ?_;conv=>whnf
 apply a4<;>intro g
 .have c:bk b h=false:=b8 g
  conv=>whnf
  refine b7 ?_;rw[e8,c];rfl
 .have c:bk b h=true:=b8 g
  conv=>whnf
  refine bo (rm h) ?_;conv=>whnf
  refine⟨nR h,?_⟩;conv=>whnf
  refine⟨.d (kR (a7 b (a5 h) ⟨(b (a5 h)).gen,false,(b (a5 h)).ret⟩)),dE (λf=>SV.d (.H (.ar 32 BT f) .un)) (Ft b (a5 h) rfl),?_⟩;conv=>whnf
  have d:a7 b (a5 h) ⟨(b (a5 h)).gen,false,(b (a5 h)).ret⟩ (a5 h)=⟨(b (a5 h)).gen,false,(b (a5 h)).ret⟩:=if_pos rfl;have i:∀s t,a7 (a7 b (a5 h) s) (a5 h) t=a7 b (a5 h) t:=λs t=>by funext j;unfold a7;split<;>rfl
  apply a4<;>intro e
  .have a:((a7 b (a5 h) ⟨(b (a5 h)).gen,false,(b (a5 h)).ret⟩ (a5 h)).gen==8388607)=true:=e;rw[d]at a;conv=>whnf
   refine⟨.d (kR (a7 b (a5 h) ⟨(b (a5 h)).gen,false,true⟩)),dE (λf=>SV.d (.H (.ar 32 BT f) .un)) ((Ft (a7 b (a5 h) ⟨(b (a5 h)).gen,false,(b (a5 h)).ret⟩) (a5 h) (s:=⟨(b (a5 h)).gen,false,true⟩) (by rw[d];rfl)).trans (by rw[i])),?_⟩;conv=>whnf
   refine b7 ?_;rw[e8,c,a];rfl
  .have a:((a7 b (a5 h) ⟨(b (a5 h)).gen,false,(b (a5 h)).ret⟩ (a5 h)).gen==8388607)=false:=e;rw[d]at a;conv=>whnf
   refine⟨.d (kR (a7 b (a5 h) ⟨IntKind.u32.wrap ((b (a5 h)).gen+1),false,(b (a5 h)).ret⟩)),dE (λf=>SV.d (.H (.ar 32 BT f) .un)) ((Ft (a7 b (a5 h) ⟨(b (a5 h)).gen,false,(b (a5 h)).ret⟩) (a5 h) (s:=⟨IntKind.u32.wrap ((b (a5 h)).gen+1),false,(b (a5 h)).ret⟩) (by show(ua (a7 b (a5 h) ⟨(b (a5 h)).gen,false,(b (a5 h)).ret⟩ (a5 h))).set [0] (.z .u32 (IntKind.u32.wrap ((a7 b (a5 h) ⟨(b (a5 h)).gen,false,(b (a5 h)).ret⟩ (a5 h)).gen+1)))=_;rw[d];rfl)).trans (by rw[i])),?_⟩;conv=>whnf
   refine b7 ?_;rw[e8,c,a];rfl
end Sx
end Go.Proofs.YtfbhkfhbnkncoaaGreatDoor
