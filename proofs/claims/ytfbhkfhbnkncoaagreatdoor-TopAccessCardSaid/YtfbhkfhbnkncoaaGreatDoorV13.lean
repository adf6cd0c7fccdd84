import Derived.Test.YtfbhkfhbnkncoaaGreatDoorV12
import Derived.OrdersIn
set_option linter.all false
namespace Go.Proofs.YtfbhkfhbnkncoaaGreatDoor
open Go.RowKit
namespace Sx
variable {E:Gh} {r:Option Nat} {nn:Nat}
variable {P:Program} {tb:TT}
variable{a:Act}{J:Bl}{g:jl}{V:List Ent}{L:j9}{O:Ro}{v:SV}
def At(O:Ro)(J:Bl)(L:j9)(V:List Ent)(a:Act)(t:Nat):Prop:=∀c u,fP L V t=some (c,u)->iu a c->du O J u (a.tmps.getD t undef)
def DP{x:Operand}(b:∀t,x=.tmp t->At O J L V a t)(d:iu a g)(h:iQ L V g x=some v):du O J v (a.eval x):=by
 unfold iQ at h;split at h
 .split at h
  .rename_i c i e;split at h
   .rename_i f;cases h;exact b _ rfl _ _ e (d.sub f)
   .cases h
  .cases h
 .exact QB h
 .cases h;exact⟨ef,λ_=>⟨[],rfl,rfl⟩⟩
 .cases h;exact ka.v rfl
def O3{O:Ro}{J:Bl}{L:j9}{V:List Ent}{a:Act}{g:jl}(l:∀p∈g,At O J L V a p.1)(h:iu a g):∀{c:jl},(∀p∈c,p∈g)->∀p,gP L V g c p->p
 |[],_,_,d=>d
 |(t,e)::r,j,p,d=>by
  unfold gP at d;have i:=O3 l h (c:=r) (λq n=>j q (by simp[n])) p;split at d
  .rename_i c b m;split at d
   .rename_i f;refine i (d ?_);have k:=(l (t,e) (j _ eA) _ _ m (h.sub f)).I;rw[h (t,e) (j _ eA)]at k;cases k;rfl
   .exact i d
  .exact i d
def yq(P:Program)(tb:TT)(m:MS)(V:List Ent)(L:j9)(g:jl)(o:Oper)(v:SV):Prop:=
 lN P tb o.op m (iQ L V g) (gP L V g g) true (tQ v m) (λ_ _=>False)\/
 ∃c a b d t,o.op=.pick (.tmp c) a b/\fP L V c=some (d,.d (.I t))/\tX d g=true/\zt a b t (iQ L V ((c,true)::g) a) (iQ L V ((c,false)::g) b)=some v
def zbx{l m:Operand}{t:Bool}{n o:Option SV}(c:zt l m t n o=some v){h i:Value}(j:t=true->∀x,n=some x->du O J x h)(k:t=false->∀x,o=some x->du O J x i)(e:t=true->∀b,l=.const (.bool b)->h=.bool b)(f:t=false->∀b,m=.const (.bool b)->i=.bool b):du O J v (if t then h else i):=by
 have a:∀{u:Option SV} {y:Bool},u.bind vU=some y->u=some (.d (.I y)):=λ{u y} p=>by
  obtain⟨z,q,d⟩:=w4.1 p;subst q;unfold vU at d;split at d
  .cases d;rfl
  .cases d
 unfold zt at c;split at c
 .split at c
  .rename_i y d;cases c;cases t with
   |true=>rw[e rfl true rfl];exact lY true
   |false=>have:=k rfl _ (a d);simpa using this
  .cases c
 .split at c
  .split at c
   .rename_i x g;cases c;cases t with
    |true=>have:=j rfl _ (a g);simpa using this
    |false=>have:=f rfl false rfl;rw[this];exact lY false
   .cases c
  .split at c
   .rename_i x y g d;cases c;cases t with
    |true=>have:=j rfl _ (a g);simpa using this
    |false=>have:=k rfl _ (a d);simpa using this
   .cases c
def zo(l:List Nat):Operand->Bool
 | .tmp t=>decide (t∈l)
 |_=>true
def zd3(hP:tb.ok P){m:MS}{o:Oper}(h:yq P tb m V L g o v){w:World}(Y:Mem E O J m w)(s:iu a g)(R:∀t∈uE o.op.operands.toList,At O J L V a t)(N:∀p∈g,At O J L V a p.1){next:Act->World->Prop}{Q:Exit->Act->World->Prop}(Z:∀k i M x,du k i v x->Mem E k i m M->Gr O J w k i M->next (a.put o.dst x) M):o.wpIn (FR r) nn P a w next Q:=by
 have n:∀x∈o.op.operands.toList,∀t,x=.tmp t->At O J L V a t:=λx f t e=>R t (by subst e;exact Gw.2 ⟨_,f,rfl⟩);rcases h with h|⟨C,T,W,cc,t,j,hl,z,hv⟩
 .have K:∀x∈o.op.operands.toList,iQ L V g x=(if zo (uE o.op.operands.toList) x=true then iQ L V g x else none):=λx f=>by
   have:zo (uE o.op.operands.toList) x=true:=by
    cases x with
    |tmp t=>exact eI (Gw.2 ⟨_,f,rfl⟩)
    |_=>rfl
   exact(if_pos this).symm
  rw[Tr K]at h;refine Cc hP Y (λx u f=>?_) (λp l=>O3 N s (λq hq=>hq) p l) h ⟨λk i U M u x F f G hG=>?_,λk i U M d x F _ _ _=>F.elim⟩
  .split at f
   .rename_i A;refine DP (λt e=>?_) s f;subst e;exact R t (by simpa[zo]using A)
   .cases f
  .obtain⟨rfl,rfl⟩:=F;exact Z _ _ _ _ f G hG
 .have S:=(R C (by rw[j];simp[Op.operands,uE]) _ _ hl (s.sub z)).I;have f:du O J v (if t then a.eval T else a.eval W):=zbx hv
   (λe x f=>DP (g:=(C,true)::g) (n T (by rw[j];simp[Op.operands])) (λp l=>by
    rcases iB.1 l with rfl|l
    .rw[S,e]
    .exact s p l) f)
   (λe x f=>DP (g:=(C,false)::g) (n W (by rw[j];simp[Op.operands])) (λp l=>by
    rcases iB.1 l with rfl|l
    .rw[S,e]
    .exact s p l) f)
   (λ_ b e=>by subst e;rfl) λ_ b e=>by subst e;rfl
  have y:(execOp a.eval o).run P w=.ok (.value (if t then a.eval T else a.eval W)) w:=by have e1:a.eval (.tmp C)=.bool t:=S;unfold execOp;rw[j];cases t<;>simp[e1,asBool]
  refine wB (λc A=>by rw[j]at A;cases A) ?_;rw[y];exact Z _ _ _ _ f Y (Gr.refl _ _ _)
def U7(P:Program)(tb:TT)(N:Nat)(a:List Oper)(hd:Nat)(m:MS)(V:List Ent)(b:j9)(k:Nat):Prop:=
 ∃o d g v,a[k]?=some o/\o.dst=some d/\b.drop (hd -(k+1))=(d,g,some v)::b.drop (hd - k)/\qF a (b.drop (hd - k)) V o.guard=some g/\Nat.blt d N=true/\yq P tb m V (b.drop (hd - k)) g o v
end Sx
namespace Sx
variable {P:Program} {tb:TT}
variable{A:Array Bool}{i:Nat}
structure DOk (ops:List Oper) (hd:Nat):Prop where
 le:hd<=ops.length
 inj:∀(i j:Nat) (o o':Oper) (d:Nat),ops[i]?=some o->ops[j]?=some o'->o.dst=some d->o'.dst=some d->i=j
 back:∀(i:Nat) (o:Oper),ops[i]?=some o->∀e∈o.after,Region.binds .any e=true->e.on<i
 reads:∀(i:Nat) (o:Oper),i<hd->ops[i]?=some o->∀t∈uE o.op.operands.toList,∀(j:Nat) (o':Oper),ops[j]?=some o'->o'.dst=some t->j<i/\((vf ops []).getD i 0).testBit j=true
 dst:∀(i:Nat) (o:Oper),i<hd->ops[i]?=some o->o.dst.isSome=true
 guard:∀(i:Nat) (o:Oper) (j:Nat) (want:Bool),i<hd->ops[i]?=some o->o.guard=some (j,want)->j<i/\((vf ops []).getD i 0).testBit j=true
 tail:∀(i:Nat) (o:Oper),hd<=i->ops[i]?=some o->∀j,j<i->((vf ops []).getD i 0).testBit j=true
def Uk{a:List Oper}{p:Oper×Nat->Bool}(h:a.zipIdx.all p=true){o:Oper}(b:a[i]?=some o):p (o,i)=true:=by refine pQ.1 h (o,i) ?_;rw[List.mem_zipIdx_iff_getElem?];exact b
def Jz:∀{f:List Oper},(f.filterMap (·.dst)).Nodup->∀{i j:Nat} {o o':Oper} {d:Nat},f[i]?=some o->f[j]?=some o'->o.dst=some d->o'.dst=some d->i=j
 |[],_,_,_,_,_,_,h,_,_,_=>by cases h
 |x::r,g,i,j,o,o',d,m,n,e,a=>by
  have b:∀{k:Nat} {y:Oper},r[k]?=some y->y.dst=some d->d∈r.filterMap (·.dst):=λp q=>Gw.2 ⟨_,oU p,q⟩;cases l:x.dst with
  |none=>
   rw[List.filterMap_cons_none l]at g;cases i with
   |zero=>cases m;rw[l]at e;cases e
   |succ i=>
    cases j with
    |zero=>cases n;rw[l]at a;cases a
    |succ j=>exact dE (·+1) (Jz g (b8 m) (b8 n) e a)
  |some c=>
   rw[List.filterMap_cons_some l,pW]at g;cases i with
   |zero=>
    cases m;cases j with
    |zero=>rfl
    |succ j=>rw[l]at e;cases e;exact b3 (b (b8 n) a) g.1
   |succ i=>
    cases j with
    |zero=>cases n;rw[l]at a;cases a;exact b3 (b (b8 m) e) g.1
    |succ j=>exact dE (·+1) (Jz g.2 (b8 m) (b8 n) e a)
def kK(A:Array Bool)(j:Nat):Bool:=A.getD j false
def Kk{a:Array Oper}(j:A.size=a.size):i∈Region.ready .any a A↔kK A i=false/\pw a.toList (kK A) i:=by
 unfold Region.ready pw kK;simp only[jM,gZ,dH,jL,pN];constructor
 .rintro⟨h,b,d⟩;have c:a[i]?=some a[i]:=LM h;refine⟨?_,a[i],c,λe g f=>?_⟩
  .have:A[i]?=some A[i]:=LM a3;simp only[oO,this,tO]at b ⊢;exact b
  .simp only[c,qs,tO]at d;have:=Uo.1 d e g;simpa[f]using this
 .rintro⟨b,o,c,d⟩;have h:=(nX.1 c).1;refine⟨h,?_,?_⟩
  .have:A[i]?=some A[i]:=LM a3;simp only[oO,this,tO]at b ⊢;exact b
  .simp only[c,qs,tO];refine Uo.2 λe g=>?_;cases f:Region.binds .any e with
   |false=>rfl
   |true=>simp[d e g f]
def zav{j:Nat}(a:i<A.size):kK (A.setIfInBounds i true) j=if j=i then true else kK A j:=by
 unfold kK;simp only[oO,uH];by_cases h:i=j
 .subst h;simp[a]
 .simp[h,sZ h]
def rq(n:Nat)(a:Nat->Bool):Nat:=(List.range n).countP λj=>!a j
def Xw{n:Nat}{b a:Nat->Bool}(k:i<n)(d:b i=false)(h:∀j,a j=if j=i then true else b j):rq n b=rq n a+1:=by
 unfold rq;induction n with
 |zero=>omega
 |succ n g=>
  rw[mC,List.countP_append,List.countP_append];by_cases c:i<n
  .rw[g c];have:a n=b n:=by rw[h];simp[show¬n=i by omega]
   simp[this];omega
  .have:i=n:=a3
   subst this;have e:(List.range i).countP (λj=>!a j)=(List.range i).countP (λj=>!b j):=by apply List.countP_congr;intro j f;have:=gZ.1 f;rw[h];simp[show¬j=i by omega]
   rw[e];simp[d,h]
end Sx
namespace Sx
variable {E:Gh} {r:Option Nat} {nn:Nat}
variable {P:Program} {tb:TT}
variable{c g:jl}{d i j k t x:Nat}{o:Oper}{ρ:Operand->Option SV}{G:Prop->Prop}{v:SV}{C K:SV->MS->Prop}
def uL(hd:Nat)(Lh:j9)(k d:Nat)(g:jl)(v:SV):Prop:=k<hd/\Lh.drop (hd -(k+1))=(d,g,some v)::Lh.drop (hd - k)
structure HOk (P:Program) (tb:TT) (N:Nat) (ops:List Oper) (hd:Nat) (m:MS) (K:List Ent) (Lh:j9):Prop where
 d:DOk ops hd
 len:Lh.length=hd
 step:∀k,k<hd->U7 P tb N ops hd m K Lh k
structure HInv (E:Gh) (N hd:Nat) (ops:List Oper) (m:MS) (Lh:j9) (ro0:Ro) (bl0:Bl) (a0:Act) (w0:World) (ls:Nat->Bool) (ro:Ro) (bl:Bl) (a:Act) (w:World):Prop where
 mem:Mem E ro bl m w
 gr:Gr ro0 bl0 w0 ro bl w
 size:a.tmps.size=N
 defers:a.defers=a0.defers
 F4:gN (lB ops) a0 a
 yes:∀k d g v,ls k=true->uL hd Lh k d g v->iu a g->du ro bl v (a.tmps.getD d undef)
 no:∀k d g v,ls k=true->uL hd Lh k d g v->¬iu a g->a.tmps.getD d undef=undef
 out:∀t,(∀j o,ops[j]?=some o->ls j=true->o.dst≠some t)->a.tmps.getD t undef=a0.tmps.getD t undef
def HOk.H4{N hd:Nat}{ops:List Oper}{m:MS}{V:List Ent}{Lh:j9}(H:HOk P tb N ops hd m V Lh)(h:uL hd Lh k d g v):
 ∃o,ops[k]?=some o/\o.dst=some d/\qF ops (Lh.drop (hd - k)) V o.guard=some g/\Nat.blt d N=true/\yq P tb m V (Lh.drop (hd - k)) g o v:=by
 obtain⟨o,K,A,L,f,j,u,C,F,G⟩:=H.step k h.1;have:=h.2.symm.trans u;simp only[oP,CM,fW,px]at this;obtain⟨rfl,rfl,rfl⟩:=this;exact⟨o,f,j,C,F,G⟩
def HOk.look{N hd:Nat}{ops:List Oper}{m:MS}{V:List Ent}{Lh:j9}(H:HOk P tb N ops hd m V Lh){u:SV}:∀{i:Nat},i<=hd->fP (Lh.drop (hd - i)) V t=some (c,u)->
 (∃k,k<i/\uL hd Lh k t c u)\/(c=[]/\Sx.look V t=some u/\∀k o,k<i->ops[k]?=some o->o.dst≠some t)
 |0,_,h=>by rw[Nat.sub_zero,oQ (by rw[H.len];exact a9 _)]at h;simp only[fP,fB]at h;obtain⟨Y,W,h⟩:=h;cases h;exact .inr ⟨rfl,W,λk o K=>a3⟩
 |i+1,G,h=>by
  obtain⟨o,d,g,v,L,M,F,_⟩:=H.step i G;rw[F]at h;unfold fP at h;split at h
  .rename_i C;have:=fp C;subst this;cases h;exact .inl ⟨i,mL i,G,F⟩
  .rename_i C;rcases H.look (i:=i) a3 h with⟨k,K,R⟩|⟨Q,T,U⟩
   .exact .inl ⟨k,a3,R⟩
   .refine .inr ⟨Q,T,λk Z K j f=>?_⟩;rcases jB k i with A|S
    .exact U k Z A j f
    .have:k=i:=a3
     subst this;rw[L]at j;cases j;rw[M]at f;cases f;simp at C
def vX{ops:List Oper}{ls:Nat->Bool}(c:re ops ls)(e:pw ops ls i)(b:((vf ops []).getD i 0).testBit j=true):ls j=true:=
 Qi c (r:=ops) (C:=[]) eA (λk d=>by simp at d) i j b e
def yH{ops:List Oper}{ls:Nat->Bool}(c:re ops ls)(b:ops[j]?=some o)(d:ls j=true):pw ops ls j:=⟨o,b,c j o b d⟩
def HOk.F8{N hd:Nat}{ops:List Oper}{m:MS}{V:List Ent}{Lh:j9}(H:HOk P tb N ops hd m V Lh){ls:Nat->Bool}(T:re ops ls):∀(i:Nat) {d:Nat} {g:jl} {v:SV},uL hd Lh i d g v->pw ops ls i->
 ∀p∈g,∃k o,k<i/\ls k=true/\ops[k]?=some o/\o.dst=some p.1:=λi=>by
 induction i using Nat.strongRecOn with
 |_ i ih=>
  intro d g v R hw p K;obtain⟨o,U,h2,u,_⟩:=H.H4 R;unfold qF at u;split at u
  .cases u;cases K
  .rename_i j L hg;obtain⟨F,kf⟩:=H.d.guard i o j L R.1 U hg;have G:=vX T hw kf;split at u
   .rename_i dj f;rw[yW]at f;obtain⟨oj,A,f⟩:=w4.1 f;split at u
    .rename_i c b hl;cases u;rcases iB.1 K with rfl|K
     .exact⟨j,oj,F,G,A,f⟩
     .rcases H.look (uP R.1) hl with⟨k,hk,C⟩|⟨M,_⟩
      .obtain⟨ok,S,Q,_⟩:=H.H4 C;have:k=j:=H.d.inj _ _ _ _ _ S A Q f;subst this;obtain⟨k',o',h5,W,Z,h8⟩:=ih k F C (yH T A G) p K;exact⟨k',o',a3,W,Z,h8⟩
      .subst M;cases K
    .cases u
   .cases u
def ve{O:Ro}{J:Bl}{N:Nat}{V:List Ent}{a:Act}(h:SimL O J [] V N a)(b:look V t=some v):du O J v (a.tmps.getD t undef):=h.yes t [] v (by simp[fP,b]) λp c=>by cases c
section
variable {N hd:Nat} {ops:List Oper} {m:MS} {V:List Ent} {Lh:j9} {ro0:Ro} {bl0:Bl} {a0:Act} {w0:World} {ls:Nat->Bool} {O:Ro} {J:Bl} {a:Act} {w:World}
def HInv.at(H:HOk P tb N ops hd m V Lh)(L:SimL ro0 bl0 [] V N a0)(C:HInv E N hd ops m Lh ro0 bl0 a0 w0 ls O J a w)(Q:i<=hd)(K:∀j o,ops[j]?=some o->o.dst=some t->j<i/\ls j=true):
 At O J (Lh.drop (hd - i)) V a t:=λc u F M=>by
 rcases H.look Q F with⟨k,T,G⟩|⟨rfl,F,S⟩
 .obtain⟨o,A,f,_⟩:=H.H4 G;exact C.yes k t c u (K k o A f).2 G M
 .rw[C.out t λj o A R f=>S j o (K j o A f).1 A f];exact(ve L F).mono C.gr.le
def HInv.wanted{ops:Array Oper}(H:HOk P tb N ops.toList hd m V Lh)(hS:SimL ro0 bl0 [] V N a0)(hI:HInv E N hd ops.toList m Lh ro0 bl0 a0 w0 ls O J a w)(G:re ops.toList ls)(he:uL hd Lh i d g v)(hw:pw ops.toList ls i)(ho:ops.toList[i]?=some o)(A:qF ops.toList (Lh.drop (hd - i)) V o.guard=some g):Region.wanted o (yielded ops a.tmps)=true↔iu a g:=by
 unfold qF at A;unfold Region.wanted;split at A
 .rename_i R;cases A;rw[R];simp only[true_iff];intro p C;cases C
 .rename_i j f R;rw[R];obtain⟨ad,kf⟩:=H.d.guard i o j f he.1 ho R;have Z:=vX G hw kf;split at A
  .rename_i d hd;rw[yW]at hd;split at A
   .rename_i c b hl;cases A;have T:=hd;rw[pN]at hd;simp only[yielded,hd,sd];have L:a.tmps.getD d undef=(a.tmps[d]?).getD undef:=eA
    have aa:¬iu a c->a.tmps.getD d undef=undef:=λM=>by
     rcases H.look (uP he.1) hl with⟨k,hk,K⟩|⟨S,_⟩
     .obtain⟨ok,ac,W,_⟩:=H.H4 K;obtain⟨oj,ab,U⟩:=w4.1 T;have:k=j:=H.d.inj _ _ _ _ _ ac ab W U;subst this;exact hI.no k d c _ Z K M
     .subst S;exact b3 (λp C=>by cases C) M
    constructor
    .intro F;have u:a.tmps.getD d undef=.bool f:=by
      rw[L];cases Q:a.tmps[d]? with
      |none=>rw[Q]at F;simp at F
      |some x=>
       rw[Q]at F;cases x<;>simp at F;subst F;rfl
     have G:iu a c:=Gl λG=>by have:=aa G;rw[u]at this;cases this
     intro p C;rcases iB.1 C with rfl|C
     .exact u
     .exact G p C
    .intro F;have u:=F (d,f) eA;rw[L]at u;cases Q:a.tmps[d]? with
     |none=>rw[Q]at u;cases u
     |some x=>rw[Q]at u;cases u;simp
   .cases A
  .cases A
def Lx{d:Nat}{o:Oper}:∀{l:List Oper} {i:Nat},l[i]?=some o->o.dst=some d->d∈lB l
 |x::r,0,h,hd=>by cases h;simp only[lB,hd];exact fQ ..
 |x::r,i+1,h,hd=>by
  have:=Lx (l:=r) (i:=i) (b8 h) hd;simp only[lB];split
  .exact fA _ this
  .exact this
 |[],_,h,_=>by cases h
def HInv.put(H:HOk P tb N ops hd m V Lh)(S:HInv E N hd ops m Lh ro0 bl0 a0 w0 ls O J a w)(hc:re ops ls)(he:uL hd Lh i d g v)(hw:pw ops ls i)(h0:ls i=false){Q:Ro}{K:Bl}{M:World}{x:Value}(hM:Mem E Q K m M)(hG:Gr O J w Q K M)(hy:iu a g->du Q K v x)(hn:¬iu a g->x=undef){W:Nat->Bool}(U:∀j,W j=if j=i then true else ls j):
 HInv E N hd ops m Lh ro0 bl0 a0 w0 W Q K (a.put (some d) x) M:=by
 obtain⟨o,ho,L,_,hN,_⟩:=H.H4 he;have C:d<a.tmps.size:=by rw[S.size];exact dF hN
 have F:∀{k G:Nat} {A:jl} {R:SV},uL hd Lh k G A R->pw ops ls k->(iu (a.put (some d) x) A↔iu a A):=λf ag=>by
  refine yM C (pQ.2 λp hp=>?_);obtain⟨k',o',_,Z,h3,h4⟩:=H.F8 hc _ f ag p hp;have:p.1≠d:=λe=>by have:k'=i:=H.d.inj _ _ _ _ _ h3 ho (e▸h4) L;subst this;rw[h0]at Z;cases Z
  cases hb:Nat.beq p.1 d with
  |false=>rfl
  |true=>exact b3 (fp hb) this
 have u:∀{k G:Nat} {A:jl} {R:SV},W k=true->uL hd Lh k G A R->(G=d/\A=g/\R=v)\/(ls k=true/\G≠d/\(iu (a.put (some d) x) A↔iu a A)):=λ{k G A R} T f=>by
  rw[U]at T;split at T
  .rename_i e;subst e;have:=f.2.symm.trans he.2;simp only[oP,CM,fW,px]at this;exact .inl this
  .rename_i ad;obtain⟨ok,aa,ab,_⟩:=H.H4 f;exact .inr ⟨T,λe=>ad (H.d.inj _ _ _ _ _ aa ho (e▸ab) L),F f (yH hc aa T)⟩
 refine⟨hM,S.gr.trans hG,by show(a.tmps.setIfInBounds d x).size=N;simp[S.size],S.defers,S.F4.trans (gN.put (Lx ho L)),λk G A R T f hh=>?_,λk G A R T f hh=>?_,λt ht=>?_⟩
 .rcases u T f with⟨rfl,rfl,rfl⟩|⟨h1,Z,h3⟩
  .rw[qR C,if_pos rfl];exact hy ((F he hw).1 hh)
  .rw[qR C,if_neg Z];exact(S.yes k G A R h1 f (h3.1 hh)).mono hG.le
 .rcases u T f with⟨rfl,rfl,rfl⟩|⟨h1,Z,h3⟩
  .rw[qR C,if_pos rfl];exact hn λh=>hh ((F he hw).2 h)
  .rw[qR C,if_neg Z];exact S.no k G A R h1 f λh=>hh (h3.2 h)
 .have af:t≠d:=λe=>ht i o ho (by rw[U,if_pos rfl]) (e▸L);rw[qR C,if_neg af];refine S.out t λj oj ae ac=>ht j oj ae ?_;rw[U,ac];simp
end
def Jm(b:Op)(ρ:Operand->Option SV):Bool:=match b with
 | .load .. | .fieldAddr .. | .indexAddr .. =>true
 | .call c=>match c.callee with
  | .value f=>match ρ f,nb ρ c.args.toList with
   |some (.fn (.func _) a),some l=>!(Hy (l++uS a))
   |_,_=>false
  |_=>false
 |_=>false
def xG(tb:TT)(a:Op)(ρ:Operand->Option SV):Bool:=rN tb a ρ true||Jm a ρ
def zdx{m U:MS}(b:∀u,K u m->C u U){o:Unit ⊕(Nat×Nat)}{n:Nat}{t:Ty}{f:Nat->D}{l:Int}{h x:Option Int}(a:qW G K m o n t f l h x):qW G C U o n t f l h x:=by
 unfold qW at a ⊢
 repeat' split at a
 all_goals first|exact a.elim|exact⟨a.1,b _ a.2⟩
def za9{p:Option Prop}{k b:Prop}(h:tn G p k)(a:k->b):tn G p b:=by unfold tn at h ⊢;split at h<;>first|exact⟨h.1,a h.2⟩|exact a h
def zbN{op:Op}{c Z:List SV}(hm:Jm op ρ=false):pv tb c ρ op=pv tb Z ρ op:=by cases op<;>first|rfl|(cases hm;done)|(simp only[pv];done)|(rename_i o _ _;cases o<;>rfl)
def zfb{k:Op}{Kp o:D->MS->Prop}{m U:MS}(n:xG tb k ρ=false)(d:∀u,K u m->C u U)(h:lN P tb k m ρ G true K Kp):lN P tb k U ρ G true C o:=by
 simp only[xG,gX]at n;obtain⟨n,l⟩:=n;unfold lN at h ⊢;rw[n]at h ⊢;simp only at h ⊢;have j:=zbN (tb:=tb) (ρ:=ρ) (c:=m.c) (Z:=U.c) l;cases k<;>simp only[Jm,reduceCtorEq]at l<;>simp only[gu]at h ⊢
 case call c=>
  obtain⟨e,p,g⟩:=c;cases e with
  |value f=>
   simp only at h ⊢;split at h
   .rename_i t w;split at h
    .simp only[t,w,lD]at l;rw[l]at h ⊢;obtain⟨v,i,a⟩:=h;exact⟨v,i,d _ a⟩
    .cases h
   .cases h
  |invoke r s=>cases h
  |builtin b=>
   cases b with
   |len|min|max=>
    simp only at h ⊢
    repeat' split at h
    all_goals first|exact h.elim|exact⟨h.1,d _ h.2⟩
   |_=>cases h
 case binOp k T x y yT=>
  rw[<-j];unfold eM at h ⊢
  repeat' split at h
  all_goals first|exact h.elim|exact d _ h|(obtain⟨q,i,a⟩:=h;refine⟨q,i,?_⟩;split at a<;>first|exact d _ a|exact a.elim)|exact za9 h (d _)|skip
  all_goals first
   |(intro b z;have a:=h b z;split at a<;>first|exact d _ a|exact a.elim)
   |(obtain⟨q,i,a⟩:=h;refine⟨q,i,?_⟩;simp only at a ⊢;split at a<;>first|exact d _ a|exact a.elim)
 case slice T x J F L=>
  repeat' split at h
  all_goals first|exact h.elim|exact zdx d h
 all_goals (repeat' split at h)
 all_goals first|exact h.elim|exact d _ h|exact⟨h.1,d _ h.2⟩|(rename_i A;rw[<-j,A];exact d _ h)
def mT:List (Nat×Nat)->Nat->Option Nat
 |[],_=>none
 |(k,l)::r,i=>match Nat.beq i k with
  |true=>some l
  |false=>mT r i
def uk(a:Nat)(m:MS)(X:Prop):List (Nat×(MS->Prop))->Prop
 |[]=>X
 |(k,p)::r=>match a.testBit k with
  |true=>p m/\uk a m X r
  |false=>uk a m X r
def IZ{f:Nat}{m:MS}{X:Prop}:∀{S:List (Nat×(MS->Prop))},uk f m X S->X/\∀e∈S,f.testBit e.1=true->e.2 m
 |[],h=>⟨h,λ_ a=>by cases a⟩
 |(k,p)::r,h=>by
  unfold uk at h;split at h
  .obtain⟨c,d⟩:=IZ h.2;refine⟨c,λe a b=>?_⟩;rcases iB.1 a with rfl|a
   .exact h.1
   .exact d e a b
  .rename_i g;obtain⟨c,d⟩:=IZ h;refine⟨c,λe a b=>?_⟩;rcases iB.1 a with rfl|a
   .rw[g]at b;cases b
   .exact d e a b
def nA(P:Program)(tb:TT)(N:Nat)(c:List Oper)(f:List (Nat×Nat))(V:List Ent):List Nat->j9->List (Nat×(MS->Prop))->MS->(List Ent->MS->Prop)->(D->MS->Prop)->Prop
 |[],L,_,m,K,_=>K (sr L V) m
 |i::C,L,S,m,K,e=>match c[i]? with
  |none=>False
  |some o=>
   match qF c L V o.guard with
   |none=>False
   |some g=>
    match mT f i with
    |some k=>match o.dst with
     |none=>lN P tb o.op m (iQ L V g) (gP L V g g) false (λ_ U=>uk k U (nA P tb N c f V C L S U K e) S) e
     |some d=>match Nat.blt d N with
      |false=>False
      |true=>lN P tb o.op m (iQ L V g) (gP L V g g) false (λv U=>uk k U (nA P tb N c f V C ((d,g,some v)::L) S U K e) S) e
    |none=>
     match o.dst with
     |none=>False
     |some d=>match Nat.blt d N with
      |false=>False
      |true=>match o.op with
       | .pick (.tmp j) a b=>match fP L V j with
        |some (n,.d (.I t))=>match tX n g with
         |true=>match zt a b t (iQ L V ((j,true)::g) a) (iQ L V ((j,false)::g) b)with
          |some v=>nA P tb N c f V C ((d,g,some v)::L) S m K e
          |none=>False
         |false=>False
        |_=>False
       |h=>lN P tb h m (iQ L V g) (gP L V g g) true (λv U=>nA P tb N c f V C ((d,g,some v)::L) (match xG tb h (iQ L V g)with
        |true=>(i,λl=>lN P tb h l (iQ L V g) (gP L V g g) true (tQ v l) λ_ _=>False)::S
        |false=>S) U K e) λ_ _=>False
def EO(q:Nat->Nat->Bool):List Nat->Bool
 |[]=>true
 |y::r=>r.all (q y)&&EO q r
def EN(q:List Nat->Nat->Bool):List Nat->List Nat->Bool
 |_,[]=>true
 |a,x::r=>q a x&&EN q (x::a) r
def uw(a:List Oper)(i:Nat):Nat:=(vf a []).getD i 0
def JD(b:List Nat)(a:List (Nat×Nat))(y x:Nat):Bool:=!(b.getD y 0).testBit x&&(!(mT a y).isSome||(b.getD x 0).testBit y)&&(match mT a x,mT a y with
 |some c,none=>(b.getD x 0).testBit y||c.testBit y
 |_,_=>true)
def JE(a:List Oper)(b:List Nat)(e:List (Nat×Nat))(c:List Nat)(x:Nat):Bool:=match a[x]? with
 |none=>true
 |some o=>(uE o.op.operands.toList).all (λt=>a.zipIdx.all λy=>match y.1.dst with
  |some d=>!(Nat.beq d t)||((b.getD x 0).testBit y.2&&decide (y.2∈c))||(b.getD y.2 0).testBit x
  |none=>true)&&(match o.guard with
  |none=>true
  |some (j,_)=>(mT e x).isNone&&(b.getD x 0).testBit j&&decide (j∈c))
def xh(f:Nat->Nat)(a:List Oper)(b:List Nat)(c:List (Nat×Nat)):Bool:=
 let d:=vf a []
 decide ((a.filterMap (·.dst)).Nodup)&&decide b.Nodup&&b.all (λi=>Nat.blt i a.length)&&(List.range a.length).all (λi=>decide (i∈b))&&
  a.zipIdx.all (λx=>x.1.after.toList.all λe=>!Region.binds .any e||(Nat.blt (f e.on) (f x.2)&&Nat.blt e.on a.length))&&EO (JD d c) b&&EN (JE a d c) [] b
def yS(a:List Oper)(b:List Nat)(c:List (Nat×Nat)):Bool:=xh (λi=>i) a b c
def swP(p q:Nat)(i:Nat):Nat:=bif Nat.beq i p then q else bif Nat.beq i q then p else i
structure DOk2 (ops:List Oper) (ord:List Nat) (im:List (Nat×Nat)):Prop where
 inj:∀(i j:Nat) (o o':Oper) (d:Nat),ops[i]?=some o->ops[j]?=some o'->o.dst=some d->o'.dst=some d->i=j
 one:∀(r r' i:Nat),ord[r]?=some i->ord[r']?=some i->r=r'
 lt:∀(r i:Nat),ord[r]?=some i->i<ops.length
 all:∀i,i<ops.length->∃r:Nat,ord[r]?=some i
 back:∃sw:Nat->Nat,∀(i:Nat) (o:Oper),ops[i]?=some o->∀e∈o.after,Region.binds .any e=true->sw e.on<sw i/\e.on<ops.length
 prec:∀(r r' y x:Nat),r<r'->ord[r]?=some y->ord[r']?=some x->(uw ops y).testBit x=false/\((mT im y).isSome=true->(uw ops x).testBit y=true)
 late:∀(r r' y x lm:Nat),r<r'->ord[r]?=some y->ord[r']?=some x->mT im x=some lm->mT im y=none->(uw ops x).testBit y=false->lm.testBit y=true
 reads:∀(r x:Nat) (o:Oper),ord[r]?=some x->ops[x]?=some o->∀t∈uE o.op.operands.toList,∀(y:Nat) (o':Oper),ops[y]?=some o'->o'.dst=some t->((uw ops x).testBit y=true/\∃r':Nat,r'<r/\ord[r']?=some y)\/(uw ops y).testBit x=true
 guard:∀(r i:Nat) (o:Oper) (j:Nat) (want:Bool),ord[r]?=some i->ops[i]?=some o->o.guard=some (j,want)->mT im i=none/\(uw ops i).testBit j=true/\∃r':Nat,r'<r/\ord[r']?=some j
def JW{q:Nat->Nat->Bool}:∀{l:List Nat},EO q l=true->∀{r A y x:Nat},r<A->l[r]?=some y->l[A]?=some x->q y x=true
 |[],_,r,_,_,_,_,h,_=>by simp at h
 |z::l,h,r,A,y,x,c,b,d=>by
  simp only[EO,dH]at h;cases A with
  |zero=>omega
  |succ A=>
   have a:l[A]?=some x:=b8 d
   cases r with
   |zero=>cases b;exact pQ.1 h.1 x (oU a)
   |succ r=>exact JW (r:=r) (A:=A) h.2 (Nat.lt_of_succ_lt_succ c) (b8 b) a
def JV{q:List Nat->Nat->Bool}:∀{l c:List Nat},EN q c l=true->∀{r x:Nat},l[r]?=some x->∃a,q a x=true/\∀j∈a,j∈c\/∃A:Nat,A<r/\l[A]?=some j
 |[],_,_,r,_,h=>by simp at h
 |z::l,c,h,r,x,e=>by
  simp only[EN,dH]at h;cases r with
  |zero=>cases e;exact⟨c,h.1,λj d=>.inl d⟩
  |succ r=>
   obtain⟨a,f,g⟩:=JV h.2 (r:=r) (x:=x) (b8 e);refine⟨a,f,λj d=>?_⟩;rcases g j d with b|⟨A,b,i⟩
   .rcases iB.1 b with rfl|b
    .exact .inr ⟨0,Nat.succ_pos _,rfl⟩
    .exact .inl b
   .exact .inr ⟨A+1,Nat.succ_lt_succ b,b8 i⟩
def HR{J:Nat->Nat}{p:List Oper}{q:List Nat}{G:List (Nat×Nat)}(h:xh J p q G=true):DOk2 p q G:=by
 unfold xh at h;simp only[dH,fY]at h;obtain⟨⟨⟨⟨⟨⟨M,N⟩,O⟩,Q⟩,R⟩,C⟩,F⟩:=h;refine⟨λi j o Z d k V=>Jz M k V,λr A i a w=>?_,λr i a=>?_,λi k=>?_,⟨J,λi o l e T s=>?_⟩,λr A y x a n z=>?_,λr A y x lm a n z v W s=>?_,λr x o a l t Y y Z n S=>?_,λr i o j K a l U=>?_⟩
 .exact(List.getElem?_inj (iA.1 a).1 N).1 (a.trans w.symm)
 .exact dF (pQ.1 O i (oU a))
 .have:=pQ.1 Q i (gZ.2 k);exact Mn.1 (b8 this)
 .have:=pQ.1 (Uk R l) e (b8 T);simp only[s,Ck,tE,dH]at this;exact⟨dF this.1,dF this.2⟩
 .have:=JW C a n z;simp only[JD,dH,jL,pP]at this;refine⟨this.1.1,λk=>?_⟩;rcases this.1.2 with h|h
  .rw[k]at h;cases h
  .exact h
 .have:=JW C a n z;simp only[JD,dH,v,W,pP]at this;unfold uw at s;rcases this.2 with h|h
  .rw[s]at h;cases h
  .exact h
 .obtain⟨L,m,f⟩:=JV F a;simp only[JE,l,dH]at m;have b:=Uk (pQ.1 m.1 t Y) n;simp only[S,pP,jL,dH,fY]at b;rcases b with(b|b)|b
  .simp at b
  .rcases f _ b.2 with g|g
   .cases g
   .exact .inl ⟨b.1,g⟩
  .exact .inr b
 .obtain⟨L,m,f⟩:=JV F a;simp only[JE,l,U,dH,fY]at m;obtain⟨_,⟨b,g⟩,u⟩:=m;rcases f _ u with c|c
  .cases c
  .exact⟨b8 b,g,c⟩
def X3{a:List Oper}{b:List Nat}{c:List (Nat×Nat)}(h:yS a b c=true):DOk2 a b c:=HR h
abbrev Hs:=Nat->jl×SV
def Lf(ops:List Oper)(ord:List Nat)(hs:Hs):Nat->j9
 |0=>[]
 |k+1=>match(ord[k]?).bind λi=>(ops[i]?).bind (·.dst)with
  |none=>Lf ops ord hs k
  |some d=>(d,(hs k).1,some (hs k).2)::Lf ops ord hs k
def yi{ops:List Oper}{ord:List Nat}{hs b:Hs}:∀{s:Nat},(∀k,k<s->hs k=b k)->Lf ops ord hs s=Lf ops ord b s
 |0,_=>rfl
 |k+1,h=>by unfold Lf;rw[yi (s:=k) λj c=>h j a3,h k a3]
def kj(hs:Hs)(s:Nat)(x:jl×SV):Hs:=λk=>bif Nat.beq k s then x else hs k
def vu{hs:Hs}{s:Nat}{x:jl×SV}(h:k<s):kj hs s x k=hs k:=by
 unfold kj;rw[show Nat.beq k s=false from by cases b:Nat.beq k s with
  |false=>rfl
  |true=>have:=fp b;omega];rfl
def Bu{hs:Hs}{s:Nat}{x:jl×SV}:kj hs s x s=x:=by unfold kj;rw[uO];rfl
def xB{ops:List Oper}{ord:List Nat}{hs:Hs}{V:List Ent}{t:Nat}{c:jl}{u:SV}:∀{s:Nat},fP (Lf ops ord hs s) V t=some (c,u)->
 (∃k i o,k<s/\ord[k]?=some i/\ops[i]?=some o/\o.dst=some t/\hs k=(c,u))\/(c=[]/\look V t=some u/\∀(k i:Nat) o,k<s->ord[k]?=some i->ops[i]?=some o->o.dst≠some t)
 |0,h=>by simp only[Lf,fP,fB]at h;obtain⟨Y,F,h⟩:=h;cases h;exact .inr ⟨rfl,F,λk _ _ y=>b3 y (jm _)⟩
 |s+1,h=>by
  have C:fP (Lf ops ord hs s) V t=some (c,u)->(∀(i:Nat) o,ord[s]?=some i->ops[i]?=some o->o.dst≠some t)->((∃k i o,k<s+1/\ord[k]?=some i/\ops[i]?=some o/\o.dst=some t/\hs k=(c,u))\/(c=[]/\look V t=some u/\∀(k i:Nat) o,k<s+1->ord[k]?=some i->ops[i]?=some o->o.dst≠some t)):=λh v=>by
   rcases xB (s:=s) h with⟨k,i,o,p,q⟩|⟨p,q,A⟩
   .exact Or.inl ⟨k,i,o,Nat.lt_succ_of_lt p,q⟩
   .refine Or.inr ⟨p,q,λk i o y e f=>?_⟩;rcases jB k s with l|l
    .exact A k i o l e f
    .have:k=s:=a3
     subst this;exact v i o e f
  unfold Lf at h;split at h
  .rename_i z;refine C h λi o e f b=>?_;rw[e,sd,f,sd,b]at z;cases z
  .rename_i d b;obtain⟨i,e,b⟩:=w4.1 b;obtain⟨o,f,b⟩:=w4.1 b;unfold fP at h;split at h
   .rename_i x;have:=fp x;subst this;cases h;exact .inl ⟨s,i,o,mL s,e,f,b,rfl⟩
   .rename_i x;refine C h λG K j n g=>?_;rw[e]at j;cases j;rw[f]at n;cases n;rw[b]at g;cases g;simp at x
structure Ch (tb:TT) (P:Program) (N:Nat) (ops:List Oper) (ord:List Nat) (im:List (Nat×Nat)) (K:List Ent) (s:Nat) (hs:Hs) (S:List (Nat×(MS->Prop))):Prop where
 le:s<=ord.length
 cond:∀(k i:Nat) o,k<s->ord[k]?=some i->ops[i]?=some o->qF ops (Lf ops ord hs k) K o.guard=some (hs k).1
 lt:∀(k i:Nat) o d,k<s->ord[k]?=some i->ops[i]?=some o->o.dst=some d->d<N
 dst:∀(k i:Nat) o,k<s->ord[k]?=some i->ops[i]?=some o->mT im i=none->o.dst.isSome=true
 I8:∀(k i:Nat) o,k<s->ord[k]?=some i->ops[i]?=some o->mT im i=none->xG tb o.op (iQ (Lf ops ord hs k) K (hs k).1)=true->(∀tc a b,o.op≠.pick (.tmp tc) a b)->
  (i,λm2=>lN P tb o.op m2 (iQ (Lf ops ord hs k) K (hs k).1) (gP (Lf ops ord hs k) K (hs k).1 (hs k).1) true (tQ (hs k).2 m2) (λ_ _=>False))∈S
structure DI (E:Gh) (P:Program) (tb:TT) (N:Nat) (ops:List Oper) (ord:List Nat) (im:List (Nat×Nat)) (K:List Ent) (ro0:Ro) (bl0:Bl) (a0:Act) (w0:World) (s:Nat) (hs:Hs) (m:MS) (ls:Nat->Bool) (ro:Ro) (bl:Bl) (a:Act) (w:World):Prop where
 mem:Mem E ro bl m w
 gr:Gr ro0 bl0 w0 ro bl w
 size:a.tmps.size=N
 defers:a.defers=a0.defers
 F4:gN (lB ops) a0 a
 H9:∀(k i:Nat),k<s->ord[k]?=some i->(mT im i).isSome=true->ls i=true
 sub:∀i,ls i=true->∃k:Nat,k<s/\ord[k]?=some i
 yes:∀(k i:Nat) o d,k<s->ord[k]?=some i->ops[i]?=some o->o.dst=some d->ls i=true->iu a (hs k).1->du ro bl (hs k).2 (a.tmps.getD d undef)
 no:∀(k i:Nat) o d,k<s->ord[k]?=some i->ops[i]?=some o->o.dst=some d->ls i=true->¬iu a (hs k).1->a.tmps.getD d undef=undef
 out:∀t,(∀(i:Nat) o,ops[i]?=some o->ls i=true->o.dst≠some t)->a.tmps.getD t undef=a0.tmps.getD t undef
 I2:∀(k i:Nat) o,k<s->ord[k]?=some i->ops[i]?=some o->ls i=false->yq P tb m K (Lf ops ord hs k) (hs k).1 o (hs k).2
section
variable {N:Nat} {ops:List Oper} {ord:List Nat} {im:List (Nat×Nat)} {V:List Ent} {ro0:Ro} {bl0:Bl} {a0:Act} {w0:World} {s:Nat} {hs:Hs} {S:List (Nat×(MS->Prop))} {m:MS} {ls:Nat->Bool} {O:Ro} {J:Bl} {a:Act} {w:World}
def Ch.F8(D:DOk2 ops ord im)(C:Ch tb P N ops ord im V s hs S)(hc:re ops ls):∀(k:Nat) {i:Nat},k<s->ord[k]?=some i->pw ops ls i->∀p∈(hs k).1,∃R M o',R<k/\ord[R]?=some M/\ls M=true/\ops[M]?=some o'/\o'.dst=some p.1:=λk=>by
 induction k using Nat.strongRecOn with
 |_ k ih=>
  intro i hk hi hw p G;obtain⟨o,ho,_⟩:=id hw;have u:=C.cond k i o hk hi ho;unfold qF at u;split at u
  .simp only[fW]at u;rw[<-u]at G;cases G
  .rename_i j Q U;obtain⟨_,kf,A,L,W⟩:=D.guard k i o j Q hi ho U;have K:=vX hc hw kf;split at u
   .rename_i dj f;rw[yW]at f;obtain⟨oj,F,f⟩:=w4.1 f;split at u
    .rename_i c b hl;simp only[fW]at u;rw[<-u]at G;rcases iB.1 G with rfl|G
     .exact⟨A,j,oj,L,W,K,F,f⟩
     .rcases xB hl with⟨k2,i2,o2,h1,h2,h3,h4,h5⟩|⟨T,_⟩
      .have e:i2=j:=D.inj _ _ _ _ _ h3 F h4 f;subst e;have e2:=D.one _ _ _ h2 W;subst e2;have Z:p∈(hs k2).1:=by rw[h5];exact G
       obtain⟨R,M,o',g1,g2⟩:=ih k2 L a3 W (yH hc F K) p Z;exact⟨R,M,o',a3,g2⟩
      .subst T;cases G
    .cases u
   .cases u
def DI.at(D:DOk2 ops ord im)(hS:SimL ro0 bl0 [] V N a0)(F:DI E P tb N ops ord im V ro0 bl0 a0 w0 s hs m ls O J a w)(G:re ops ls){k x:Nat}{o:Oper}(hk:k<=s)(hx:ord[k]?=some x)(ho:ops[x]?=some o)(hw:pw ops ls x)(h0:ls x=false){t:Nat}
 (Z:∀(y:Nat) o',ops[y]?=some o'->o'.dst=some t->((uw ops x).testBit y=true/\∃A:Nat,A<k/\ord[A]?=some y)\/(uw ops y).testBit x=true):At O J (Lf ops ord hs k) V a t:=λc u L K=>by
 rcases xB L with⟨k',j,o',h1,T,U,W,h5⟩|⟨rfl,L,hn⟩
 .rcases Z j o' U W with⟨hb,_⟩|hb
  .have:=F.yes k' j o' t a3 T U W (vX G hw hb);rw[h5]at this;exact this K
  .rw[(D.prec k' k j x h1 T hx).1]at hb;cases hb
 .rw[F.out t λj o' f M C=>?_]
  .exact(ve hS L).mono F.gr.le
  .rcases Z j o' f C with⟨_,A,Q,R⟩|hb
   .exact hn A j o' Q R f C
   .have:=vX G (yH G f M) hb;rw[h0]at this;cases this
def DI.J1(D:DOk2 ops ord im)(C:Ch tb P N ops ord im V s hs S)(Z:DI E P tb N ops ord im V ro0 bl0 a0 w0 s hs m ls O J a w)(hc:re ops ls)(hk:k<s)(hx:ord[k]?=some x)(hw:pw ops ls x):∀p∈(hs k).1,At O J (Lf ops ord hs k) V a p.1:=λp hp c u K f=>by
 obtain⟨k',L,o',T,U,W,F,G⟩:=C.F8 D hc k hk hx hw p hp;rcases xB K with⟨k2,M,o2,g1,Q,j,A,R⟩|⟨rfl,K,hn⟩
 .have:M=L:=D.inj _ _ _ _ _ j F A G;subst this;have:=Z.yes k2 M o2 p.1 a3 Q j A W;rw[R]at this;exact this f
 .exact b3 G (hn k' L o' T U F)
def DI.wanted{f:Array Oper}(D:DOk2 f.toList ord im)(C:Ch tb P N f.toList ord im V s hs S)(hI:DI E P tb N f.toList ord im V ro0 bl0 a0 w0 s hs m ls O J a w)(M:re f.toList ls)(hk:k<s)(hx:ord[k]?=some x)(ho:f.toList[x]?=some o)(hw:pw f.toList ls x):
 Region.wanted o (yielded f a.tmps)=true↔iu a (hs k).1:=by
 have F:=C.cond k x o hk hx ho;unfold qF at F;unfold Region.wanted;split at F
 .rename_i W;simp only[fW]at F;rw[<-F,W];simp only[true_iff];intro p K;cases K
 .rename_i j u W;rw[W];obtain⟨_,kf,A,af,hj⟩:=D.guard k x o j u hx ho W;have ac:=vX M hw kf;split at F
  .rename_i d U;rw[yW]at U;split at F
   .rename_i c b hl;simp only[fW]at F;rw[<-F];have aa:=U;rw[pN]at U;simp only[yielded,U,sd];have Q:a.tmps.getD d undef=(a.tmps[d]?).getD undef:=eA
    have ad:¬iu a c->a.tmps.getD d undef=undef:=λR=>by
     rcases xB hl with⟨k2,i2,o2,g1,g2,g3,g4,g5⟩|⟨Z,_⟩
     .obtain⟨oj,ae,ab⟩:=w4.1 aa;have:i2=j:=D.inj _ _ _ _ _ g3 ae g4 ab;subst this;have:=hI.no k2 i2 o2 d a3 g2 g3 g4 ac;rw[g5]at this;exact this R
     .subst Z;exact b3 (λp K=>by cases K) R
    constructor
    .intro L;have G:a.tmps.getD d undef=.bool u:=by
      rw[Q];cases T:a.tmps[d]? with
      |none=>rw[T]at L;simp at L
      |some x=>
       rw[T]at L;cases x<;>simp at L;subst L;rfl
     have M:iu a c:=Gl λM=>by have:=ad M;rw[G]at this;cases this
     intro p K;rcases iB.1 K with rfl|K
     .exact G
     .exact M p K
    .intro L;have G:=L (d,u) eA;rw[Q]at G;cases T:a.tmps[d]? with
     |none=>rw[T]at G;cases G
     |some x=>rw[T]at G;cases G;simp
   .cases F
  .cases F
def Ch.next(C:Ch tb P N ops ord im V s hs S){x:jl×SV}{W:List (Nat×(MS->Prop))}(hi:ord[s]?=some i)(ho:ops[i]?=some o)(hg:qF ops (Lf ops ord hs s) V o.guard=some x.1)(Z:∀d,o.dst=some d->d<N)(Q:mT im i=none->o.dst.isSome=true)(T:∀e∈S,e∈W)(R:mT im i=none->xG tb o.op (iQ (Lf ops ord hs s) V x.1)=true->(∀tc a b,o.op≠.pick (.tmp tc) a b)->(i,λm2=>lN P tb o.op m2 (iQ (Lf ops ord hs s) V x.1) (gP (Lf ops ord hs s) V x.1 x.1) true (tQ x.2 m2) λ_ _=>False)∈W):
 Ch tb P N ops ord im V (s+1) (kj hs s x) W:=by
 have U:∀k,k<=s->Lf ops ord (kj hs s x) k=Lf ops ord hs k:=λk K=>yi λj u=>vu a3;have L:∀{k j:Nat} {G:Oper},k<s+1->ord[k]?=some j->ops[j]?=some G->(k<s/\kj hs s x k=hs k)\/(k=s/\j=i/\G=o/\kj hs s x k=x):=λ{k j G} K u f=>by
  rcases jB k s with h|h
  .exact .inl ⟨h,vu h⟩
  .have:k=s:=a3
   subst this;rw[hi]at u;cases u;rw[ho]at f;cases f;exact .inr ⟨rfl,rfl,rfl,Bu⟩
 refine⟨(iA.1 hi).1,λk j G K u f=>?_,λk j G d K u f hd=>?_,λk j G K u f=>?_,λk j G K u f hn A hp=>?_⟩
 .rcases L K u f with⟨M,F⟩|⟨rfl,rfl,rfl,F⟩
  .rw[F,U k a3];exact C.cond k j G M u f
  .rw[F,U k a3];exact hg
 .rcases L K u f with⟨M,F⟩|⟨rfl,rfl,rfl,F⟩
  .exact C.lt k j G d M u f hd
  .exact Z d hd
 .rcases L K u f with⟨M,F⟩|⟨rfl,rfl,rfl,F⟩
  .exact C.dst k j G M u f
  .exact Q
 .rcases L K u f with⟨M,F⟩|⟨rfl,rfl,rfl,F⟩
  .rw[F,U k a3]at A ⊢;exact T _ (C.I8 k j G M u f hn A hp)
  .rw[F,U k a3]at A ⊢;exact R hn A hp
end
end Sx
end Go.Proofs.YtfbhkfhbnkncoaaGreatDoor
