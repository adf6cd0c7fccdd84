import Derived.Test.YtfbhkfhbnkncoaaGreatDoorV47
set_option linter.all false
set_option maxRecDepth 100000
set_option maxHeartbeats 4000000
namespace Go.Proofs.YtfbhkfhbnkncoaaGreatDoor
open Go.RowKit Tryz
open Tryz renaming prog→a6
namespace Sx
attribute [local irreducible] b6 eF fR ez eH eB eM fx dC ec dU dx
variable{i:Nat}
section
variable {m:Mc} {a b:Nat} {asg body:Code} {N:Nat} {V:List Ent}
def oW{f:FuncId}{args:List SV}{v:SV}{c:List SV}{t2:List Nat}{e:List Ob}(h:b6 a6 f args (MM m a b) λo U=>o=.ret v/\U=MM m a b)(g:eV 3 2 0 args=true):b6 a6 f args ⟨fH m b::.d (dT m.x.p)::eO m.x a::c,a::b::t2,e⟩ λo U=>o=.ret v/\U=⟨fH m b::.d (dT m.x.p)::eO m.x a::c,a::b::t2,e⟩:=
 fa (ry c t2 e h g (by show(eV 3 2 0 [fH m b,.d (dT m.x.p),eO m.x a]&&gV 3 2 0 [])=true;rw[gK rfl m.x a];rfl) λo U d=>⟨d.2▸rfl,d.2▸rfl,d.2▸rfl⟩) (by
  rintro o U ⟨i,⟨rfl,rfl⟩,rfl⟩;exact⟨rfl,rfl⟩)
def YO(t:Tb){l:List Int}(h:i<l.length):g7 t (l.take (i+1))=g7 t (l.take i)++(b1 t (l.getD i 0)).rs/\g7 t l=g7 t (l.take (i+1))++g7 t (l.drop (i+1)):=by
 have e:l.getD i 0=l[i]'h:=by rw[eu,ed h];rfl
 refine⟨?_,?_⟩
 .rw[e,js,ed h];unfold g7;rw[mA];show _++((b1 t l[i]).rs++[])=_;rw[gk]
 .unfold g7;rw[<-mA,nF]
def n5(m:Mc)(n:Nat):List Int:=(List.range n).flatMap λi=>pg (sN m (i:Nat)).run
def WN(m:Mc){n:Nat}(h:i<n):n5 m (i+1)=n5 m i++pg (sN m i).run/\∃r,n5 m n=n5 m (i+1)++r:=by
 refine⟨?_,?_⟩
 .unfold n5;rw[mC,mA];show _++(pg (sN m i).run++[])=_;rw[gk]
 .obtain⟨k,rfl⟩:∃k,n=(i+1)+k:=⟨n -(i+1),a3⟩;refine⟨(List.range k).flatMap λj=>pg (sN m (i+1+j:Nat)).run,?_⟩;unfold n5;rw[List.range_add,mA,List.flatMap_map]
def zbv{c:Cnt}(s:∀n,11<=n->n<=13->gV n 2 1 [.loop [13,14] asg body N V .ready]=true)(f:∀(k:Nat) (c:Cnt) (p:Int) (R:List Int) (e:List SV),k<4->Fit c (p::R)->fx a6 0 [13,14] asg body N V [I p,.B 5 [k]] ⟨CB m a b c++e,[a,b],[.loop [13,14] asg body N V .ready]⟩ λv U=>v=B true/\U=⟨CB m a b (ju c k [p])++e,[a,b],[.loop [13,14] asg body N V .ready]⟩)(w:Fit c (dm m.x.p.K++(dm (g7 m.x.s.t (dW m.x.s.t.b))++(n5 m 8++m.x.q))))(G:∀h,(b1 m.x.s.t h).rs.length<=1000)(T:∀i,i<8->(m.ts i).c.G.length<=64)(Q:m.x.p.K.length<=1000)(hq:m.x.q.length<=1000):
 b6 a6 94 [.ob (.yl 0),.B 9 [],.B 8 [],.B 7 []] ⟨CB m a b c,[a,b],[.loop [13,14] asg body N V .ready]⟩ λo U=>o=l0/\U=⟨CB m a b (ju (ju (ju (ju c 0 (dm m.x.p.K)) 1 (dm (g7 m.x.s.t (dW m.x.s.t.b)))) 2 (n5 m 8)) 3 m.x.q)++[.ob (.yl 0)],[a,b],[.loop [13,14] asg body N V .ready]⟩:=by
 refine By func94 rfl ey rfl rfl ?_;refine dB (dA (l:=[(1,.B 9 []),(2,.B 8 []),(3,.B 7 []),(4,.B 10 [])]) (U:=⟨CB m a b c++[.ob (.yl 0)],[a,b],[.loop [13,14] asg body N V .ready]⟩) ⟨rfl,rfl,rfl,rfl,trivial⟩ rfl ?_);refine dB (dA (l:=[(1,.B 9 []),(2,.B 8 []),(3,.B 7 []),(4,.B 10 []),(5,.fn (.func 95) (.H (.B 10 []) (.d .un)))]) (U:=⟨CB m a b c++[.ob (.yl 0)],[a,b],[.loop [13,14] asg body N V .ready]⟩) ⟨rfl,rfl,rfl,rfl,rfl,trivial⟩ rfl ?_);refine dB (dL 8 (mI (v:=.d (n8 m.x.p.K)) (oW (Mw (Z:=fH m b) (p:=m.x.p) (C:=eO m.x a) (rb (xF m b) m.x a)) rfl) (λ_ h=>h) ?_));refine c9 (MB m.x.p.K a3) (λ_ h=>h) (fa (b6.le (V5 (k:=0) a8 (l:=m.x.p.K) a3 w (s 11 a8 a8) (s 12 a8 a8) λc p R r A=>f 0 c p R _ a8 A) ⟨iE fi dR c8 m.x.p.K,SV.le_refl _,SV.le_refl _,trivial⟩) ?_);rintro _ _ ⟨rfl,rfl⟩;have j:=w.add (k:=0);generalize ju c 0 (dm m.x.p.K)=c1 at j ⊢;refine b0 (dA (l:=[(1,.B 9 []),(2,.B 8 []),(3,.B 7 []),(4,.B 10 []),(5,.fn (.func 95) (.H (.B 10 []) (.d .un)))]) (U:=⟨CB m a b c1++[.ob (.yl 0)],[a,b],[.loop [13,14] asg body N V .ready]⟩) ⟨rfl,rfl,rfl,rfl,rfl,trivial⟩ rfl ?_);refine dB (bo ((Cg m.x.s.t.b).out (iE .c hD 0 (dW m.x.s.t.b))) ?_);conv=>whnf
 have F:(dW m.x.s.t.b).length<=32:=oV _;generalize P:dW m.x.s.t.b=AL at F j ⊢;refine b2 (x:=(AL.length:Int)) (dX c6 (λi=>i<=AL.length) (λi=>AL.length - i) (λi=>[(33,I i)]) (λi=>⟨CB m a b (ju c1 1 (dm (g7 m.x.s.t (AL.take i))))++[.ob (.yl 0)],[a,b],[.loop [13,14] asg body N V .ready]⟩) 0 (dG _) ⟨rfl,trivial⟩ (by rw[show dm (g7 m.x.s.t (AL.take 0))=[] from rfl,Aa]) (λi=>⟨a9 _,a9 _,a9 _⟩) ?_)
 .intro i M;apply a4<;>intro y
  .have d:i<AL.length:=eZ y
   refine fS (i:=i) (n:=AL.length) (bo (uK m.x.s.t (AL.getD i 0)) ?_);conv=>whnf
   obtain⟨E,L⟩:=YO m.x.s.t d;have K:=G (AL.getD i 0);generalize b1 m.x.s.t (AL.getD i 0)=g at E K ⊢;refine dL 7 (fa (b6.le (MT (k:=1) (z:=lU g) a8 (l:=g.rs) a3 (c:=ju c1 1 (dm (g7 m.x.s.t (AL.take i)))) (R:=dm (g7 m.x.s.t (AL.drop (i+1)))++(n5 m 8++m.x.q)) (Fit.add (by rw[L,E,oE,oE]at j;simpa using j)) (s 12 a8 a8) (s 13 a8 a8) λc p R r A=>f 1 c p R _ a8 A) ⟨iE fi dR c8 g.rs,SV.le_refl _,SV.le_refl _,trivial⟩) ?_);rintro _ _ ⟨rfl,rfl⟩;refine b0 (b2 (x:=(i:Int)+1) ?_);conv=>whnf
   refine⟨i+1,d,a3,⟨rfl,trivial⟩,⟨?_,(by show(_&&gV 11 2 1 [_])=true;rw[s 11 a8 a8];rfl)⟩,rfl⟩;rw[z9,E,oE];rfl
  .have d:i=AL.length:=e9 y
   subst d;rw[gv];have q:=j.add (k:=1);generalize ju c1 1 (dm (g7 m.x.s.t AL))=c2 at q ⊢;refine dA (l:=[(1,.B 9 []),(2,.B 8 []),(3,.B 7 []),(4,.B 10 []),(5,.fn (.func 95) (.H (.B 10 []) (.d .un)))]) (U:=⟨CB m a b c2++[.ob (.yl 0)],[a,b],[.loop [13,14] asg body N V .ready]⟩) ⟨rfl,rfl,rfl,rfl,rfl,trivial⟩ rfl ?_;refine dB (dX c6 (λi=>i<=8) (λi=>8 - i) (λi=>[(56,I i)]) (λi=>⟨CB m a b (ju c2 2 (n5 m i))++[.ob (.yl 0)],[a,b],[.loop [13,14] asg body N V .ready]⟩) 0 (dG _) ⟨rfl,trivial⟩ (by rw[show n5 m 0=[] from rfl,Aa]) (λi=>⟨a9 _,a9 _,a9 _⟩) ?_);intro i M;apply a4<;>intro y
   .have d:i<8:=eZ y
    obtain⟨E,r,L⟩:=WN m d;refine fa (oW (MK (m:=m) (a:=a) (b:=b) (i:Int) T) rfl) ?_;rintro _ _ ⟨rfl,rfl⟩;conv=>whnf
    generalize Y:sN m (i:Nat)=u at E ⊢;refine fg [0,1,2,4,5,6,3,7,8] [(3,113),(7,0)] (Or.inl (fy ?_))
    refine fa (b6.le (MT (k:=2) (z:=md u) a8 (l:=[u.run]) (dF rfl) (c:=ju c2 2 (n5 m i)) (R:=r++m.x.q) (Fit.add (by rw[L,E]at q;simpa[dm]using q)) (s 12 a8 a8) (s 13 a8 a8) λc p R r A=>f 2 c p R _ a8 A) ⟨λO J x W=>iE fi dR c8 [u.run] O J x (vq _ _ _ _ _ O J x W),SV.le_refl _,SV.le_refl _,trivial⟩) ?_;rintro _ _ ⟨rfl,rfl⟩;refine b0 (b2 (x:=(i:Int)+1) ?_);conv=>whnf
    refine⟨i+1,d,a3,⟨rfl,trivial⟩,⟨?_,(by show(_&&gV 11 2 1 [_])=true;rw[s 11 a8 a8];rfl)⟩,rfl⟩;rw[z9,E,show dm [u.run]=pg u.run from gk _];rfl
   .have d:i=8:=e9 y
    subst d;have t:=q.add (k:=2);generalize ju c2 2 (n5 m 8)=c3 at t ⊢;refine dA (l:=[(1,.B 9 []),(2,.B 8 []),(3,.B 7 []),(4,.B 10 [])]) (U:=⟨CB m a b c3++[.ob (.yl 0)],[a,b],[.loop [13,14] asg body N V .ready]⟩) ⟨rfl,rfl,rfl,rfl,trivial⟩ rfl ?_;refine eJ c6 (b2 (x:=(m.x.q.length:Int)) (dX c6 (λi=>i<=m.x.q.length) (λi=>m.x.q.length - i) (λi=>[(78,I i)]) (λi=>⟨CB m a b (ju c3 3 (m.x.q.take i))++[.ob (.yl 0)],[a,b],[.loop [13,14] asg body N V .ready]⟩) 0 (dG _) ⟨rfl,trivial⟩ (by rw[yp,Aa]) (λi=>⟨a9 _,a9 _,a9 _⟩) ?_));intro i M;apply a4<;>intro y
    .have d:i<m.x.q.length:=eZ y
     have S:m.x.q=m.x.q.take i++m.x.q.getD i 0::m.x.q.drop (i+1):=by rw[eu,ed d];show _=_++m.x.q[i]::_;rw[<-yk d,nF]
     refine fS (i:=i) (n:=m.x.q.length) (dL 5 (zC (f 3 (ju c3 3 (m.x.q.take i)) (m.x.q.getD i 0) (m.x.q.drop (i+1)) [.ob (.yl 0)] a8 (Fit.add (by rw[S]at t;simpa using t))) ?_));rintro _ _ ⟨rfl,rfl⟩;refine b0 (b2 (x:=(i:Int)+1) ?_);conv=>whnf
     refine⟨i+1,d,a3,⟨rfl,trivial⟩,⟨?_,(by show(_&&gV 11 2 1 [_])=true;rw[s 11 a8 a8];rfl)⟩,rfl⟩;rw[z9];have e:m.x.q.take (i+1)=m.x.q.take i++[m.x.q.getD i 0]:=by rw[js,ed d,eu,ed d];rfl
     rw[e];rfl
    .have d:i=m.x.q.length:=e9 y
     subst d;exact a4 rfl (by rw[gv])
end
section
variable {m:Mc} {a b:Nat}
def yJ:Cnt:=⟨λ_=>0,[]⟩
def n6(m:Mc):Cnt:=ju (ju (ju (ju yJ 0 (dm m.x.p.K)) 1 (dm (g7 m.x.s.t (dW m.x.s.t.b)))) 2 (n5 m 8)) 3 m.x.q
def UL(j:Fit yJ (dm m.x.p.K++(dm (g7 m.x.s.t (dW m.x.s.t.b))++(n5 m 8++m.x.q))))(t:∀h,(b1 m.x.s.t h).rs.length<=1000)(F:∀i,i<8->(m.ts i).c.G.length<=64)(s:m.x.p.K.length<=1000)(f:m.x.q.length<=1000)(z:(n6 m).n 0+(n6 m).n 1+(n6 m).n 2+(n6 m).n 3=m.x.p.n):
 b6 a6 15 [.B 0 []] (MM m a b) λo U=>o=.ret (T2 (.d (o5 (n6 m).n)) (I 0))/\U=MM m a b:=by
 have g:Fit (n6 m) []:=by unfold n6;exact Fit.add (by rw[gk];exact((j.add (k:=0)).add (k:=1)).add (k:=2))
 refine ov func15 ?_;refine dB (dB (b0 (dA (l:=[(0,.B 0 []),(2,.B 3 []),(3,.B 4 [])]) (U:=⟨[fH m b,.d (dT m.x.p),eO m.x a,.d Ej.zero.d,.d El.zero.d],[a,b],[]⟩) ⟨rfl,rfl,rfl,trivial⟩ rfl ?_)));refine dB (dB (dA (l:=[(0,.B 0 []),(2,.B 3 []),(3,.B 4 []),(4,.B 5 []),(5,.B 6 [])]) (U:=⟨[fH m b,.d (dT m.x.p),eO m.x a,.d Ej.zero.d,.d El.zero.d,.d (o5 yJ.n),.d (DM yJ.v)],[a,b],[]⟩) ⟨rfl,rfl,rfl,rfl,rfl,trivial⟩ rfl ?_));refine dB (ev func48 ?_);refine fa (oW (tG (m:=m) (a:=a) (b:=b) a3) rfl) ?_;rintro _ _ ⟨rfl,rfl⟩;refine rS rfl rfl ?_;refine XC 9 (v':=HJ m.x) rfl rfl (λO J K h=>XH m.x h) ?_;refine fa (zbv (c:=yJ) (λn u w=>?_) (λk c p R e y g=>?_) j t F s f) ?_
 .obtain rfl|rfl|rfl:n=11\/n=12\/n=13:=a3
  all_goals rfl
 .obtain⟨r,G⟩:=g.new;have q:=g.len;refine rX c6 rfl a8 ?_;refine a4 (λ_=>⟨r.1,r.2⟩) (a4 (λf=>?_) λ_=>?_)
  .have f:((decide (p<0)||decide (p>=64))||c.v.contains ((p.toNat:Nat):Int))=true:=f;rw[Int.toNat_of_nonneg r.1,G,fe (show¬p<0 by omega),fe (show¬p>=64 by omega)]at f;cases f
  refine a4 ⟨r.1,r.2⟩ ?_;conv=>whnf
  refine⟨_,zdL c.v r.1,?_⟩;conv=>whnf
  have d:=g.n k y
  match k,y,d with
  |0,_,d=>
   exact b2 (x:=c.n 0+1) (a4 rfl rfl)
  |1,_,d=>
   exact b2 (x:=c.n 1+1) (a4 rfl rfl)
  |2,_,d=>
   exact b2 (x:=c.n 2+1) (a4 rfl rfl)
  |3,_,d=>
   exact b2 (x:=c.n 3+1) (a4 rfl rfl)
 .rintro _ _ ⟨rfl,rfl⟩;refine dA (l:=[(0,.B 0 []),(2,.B 3 []),(3,.B 4 []),(4,.B 5 []),(5,.B 6 [])]) (U:=⟨CB m a b (n6 m)++[.ob (.yl 0)],[a,b],[.loop _ _ _ _ _ .over]⟩) ⟨rfl,rfl,rfl,rfl,rfl,trivial⟩ rfl ?_;have A:=g.n 0 a8;have u:=g.n 1 a8;have w:=g.n 2 a8;have E:=g.n 3 a8;have q:=g.len;generalize n6 m=c at z A u w E q ⊢;refine eJ c6 (dL 16 (b2 (x:=c.n 0+c.n 1) (b2 (x:=c.n 0+c.n 1+c.n 2) (b2 (x:=c.n 0+c.n 1+c.n 2+c.n 3) (mI (v:=xd m.x) (oW (tG (m:=m) (a:=a) (b:=b) a3) rfl) (λ_ h=>h) ?_)))));refine mI (v:=I m.x.p.n) (oW (Mx (Z:=fH m b) (p:=m.x.p) (C:=eO m.x a) (rb (xF m b) m.x a)) rfl) (λ_ h=>h) ?_;refine a4 (λf=>?_) λ_=>?_
  .have f:(c.n 0+c.n 1+c.n 2+c.n 3 != m.x.p.n)=true:=f;rw[z]at f;simp at f
  exact a4 (gw rfl (gK rfl m.x a)) (a4 rfl rfl)
end
end Sx
namespace Sx
variable{p:Ev->Bool}{l:List Ev}{i t:Nat}
section
variable {N A B:Int} {m:Mc} {a b:Nat}
def NI(h:MI N m):n5 m 8=nj m.ts:=by
 unfold n5 nj;refine wb λi d=>?_;have e:qM (i:Int)=true:=by unfold qM;rw[eI a3,eI a3];rfl
 unfold sN;rw[e,nE];cases c:(m.ts i).busy with
 |true=>rfl
 |false=>rw[(h.rr i d).idle c];rfl
def zdf(h:MI N m)(x:Int):(b1 m.x.s.t x).rs.length<=1000:=by
 obtain⟨d,e⟩:=h.s.t;have c:=pF e x;have g:=Bs c.ok;have i:=c.pg;have j:=c.q1;have k:=EM (l:=(b1 m.x.s.t x).rs) λy f=>by have:=c.ok y f;unfold dw at this;omega
 omega
def Xv(h:MI N m):Fit yJ (dm m.x.p.K++(dm (g7 m.x.s.t (dW m.x.s.t.b))++(n5 m 8++m.x.q))):=by rw[NI h];have d:=QY h;refine⟨d.symm.nodup (IQ N),λp c=>?_,λk _=>⟨i6 0,i6 0⟩⟩;have:=vh.1 (d.mem_iff.1 (show p∈_ from c));have:=h.hN;omega
def Xx(h:MI N m):(n6 m).n 0+(n6 m).n 1+(n6 m).n 2+(n6 m).n 3=N:=by
 have c:=(QY h).length_eq;rw[<-NI h]at c;have i:(mH N).length=N.toNat:=by simp[mH]
 have j:=h.hN;simp only[ew]at c;have d:(n6 m).n 0=0+((dm m.x.p.K).length:Nat):=rfl;have e:(n6 m).n 1=0+((dm (g7 m.x.s.t (dW m.x.s.t.b))).length:Nat):=rfl;have f:(n6 m).n 2=0+((n5 m 8).length:Nat):=rfl;have g:(n6 m).n 3=0+(m.x.q.length:Nat):=rfl;rw[d,e,f,g];omega
def UM(h:MI N m)(d:MX2 A B m):b6 a6 15 [.B 0 []] (MM m a b) λo U=>o=.ret (T2 (.d (o5 (n6 m).n)) (I 0))/\U=MM m a b:=
 UL (Xv h) (zdf h) (λi c=>(d.rt i c).rg) (eY (xq h.K) a8) (eY h.F1 a8) (by rw[Xx h,h.n])
end
def ij:Ev:=⟨0,fO 0,c4,nP,0,0⟩
def oD(t:Int)(l:List Ev):List Ev:=l.filter λe=>e.task==t
def S0(h:i<l.length):l.take (i+1)=l.take i++[l.getD i ij]:=by rw[js,ed h,eu,ed h];rfl
def Ie(h:i<l.length):(l.take (i+1)).filter p=(l.take i).filter p++(bif p (l.getD i ij)then[l.getD i ij]else[]):=by rw[S0 h,r9,oR];cases p (l.getD i ij)<;>rfl
def Ic:((l.take i).filter p).length<=i:=eY (sU _ _) (List.length_take_le _ _)
attribute [local irreducible] b6 eF fR ez eH eB eM fx dC ec dU dx
def zeB(l:List Ev)(j:l.length<=1000000)(t:Int):c5 a6 105 [.d (fq jj (lj l)),I t] (.d (fq jj (lj (oD t l)))):=by
 refine c5.le (b:=[.d (.X l.length jj λi=>mR (l.getD i ij)),I t]) ?_ ⟨iE jj mR ij l,SV.le_refl _,trivial⟩;refine dq func105 ?_;refine b2 (x:=(l.length:Int)) (oA 5 jj (c7 []) rfl ?_);refine dX c6 (λi:Nat×Nat=>i.1<=l.length) (λi=>l.length - i.1) (λi=>[(10,I i.1),(5,gx 1 i.2 jj (lj (oD t (l.take i.1))))]) (λi=>⟨[],[i.2],[]⟩) (0,0) (dG _) ⟨rfl,rfl,trivial⟩ rfl (λi=>⟨a9 _,a9 _,a9 _⟩) ?_;rintro⟨i,v⟩ f;have f:i<=l.length:=f;apply a4<;>intro h
 .have a:i<l.length:=eZ h
  have g:(lj (oD t (l.take i))).length<=i:=by rw[dD];exact Ic
  have c:oD t (l.take (i+1))=_:=Ie a;refine fS (i:=i) (n:=l.length) ?_;apply a4<;>intro d
  .have d:((l.getD i ij).task==t)=true:=d;rw[d]at c;refine Or.inl (a4 ⟨rfl,by show(lj (oD t (l.take i))).length+1<=2147483648;omega⟩ (b2 (x:=(i:Int)+1) ?_));conv=>whnf
   refine⟨(i+1,v+1),a,by show l.length -(i+1)<l.length - i;omega,⟨rfl,?_,trivial⟩,⟨rfl,rfl⟩,rfl⟩;have e:lj (oD t (l.take (i+1)))=lj (oD t (l.take i))++[mR (l.getD i ij)]:=by rw[c];exact je
   show _=some (gx 1 (v+1) jj (lj (oD t (l.take (i+1)))));rw[e,<-kA];rfl
  .have d:((l.getD i ij).task==t)=false:=d;rw[d]at c;have c:oD t (l.take (i+1))=oD t (l.take i)++[]:=c;rw[gk]at c;refine b2 (x:=(i:Int)+1) ?_;conv=>whnf
   refine⟨(i+1,v),a,by show l.length -(i+1)<l.length - i;omega,⟨rfl,?_,trivial⟩,⟨rfl,rfl⟩,rfl⟩;show _=some (gx 1 v jj (lj (oD t (l.take (i+1)))));rw[c];rfl
 .have a:i=l.length:=e9 h
  subst a;refine b7 ?_;rw[gv];rfl
def o6(e:Ev):Bool:=e.r.e != 0
def lf(p:Ev->Bool)(l:List Ev):Int:=((l.filter p).length:Nat)
def Yi(e:Ev):c5 a6 106 [.d (mR e)] (B (o6 e)):=by
 refine dq func106 ?_;exact b7
def Xo(l:List Ev)(j:l.length<=1000000):c5 a6 60 [.fn (.func 106) (.d .un),.d (fq jj (lj l))] (I (lf o6 l)):=by
 refine c5.le (b:=[.fn (.func 106) (.d .un),.d (.X l.length jj λi=>mR (l.getD i ij))]) ?_ ⟨SV.le_refl _,iE jj mR ij l,trivial⟩;refine dq func60 ?_;refine b2 (x:=(l.length:Int)) (dX c6 (λi:Nat=>i<=l.length) (λi=>l.length - i) (λi=>[(10,I i),(5,I (lf o6 (l.take i)))]) (λi=>⟨[],[],[]⟩) 0 (dG _) ⟨rfl,rfl,trivial⟩ rfl (λi=>⟨a9 _,a9 _,a9 _⟩) ?_);intro i h;apply a4<;>intro f
 .have a:i<l.length:=eZ f
  have e:((l.take i).filter o6).length<=i:=Ic;have d:=Ie (p:=o6) a;have g:lf o6 (l.take i)=((l.take i).filter o6).length:=rfl;refine fS (i:=i) (n:=l.length) (bo (Yi (l.getD i ij)) ?_);apply a4<;>intro c
  .have c:o6 (l.getD i ij)=true:=c;rw[c]at d;refine b2 (x:=lf o6 (l.take i)+1) (b2 (x:=(i:Int)+1) ?_);conv=>whnf
   refine⟨i+1,a,a3,⟨rfl,?_,trivial⟩,⟨rfl,rfl⟩,rfl⟩;have:lf o6 (l.take (i+1))=lf o6 (l.take i)+1:=by unfold lf;rw[d,ew];rfl
   rw[this];rfl
  .have c:o6 (l.getD i ij)=false:=c;rw[c]at d;refine b2 (x:=(i:Int)+1) ?_;conv=>whnf
   refine⟨i+1,a,a3,⟨rfl,?_,trivial⟩,⟨rfl,rfl⟩,rfl⟩;have:lf o6 (l.take (i+1))=lf o6 (l.take i):=by unfold lf;rw[d,ew];rfl
   rw[this];rfl
 .have a:i=l.length:=e9 f
  subst a;refine b7 ?_;rw[gv];rfl
def QM(l:List Ev):Bool:=(List.range l.length).all λi=>!(decide ((l.getD i ij).J>(l.getD i ij).W)||(decide ((i:Int)>0)&&decide ((l.getD (i - 1) ij).W>=(l.getD i ij).W)))
def zbn(l:List Ev)(g:l.length<=1000000)(d:QM l=true):c5 a6 26 [.d (fq jj (lj l))] (B true):=by
 refine c5.le (b:=[.d (.X l.length jj λi=>mR (l.getD i ij))]) ?_ ⟨iE jj mR ij l,trivial⟩;refine dq func26 ?_;refine b2 (x:=(l.length:Int)) (dX c6 (λi:Nat=>i<=l.length) (λi=>l.length - i) (λi=>[(6,I i)]) (λi=>⟨[],[],[]⟩) 0 (dG _) ⟨rfl,trivial⟩ rfl (λi=>⟨a9 _,a9 _,a9 _⟩) ?_);intro i f;apply a4<;>intro e
 .have a:i<l.length:=eZ e
  have d:=pQ.1 d i (gZ.2 a);simp only[jL]at d;refine dL 29 (fS (i:=i) (n:=l.length) (fS (i:=i) (n:=l.length) (a4 (λ_ _=>eD (x:=(i:Int) - 1) a3 a3) (a4 (λc _=>?_) ?_))))
  .have c:(decide ((i:Int)>0))=true:=b8 c
   have c:=gM c;exact⟨a3,a3⟩
  refine a4 (λ_ _=>⟨(a3:(0:Int)<=(i:Int)),(a3:(i:Int)<(l.length:Int))⟩) (a4 (λc=>?_) λ_=>?_)
  .have c:(decide ((l.getD i ij).J>(l.getD i ij).W)||(decide ((i:Int)>0)&&decide ((l.getD ((i:Int) - 1).toNat ij).W>=(l.getD i ij).W)))=true:=c;rw[show((i:Int) - 1).toNat=i - 1 by omega,d]at c;cases c
  refine b2 (x:=(i:Int)+1) ?_;conv=>whnf
  exact⟨i+1,a,a3,⟨rfl,trivial⟩,⟨rfl,rfl⟩,rfl⟩
 .have a:i=l.length:=e9 e
  subst a;exact b7
section
variable {m:Mc} {a b:Nat}
def M0(c:m.x.s.alive t=false):jW m (t:Int)=false:=by unfold jW;rw[nE,c,lO]
def Ti(e:m.x.s.alive t=false)(f:∀i,i<8->(m.ts i).c.G.length<=64):b6 a6 103 [.B 0 [],I t] (MM m a b) λo U=>o=.ret (B false)/\U=MM m a b:=by
 refine ov func103 ?_;refine dB (eJ c6 (fa (MK (m:=m) (a:=a) (b:=b) (t:Int) f) ?_));rintro _ _ ⟨rfl,rfl⟩;refine dL 25 ?_;conv=>whnf
 have d:=Da (m:=m) (a:=a) (b:=b) (t:Int);rw[M0 e]at d;refine mI (v:=B false) (oW d rfl) (λ_ h _=>h) ?_;refine JY (B false) (λc=>?_) ?_
 .have c:((FK m (t:Int)&&false)&&!(sN m (t:Int)).E4)=true:=c;simp at c
 refine a4 (gw rfl (gK rfl m.x a)) (a4 ?_ rfl);exact dE (λz=>Out.ret (B z)) eA
def VH(d:m.x.s.alive t=false)(e:∀i,i<8->(m.ts i).c.G.length<=64):b6 a6 104 [.B 0 [],I t] (MM m a b) λo U=>o=.ret (B false)/\U=MM m a b:=by
 refine ov func104 ?_;refine dB (eJ c6 (fa (Pp (m:=m) (a:=a) (b:=b) (t:Int)) ?_));rintro _ _ ⟨rfl,rfl⟩;conv=>whnf
 have c:=Da (m:=m) (a:=a) (b:=b) (t:Int);rw[M0 d]at c;refine mI (v:=B false) c (λ_ h _=>h) ?_;refine mI (v:=B false) (Ti d e) (λ_ h _=>h) ?_;refine a4 (gw rfl (gK rfl m.x a)) (a4 ?_ rfl);exact dE (λz=>Out.ret (B z)) eA
def VV(d:∀t,t<8->m.x.s.alive t=false)(e:∀i,i<8->(m.ts i).c.G.length<=64):b6 a6 58 [.B 0 []] (MM m a b) λo U=>o=.ret (sD .c (c7 []))/\U=MM m a b:=by
 refine ov func58 ?_;refine eJ c6 (dX c6 (λi:Nat=>i<=8) (λi=>8 - i) (λi=>[(8,I i),(3,sD .c (c7 []))]) (λi=>MM m a b) 0 (dG _) ⟨rfl,rfl,trivial⟩ rfl (λi=>⟨a9 _,a9 _,a9 _⟩) ?_);intro i g;apply a4<;>intro f
 .have c:i<8:=eZ f
  refine fa (VH (d i c) e) ?_;rintro _ _ ⟨rfl,rfl⟩;refine b0 (fa (Ti (d i c) e) ?_);rintro _ _ ⟨rfl,rfl⟩;refine b0 (b2 (x:=(i:Int)+1) ?_);conv=>whnf
  exact⟨i+1,c,a3,⟨rfl,rfl,trivial⟩,⟨rfl,(by show(eV 3 2 0 [fH m b,.d (dT m.x.p),eO m.x a]&&gV 3 2 0 [])=true;rw[gK rfl m.x a];rfl)⟩,rfl⟩
 .have c:i=8:=e9 f
  subst c;exact a4 (gw rfl (gK rfl m.x a)) (a4 rfl rfl)
end
end Sx
namespace Sx
def xk(c e l r h n:Int)(d w:Bool):D:=.H (.z .i64 c) (.H (.z .i64 e) (.H (.z .i64 l) (.H (.z .i64 r) (.H (.z .i64 h) (.H (.z .i64 n) (.H (.I d) (.H (.I w) .un)))))))
structure Ac where
 c:Int
 e:Int
 l:Int
 h:Int
 n:Int
 al:Bool
 w:Bool
def DK(x:Ac):D:=xk x.c x.e x.l 0 x.h x.n x.al x.w
def uq:List Ev->Int->Int
 |[],a=>a
 |e::l,a=>uq l (qP a (e.W - e.J+1))
def P7:∀(l r:List Ev) (a:Int),uq (l++r) a=uq r (uq l a)
 |[],_,_=>rfl
 |e::l,r,a=>P7 l r _
def P8:∀{l:List Ev} {a:Int},(∀e∈l,e.W - e.J<=1000000)->0<=a/\a<=1000001->0<=uq l a/\uq l a<=1000001
 |[],_,_,h=>h
 |e::l,a,d,h=>by
  refine P8 (l:=l) (λx f=>d x (fA _ f)) ?_;have:=d e (fQ ..);unfold qP;by_cases c:e.W - e.J+1>a
  .rw[eI c,dZ];omega
  .rw[fe c,eQ];omega
attribute [local irreducible] b6 eF fR ez eH eB eM fx dC ec dU dx
section
variable {m:Mc} {a b:Nat}
def VY{t:Nat}(ht:t<8)(hA:m.x.s.alive t=false)(hr:∀i,i<8->(m.ts i).c.G.length<=64)(hall:dW m.x.s.t.b=[])(hs:StD m.x.s)(hq:m.x.q.length<=1000000)(hev:m.M.length<=1000000)(hb:∀e∈m.M, -1000000<=e.W - e.J/\e.W - e.J<=1000000):
 ∃ac:Ac,b6 a6 59 [.B 0 [],I t] (MM m a b) λo U=>o=.ret (.d (DK ac))/\U=MM m a b:=by
 refine⟨⟨((oD t m.M).length:Nat),lf o6 (oD t m.M),uq (oD t m.M) 0,((fj m.x.s.o m.x.s.t (gA t) (dW m.x.s.t.b)).length:Nat),((eg m.x.s.k (jk t) (dI m.x.s.k.b)).length:Nat),m.x.s.alive t,m.x.s.alive t&&true⟩,?_⟩;have hl:(oD t m.M).length<=m.M.length:=sU _ _;have hb2:∀e∈oD t m.M, -1000000<=e.W - e.J/\e.W - e.J<=1000000:=λe he=>hb e (jM.1 he).1;refine ov func59 ?_;refine dB ?_;refine dB ?_;refine fa (oW (tG (m:=m) (a:=a) (b:=b) hq) rfl) ?_;rintro _ _ ⟨rfl,rfl⟩;refine dA (l:=[(0,.B 0 []),(1,I t),(4,.B 3 []),(5,.B 4 [])]) (U:=⟨[fH m b,.d (dT m.x.p),eO m.x a,.d tk.zero.d,.d (fw m.x.s)],[a,b],[]⟩) ⟨rfl,rfl,rfl,rfl,trivial⟩ rfl ?_;refine dB ?_;refine fa (oW (Co (m:=m) (a:=a) (b:=b) hev) rfl) ?_;rintro _ _ ⟨rfl,rfl⟩;refine bo ((zeB m.M hev t).out (iE jj mR ij (oD t m.M))) ?_;conv=>whnf
 generalize oD t m.M=L at hl hb2 ⊢;refine dA (l:=[(0,.B 0 []),(1,I t),(4,.B 3 []),(5,.B 4 []),(6,.d (.X L.length jj λi=>mR (L.getD i ij)))]) (U:=⟨[fH m b,.d (dT m.x.p),eO m.x a,.d tk.zero.d,.d (fw m.x.s)],[a,b],[]⟩) ⟨rfl,rfl,rfl,rfl,rfl,trivial⟩ rfl ?_;refine dB ?_;refine fg (List.range 26) [(24,16777215),(25,0)] ?_;refine b2 (x:=(L.length:Int)) ?_;refine c9 ((Xo L (by omega)).le (a:=[.fn (.func 106) (.d .un),.d (.X L.length jj λi=>mR (L.getD i ij))]) ⟨SV.le_refl _,zdJ jj mR ij L,trivial⟩) (λ_ h=>h) ?_;conv=>whnf
 obtain⟨d,hT⟩:=hs.t;refine c9 (L7 m.x.s.o m.x.s.t t hT.rk) (λ_ h=>h) ?_;refine a4 (eD (x:=((hL (fj m.x.s.o m.x.s.t (gA t) (dW m.x.s.t.b))).length:Int)) (by omega) (by rw[dD,hall];exact(by decide:((0:Nat):Int)<=9223372036854775807))) ?_;refine c9 (MG hs.k t) (λ_ h=>h) ?_;refine a4 (eD (x:=((hL (eg m.x.s.k (jk t) (dI m.x.s.k.b))).length:Int)) (by omega) (by rw[dD];have:=qY m.x.s.k (jk t) (dI m.x.s.k.b);have:=qb m.x.s.k.b;omega)) ?_;refine a4 ⟨(by omega:(0:Int)<=(t:Int)),(by omega:(t:Int)<8)⟩ ?_;conv=>whnf
 have ht0:(0:Int)<=(t:Int)/\(t:Int)<8:=⟨by omega,by omega⟩;refine iF (by first|exact(show _/\_ from⟨rfl,rfl⟩)|exact(show _/\_ from⟨ht0,rfl,rfl⟩)) (kT ?_ ?_);rotate_left
 .repeat' (first|exact trivial|refine iF (by first|exact(show _/\_ from⟨rfl,rfl⟩)|exact(show _/\_ from⟨ht0,rfl,rfl⟩)) ?_)
 refine dA (l:=[(0,.B 0 []),(1,I t),(4,.B 3 []),(5,.B 4 []),(6,.d (.X L.length jj λi=>mR (L.getD i ij))),(7,.B 5 [])]) (U:=⟨[fH m b,.d (dT m.x.p),eO m.x a,.d tk.zero.d,.d (fw m.x.s),.d (xk ((L.length:Nat)) (lf o6 L) 0 0 ((fj m.x.s.o m.x.s.t (gA t) (dW m.x.s.t.b)).length:Nat) ((eg m.x.s.k (jk t) (dI m.x.s.k.b)).length:Nat) (m.x.s.alive t) false)],[a,b],[]⟩) ⟨rfl,rfl,rfl,rfl,rfl,rfl,trivial⟩ ?_ ?_
 .refine g9 (ce rfl (ce rfl (ce rfl (ce rfl (ce rfl (ce ?_ rfl)))))) rfl rfl;show SV.d (xk _ _ _ _ ((hL (fj m.x.s.o m.x.s.t (gA t) (dW m.x.s.t.b))).length:Nat) ((hL (eg m.x.s.k (jk t) (dI m.x.s.k.b))).length:Nat) _ _)=_;rw[dD,dD];rfl
 generalize((fj m.x.s.o m.x.s.t (gA t) (dW m.x.s.t.b)).length:Int)=hd;generalize((eg m.x.s.k (jk t) (dI m.x.s.k.b)).length:Int)=le;generalize lf o6 L=ce;refine dB ?_;refine b2 (x:=(L.length:Int)) ?_;refine dX c6 (λi:Nat=>i<=L.length) (λi=>L.length - i) (λi=>[(45,I i)]) (λi=>⟨[fH m b,.d (dT m.x.p),eO m.x a,.d tk.zero.d,.d (fw m.x.s),.d (xk ((L.length:Nat)) ce (uq (L.take i) 0) 0 hd le (m.x.s.alive t) false)],[a,b],[]⟩) 0 (dG _) ⟨rfl,trivial⟩ rfl (λi=>⟨a9 _,a9 _,a9 _⟩) ?_;intro i hi;apply a4<;>intro ht
 .have hlt:i<L.length:=eZ ht
  have hmem:L.getD i ij∈L:=by rw[eu,ed hlt];exact oi hlt
  have hbe:=hb2 _ hmem;have hlo:=P8 (l:=L.take i) (a:=0) (λe he=>(hb2 e (sV he)).2) ⟨by decide,by decide⟩;refine fS (i:=i) (n:=L.length) ?_;refine b2 (x:=(L.getD i ij).W -(L.getD i ij).J) ?_;refine b2 (x:=(L.getD i ij).W -(L.getD i ij).J+1) ?_;refine a4 ⟨eD (x:=uq (L.take i) 0) (by omega) (by omega),eD (x:=(L.getD i ij).W -(L.getD i ij).J+1) (by omega) (by omega)⟩ ?_;refine b2 (x:=(i:Int)+1) ?_;conv=>whnf
  refine⟨i+1,hlt,by omega,⟨rfl,trivial⟩,⟨?_,(by show(eV 3 2 0 [fH m b,.d (dT m.x.p),eO m.x a]&&gV 6 2 0 [])=true;rw[gK rfl m.x a];rfl)⟩,rfl⟩;rw[S0 hlt,P7];rfl
 .have hlt:i=L.length:=e9 ht
  subst hlt;rw[gv];generalize uq L 0=lo;refine dA (l:=[(0,.B 0 []),(1,I t),(4,.B 3 []),(5,.B 4 []),(7,.B 5 [])]) (U:=⟨[fH m b,.d (dT m.x.p),eO m.x a,.d tk.zero.d,.d (fw m.x.s),.d (xk ((L.length:Nat)) ce lo 0 hd le (m.x.s.alive t) false)],[a,b],[]⟩) ⟨rfl,rfl,rfl,rfl,rfl,trivial⟩ rfl ?_;refine dB ?_;refine bo (ME m.x.s.o m.x.s.t t hT.rk) ?_;rw[show fj m.x.s.o m.x.s.t (gf t) (dW m.x.s.t.b)=[] by rw[hall];rfl];refine b2 (x:=(0:Int)) ?_;refine dX c6 (λ_:Unit=>True) (λ_=>0) (λ_=>[(69,I 0)]) (λ_=>⟨[fH m b,.d (dT m.x.p),eO m.x a,.d tk.zero.d,.d (fw m.x.s),.d (xk ((L.length:Nat)) ce lo 0 hd le (m.x.s.alive t) false)],[a,b],[]⟩) () trivial ⟨rfl,trivial⟩ rfl (λi=>⟨a9 _,a9 _,a9 _⟩) ?_;intro _ _;refine b0 ?_;refine dA (l:=[(0,.B 0 []),(1,I t),(4,.B 3 []),(5,.B 4 []),(7,.B 5 [])]) (U:=⟨[fH m b,.d (dT m.x.p),eO m.x a,.d tk.zero.d,.d (fw m.x.s),.d (xk ((L.length:Nat)) ce lo 0 hd le (m.x.s.alive t) false)],[a,b],[]⟩) ⟨rfl,rfl,rfl,rfl,rfl,trivial⟩ rfl ?_;refine eJ c6 ?_;refine JX (B false) (λhg=>?_) ?_
  .have hg:m.x.s.alive t=true:=hg;rw[hA]at hg;cases hg
  exact a4 (gw rfl (gK rfl m.x a)) (a4 rfl rfl)
end
end Sx
namespace Sx
def o0(d:Int)(e:Ev):Bool:=(dn e.c.C 23).tmod 23==d
attribute [local irreducible] b6 eF fR ez eH eB eM fx dC ec dU dx
section
variable {m:Mc} {a b:Nat}
def zaO{x:Int}(h:0<=x/\x<256):0<=(dn x 23).tmod 23/\(dn x 23).tmod 23<23:=by
 have d:0<=dn x 23:=by
  unfold dn;by_cases c:23<x
  .rw[eI c,dZ];decide
  .rw[fe c,eQ];exact h.1
 exact⟨z0 _ d,zZ _ a8⟩
def Xp{C x4:SV}(r:eV 6 2 0 [fH m b,.d (dT m.x.p),eO m.x a,C,x4]=true)(d:Nat)(l:List Ev)(w:l.length<=1000000)(hd:∀e∈l,0<=e.c.C/\e.c.C<256):
 b6 a6 60 [.fn (.func 61) (.H (.B 5 []) (.d .un)),.d (fq jj (lj l))] ⟨[fH m b,.d (dT m.x.p),eO m.x a,C,x4,I d],[a,b],[]⟩ λo U=>o=.ret (I (lf (o0 d) l))/\U=⟨[fH m b,.d (dT m.x.p),eO m.x a,C,x4,I d],[a,b],[]⟩:=by
 refine b6.le (b:=[.fn (.func 61) (.H (.B 5 []) (.d .un)),.d (.X l.length jj λi=>mR (l.getD i ij))]) ?_ ⟨SV.le_refl _,iE jj mR ij l,trivial⟩;have f:∀n,(eV 6 2 0 [fH m b,.d (dT m.x.p),eO m.x a,C,x4,I d]&&gV n 2 0 [])=true:=λn=>by show(eV 6 2 0 [fH m b,.d (dT m.x.p),eO m.x a,C,x4]&&true)=true;rw[r];rfl
 refine ev func60 ?_;refine b2 (x:=(l.length:Int)) (dX c6 (λi:Nat=>i<=l.length) (λi=>l.length - i) (λi=>[(10,I i),(5,I (lf (o0 d) (l.take i)))]) (λi=>⟨[fH m b,.d (dT m.x.p),eO m.x a,C,x4,I d],[a,b],[]⟩) 0 (dG _) ⟨rfl,rfl,trivial⟩ rfl (λi=>⟨a9 _,a9 _,a9 _⟩) ?_);intro i v;apply a4<;>intro t
 .have c:i<l.length:=eZ t
  have j:l.getD i ij∈l:=by rw[eu,ed c];exact oi c
  have h:=hd _ j;have q:=zaO h;have s:((l.take i).filter (o0 d)).length<=i:=Ic;have k:=Ie (p:=o0 d) c;have u:lf (o0 d) (l.take i)=((l.take i).filter (o0 d)).length:=rfl;refine fS (i:=i) (n:=l.length) (ev func61 ?_);refine a4 ⟨(iL (by simp only[eU];omega) (λ_=>h.1) (by simp only[eU];omega):ja .u8 (l.getD i ij).c.C=true),(a8:ja .u8 23=true)⟩ (a4 ⟨(a8:(23:Int)≠0),(iL (by simp only[eU];omega) (λ_=>q.1) (by simp only[eU];omega):ja .u8 ((dn (l.getD i ij).c.C 23).tmod 23)=true)⟩ ?_);apply a4<;>intro g
  .have g:o0 d (l.getD i ij)=true:=g;rw[g]at k;refine b2 (x:=lf (o0 d) (l.take i)+1) (b2 (x:=(i:Int)+1) ?_);conv=>whnf
   refine⟨i+1,c,a3,⟨rfl,?_,trivial⟩,⟨rfl,f _⟩,rfl⟩;have:lf (o0 d) (l.take (i+1))=lf (o0 d) (l.take i)+1:=by unfold lf;rw[k,ew];rfl
   rw[this];rfl
  .have g:o0 d (l.getD i ij)=false:=g;rw[g]at k;refine b2 (x:=(i:Int)+1) ?_;conv=>whnf
   refine⟨i+1,c,a3,⟨rfl,?_,trivial⟩,⟨rfl,f _⟩,rfl⟩;have:lf (o0 d) (l.take (i+1))=lf (o0 d) (l.take i):=by unfold lf;rw[k,ew];rfl
   rw[this];rfl
 .have c:i=l.length:=e9 t
  subst c;conv=>whnf
  rw[gv];exact⟨rfl,rfl⟩
def tZ(d:Int)(A:Nat->Ac)(c:Nat->Int)(p:D):D:=.H (.z .i64 d) (.H (.ar 8 tk.zero.d.shape λi=>DK (A i)) (.H (.ar 23 .c λi=>.z .i64 (c i)) (.H p (.H (.X 0 .c (c7 [])) .un))))
def pB(l:List Ev)(n i:Nat):Int:=if i<n then lf (o0 i) l else 0
def X5(l:List Ev)(n:Nat):a7 (λi=>D.z .i64 (pB l n i)) n (.z .i64 (lf (o0 n) l))=λi=>.z .i64 (pB l (n+1) i):=by
 funext j
 unfold a7 pB;by_cases h:j=n
 .rw[if_pos h,if_pos a3,h]
 .rw[if_neg h];show D.z .i64 (if j<n then lf (o0 j) l else 0)=_;by_cases c:j<n
  .rw[if_pos c,if_pos a3]
  .rw[if_neg c,if_neg a3]
def zcT(r:∀t,t<8->m.x.s.alive t=false)(s:∀i,i<8->(m.ts i).c.G.length<=64)(g:dW m.x.s.t.b=[])(z:StD m.x.s)(y:m.x.q.length<=1000000)(d:m.M.length<=1000000)(u:∀e∈m.M, -1000000<=e.W - e.J/\e.W - e.J<=1000000)(hd:∀e∈m.M,0<=e.c.C/\e.c.C<256){q:Nat->Int}
 (w:b6 a6 15 [.B 0 []] (MM m a b) λo U=>o=.ret (T2 (.d (o5 q)) (I 0))/\U=MM m a b):
 b6 a6 25 [.B 0 []] (MM m a b) λo U=>∃A,o=.ret (T2 (.d (tZ m.now A (pB m.M 23) (o5 q))) (I 0))/\U=MM m a b:=by
 refine ov func25 ?_;refine dB (dB (b0 (dA (l:=[(0,.B 0 []),(2,.B 3 [])]) (U:=⟨[fH m b,.d (dT m.x.p),eO m.x a,.d wi.zero.d],[a,b],[]⟩) ⟨rfl,rfl,trivial⟩ rfl ?_)));refine dB (fa (oW (VA (m:=m) (a:=a) (b:=b)) rfl) ?_);rintro _ _ ⟨rfl,rfl⟩;refine fa (oW (VV (m:=m) (a:=a) (b:=b) r s) rfl) ?_;rintro _ _ ⟨rfl,rfl⟩;refine dA (l:=[(0,.B 0 []),(2,.B 3 []),(4,.B 4 [])]) (U:=⟨[fH m b,.d (dT m.x.p),eO m.x a,.d wi.zero.d,.d (tZ m.now (λ_=>⟨0,0,0,0,0,false,false⟩) (pB m.M 0) (o5 λ_=>0))],[a,b],[]⟩) ⟨rfl,rfl,rfl,trivial⟩ rfl ?_;refine dB (dX c6 (λi:Nat×(Nat->Ac)=>i.1<=8) (λi=>8 - i.1) (λi=>[(15,I i.1)]) (λi=>⟨[fH m b,.d (dT m.x.p),eO m.x a,.d wi.zero.d,.d (tZ m.now i.2 (pB m.M 0) (o5 λ_=>0))],[a,b],[]⟩) (0,λ_=>⟨0,0,0,0,0,false,false⟩) (dG _) ⟨rfl,trivial⟩ rfl (λi=>⟨a9 _,a9 _,a9 _⟩) ?_);rintro⟨i,A⟩ p;have p:i<=8:=p;apply a4<;>intro j
 .have c:i<8:=eZ j
  obtain⟨k,n⟩:=VY (a:=a) (b:=b) c (r i c) s g z y d u;refine fa (oW n rfl) ?_;rintro _ _ ⟨rfl,rfl⟩;refine a4 ⟨(a3:(0:Int)<=(i:Int)),(a3:(i:Int)<8)⟩ ?_;conv=>whnf
  refine⟨.d (tZ m.now (a7 A i k) (pB m.M 0) (o5 λ_=>0)),dE (λf=>SV.d (.H (.z .i64 m.now) (.H (.ar 8 tk.zero.d.shape f) (.H (.ar 23 .c λi=>.z .i64 (pB m.M 0 i)) (.H (o5 λ_=>0) (.H (.X 0 .c (c7 [])) .un)))))) (iU DK A i k),?_⟩;refine b2 (x:=(i:Int)+1) ?_;conv=>whnf
  exact⟨(i+1,a7 A i k),c,by show 8 -(i+1)<8 - i;omega,⟨rfl,trivial⟩,⟨rfl,(by show(eV 3 2 0 [fH m b,.d (dT m.x.p),eO m.x a]&&true)=true;rw[gK rfl m.x a];rfl)⟩,rfl⟩
 .have c:i=8:=e9 j
  subst c;refine dA (l:=[(0,.B 0 []),(2,.B 3 []),(4,.B 4 [])]) (U:=⟨[fH m b,.d (dT m.x.p),eO m.x a,.d wi.zero.d,.d (tZ m.now A (pB m.M 0) (o5 λ_=>0))],[a,b],[]⟩) ⟨rfl,rfl,rfl,trivial⟩ rfl ?_;refine dB (dX c6 (λi:Nat=>i<=23) (λi=>23 - i) (λi=>[(25,I i)]) (λi=>⟨[fH m b,.d (dT m.x.p),eO m.x a,.d wi.zero.d,.d (tZ m.now A (pB m.M i) (o5 λ_=>0))],[a,b],[]⟩) 0 (dG _) ⟨rfl,trivial⟩ rfl (λi=>⟨a9 _,a9 _,a9 _⟩) ?_);intro i p;apply a4<;>intro j
  .have c:i<23:=eZ j
   refine dL 7 (mI (v:=.d (fq jj (lj m.M))) (oW (Co (m:=m) (a:=a) (b:=b) d) rfl) (λ_ h=>h) ?_);refine mI (v:=I (lf (o0 i) m.M)) (Xp (m:=m) (a:=a) (b:=b) (C:=.d wi.zero.d) (x4:=.d (tZ m.now A (pB m.M i) (o5 λ_=>0))) (by show(eV 3 2 0 [fH m b,.d (dT m.x.p),eO m.x a]&&true)=true;rw[gK rfl m.x a];rfl) i m.M d hd) (λ_ h=>h) ?_;refine a4 ⟨(a3:(0:Int)<=(i:Int)),(a3:(i:Int)<23)⟩ ?_;conv=>whnf
   refine⟨.d (tZ m.now A (pB m.M (i+1)) (o5 λ_=>0)),dE (λf=>SV.d (.H (.z .i64 m.now) (.H (.ar 8 tk.zero.d.shape λi=>DK (A i)) (.H (.ar 23 .c f) (.H (o5 λ_=>0) (.H (.X 0 .c (c7 [])) .un)))))) (X5 m.M i),?_⟩;refine b2 (x:=(i:Int)+1) ?_;conv=>whnf
   exact⟨i+1,c,a3,⟨rfl,trivial⟩,⟨rfl,(by show(eV 3 2 0 [fH m b,.d (dT m.x.p),eO m.x a]&&true)=true;rw[gK rfl m.x a];rfl)⟩,rfl⟩
  .have c:i=23:=e9 j
   subst c;refine dA (l:=[(0,.B 0 []),(2,.B 3 []),(4,.B 4 [])]) (U:=⟨[fH m b,.d (dT m.x.p),eO m.x a,.d wi.zero.d,.d (tZ m.now A (pB m.M 23) (o5 λ_=>0))],[a,b],[]⟩) ⟨rfl,rfl,rfl,trivial⟩ rfl ?_;refine eJ c6 (fa (oW w rfl) ?_);rintro _ _ ⟨rfl,rfl⟩;conv=>whnf
   exact⟨gw rfl (gK rfl m.x a),A,rfl,rfl⟩
end
end Sx
end Go.Proofs.YtfbhkfhbnkncoaaGreatDoor
