import Derived.Test.YtfbhkfhbnkncoaaGreatDoorV36
set_option linter.all false
set_option maxRecDepth 100000
set_option maxHeartbeats 8000000
namespace Go.Proofs.YtfbhkfhbnkncoaaGreatDoor
open Go.RowKit Tryz
open Tryz renaming prog→a6
namespace Sx
attribute [local irreducible] b6 eF fR ez eH eB eM fx dC ec dU dx
variable{A:List Int}{t2:List Nat}{C:List Rn}{t:Nat}{K:Out->MS->Prop}{r:Rs}{s2:St}
def Q7{d:Int}:∀{l:List Rn} {b:Int},(∀y∈l,dw y)->0<=(vt d l b).getD 0/\(vt d l b).getD 0<=4096
 |[],b,_=>⟨i6 0,(a8:(0:Int)<=4096)⟩
 |y::l,b,h=>by
  have f:=h y (fQ ..);unfold dw at f;unfold vt;cases e:(decide (d>=b)&&decide (d<b+y.n*32))with
  |true=>
   simp only[dH,fY]at e;show 0<=y.at_*32+d - b/\y.at_*32+d - b<=4096;omega
  |false=>exact Q7 λz g=>h z (fA _ g)
def EW{x:Cr}{l:List Rn}{i:Nat}(d:i<l.length):dS ((l.take i).foldl dS x) (l.getD i c4)=(l.take (i+1)).foldl dS x:=by
 have e:l.getD i c4=l[i]'d:=by rw[eu,ed d];rfl
 rw[js,ed d,pq,e];rfl
def EV(x:Cr)(l:List Rn)(i:Nat):((l.take i).foldl dS x).q.length<=x.q.length+(dm l).length:=by
 rw[(rR _ x).1,ew];have h:(dm l).length=(dm (l.take i)).length+(dm (l.drop i)).length:=by rw[<-ew];show(l.flatMap pg).length=((l.take i).flatMap pg++(l.drop i).flatMap pg).length;rw[<-mA,nF]
 omega
section
variable {Z:SV} {a b:Nat} {x:Cr} {c:Rt} {r0:Rs} {e0:Bool} {S Q F:D}
def Dp{f:FuncId}{args:List SV}{d:List SV}{e:List Ob}{p:Sp}(q:Z.ids 3 2 0=true)(h:b6 a6 f args (M7 Z S Q F x c r0 e0 a b) λo m=>o=l0/\∃T,m=M7 Z S Q F p.x p.c p.r p.e T b)(l:eV 7 2 0 args=true)(k:∀T,K l0 ⟨Z::.d (dT p.x.p)::eO p.x T::.d S::.d Q::.d F::yZ p.c p.r p.e::d,T::b::t2,e⟩):b6 a6 f args ⟨Z::.d (dT x.p)::eO x a::.d S::.d Q::.d F::yZ c r0 e0::d,a::b::t2,e⟩ K:=
 fa (ry d t2 e h l (rI q (dF rfl) rfl) λo m n=>by
  obtain⟨_,T,rfl⟩:=n;exact⟨rfl,rfl,rfl⟩) λo m ⟨U,⟨g,T,j⟩,i⟩=>by
  subst j i g;exact k T
def Hm{f:List SV}{j:List Ob}(i:Z.ids 3 2 0=true)(r:Rn)(q:rj r)(p:x.q.length<=1000000)(l:∀T,K l0 ⟨Z::.d (dT (dS x r).p)::eO (dS x r) T::f,T::b::t2,j⟩):b6 a6 133 [.B 2 [],.d (dR r)] ⟨Z::.d (dT x.p)::eO x a::f,a::b::t2,j⟩ K:=
 Aj (a:=a) (b:=b) i (Rm i r q p) rfl (λo m ⟨_,T,h⟩=>⟨_,T,h⟩) λo t T ⟨n,s,d⟩=>by have e:=dE MS.c d;have g:=dE MS.t d;simp only[oP,px,FJ]at e g;obtain⟨k,e⟩:=e;subst n g;rw[k,e];exact l T
abbrev pz(Z:SV)(S Q F:D)(b:Nat)(p:Sp):X->List Ent->MS->Prop:=gS ff 7 2 0 f196.results.toList (yt Z S Q F b p)
abbrev M9(Z:SV)(S Q F:D)(x:Cr)(c:Rt)(a b:Nat)(l:List SV):MS:=⟨Z::.d (dT x.p)::eO x a::.d S::.d Q::.d F::yZ c nP false::.B 6 []::.d (iC c.c)::l,[a,b],[]⟩
def Xe(d:Z.ids 3 2 0=true)(f:x.q.length<=1000000)(e:gE x.m)(g:ko c.run):Ok a6 f196.ntmps false (gW 9 (gB f196)) (gy [(1,.B 7 []),(7,.B 10 [])] []) (M9 Z S Q F x c a b [.d (fw s2),.d (fu r)]) (pz Z S Q F b ⟨jO x c,c,r,true⟩):=by
 refine eJ c6 (Dp (p:=⟨jO x c,c,r,true⟩) d (y0 d f e g r) rfl λT=>?_);conv=>whnf
 exact⟨o8 d (dF rfl) rfl rfl,rfl,T,rfl⟩
def Xg(g:Z.ids 3 2 0=true)(v:x.q.length<=2000)(p:gE x.m)(s:ko c.run)(o:∀y∈C,rj y)(u:(dm C).length<=3000)(t:C.length<=1000000):Ok a6 f196.ntmps false (gW 8 (gB f196)) (gy [(1,.B 7 []),(7,.B 10 []),(8,.d (.X C.length fi λi=>dR (C.getD i c4)))] []) (M9 Z S Q F x c a b [.d (fw s2),.d (fu r)]) (pz Z S Q F b ⟨jO (C.foldl dS x) c,c,r,true⟩):=by
 have m:∀a,Ok a6 f196.ntmps false (gW 9 (gB f196)) (gy [(1,.B 7 []),(7,.B 10 [])] []) (M9 Z S Q F (C.foldl dS x) c a b [.d (fw s2),.d (fu r)]) (pz Z S Q F b ⟨jO (C.foldl dS x) c,c,r,true⟩):=λa=>Xe g (by rw[(rR C x).1,ew];omega) (by rw[(rR C x).2.2.2];exact p) s;refine dB (b2 (x:=(C.length:Int)) (dX c6 (λj:Nat×Nat=>j.1<=C.length) (λj=>C.length - j.1) (λj=>[(130,I j.1)]) (λj=>⟨Z::.d (dT ((C.take j.1).foldl dS x).p)::eO ((C.take j.1).foldl dS x) j.2::.d S::.d Q::.d F::yZ c nP false::.B 6 []::.d (iC c.c)::[.d (fw s2),.d (fu r)],[j.2,b],[]⟩) (0,a) (dG _) ⟨rfl,trivial⟩ rfl (λj=>⟨a9 _,a9 _,a9 _⟩) ?_));intro j h;obtain⟨i,a⟩:=j;have h:i<=C.length:=h;apply a4<;>intro k
 .have d:i<C.length:=eZ k
  refine fS (i:=i) (n:=C.length) (dL 5 ?_);conv=>whnf
  have q:=EV x C i;have f:C.getD i c4∈C:=by rw[eu,ed d];exact oi d
  refine Hm (x:=(C.take i).foldl dS x) g (C.getD i c4) (o _ f) a3 λT=>?_;refine b2 (x:=(i:Int)+1) ?_;conv=>whnf
  refine⟨(i+1,T),by show i+1<=_;omega,by show C.length -(i+1)<C.length - i;omega,⟨rfl,trivial⟩,⟨?_,rI g (dF rfl) rfl⟩,rfl⟩;have e:dS ((C.take i).foldl dS x) (C.getD i c4)=(C.take (i+1)).foldl dS x:=EW d;exact g9 (ce rfl (ce (dE (λy=>SV.d (dT y.p)) e) (ce (dE (λy=>eO y T) e) rfl))) rfl rfl
 .have d:i=C.length:=e9 k
  subst d;refine dA (l:=[(1,.B 7 []),(7,.B 10 [])]) ⟨rfl,rfl,trivial⟩ ?_ (m a);show(⟨Z::.d (dT ((C.take C.length).foldl dS x).p)::eO ((C.take C.length).foldl dS x) a::_,_,_⟩:MS)=_;rw[gv]
def Xi(k:Z.ids 3 2 0=true)(j:x.q.length<=2000)(g:gE x.m)(d:∀y∈C,rj y)(h:(dm C).length<=3000)(f:C.length<=1000000):Ok a6 f196.ntmps false (gW 7 (gB f196)) (gy [(1,.B 7 []),(6,.B 9 []),(7,.B 10 []),(8,.d (.X C.length fi λi=>dR (C.getD i c4)))] []) (M9 Z S Q F x c a b [.d (fw s2),.d (fu r)]) (pz Z S Q F b ⟨jO (C.foldl dS {x with s:=s2}) {c with run:=c4},{c with run:=c4},r,true⟩):=by
 have e:=Xg (Z:=Z) (a:=a) (b:=b) (S:=S) (Q:=Q) (F:=F) (x:={x with s:=s2}) (c:={c with run:=c4}) (s2:=s2) (r:=r) (C:=C) k j g (.inl rfl) d h f;refine dB (fg (List.range 14) [(9,80),(13,0)] (fy ?_))
 refine dA (l:=[(1,.B 7 []),(7,.B 10 []),(8,.d (.X C.length fi λi=>dR (C.getD i c4)))]) ⟨rfl,rfl,rfl,trivial⟩ rfl e
def Xk(k:Z.ids 3 2 0=true)(hq:x.q.length<=2000)(W:gE x.m)(L:∀y∈x.p.K,dw y)(M:x.p.K.length<=500)(N:x.p.n<=64)(t:∀y∈A,0<=y/\y<=4096)(h8:A.length<=8)(T:∀y∈C,rj y)(Y:(dm C).length<=3000)(V:C.length<=1000000):Ok a6 f196.ntmps false (gW 6 (gB f196)) (gy [(1,.B 7 []),(3,.B 8 []),(4,.d (.X A.length .c λi=>.z .i64 (A.getD i 0))),(6,.B 9 []),(7,.B 10 []),(8,.d (.X C.length fi λi=>dR (C.getD i c4)))] []) (M9 Z S Q F x c a b [.d (fw s2),.d (fu r)]) (pz Z S Q F b ⟨jO (C.foldl dS {x with p:=(bif c.c.C==4 then jr c.c.v x.p A 0 else x.p),s:=s2}) {c with run:=c4},{c with run:=c4},(bif c.c.C==3 then{r with v:=mU x.p r.v A 0}else r),true⟩):=by
 have hD:∀E K,(bif c.c.C==4 then jr c.c.v x.p A 0 else x.p)=E->(bif c.c.C==3 then{r with v:=mU x.p r.v A 0}else r)=K->Ok a6 f196.ntmps false (gW 7 (gB f196)) (gy [(1,.B 7 []),(6,.B 9 []),(7,.B 10 []),(8,.d (.X C.length fi λi=>dR (C.getD i c4)))] []) (M9 Z S Q F {x with p:=E} c a b [.d (fw s2),.d (fu K)]) (pz Z S Q F b ⟨jO (C.foldl dS {x with p:=(bif c.c.C==4 then jr c.c.v x.p A 0 else x.p),s:=s2}) {c with run:=c4},{c with run:=c4},(bif c.c.C==3 then{r with v:=mU x.p r.v A 0}else r),true⟩):=λE K O g=>by rw[O,g];exact Xi (x:={x with p:=E}) k hq W T Y V
 have w:∀i,i<A.length->A.take (i+1)=A.take i++[A.getD i 0]:=λi d=>by rw[js,ed d,eu,ed d];rfl
 have z:∀i,i<A.length->0+(A.take i).length=i:=λi d=>by rw[kO];omega
 have q:∀i,i<A.length->A.getD i 0∈A:=λi d=>by rw[eu,ed d];exact oi d
 refine dB ?_;apply a4<;>intro f
 .have f:(c.c.C==4)=true:=f;refine ev func240 ?_;refine b2 (x:=(A.length:Int)) (dX c6 (λj:Nat=>j<=A.length) (λj=>A.length - j) (λj=>[(10,I j)]) (λj=>M9 Z S Q F {x with p:=jr c.c.v x.p (A.take j) 0} c a b [.d (fw s2),.d (fu r)]) 0 (dG _) ⟨rfl,trivial⟩ rfl (λj=>⟨a9 _,a9 _,a9 _⟩) ?_);intro i U;apply a4<;>intro u
  .have d:i<A.length:=eZ u
   refine fS (i:=i) (n:=A.length) (ev func241 ?_);refine dL 14 (b2 (x:=8*(i:Int)) (a4 (a3:(0:Int)<=8*(i:Int)) ?_));conv=>whnf
   have h:=BP c.c.v (A.take i) x.p 0;have G:=t _ (q i d);refine w7 (x:={x with p:=jr c.c.v x.p (A.take i) 0}) k (R:=λo=>∃e:Int,o=.ret (I e)) (My (p:=jr c.c.v x.p (A.take i) 0) (rb k {x with p:=jr c.c.v x.p (A.take i) 0} a) (by rw[h.2];exact L) (by rw[h.2];exact M) (A.getD i 0) (IntKind.u8.wrap (dU .u64 c.c.v (8*(i:Int)))) (by rw[h.1];exact N) a3) rfl λo J=>?_;obtain⟨e,rfl⟩:=J;refine b2 (x:=(i:Int)+1) ?_;conv=>whnf
   refine⟨i+1,d,by show A.length -(i+1)<A.length - i;omega,⟨rfl,trivial⟩,⟨?_,rI k (dF rfl) rfl⟩,rfl⟩;have g:=(FD c.c.v (A.getD i 0) (A.take i) x.p 0).symm;rw[<-w i d,z i d]at g;exact g9 (ce rfl (ce (dE (λy=>SV.d (dT y)) g) rfl)) rfl rfl
  .have d:i=A.length:=e9 u
   subst d;refine dA (l:=[(1,.B 7 []),(6,.B 9 []),(7,.B 10 []),(8,.d (.X C.length fi λi=>dR (C.getD i c4)))]) ⟨rfl,rfl,rfl,rfl,trivial⟩ ?_ (hD (jr c.c.v x.p A 0) r (by rw[f];rfl) (by rw[show(c.c.C==3)=false by rw[gG.1 f];rfl];rfl));rw[gv]
 .have f:(c.c.C==4)=false:=f;apply a4<;>intro m
  .have m:(c.c.C==3)=true:=m;refine ev func240 ?_;refine b2 (x:=(A.length:Int)) (dX c6 (λj:Nat=>j<=A.length) (λj=>A.length - j) (λj=>[(10,I j)]) (λj=>M9 Z S Q F x c a b [.d (fw s2),.d (fu {r with v:=mU x.p r.v (A.take j) 0})]) 0 (dG _) ⟨rfl,trivial⟩ rfl (λj=>⟨a9 _,a9 _,a9 _⟩) ?_);intro i U;apply a4<;>intro u
   .have d:i<A.length:=eZ u
    refine fS (i:=i) (n:=A.length) ?_;conv=>whnf
    have G:=t _ (q i d);refine ev func243 ?_;refine w7 k (R:=λo=>o=.ret (T2 (.d (.z .u8 (pf x.p (A.getD i 0)))) (I (kF x.p (A.getD i 0))))) (GI (rb k x a) L M (A.getD i 0) N a3) rfl λo J=>?_;subst J;refine dL 9 (b2 (x:=8*(i:Int)) (a4 (a3:(0:Int)<=8*(i:Int)) (b2 (x:=(i:Int)+1) ?_)));conv=>whnf
    refine⟨i+1,d,by show A.length -(i+1)<A.length - i;omega,⟨rfl,trivial⟩,⟨?_,rI k (dF rfl) rfl⟩,rfl⟩;have g:=(Eu x.p (A.getD i 0) (A.take i) r.v 0).symm;rw[<-w i d,z i d]at g;have P:=dE (λv=>SV.d (fu {r with v:=v})) g;exact g9 (ce rfl (ce rfl (ce rfl (ce rfl (ce rfl (ce rfl (ce rfl (ce rfl (ce rfl (ce rfl (ce P rfl))))))))))) rfl rfl
   .have d:i=A.length:=e9 u
    subst d;refine dA (l:=[(1,.B 7 []),(6,.B 9 []),(7,.B 10 []),(8,.d (.X C.length fi λi=>dR (C.getD i c4)))]) ⟨rfl,rfl,rfl,rfl,trivial⟩ ?_ (hD x.p {r with v:=mU x.p r.v A 0} (by rw[f];rfl) (by rw[m];rfl));rw[gv]
  .have m:(c.c.C==3)=false:=m;exact dA (l:=[(1,.B 7 []),(6,.B 9 []),(7,.B 10 []),(8,.d (.X C.length fi λi=>dR (C.getD i c4)))]) ⟨rfl,rfl,rfl,rfl,trivial⟩ rfl (hD x.p r (by rw[f];rfl) (by rw[m];rfl))
def Xm(e:Z.ids 3 2 0=true)(h:x.q.length<=2000)(g:gE x.m)(u:ko c.run)(m:∀y∈x.p.K,dw y)(o:x.p.K.length<=500)(t:x.p.n<=64)(f:∀y∈A,0<=y/\y<=4096)(j:A.length<=8)(k:∀y∈C,rj y)(q:(dm C).length<=3000)(n:C.length<=1000000):Ok a6 f196.ntmps false (gW 5 (gB f196)) (gy [(1,.B 7 []),(3,.B 8 []),(4,.d (.X A.length .c λi=>.z .i64 (A.getD i 0))),(6,.B 9 []),(7,.B 10 []),(8,.d (.X C.length fi λi=>dR (C.getD i c4)))] []) (M9 Z S Q F x c a b [.d (fw s2),.d (fu r)]) (pz Z S Q F b (bif r.e != 0 then⟨jO x c,c,r,true⟩else⟨jO (C.foldl dS {x with p:=(bif c.c.C==4 then jr c.c.v x.p A 0 else x.p),s:=s2}) {c with run:=c4},{c with run:=c4},(bif c.c.C==3 then{r with v:=mU x.p r.v A 0}else r),true⟩)):=by
 have hD:=Xk (Z:=Z) (a:=a) (b:=b) (S:=S) (Q:=Q) (F:=F) (x:=x) (c:=c) (s2:=s2) (r:=r) (C:=C) (A:=A) e h g m o t f j k q n;refine dB ?_;apply a4<;>intro d
 .have d:(r.e != 0)=true:=d;rw[d];refine Dp (p:=⟨jO x c,c,r,true⟩) e (y0 e (eY h a8) g u r) rfl λT=>?_;conv=>whnf
  exact⟨o8 e (dF rfl) rfl rfl,rfl,T,rfl⟩
 .have d:(r.e != 0)=false:=d;rw[d];exact dA (l:=[(1,.B 7 []),(3,.B 8 []),(4,.d (.X A.length .c λi=>.z .i64 (A.getD i 0))),(6,.B 9 []),(7,.B 10 []),(8,.d (.X C.length fi λi=>dR (C.getD i c4)))]) ⟨rfl,rfl,rfl,rfl,rfl,rfl,trivial⟩ rfl hD
def Xf(d:Z.ids 3 2 0=true)(f:x.q.length<=1000000)(e:gE x.m)(g:ko c.run):Ok a6 f196.ntmps false (gW 9 (gB f196)) (gy [(1,.B 7 []),(7,.B 9 [])] []) (M9 Z S Q F x c a b [.d (fu r),.d (fw s2)]) (pz Z S Q F b ⟨jO x c,c,r,true⟩):=by
 refine eJ c6 (Dp (p:=⟨jO x c,c,r,true⟩) d (y0 d f e g r) rfl λT=>?_);conv=>whnf
 exact⟨o8 d (dF rfl) rfl rfl,rfl,T,rfl⟩
def Xh(g:Z.ids 3 2 0=true)(v:x.q.length<=2000)(p:gE x.m)(s:ko c.run)(o:∀y∈C,rj y)(u:(dm C).length<=3000)(t:C.length<=1000000):Ok a6 f196.ntmps false (gW 8 (gB f196)) (gy [(1,.B 7 []),(7,.B 9 []),(8,.d (.X C.length fi λi=>dR (C.getD i c4)))] []) (M9 Z S Q F x c a b [.d (fu r),.d (fw s2)]) (pz Z S Q F b ⟨jO (C.foldl dS x) c,c,r,true⟩):=by
 have m:∀a,Ok a6 f196.ntmps false (gW 9 (gB f196)) (gy [(1,.B 7 []),(7,.B 9 [])] []) (M9 Z S Q F (C.foldl dS x) c a b [.d (fu r),.d (fw s2)]) (pz Z S Q F b ⟨jO (C.foldl dS x) c,c,r,true⟩):=λa=>Xf g (by rw[(rR C x).1,ew];omega) (by rw[(rR C x).2.2.2];exact p) s;refine dB (b2 (x:=(C.length:Int)) (dX c6 (λj:Nat×Nat=>j.1<=C.length) (λj=>C.length - j.1) (λj=>[(130,I j.1)]) (λj=>⟨Z::.d (dT ((C.take j.1).foldl dS x).p)::eO ((C.take j.1).foldl dS x) j.2::.d S::.d Q::.d F::yZ c nP false::.B 6 []::.d (iC c.c)::[.d (fu r),.d (fw s2)],[j.2,b],[]⟩) (0,a) (dG _) ⟨rfl,trivial⟩ rfl (λj=>⟨a9 _,a9 _,a9 _⟩) ?_));intro j h;obtain⟨i,a⟩:=j;have h:i<=C.length:=h;apply a4<;>intro k
 .have d:i<C.length:=eZ k
  refine fS (i:=i) (n:=C.length) (dL 5 ?_);conv=>whnf
  have q:=EV x C i;have f:C.getD i c4∈C:=by rw[eu,ed d];exact oi d
  refine Hm (x:=(C.take i).foldl dS x) g (C.getD i c4) (o _ f) a3 λT=>?_;refine b2 (x:=(i:Int)+1) ?_;conv=>whnf
  refine⟨(i+1,T),by show i+1<=_;omega,by show C.length -(i+1)<C.length - i;omega,⟨rfl,trivial⟩,⟨?_,rI g (dF rfl) rfl⟩,rfl⟩;have e:dS ((C.take i).foldl dS x) (C.getD i c4)=(C.take (i+1)).foldl dS x:=EW d;exact g9 (ce rfl (ce (dE (λy=>SV.d (dT y.p)) e) (ce (dE (λy=>eO y T) e) rfl))) rfl rfl
 .have d:i=C.length:=e9 k
  subst d;refine dA (l:=[(1,.B 7 []),(7,.B 9 [])]) ⟨rfl,rfl,trivial⟩ ?_ (m a);show(⟨Z::.d (dT ((C.take C.length).foldl dS x).p)::eO ((C.take C.length).foldl dS x) a::_,_,_⟩:MS)=_;rw[gv]
def Xj(k:Z.ids 3 2 0=true)(j:x.q.length<=2000)(g:gE x.m)(d:∀y∈C,rj y)(h:(dm C).length<=3000)(f:C.length<=1000000):Ok a6 f196.ntmps false (gW 7 (gB f196)) (gy [(1,.B 7 []),(6,.B 10 []),(7,.B 9 []),(8,.d (.X C.length fi λi=>dR (C.getD i c4)))] []) (M9 Z S Q F x c a b [.d (fu r),.d (fw s2)]) (pz Z S Q F b ⟨jO (C.foldl dS {x with s:=s2}) {c with run:=c4},{c with run:=c4},r,true⟩):=by
 have e:=Xh (Z:=Z) (a:=a) (b:=b) (S:=S) (Q:=Q) (F:=F) (x:={x with s:=s2}) (c:={c with run:=c4}) (s2:=s2) (r:=r) (C:=C) k j g (.inl rfl) d h f;refine dB (fg (List.range 14) [(9,80),(13,0)] (fy ?_))
 refine dA (l:=[(1,.B 7 []),(7,.B 9 []),(8,.d (.X C.length fi λi=>dR (C.getD i c4)))]) ⟨rfl,rfl,rfl,trivial⟩ rfl e
def Xl(k:Z.ids 3 2 0=true)(hq:x.q.length<=2000)(W:gE x.m)(L:∀y∈x.p.K,dw y)(M:x.p.K.length<=500)(N:x.p.n<=64)(t:∀y∈A,0<=y/\y<=4096)(h8:A.length<=8)(T:∀y∈C,rj y)(Y:(dm C).length<=3000)(V:C.length<=1000000):Ok a6 f196.ntmps false (gW 6 (gB f196)) (gy [(1,.B 7 []),(3,.B 8 []),(4,.d (.X A.length .c λi=>.z .i64 (A.getD i 0))),(6,.B 10 []),(7,.B 9 []),(8,.d (.X C.length fi λi=>dR (C.getD i c4)))] []) (M9 Z S Q F x c a b [.d (fu r),.d (fw s2)]) (pz Z S Q F b ⟨jO (C.foldl dS {x with p:=(bif c.c.C==4 then jr c.c.v x.p A 0 else x.p),s:=s2}) {c with run:=c4},{c with run:=c4},(bif c.c.C==3 then{r with v:=mU x.p r.v A 0}else r),true⟩):=by
 have hD:∀E K,(bif c.c.C==4 then jr c.c.v x.p A 0 else x.p)=E->(bif c.c.C==3 then{r with v:=mU x.p r.v A 0}else r)=K->Ok a6 f196.ntmps false (gW 7 (gB f196)) (gy [(1,.B 7 []),(6,.B 10 []),(7,.B 9 []),(8,.d (.X C.length fi λi=>dR (C.getD i c4)))] []) (M9 Z S Q F {x with p:=E} c a b [.d (fu K),.d (fw s2)]) (pz Z S Q F b ⟨jO (C.foldl dS {x with p:=(bif c.c.C==4 then jr c.c.v x.p A 0 else x.p),s:=s2}) {c with run:=c4},{c with run:=c4},(bif c.c.C==3 then{r with v:=mU x.p r.v A 0}else r),true⟩):=λE K O g=>by rw[O,g];exact Xj (x:={x with p:=E}) k hq W T Y V
 have w:∀i,i<A.length->A.take (i+1)=A.take i++[A.getD i 0]:=λi d=>by rw[js,ed d,eu,ed d];rfl
 have z:∀i,i<A.length->0+(A.take i).length=i:=λi d=>by rw[kO];omega
 have q:∀i,i<A.length->A.getD i 0∈A:=λi d=>by rw[eu,ed d];exact oi d
 refine dB ?_;apply a4<;>intro f
 .have f:(c.c.C==4)=true:=f;refine ev func240 ?_;refine b2 (x:=(A.length:Int)) (dX c6 (λj:Nat=>j<=A.length) (λj=>A.length - j) (λj=>[(10,I j)]) (λj=>M9 Z S Q F {x with p:=jr c.c.v x.p (A.take j) 0} c a b [.d (fu r),.d (fw s2)]) 0 (dG _) ⟨rfl,trivial⟩ rfl (λj=>⟨a9 _,a9 _,a9 _⟩) ?_);intro i U;apply a4<;>intro u
  .have d:i<A.length:=eZ u
   refine fS (i:=i) (n:=A.length) (ev func241 ?_);refine dL 14 (b2 (x:=8*(i:Int)) (a4 (a3:(0:Int)<=8*(i:Int)) ?_));conv=>whnf
   have h:=BP c.c.v (A.take i) x.p 0;have G:=t _ (q i d);refine w7 (x:={x with p:=jr c.c.v x.p (A.take i) 0}) k (R:=λo=>∃e:Int,o=.ret (I e)) (My (p:=jr c.c.v x.p (A.take i) 0) (rb k {x with p:=jr c.c.v x.p (A.take i) 0} a) (by rw[h.2];exact L) (by rw[h.2];exact M) (A.getD i 0) (IntKind.u8.wrap (dU .u64 c.c.v (8*(i:Int)))) (by rw[h.1];exact N) a3) rfl λo J=>?_;obtain⟨e,rfl⟩:=J;refine b2 (x:=(i:Int)+1) ?_;conv=>whnf
   refine⟨i+1,d,by show A.length -(i+1)<A.length - i;omega,⟨rfl,trivial⟩,⟨?_,rI k (dF rfl) rfl⟩,rfl⟩;have g:=(FD c.c.v (A.getD i 0) (A.take i) x.p 0).symm;rw[<-w i d,z i d]at g;exact g9 (ce rfl (ce (dE (λy=>SV.d (dT y)) g) rfl)) rfl rfl
  .have d:i=A.length:=e9 u
   subst d;refine dA (l:=[(1,.B 7 []),(6,.B 10 []),(7,.B 9 []),(8,.d (.X C.length fi λi=>dR (C.getD i c4)))]) ⟨rfl,rfl,rfl,rfl,trivial⟩ ?_ (hD (jr c.c.v x.p A 0) r (by rw[f];rfl) (by rw[show(c.c.C==3)=false by rw[gG.1 f];rfl];rfl));rw[gv]
 .have f:(c.c.C==4)=false:=f;apply a4<;>intro m
  .have m:(c.c.C==3)=true:=m;refine ev func240 ?_;refine b2 (x:=(A.length:Int)) (dX c6 (λj:Nat=>j<=A.length) (λj=>A.length - j) (λj=>[(10,I j)]) (λj=>M9 Z S Q F x c a b [.d (fu {r with v:=mU x.p r.v (A.take j) 0}),.d (fw s2)]) 0 (dG _) ⟨rfl,trivial⟩ rfl (λj=>⟨a9 _,a9 _,a9 _⟩) ?_);intro i U;apply a4<;>intro u
   .have d:i<A.length:=eZ u
    refine fS (i:=i) (n:=A.length) ?_;conv=>whnf
    have G:=t _ (q i d);refine ev func243 ?_;refine w7 k (R:=λo=>o=.ret (T2 (.d (.z .u8 (pf x.p (A.getD i 0)))) (I (kF x.p (A.getD i 0))))) (GI (rb k x a) L M (A.getD i 0) N a3) rfl λo J=>?_;subst J;refine dL 9 (b2 (x:=8*(i:Int)) (a4 (a3:(0:Int)<=8*(i:Int)) (b2 (x:=(i:Int)+1) ?_)));conv=>whnf
    refine⟨i+1,d,by show A.length -(i+1)<A.length - i;omega,⟨rfl,trivial⟩,⟨?_,rI k (dF rfl) rfl⟩,rfl⟩;have g:=(Eu x.p (A.getD i 0) (A.take i) r.v 0).symm;rw[<-w i d,z i d]at g;have P:=dE (λv=>SV.d (fu {r with v:=v})) g;exact g9 (ce rfl (ce rfl (ce rfl (ce rfl (ce rfl (ce rfl (ce rfl (ce rfl (ce rfl (ce P rfl)))))))))) rfl rfl
   .have d:i=A.length:=e9 u
    subst d;refine dA (l:=[(1,.B 7 []),(6,.B 10 []),(7,.B 9 []),(8,.d (.X C.length fi λi=>dR (C.getD i c4)))]) ⟨rfl,rfl,rfl,rfl,trivial⟩ ?_ (hD x.p {r with v:=mU x.p r.v A 0} (by rw[f];rfl) (by rw[m];rfl));rw[gv]
  .have m:(c.c.C==3)=false:=m;exact dA (l:=[(1,.B 7 []),(6,.B 10 []),(7,.B 9 []),(8,.d (.X C.length fi λi=>dR (C.getD i c4)))]) ⟨rfl,rfl,rfl,rfl,trivial⟩ rfl (hD x.p r (by rw[f];rfl) (by rw[m];rfl))
def Xn(e:Z.ids 3 2 0=true)(h:x.q.length<=2000)(g:gE x.m)(u:ko c.run)(m:∀y∈x.p.K,dw y)(o:x.p.K.length<=500)(t:x.p.n<=64)(f:∀y∈A,0<=y/\y<=4096)(j:A.length<=8)(k:∀y∈C,rj y)(q:(dm C).length<=3000)(n:C.length<=1000000):Ok a6 f196.ntmps false (gW 5 (gB f196)) (gy [(1,.B 7 []),(3,.B 8 []),(4,.d (.X A.length .c λi=>.z .i64 (A.getD i 0))),(6,.B 10 []),(7,.B 9 []),(8,.d (.X C.length fi λi=>dR (C.getD i c4)))] []) (M9 Z S Q F x c a b [.d (fu r),.d (fw s2)]) (pz Z S Q F b (bif r.e != 0 then⟨jO x c,c,r,true⟩else⟨jO (C.foldl dS {x with p:=(bif c.c.C==4 then jr c.c.v x.p A 0 else x.p),s:=s2}) {c with run:=c4},{c with run:=c4},(bif c.c.C==3 then{r with v:=mU x.p r.v A 0}else r),true⟩)):=by
 have hD:=Xl (Z:=Z) (a:=a) (b:=b) (S:=S) (Q:=Q) (F:=F) (x:=x) (c:=c) (s2:=s2) (r:=r) (C:=C) (A:=A) e h g m o t f j k q n;refine dB ?_;apply a4<;>intro d
 .have d:(r.e != 0)=true:=d;rw[d];refine Dp (p:=⟨jO x c,c,r,true⟩) e (y0 e (eY h a8) g u r) rfl λT=>?_;conv=>whnf
  exact⟨o8 e (dF rfl) rfl rfl,rfl,T,rfl⟩
 .have d:(r.e != 0)=false:=d;rw[d];exact dA (l:=[(1,.B 7 []),(3,.B 8 []),(4,.d (.X A.length .c λi=>.z .i64 (A.getD i 0))),(6,.B 10 []),(7,.B 9 []),(8,.d (.X C.length fi λi=>dR (C.getD i c4)))]) ⟨rfl,rfl,rfl,rfl,rfl,rfl,trivial⟩ rfl hD
def Xd(K:Z.ids 3 2 0=true)(f:SInv x.s)(t:CallOk x.s c.task c.c)(V:x.s.alive c.task.toNat=true)(R:di c.c.a)(T:di c.c.b)(e:x.q.length<=2000)(E:gE x.m)(u:ko c.run)(A:∀y∈x.p.K,dw y)(C:x.p.K.length<=500)(G:x.p.n<=64)(v:dv x.s c.task c.c>0->c.run.n=dv x.s c.task c.c->dw c.run):Ok a6 f196.ntmps false (gW 4 (gB f196)) (gy [(1,.B 7 []),(3,.B 8 []),(4,.d (.X (jS x.s c.c).length .c λi=>.z .i64 ((jS x.s c.c).getD i 0)))] []) (M9 Z S Q F x c a b []) (pz Z S Q F b (gO x c)):=by
 obtain⟨d,W⟩:=f.F2.ok;obtain⟨M,g,j⟩:=DG (G:=c.run) f t v;obtain⟨U,o⟩:=f.t;have N:=Nl o (M:=c.task) (c:=c.c) (G:=c.run) t.s';have m:∀y∈jS x.s c.c,0<=y/\y<=4096:=λy p=>by
  unfold jS at p;cases e:(oF x.s c.c==0)with
  |false=>rw[e]at p;cases p
  |true=>
   rw[e]at p;obtain⟨i,_,rfl⟩:=l6.1 (show y∈(List.range c.c.b.toNat).map _ from p);exact Q7 (pF o c.c.r).ok
 have z:(jS x.s c.c).length<=8:=by
  unfold jS;cases e:(oF x.s c.c==0)with
  |false=>exact dG _
  |true=>
   show((List.range c.c.b.toNat).map _).length<=8;rw[dD,tJ];unfold oF at e;cases s:bk x.s.t.b c.c.r with
   |false=>rw[s]at e;cases e
   |true=>
    rw[s]at e;cases w:(((c.c.C != 3)&&(c.c.C != 4))||(decide (c.c.b<1)||decide (c.c.b>8)))with
    |true=>rw[w]at e;cases e
    |false=>
     simp only[gX,kq]at w;omega
 have n:dw c.run\/c.run.n=0:=u.symm;have P:NE (fr x.s c.task c.c c.run):=xb f t;have k:=(Gm (G:=c.run) f.F2 f.E9 t n P).out (GN (a:=.d (fw (dz x.s c.task c.c c.run).1)) (b:=.d (fu (dz x.s c.task c.c c.run).2.1)) λO J q h=>iE fi dR c4 (dz x.s c.task c.c c.run).2.2 O J q h);have L:=Xm (Z:=Z) (a:=a) (b:=b) (S:=S) (Q:=Q) (F:=F) (x:=x) (c:=c) (s2:=(dz x.s c.task c.c c.run).1) (r:=(dz x.s c.task c.c c.run).2.1) (C:=(dz x.s c.task c.c c.run).2.2) (A:=jS x.s c.c) K e E u A C G m z g j a3;have s:=Xn (Z:=Z) (a:=a) (b:=b) (S:=S) (Q:=Q) (F:=F) (x:=x) (c:=c) (s2:=(dz x.s c.task c.c c.run).1) (r:=(dz x.s c.task c.c c.run).2.1) (C:=(dz x.s c.task c.c c.run).2.2) (A:=jS x.s c.c) K e E u A C G m z g j a3;refine dB (HT c6 ey 23 24 a8 (List.range 28) [(23,8388607),(24,8388607),(25,6291456),(26,4194304)] [0,1,2,3,4,5,6,7,8,9,10,11,12,13,14,15,16,17,18,19,20,21,22,24,23,25,26,27] [(23,8388607),(24,8388607),(25,6291456),(26,4194304)] ey ey ?_ ?_)
 .refine c9 k (λ_ h=>h) (fy ?_)
  refine fy ?_
  exact dA (l:=[(1,.B 7 []),(3,.B 8 []),(4,.d (.X (jS x.s c.c).length .c λi=>.z .i64 ((jS x.s c.c).getD i 0))),(6,.B 9 []),(7,.B 10 []),(8,.d (.X (dz x.s c.task c.c c.run).2.2.length fi λi=>dR ((dz x.s c.task c.c c.run).2.2.getD i c4)))]) ⟨rfl,rfl,rfl,rfl,rfl,rfl,trivial⟩ rfl L
 .refine c9 k (λ_ h=>h) (fy ?_)
  refine fy ?_
  exact dA (l:=[(1,.B 7 []),(3,.B 8 []),(4,.d (.X (jS x.s c.c).length .c λi=>.z .i64 ((jS x.s c.c).getD i 0))),(6,.B 10 []),(7,.B 9 []),(8,.d (.X (dz x.s c.task c.c c.run).2.2.length fi λi=>dR ((dz x.s c.task c.c c.run).2.2.getD i c4)))]) ⟨rfl,rfl,rfl,rfl,rfl,rfl,trivial⟩ rfl s
def NU(w:Z.ids 3 2 0=true)(j:SInv x.s)(n:CallOk x.s c.task c.c)(m:x.s.alive c.task.toNat=true)(e:di c.c.a)(f:di c.c.b)(u:x.q.length<=2000)(s:gE x.m)(v:ko c.run)(p:∀y∈x.p.K,dw y)(r:x.p.K.length<=500)(t:x.p.n<=64)(g:dv x.s c.task c.c>0->c.run.n=dv x.s c.task c.c->dw c.run):Ok a6 f196.ntmps false (gW 3 (gB f196)) (gy [(1,.B 7 []),(3,.B 8 [])] []) (M9 Z S Q F x c a b []) (pz Z S Q F b (gO x c)):=by
 obtain⟨d,o⟩:=j.F2.ok;have k:=Xd (Z:=Z) (a:=a) (b:=b) (S:=S) (Q:=Q) (F:=F) (x:=x) (c:=c) w j n m e f u s v p r t g;exact dB (dL 14 (c9 ((Vr o (c:=c.c) e f).out (vQ (b:=I (oF x.s c.c)) λO J q h=>iE .c (λi=>.z .i64 i) 0 (jS x.s c.c) O J q h)) (λ_ h=>h) (dA (l:=[(1,.B 7 []),(3,.B 8 []),(4,.d (.X (jS x.s c.c).length .c λi=>.z .i64 ((jS x.s c.c).getD i 0)))]) ⟨rfl,rfl,rfl,trivial⟩ rfl k)))
def XB(k:Z.ids 3 2 0=true)(d:WOk x c t):b6 a6 196 [.B 6 []] (M7 Z S Q F x c nP false a b) (yt Z S Q F b (lg x c)):=by
 have g:x.p.K.length<=500:=eY (xq d.K) a8;have m:=d.q;have n:(pg c.run).length<=64:=by
  have e:(pg c.run).length=c.run.n.toNat:=by simp[pg]
  rcases d.rn with h|h
  .rw[e,h];decide
  .unfold dw at h;omega
 refine ov func196 ?_;refine dB (dB (dA (l:=[(1,.B 7 []),(3,.B 8 [])]) (U:=M9 Z S Q F x c a b []) ⟨rfl,rfl,trivial⟩ rfl ?_));refine dB (dL 30 (c9 (CK d.s.F2 d.s.E9 d.call d.alive) (λ_ h _=>h) ?_));apply a4<;>intro f
 .have f:(decide (c.run.n>0)&&(dv x.s c.task c.c != c.run.n))=true:=f;have e:lg x c=gO (dS x c.run) {c with run:=c4}:=by unfold lg;rw[f];rfl
  rw[e];refine dL 9 (Hm k c.run d.rn.q (eY m a8) λT=>?_);exact dA (l:=[(1,.B 7 []),(3,.B 8 [])]) ⟨rfl,rfl,trivial⟩ rfl (NU (x:=dS x c.run) (c:={c with run:=c4}) k d.s d.call d.alive d.ct.a d.ct.b (by show(x.q++pg c.run).length<=2000;rw[ew];omega) d.C5 (.inl rfl) d.K.ok g d.n (λi j=>by have j:(0:Int)=dv x.s c.task c.c:=j;have i:dv x.s c.task c.c>0:=i;omega))
 .have f:(decide (c.run.n>0)&&(dv x.s c.task c.c != c.run.n))=false:=f;have e:lg x c=gO x c:=by unfold lg;rw[f];rfl
  rw[e];exact dA (l:=[(1,.B 7 []),(3,.B 8 [])]) ⟨rfl,rfl,trivial⟩ rfl (NU k d.s d.call d.alive d.ct.a d.ct.b (eY m a8) d.C5 d.rn d.K.ok g d.n (λi j=>by
   rcases d.rn with h|h
   .omega
   .exact h))
end
section
variable {Z:SV} {a b:Nat} {x:Cr} {c:Rt}
def VM(j:Z.ids 3 2 0=true)(f:WOk x c t):b6 a6 124 [.B 2 [],.d (md c)] (MC Z x a b) λo m=>o=.ret (T3 (.d (md (fh x c).c)) (.d (fu (fh x c).r)) (B (fh x c).e))/\∃T,m=MC Z (fh x c).x T b:=by
 have z:=VK f.s f.ct.r f.ct.s;have v:∀(p:Sp) (T:Nat),fh x c=p->Ok a6 f124.ntmps false (gW 3 (gB f124)) (gy [(4,.B 4 []),(5,.B 5 []),(7,.B 6 [])] []) (M7 Z (md c) Ek.zero.d Em.zero.d p.x p.c p.r p.e T b) (gS ff 3 2 0 f124.results.toList λo m=>o=.ret (T3 (.d (md (fh x c).c)) (.d (fu (fh x c).r)) (B (fh x c).e))/\∃T,m=MC Z (fh x c).x T b):=λp T e=>by
  rw[e];refine eJ c6 (fg (List.range 15) [(12,4080),(13,3840)] (fy ?_))
  refine fy ?_
  conv=>whnf
  exact⟨gw rfl (gK j p.x T),rfl,T,rfl⟩
 refine ov func124 ?_;refine dB (dB (dA (l:=[(4,.B 4 []),(5,.B 5 []),(7,.B 6 [])]) (U:=M7 Z (md c) Ek.zero.d Em.zero.d x c nP false a b) ⟨rfl,rfl,rfl,trivial⟩ rfl ?_));refine dB (dX c6 (λi:Nat=>i<=4/\(1<=i->c.E4=true)/\(2<=i->c.G=[])/\(3<=i->((dv x.s c.task c.c != 0)&&decide (c.run.n<=0))=false)/\(4<=i->decide (c.S<c.run.n)=false)) (λi=>5 - i) (λi=>[(25,I i)]) (λi=>M7 Z (md c) Ek.zero.d Em.zero.d x c nP false a b) 0 ⟨dG _,a3,a3,a3,a3⟩ ⟨rfl,trivial⟩ rfl (λi=>⟨a9 _,a9 _,a9 _⟩) ?_);intro i ⟨A,n,r,u,w⟩
 match i,A,n,r,u,w with
 |0,_,_,_,_,_=>
  refine ej (a4 ⟨(a8:(0:Int)<=0),(a8:(0:Int)<5)⟩ ?_);conv=>whnf
  cases d:c.E4 with
  |true=>
   refine fa (WW j d) ?_;rintro o m ⟨rfl,rfl⟩;refine b0 (b2 (x:=(1:Int)) ?_);conv=>whnf
   exact⟨1,⟨a8,λ_=>by first|exact d|rfl,λh=>b3 h a8,λh=>b3 h a8,λh=>b3 h a8⟩,a8,⟨rfl,trivial⟩,⟨rfl,rI j (dF rfl) rfl⟩,rfl⟩
  |false=>
   refine fa (WU j f d z) ?_;rintro o m ⟨rfl,T,rfl⟩;exact ej (dA (l:=[(4,.B 4 []),(5,.B 5 []),(7,.B 6 [])]) ⟨rfl,rfl,rfl,trivial⟩ rfl (v _ T (by unfold fh;rw[d];rfl)))
 |1,_,n,_,_,_=>
  have d:=n a8;refine ej (a4 ⟨(a8:(0:Int)<=1),(a8:(1:Int)<5)⟩ ?_);conv=>whnf
  cases k:c.G with
  |nil=>
   refine fa (zaF j k) ?_;rintro o m ⟨rfl,rfl⟩;refine b0 (b2 (x:=(2:Int)) ?_);conv=>whnf
   exact⟨2,⟨a8,λ_=>by first|exact d|rfl,λ_=>by first|exact k|rfl,λh=>b3 h a8,λh=>b3 h a8⟩,a8,⟨rfl,trivial⟩,⟨rfl,rI j (dF rfl) rfl⟩,rfl⟩
  |cons g l=>
   have C:=f.rx.rg;rw[k,jV]at C;refine fa (zaE j f.C5 k a3) ?_;rintro o m ⟨rfl,T,rfl⟩;exact ej (dA (l:=[(4,.B 4 []),(5,.B 5 []),(7,.B 6 [])]) ⟨rfl,rfl,rfl,trivial⟩ rfl (v _ T (by unfold fh;rw[d,k];rfl)))
 |2,_,n,r,_,_=>
  have d:=n a8;have k:=r a8;refine ej (a4 ⟨(a8:(0:Int)<=2),(a8:(2:Int)<5)⟩ ?_);conv=>whnf
  cases q:((dv x.s c.task c.c != 0)&&decide (c.run.n<=0))with
  |false=>
   refine fa (W0 j f q) ?_;rintro o m ⟨rfl,rfl⟩;refine b0 (b2 (x:=(3:Int)) ?_);conv=>whnf
   exact⟨3,⟨a8,λ_=>by first|exact d|rfl,λ_=>by first|exact k|rfl,λ_=>by first|exact q|rfl,λh=>b3 h a8⟩,a8,⟨rfl,trivial⟩,⟨rfl,rI j (dF rfl) rfl⟩,rfl⟩
  |true=>
   refine fa (WZ j f q) ?_;rintro o m ⟨rfl,T,rfl⟩;exact ej (dA (l:=[(4,.B 4 []),(5,.B 5 []),(7,.B 6 [])]) ⟨rfl,rfl,rfl,trivial⟩ rfl (v _ T (by unfold fh;rw[d,k,q];rfl)))
 |3,_,n,r,u,_=>
  have d:=n a8;have k:=r a8;have q:=u a8;refine ej (a4 ⟨(a8:(0:Int)<=3),(a8:(3:Int)<5)⟩ ?_);conv=>whnf
  cases s:decide (c.S<c.run.n)with
  |false=>
   refine fa (W6 j s) ?_;rintro o m ⟨rfl,rfl⟩;refine b0 (b2 (x:=(4:Int)) ?_);conv=>whnf
   exact⟨4,⟨a8,λ_=>by first|exact d|rfl,λ_=>by first|exact k|rfl,λ_=>by first|exact q|rfl,λ_=>by first|exact s|rfl⟩,a8,⟨rfl,trivial⟩,⟨rfl,rI j (dF rfl) rfl⟩,rfl⟩
  |true=>
   have y:dw c.run:=by
    rcases f.rn with h|h
    .have E:=gM s;have F:=f.rx.c0;omega
    .exact h
   refine fa (W5 j f.K.ok (eY (xq f.K) a8) f.n y f.rx.c0 s) ?_;rintro o m ⟨rfl,T,rfl⟩;exact ej (dA (l:=[(4,.B 4 []),(5,.B 5 []),(7,.B 6 [])]) ⟨rfl,rfl,rfl,trivial⟩ rfl (v _ T (by unfold fh;rw[d,k,q,s];rfl)))
 |4,_,n,r,u,w=>
  have d:=n a8;have k:=r a8;have q:=u a8;have s:=w a8;refine ej (a4 ⟨(a8:(0:Int)<=4),(a8:(4:Int)<5)⟩ (fa (XB j f) ?_));rintro o m ⟨rfl,T,rfl⟩;exact ej (dA (l:=[(4,.B 4 []),(5,.B 5 []),(7,.B 6 [])]) ⟨rfl,rfl,rfl,trivial⟩ rfl (v _ T (by unfold fh;rw[d,k,q,s];rfl)))
end
end Sx
namespace Sx
variable{t:Tsk}
def iK(x:Ins):D:=.H (.z .u8 x.op) (.H (.z .u8 x.a) (.H (.z .u8 x.b) (.H (.z .u8 x.c) (.H (.z .u16 x.n) .un))))
def qX:Ty:=.p .c (.p .c (.p .c (.p .c (.p .c .u))))
def gC(t:Tsk):D:=.H (.X t.code.length qX λi=>iK (t.code.getD i lW)) (.H (.z .i64 t.next) (.H (.ar 8 .c λi=>.z .u64 (t.G i)) .un))
attribute [local irreducible] b6 eF fR ez eH eB eM fx dC ec dU dx
def IP(h:TskOk t):c5 a6 122 [.d (gC t)] (T2 (.d (iK (fU t))) (B (mg t))):=by
 obtain⟨c,d,e,f⟩:=h;refine dq func122 ?_;refine a4 (λ_=>eD (x:=(t.code.length:Int)) a3 a3) ?_;apply a4<;>intro a
 .have a:(decide (t.next<0)||decide (t.next>=(t.code.length:Int)))=true:=a;refine b7 ?_;rw[show fU t=lW by unfold fU mg;rw[a];rfl,show mg t=false by unfold mg;rw[a];rfl];rfl
 .have a:(decide (t.next<0)||decide (t.next>=(t.code.length:Int)))=false:=a;have b:=a;simp only[gX,kq]at b;refine a4 ⟨a3,a3⟩ (b7 ?_);rw[show fU t=t.code.getD t.next.toNat lW by unfold fU mg;rw[a];rfl,show mg t=true by unfold mg;rw[a];rfl];rfl
def xY(t:Tsk){n:Int}(c:0<=n/\n<256):c5 a6 123 [.d (gC t),.d (.z .u8 n)] (.d (.z .u64 (j7 t n))):=by
 have a:0<=n.tmod 8:=z0 _ c.1;have b:n.tmod 8<8:=zZ _ a8;refine dq func123 ?_;exact a4 ⟨a8,iL (by simp only[eU];omega) (λ_=>a) (by simp only[eU];omega)⟩ (a4 ⟨a,b⟩ b7)
def GO(h:TskOk t):c5 a6 67 [.d (gC t)] (T2 (.d (iC (jI t))) (B (kZ t))):=by
 refine dq func67 ?_;refine bo (IP h) ?_;apply a4<;>intro a
 .have a:(!mg t||((fU t).op==0))=true:=a;refine b7 ?_;rw[show jI t=fO 20 by unfold jI;rw[a];rfl,show kZ t=true by unfold kZ;rw[a];rfl];rfl
 .have a:(!mg t||((fU t).op==0))=false:=a;apply a4<;>intro b
  .have b:decide ((fU t).op<=16)=true:=b;refine b7 ?_;rw[show jI t=fO 0 by unfold jI;rw[a,b];rfl,show kZ t=false by unfold kZ;rw[a,b];rfl];rfl
  .have b:decide ((fU t).op<=16)=false:=b;refine dL 24 ?_;conv=>whnf
   have c:=En h;refine c9 (xY t c.b) (λ_ h=>h) (c9 (xY t c.c) (λ_ h=>h) (a4 ⟨(a8:(0:Int)<=6),(a8:(6:Int)<8)⟩ (a4 ⟨(a8:(0:Int)<=5),(a8:(5:Int)<8)⟩ (b7 ?_))));have d:IntKind.u32.wrap (fU t).n=(fU t).n:=l5 (iL (by have:=c.n.1;simp only[eU];omega) (λ_=>c.n.1) (by have:=c.n.2;simp only[eU];omega));rw[show jI t=⟨IntKind.u8.wrap ((fU t).op - 16),IntKind.u32.wrap (j7 t (fU t).b),IntKind.u32.wrap (j7 t (fU t).c),IntKind.u32.wrap (t.G 6),(fU t).n,t.G 5⟩ by unfold jI;rw[a,b,d];rfl,show kZ t=true by unfold kZ;rw[a,b];rfl];rfl
end Sx
end Go.Proofs.YtfbhkfhbnkncoaaGreatDoor
