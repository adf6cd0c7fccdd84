import Derived.Test.YtfbhkfhbnkncoaaGreatDoorV44
set_option linter.all false
set_option maxRecDepth 100000
set_option maxHeartbeats 4000000
namespace Go.Proofs.YtfbhkfhbnkncoaaGreatDoor
open Go.RowKit Tryz
open Tryz renaming prog→a6
namespace Sx
variable{M r:Int}{d:Int->Nat}{C:List Rn}{n:Nat}{A j y:Nat->List Int}{Z:Nat->Tk}{s:St}
def KC(W:D)(c:Nat->MBox)(a b:Nat->Bool)(y:Nat->List Int)(C:List Rn)(k:Nat)(v:Bool):Ay W c (a7 a k v) b y C=.H W (.H (.ar 8 BQ λi=>oy (c i)) (.H (.ar 8 .c (a7 (λi=>.I (a i)) k (.I v))) (.H (.ar 8 .c λi=>.I (b i)) (.H (.ar 32 .c λi=>fq .c (qU (y i))) (.H (fq t2 (C.map i7)) .un))))):=by rw[iU D.I a k v];rfl
structure RD (l:List (Int×Ow)) (kt:Nat->Tk) (y:Nat->List Int) (s:St) (l1:List (Int×Ow)) (y1:Nat->List Int) (Q:List Rn) (n:Nat):Prop where
 own:OwS s.t s.o l1
 kt:KtS s.k kt
 cu:gp s.t
 pad:ir s.t y y1
 len:l1.length<=l.length+n
 Q:Q.length<=2112*n
def RD.ex{l f:List (Int×Ow)}(h:RD l Z y s f A C n)(E:l.length+n<1000000)(u:∃d,TInv s.t d)(j:TkI s.k):ExR s f Z:=⟨u,j,h.own,by have:=h.len;omega,h.kt,h.cu⟩
def RD.gone{l u:List (Int×Ow)}(h:RD l Z y s u A C n)(f:TInv s.t d)(j:eW s.t r):RD l Z y (jG s r) u (rG A (dJ s.t r)) (C++j3 s r) (n+1):=by
 refine⟨Iy f j h.own,h.kt.gone _,h.cu.gone r,JN f j h.pad,by have:=h.len;omega,?_⟩;have E:=Dt f (dJ s.t r);have F:(dJ s.t r).length<=33:=by rw[wN j.2];exact ra f.ok f.rk (g8 j.2)
 have G:=h.Q;show(C++g7 s.t (dJ s.t r)).length<=_;rw[ew];omega
def RD.J2{l f:List (Int×Ow)}(h:RD l Z y s f j C n)(F:TInv s.t d)(E:gi s.t r)(u:0<=M)(A:M<8):RD l Z y (rP s r M) (jJ f r (mY 1 M)) j C (n+1):=
 ⟨QT F h.own E u A,h.kt,h.cu,h.pad,by have:=h.len;have:=sO r (mY 1 M) f;omega,by have:=h.Q;omega⟩
def RD.up{l f:List (Int×Ow)}(h:RD l Z y s f j C n):RD l Z y s f j C (n+1):=⟨h.own,h.kt,h.cu,h.pad,by have:=h.len;omega,by have:=h.Q;omega⟩
def RD.mono{l f:List (Int×Ow)}{m:Nat}(h:RD l Z y s f j C n)(u:n<=m):RD l Z y s f j C m:=⟨h.own,h.kt,h.cu,h.pad,by have:=h.len;omega,by have:=h.Q;omega⟩
def RD.drop{l f:List (Int×Ow)}{G:Nat->List Int}(h:RD l Z y s f G C n)(u:ExR s f Z)(J:f.length<1000000)(E:di r)(A:iw s.o s.t r M false=0):RD l Z y (iv s r M).1 (jJ f r (jQ s.o s.t r M)) (yR s r M G) (C++(iv s r M).2) (n+1):=by
 obtain⟨K,L⟩:=OC u J E A;obtain⟨d,j⟩:=u.t;have F:=(u9 j E A).1;refine⟨K,L,h.cu.F7 r M,OD u E A h.pad,by have:=h.len;have:=sO r (jQ s.o s.t r M) f;omega,?_⟩;have N:=Dt j (dJ s.t r);have O:(dJ s.t r).length<=33:=by rw[wN F.1.2];exact ra j.ok j.rk (g8 F.1.2)
 have P:=h.Q;have Q:(iv s r M).2.length<=2112:=by
  unfold iv;cases kY (jH s.o s.t r M false).toNat==0 with
  |true=>show(g7 s.t (dJ s.t r)).length<=2112;omega
  |false=>exact dG _
 rw[ew];omega
def YN{n A:Nat->Bool}{g:Nat->MBox}{p:Ow->Bool}(v:∀w,p w=true->w.kind≠2){l:List Int}(h:DInv n A g s [])(c:DL p s (r::l)):gi s.t r/\DInv n A g (jG s r) []/\DL p (jG s r) l:=by
 obtain⟨d,i⟩:=h.t;obtain⟨b,q⟩:=c.each r (fQ ..);have a:=pW.1 c.nd;have u:r∉[]++FL g:=λt=>v _ q (h.o.K r t).2;obtain⟨_,o,j,_⟩:=tf i b.1;obtain⟨E,z⟩:=KN i b;exact⟨b,⟨⟨o,j⟩,TkI.gone _ h.k,Eo i h.o b.1 u,h.ea,h.eb⟩,λx f y=>by
  obtain⟨k,m,_⟩:=E x f;exact(iB.1 (c.all x k y)).resolve_left m,λx f=>by
  obtain⟨k,m⟩:=c.each x (fA _ f);exact⟨(z x k λe=>a.1 (e▸f)).1,m⟩,a.2⟩
def XV(b:SInv s){t:Int}(q:0<=t)(r:t<8):DInv (a7 s.alive t.toNat false) (a7 s.alive t.toNat true) (a7 s.box t.toNat ⟨λ_=>mz,0,0,true⟩) (mb s t) (g6 (gd (s.box t.toNat))):=by
 have k:t.toNat<8:=a3
 obtain⟨d,p⟩:=b.t;have j:∀a,a<8->s.alive a=true->a7 s.alive t.toNat true a=true:=λa _ h=>by
  by_cases c:a=t.toNat
  .rw[c,dN]
  .rw[dP c];exact h
 have f:gd (⟨λ_=>mz,0,0,true⟩:MBox)=[]:=rfl;have e:=Cp k (⟨λ_=>mz,0,0,true⟩:MBox) (box:=s.box);rw[f,show g6 []=[] from rfl,gk]at e;have e:(g6 (gd (s.box t.toNat))++FL (a7 s.box t.toNat ⟨λ_=>mz,0,0,true⟩)).Perm (FL s.box):=sW.trans e;refine⟨⟨d,p⟩,b.k,⟨λx g=>⟨(b.o.rt x g).1,(b.o.rt x g).2.sub j λh=>e.mem_iff.2 h⟩,e.nodup_iff.2 b.o.nd,λx g=>b.o.K x (e.mem_iff.1 g),λi o l=>?_,Am (Q:=zW) ⟨⟨a8,a8,a8,a8⟩,λm n=>by rw[f]at n;cases n⟩ b.o.bx⟩,rfl,rfl⟩;by_cases c:i=t.toNat
 .rw[c,dN]
 .rw[dP c]at l ⊢;exact b.o.dead i o l
def V4{t:Nat}:∀a,a<8->a7 s.alive t false a=true->a7 s.alive t true a=true:=λa _ h=>by
 by_cases c:a=t
 .rw[c,dN]
 .rw[dP c]at h ⊢;exact h
def zcX{k:Toks}{x:Int}(h:bk k.b x=false):gI k x=k:=by unfold gI;rw[h];rfl
def IX{Z:Nat->Tk}:∀(l:List Int) {k:Toks},KtS k Z->KtS (l.foldl gI k) Z
 |[],_,h=>h
 |x::l,_,h=>IX l (h.ret x)
structure DW where
 i:Nat
 s:St
 l:List (Int×Ow)
 y:Nat->List Int
 Q:List Rn
 b:List Rn
def DH{α:Type}(z:α){l:List α}{i:Nat}(a:i<l.length):l.drop i=l.getD i z::l.drop (i+1):=by rw[yk a,eu,ed a];rfl
attribute [local irreducible] b6 eF ez eH eB eM dC ec dU dx
def Rx(hs:SInv s)(h0:0<=M)(h8:M<8){l:List (Int×Ow)}(hE:ExR s l Z)(hP:ir s.t y y)(hl:l.length<999900):jN a6 160 [.d (ei s l Z y []),I M] λv=>∃W b l' y' ag,lh s M=.ok (W,b)/\RD l Z y W l' y' ag 100/\v=.d (ei W l' Z y' ag):=by
 have ao:M.toNat<8:=a3
 have D0:=XV hs h0 h8;have hB:=(hs.o.bx _ ao).1;have ak:(gd (s.box M.toNat)).length<=4:=by rw[Jq hB];have:=hB.n0;have:=hB.n1;omega
 have hM:=(hs.o.bx _ ao).2;have O:lh s M=match gQ iP (gd (s.box M.toNat)) (mb s M) []with
  | .error e=>.error e
  | .ok (E,S)=>gQ (jY M) (fj (jP (fZ E M) (fj (fZ E M).o (fZ E M).t (gf M) (dW (fZ E M).t.b)) S).1.o (jP (fZ E M) (fj (fZ E M).o (fZ E M).t (gf M) (dW (fZ E M).t.b)) S).1.t (gA M) (dW (jP (fZ E M) (fj (fZ E M).o (fZ E M).t (gf M) (dW (fZ E M).t.b)) S).1.t.b)) (jP (fZ E M) (fj (fZ E M).o (fZ E M).t (gf M) (dW (fZ E M).t.b)) S).1 (jP (fZ E M) (fj (fZ E M).o (fZ E M).t (gf M) (dW (fZ E M).t.b)) S).2:=rfl
 have aa:=xZ s l Z y [] M ⟨λ_=>mz,0,0,true⟩;have ah:=KC (qD s l Z) (a7 s.box M.toNat ⟨λ_=>mz,0,0,true⟩) s.alive s.born y [] M.toNat false;refine nx func160 ?_;refine a4 ⟨h0,h8⟩ (a4 ⟨h0,h8⟩ ?_);conv=>whnf
 refine⟨_,(dE SV.d aa).symm,?_⟩;refine a4 ⟨h0,h8⟩ ?_;conv=>whnf
 refine⟨.d (ei (mb s M) l Z y []),(dE SV.d ah).symm,?_⟩;conv=>whnf
 have al:RD l Z y (mb s M) l y [] 0:=⟨hE.own,hE.kt,hE.cu,hP,a9 _,a9 _⟩;generalize gd (s.box M.toNat)=L at D0 ak hM O;refine dX c6 (λσ:DW=>σ.i<=L.length/\(DInv (a7 s.alive M.toNat false) (a7 s.alive M.toNat true) (a7 s.box M.toNat ⟨λ_=>mz,0,0,true⟩) σ.s (g6 (L.drop σ.i))/\∀x∈L.drop σ.i,(0<=x.J/\x.J<8)/\di x.D)/\gQ iP L (mb s M) []=gQ iP (L.drop σ.i) σ.s σ.b/\RD l Z y σ.s σ.l σ.y σ.Q σ.i) (λσ=>L.length - σ.i) (λσ=>[(6,I σ.i)]) (λσ=>⟨[.d (ei σ.s σ.l Z σ.y σ.Q),.d (ZT.d pn)],[],[]⟩) ⟨0,mb s M,l,y,[],[]⟩ ⟨dG _,⟨D0,hM⟩,rfl,al⟩ ⟨rfl,trivial⟩ rfl (λi=>⟨a9 _,a9 _,a9 _⟩) ?_;rintro⟨i,E,Q,R,f,S⟩ ⟨V,hJ,c,A⟩;have V:i<=L.length:=V;have A:RD l Z y E Q R f i:=A;have p:=A.ex a3 hJ.1.t hJ.1.k;refine a4 (eD (x:=((L.map ku).length:Int)) a3 (by rw[dD];omega)) ?_;apply a4<;>intro h1
 .have a:i<L.length:=by
   have:(i:Int)<((L.map ku).length:Int):=b8 h1
   rw[dD]at this;omega
  have e5:c7 (L.map ku) ((⟨i,E,Q,R,f,S⟩:DW).i:Int).toNat=ku (L.getD i mz):=qe ku mz a;rw[show(⟨i,E,Q,R,f,S⟩:DW).i=i from rfl,DH mz a]at hJ c;generalize L.getD i mz=m at hJ c e5;obtain⟨W,b,f1,f2,_⟩:=Qf V4 E m (L.drop (i+1)) hJ;have P:gQ iP L (mb s M) []=gQ iP (L.drop (i+1)) W (S++b):=by rw[c,gQ,f1]
  refine a4 ⟨by show(0:Int)<=(i:Int);omega,by show(i:Int)<((L.map ku).length:Int);rw[dD];omega⟩ ?_;rw[e5];conv=>whnf
  obtain⟨g,ar⟩:=hJ;have z:=ar m fQ;obtain⟨d1,Y⟩:=g.t;apply a4<;>intro o
  .have o:((m.D==0)||m.sh)=true:=o;have e:iP E m=.ok (E,[]):=by unfold iP;rw[o];rfl
   obtain⟨rfl,rfl⟩:=Prod.mk.inj (yg (e.symm.trans f1));refine b2 (x:=(i:Int)+1) ?_;conv=>whnf
   exact⟨⟨i+1,E,Q,R,f,S++[]⟩,⟨a,f2,P,A.up⟩,by show L.length -(i+1)<L.length - i;omega,⟨rfl,trivial⟩,⟨rfl,rfl⟩,rfl⟩
  have o:((m.D==0)||m.sh)=false:=o;have av:pE m=true:=by unfold pE bne;rw[gX]at o;rw[o.1,o.2];rfl
  have hr:gi E.t m.D:=(g.o.K m.D (eP.2 (.inl (by unfold g6;rw[oR,av];exact fQ)))).1;refine a4 z.1 ?_;apply a4<;>intro h3
  .have h3:E.alive m.J.toNat=true:=h3;have e:iP E m=.ok (rP E m.D m.J,[]):=by unfold iP;rw[o,h3,tv Y hr z.1.1 z.1.2];rfl
   obtain⟨rfl,rfl⟩:=Prod.mk.inj (yg (e.symm.trans f1));refine bo (zx Y p.len hr z.1.1 z.1.2 (A:=1) (.inl rfl)) (b2 (x:=(i:Int)+1) ?_);conv=>whnf
   exact⟨⟨i+1,rP E m.D m.J,jJ Q m.D (mY 1 m.J),R,f,S++[]⟩,⟨a,f2,P,A.J2 Y hr z.1.1 z.1.2⟩,by show L.length -(i+1)<L.length - i;omega,⟨rfl,trivial⟩,⟨rfl,rfl⟩,rfl⟩
  .have h3:E.alive m.J.toNat=false:=h3;have e:iP E m=.ok (jG E m.D,j3 E m.D):=by unfold iP;rw[o,h3];rfl
   obtain⟨rfl,rfl⟩:=Prod.mk.inj (yg (e.symm.trans f1));refine bo (EY (C:=f) p (by have:=A.Q;omega) hr.1) (b2 (x:=(i:Int)+1) ?_);conv=>whnf
   exact⟨⟨i+1,jG E m.D,Q,rG R (dJ E.t m.D),f++j3 E m.D,S++j3 E m.D⟩,⟨a,f2,P,A.gone Y hr.1⟩,by show L.length -(i+1)<L.length - i;omega,⟨rfl,trivial⟩,⟨rfl,rfl⟩,rfl⟩
 have a:i=L.length:=by
  have:¬(i:Int)<((L.map ku).length:Int):=b8 h1
  rw[dD]at this;omega
 subst a;have c:gQ iP L (mb s M) []=.ok (E,S):=by have c:gQ iP L (mb s M) []=gQ iP (L.drop L.length) E S:=c;rw[c,pU];rfl
 have g:=hJ.1;rw[show g6 (L.drop L.length)=[] by rw[pU];rfl]at g;rw[c]at O
 dsimp only at O
 clear hJ c D0 hM al aa ah;have hT:=EZ p.k p.kt (-1) M;rw[zbs h0]at hT;have hT:=hT.out (iE .c (λx=>D.z .i64 x) 0 (eg E.k (jk M) (dI E.k.b)));have hm:∀x∈eg E.k (jk M) (dI E.k.b),di x:=λx hx=>wk p.k.Q p.k.rt (jM.1 hx).1;have hn:(eg E.k (jk M) (dI E.k.b)).length<=32:=eY (qY _ _ _) (qb E.k.b);have am:fZ E M={E with k:=(eg E.k (jk M) (dI E.k.b)).foldl gI E.k}:=rfl;rw[am]at O;clear am;generalize eg E.k (jk M) (dI E.k.b)=T at O hT hm hn;refine bo (hT) (dX c6 (λi:Nat=>i<=T.length) (λi=>T.length - i) (λi=>[(9,I i)]) (λi=>⟨[.d (ei {E with k:=(T.take i).foldl gI E.k} Q Z R f),.d (ZT.d pn)],[],[]⟩) 0 (dG _) ⟨rfl,trivial⟩ rfl (λi=>⟨a9 _,a9 _,a9 _⟩) ?_);intro i V;refine b2 (x:=(T.length:Int)) ?_;apply a4<;>intro o
 .have a:i<T.length:=eZ o
  have hx:=hm _ (qG a);have an:=p.k.F0 (T.take i);have aw:=IX (T.take i) p.kt;have ek:(T.take (i+1)).foldl gI E.k=gI ((T.take i).foldl gI E.k) (T.getD i 0):=by rw[take_one a,pq];rfl
  refine fg (List.range 15) [(14,3072)] (fS (i:=i) (n:=T.length) ?_);conv=>whnf
  cases hg:bk ((T.take i).foldl gI E.k).b (T.getD i 0)
  case' false=>
   have hC:=zct (Z:=Z) an hx hg;rw[show gI ((T.take i).foldl gI E.k) (T.getD i 0)=(T.take i).foldl gI E.k from zcX hg]at ek
  case' true=>
   have hC:=RH an aw hx hg
  all_goals
   refine c9 hC (λ_ h=>h) (b2 (x:=(i:Int)+1) ?_);conv=>whnf
   exact⟨i+1,a,a3,⟨rfl,trivial⟩,⟨by rw[ek];rfl,rfl⟩,rfl⟩
 have a:i=T.length:=e9 o
 subst a;rw[gv];have q:DInv (a7 s.alive M.toNat false) (a7 s.alive M.toNat true) (a7 s.box M.toNat ⟨λ_=>mz,0,0,true⟩) {E with k:=T.foldl gI E.k} []:=⟨g.t,TkI.F0 T g.k,g.o,g.ea,g.eb⟩;have U:RD l Z y {E with k:=T.foldl gI E.k} Q R f 4:=(⟨A.own,IX T A.kt,A.cu,A.pad,A.len,A.Q⟩:RD l Z y {E with k:=T.foldl gI E.k} Q R f L.length).mono ak;clear hT hm hn p A g;generalize({E with k:=T.foldl gI E.k}:St)=s2 at O q U ⊢;have ad:=U.ex a3 q.t q.k;obtain⟨d2,ax⟩:=q.t;have ac:=DF q (gf M);have hG:=RL ax ad.own ad.len h0 h8 false;rw[show r5 false M=gf M from rfl]at hG;have hG:=hG.out (iE .c (λx=>D.z .i64 x) 0 (fj s2.o s2.t (gf M) (dW s2.t.b)));have ap:(fj s2.o s2.t (gf M) (dW s2.t.b)).length<=32:=eY (x9 _ _ _ _) (oV _);have ab:∀w,gf M w=true->w.kind=1:=λw hw=>by unfold gf at hw;simp only[dH,gG]at hw;exact hw.1
 generalize fj s2.o s2.t (gf M) (dW s2.t.b)=G at O ac hG ap;refine bo (hG) (dX c6 (λσ:DW=>σ.i<=G.length/\DInv (a7 s.alive M.toNat false) (a7 s.alive M.toNat true) (a7 s.box M.toNat ⟨λ_=>mz,0,0,true⟩) σ.s []/\DL (gf M) σ.s (G.drop σ.i)/\jP s2 G S=jP σ.s (G.drop σ.i) σ.b/\RD l Z y σ.s σ.l σ.y σ.Q (4+σ.i)) (λσ=>G.length - σ.i) (λσ=>[(11,I σ.i)]) (λσ=>⟨[.d (ei σ.s σ.l Z σ.y σ.Q),.d (ZT.d pn)],[],[]⟩) ⟨0,s2,Q,R,f,S⟩ ⟨dG _,q,ac,rfl,U⟩ ⟨rfl,trivial⟩ rfl (λi=>⟨a9 _,a9 _,a9 _⟩) ?_);rintro⟨i,d,l3,y3,J,F⟩ ⟨V,r,t,c,u⟩;have V:i<=G.length:=V;have u:RD l Z y d l3 y3 J (4+i):=u;have ae:=u.ex a3 r.t r.k;refine b2 (x:=(G.length:Int)) ?_;apply a4<;>intro o
 .have a:i<G.length:=eZ o
  rw[show(⟨i,d,l3,y3,J,F⟩:DW).i=i from rfl,DH 0 a]at t c;obtain⟨g1,g2,g3⟩:=YN (λw hw=>by rw[ab w hw];decide) r t;obtain⟨d3,af⟩:=r.t;refine dL 6 (fS (i:=i) (n:=G.length) (c9 (EY (C:=J) (y:=y3) ae (by have:=u.Q;omega) g1.1) (λ_ h=>h) (b2 (x:=(i:Int)+1) ?_)));conv=>whnf
  exact⟨⟨i+1,jG d (G.getD i 0),l3,rG y3 (dJ d.t (G.getD i 0)),J++j3 d (G.getD i 0),F++j3 d (G.getD i 0)⟩,⟨a,g2,g3,c,u.gone af g1.1⟩,by show G.length -(i+1)<G.length - i;omega,⟨rfl,trivial⟩,⟨rfl,rfl⟩,rfl⟩
 have a:i=G.length:=e9 o
 subst a;have c:jP s2 G S=(d,F):=by have c:jP s2 G S=jP d (G.drop G.length) F:=c;rw[c,pU];rfl
 have t:DL (gf M) d []:=by
  have t:DL (gf M) d (G.drop G.length):=t
  rwa [pU]at t
 rw[c]at O
 dsimp only at O
 obtain⟨d3,af⟩:=r.t;have ai:=DF r (gA M);have hH:=RL af ae.own ae.len h0 h8 true;rw[show r5 true M=gA M from rfl]at hH;have hH:=hH.out (iE .c (λx=>D.z .i64 x) 0 (fj d.o d.t (gA M) (dW d.t.b)));have aq:(fj d.o d.t (gA M) (dW d.t.b)).length<=32:=eY (x9 _ _ _ _) (oV _);have j:=u.mono (m:=36) a3;clear c u U q ac hG ad;generalize fj d.o d.t (gA M) (dW d.t.b)=H at O ai hH aq;refine bo (hH) (dX c6 (λσ:DW=>σ.i<=H.length/\(DInv (a7 s.alive M.toNat false) (a7 s.alive M.toNat true) (a7 s.box M.toNat ⟨λ_=>mz,0,0,true⟩) σ.s []/\DL (gA M) σ.s (H.drop σ.i)/\DL (gf M) σ.s [])/\gQ (jY M) H d F=gQ (jY M) (H.drop σ.i) σ.s σ.b/\RD l Z y σ.s σ.l σ.y σ.Q (36+σ.i)) (λσ=>H.length - σ.i) (λσ=>[(13,I σ.i)]) (λσ=>⟨[.d (ei σ.s σ.l Z σ.y σ.Q),.d (ZT.d pn)],[],[]⟩) ⟨0,d,l3,y3,J,F⟩ ⟨dG _,⟨r,ai,t⟩,rfl,j⟩ ⟨rfl,trivial⟩ rfl (λi=>⟨a9 _,a9 _,a9 _⟩) ?_);rintro⟨i,C,l4,y4,K,b4⟩ ⟨V,N,c,j⟩;have V:i<=H.length:=V;have j:RD l Z y C l4 y4 K (36+i):=j;have aj:=j.ex a3 N.1.t N.1.k;refine b2 (x:=(H.length:Int)) ?_;apply a4<;>intro o
 .have a:i<H.length:=eZ o
  rw[show(⟨i,C,l4,y4,K,b4⟩:DW).i=i from rfl,DH 0 a]at N c;obtain⟨s5,b5,f1,f2,_⟩:=Pt h0 h8 (gf M) (λw hw=>by rw[ab w hw];decide) C (H.getD i 0) (H.drop (i+1)) N;have P:gQ (jY M) H d F=gQ (jY M) (H.drop (i+1)) s5 (b4++b5):=by rw[c,gQ,f1]
  obtain⟨e1,e2⟩:=jd (show dV _ _=_ from f1);have e2:=yg e2;have hu:di (H.getD i 0):=(N.2.1.each _ fQ).1.1.1;have au:=j.drop aj (by have:=j.len;omega) hu e1;obtain⟨rfl,rfl⟩:s5=(iv C (H.getD i 0) M).1/\b5=(iv C (H.getD i 0) M).2:=⟨by rw[e2],by rw[e2]⟩;refine dL 7 (fS (i:=i) (n:=H.length) (c9 (Ry (l:=l4) (C:=K) (y:=y4) aj (by have:=j.len;omega) (by have:=j.Q;omega) hu e1) (λ_ h=>h) (b2 (x:=(i:Int)+1) ?_)));conv=>whnf
  exact⟨⟨i+1,(iv C (H.getD i 0) M).1,jJ l4 (H.getD i 0) (jQ C.o C.t (H.getD i 0) M),yR C (H.getD i 0) M y4,K++(iv C (H.getD i 0) M).2,b4++(iv C (H.getD i 0) M).2⟩,⟨a,f2,P,au⟩,by show H.length -(i+1)<H.length - i;omega,⟨rfl,trivial⟩,⟨rfl,rfl⟩,rfl⟩
 have a:i=H.length:=e9 o
 subst a;have c:gQ (jY M) H d F=.ok (C,b4):=by have c:gQ (jY M) H d F=gQ (jY M) (H.drop H.length) C b4:=c;rw[c,pU];rfl
 exact a4 rfl (eC ⟨C,b4,l4,y4,K,O.trans c,j.mono a3,rfl⟩)
end Sx
namespace Sx
def Sq(W:D)(d:Nat->MBox)(b a:Nat->Bool)(y:Nat->List Int)(C:List Rn)(k:Nat)(v:Bool):Ay W d b (a7 a k v) y C=.H W (.H (.ar 8 BQ λi=>oy (d i)) (.H (.ar 8 .c λi=>.I (b i)) (.H (.ar 8 .c (a7 (λi=>.I (a i)) k (.I v))) (.H (.ar 32 .c λi=>fq .c (qU (y i))) (.H (fq t2 (C.map i7)) .un))))):=by rw[iU D.I a k v];rfl
attribute [local irreducible] b6 eF ez eH eB eM dC ec dU dx
section
variable {s:St} {M:Int} {c:Call} {l:List (Int×Ow)} {Z:Nat->Tk} {y:Nat->List Int}
def zb4(j:SInv s)(f:CallOk s M c)(g:ExR s l Z)(h:ir s.t y y)(i:l.length<999900):jN a6 81 [.d (ei s l Z y []),I M,.d (jn {c with C:=20})] (lP s l y (te (lh s M))):=by
 refine nx func81 ?_;refine ej (kQ (Rx j f.t0 f.t1 g h i) λv k=>?_);obtain⟨W,b,m,n,d,e,a,rfl⟩:=k;rw[e];exact a4 rfl (eC ⟨m,Z,n,d,a.own,a.kt,a.len,a.pad,rfl⟩)
def zcd(o:SInv s)(i:CallOk s M c)(g:ExR s l Z)(h:ir s.t y y)(n:l.length<999900):jN a6 81 [.d (ei s l Z y []),I M,.d (jn {c with C:=21})] (lP s l y (uj s c)):=by
 have k:=λe=>nO (s:=s) (l:=l) (Z:=Z) (y:=y) (C:=[]) e;unfold uj;refine nx func81 ?_;refine b0 (ej (bo (xS i.a.1) ?_));apply a4<;>intro a
 .have a:(!(decide (c.a<8)&&s.alive c.a.toNat))=true:=a;have e:ki s c.a=2:=by unfold ki;rw[(jL _).mp a];rfl
  rw[e];exact bo (k 2) (a4 rfl (eC (iD g h 2)))
 have a:(decide (c.a<8)&&s.alive c.a.toNat)=true:=(lD _).mp a;have j:ki s c.a=0:=by unfold ki;rw[a];rfl
 have m:c.a<8:=gM (iZ.1 a).1;rw[b9 j];refine kQ (Rx o i.a.1 m g h n) λv p=>?_;obtain⟨W,b,q,r,f,e,d,rfl⟩:=p;rw[e];exact a4 rfl (eC ⟨q,Z,r,f,d.own,d.kt,d.len,d.pad,rfl⟩)
def zcy(b:CallOk s M c)(j:ExR s l Z)(m:ir s.t y y):jN a6 81 [.d (ei s l Z y []),I M,.d (jn {c with C:=22})] (lP s l y (x6 s c)):=by
 have n:=λe=>nO (s:=s) (l:=l) (Z:=Z) (y:=y) (C:=[]) e;have d:c.a<8->dC .and .i64 c.a 7=c.a:=De b.a.1;have k:c.a<8->c.a.tmod 8=c.a:=λh=>Int.tmod_eq_of_lt b.a.1 h;have f:=KC (qD s l Z) s.box s.alive s.born y [] c.a.toNat true;have i:=Sq (qD s l Z) s.box (a7 s.alive c.a.toNat true) s.born y [] c.a.toNat true;unfold x6;refine nx func81 ?_;refine b0 (b0 (a4 (λg=>?_) ?_))
 .have g:decide (c.a>7)=false:=g;have g:=lK g;rw[d a3];exact⟨b.a.1,(a3:c.a<8)⟩
 apply a4<;>intro a
 .have a:(decide (c.a>7)||s.born (dC .and .i64 c.a 7).toNat)=true:=a;have e:no (decide (c.a<8)&&!s.born (c.a.tmod 8).toNat) 2=2:=by
   by_cases g:c.a<8
   .rw[d g,fe (a3:¬c.a>7),tE]at a;rw[k g,a,Ck,lO];rfl
   .rw[fe g];rfl
  rw[e];exact bo (n 2) (a4 rfl (eC (iD j m 2)))
 have a:(decide (c.a>7)||s.born (dC .and .i64 c.a 7).toNat)=false:=a;rw[gX]at a;have g:c.a<8:=by have:=lK a.1;omega
 rw[d g]at a;rw[b9 (show no (decide (c.a<8)&&!s.born (c.a.tmod 8).toNat) 2=0 by rw[k g,a.2,eI g];rfl)];refine a4 ⟨b.a.1,g⟩ ?_;conv=>whnf
 refine⟨.d (ei {s with alive:=a7 s.alive c.a.toNat true} l Z y []),(dE SV.d f).symm,?_⟩;refine a4 ⟨b.a.1,g⟩ ?_;conv=>whnf
 refine⟨.d (ei {s with alive:=a7 s.alive c.a.toNat true,born:=a7 s.born c.a.toNat true} l Z y []),(dE SV.d i).symm,?_⟩;exact a4 rfl (eC ⟨l,Z,y,[],j.own,j.kt,oo _ _,m,rfl⟩)
end
end Sx
namespace Sx
def za2{t:Tb}{E a:Int}(m:0<=a):mW t E (dn a 1000)=mW t E (dn a 65)/\ik t E (dn a 1000)=ik t E (dn a 65)/\jg t E (dn a 1000)=jg t E (dn a 65):=by
 by_cases c:a<=65
 .have e:dn a 1000=dn a 65:=by unfold dn;rw[fe (a3:¬1000<a),fe (a3:¬65<a)];rfl
  rw[e];exact⟨rfl,rfl,rfl⟩
 .have f:dn a 65=65:=by unfold dn;rw[eI (a3:65<a)];rfl
  have h:65<dn a 1000:=by
   unfold dn;by_cases g:1000<a
   .rw[eI g];show(65:Int)<1000;decide
   .rw[fe g];show 65<a;omega
  rw[f];generalize dn a 1000=n at h;have b:jR t E n=jR t E 65:=by unfold jR;rw[fe (a3:¬n<=64),fe (a8:¬(65:Int)<=64),lO,lO]
  have d:(jR t E 65==0)=false:=by unfold jR;rw[fe (a8:¬(65:Int)<=64),lO];cases((E != 0)&&!bk t.b E)<;>rfl
  have i:pc t E n=pc t E 65:=by unfold pc;rw[b]
  have k:oC t E n=oC t E 65:=by unfold oC;rw[b,d,eQ,eQ]
  have j:qd t E n=qd t E 65:=by unfold qd;rw[b,d,eQ]
  unfold mW ik jg;rw[i,b,k,j];exact⟨rfl,rfl,rfl⟩
def Wt{t:Int}(d:0<=t)(e:t<8):0<=jC t/\jC t<256:=by
 obtain⟨a,rfl⟩:=sS d;have b:∀a:Fin 8,0<=jC ((a.val:Nat):Int)/\jC ((a.val:Nat):Int)<256:=a8
 exact b ⟨a,a3⟩
def zcW{t:Tb}{h q:Int}{y:Nat->List Int}(a:hQ t h {iY with E:=q}=0)(p:ir t y y):ir (hZ t h {iY with E:=q}) y (a7 y (a5 h) []):=λi b=>by
 unfold hZ;rw[a];show a7 y (a5 h) [] i=jh (32*dK (a7 t.r (a5 h) _ i).rs).toNat (y i);by_cases c:i=a5 h
 .rw[c,dN,dN];show[]=jh 0 _;unfold jh;simp
 .rw[dP c,dP c];exact p i b
attribute [local irreducible] b6 eF ez eH eB eM dC ec dU dx
section
variable {s:St} {M:Int} {c:Call} {l:List (Int×Ow)} {Z:Nat->Tk} {y:Nat->List Int}
def zbY(f:CallOk s M c)(b:ExR s l Z)(n:ir s.t y y):jN a6 75 [.d (ei s l Z y []),I M,.d (jn {c with C:=6})] (lP s l y (yO s M c)):=by
 obtain⟨d,i⟩:=b.t;have o:=λe=>nO (s:=s) (l:=l) (Z:=Z) (y:=y) (C:=[]) e;have j:=qS b f.t0 f.t1 f.r 2 (.inr (.inr rfl));unfold yO;refine nx func75 ?_;refine b0 ?_;conv=>whnf
 by_cases a:eh s M c.r 2=0
 .have k:eW s.t c.r:=⟨f.r,(qc a).1⟩;rw[b9 a];rw[a]at j;exact bo (j) (b0 (b0 (dL 18 (c9 (pe i.r i.rk f.r) (λ_ h g=>by cases(show false=true from g)) (b0 (b0 (b0 (b0 (ej (bo (EY b a8 k) (a4 rfl (eC ⟨l,Z,rG y (dJ s.t c.r),j3 s c.r,Iy i k b.own,b.kt.gone _,oo _ _,JN i k n,rfl⟩))))))))))))
 .have m:(eh s M c.r 2==0)=false:=fc.2 a;rw[eR a];refine bo (j) (b0 (a4 (λh=>b3 (m.symm.trans (iZ.1 h).1) a8) λ_=>?_));refine dL 18 (c9 (pe i.r i.rk f.r) (λ_ h _=>h) (a4 (λh=>b3 (m.symm.trans (iZ.1 (iZ.1 h).1).1) a8) λ_=>?_));refine a4 (λ_=>?_) λh=>b3 (by simpa using(show(eh s M c.r 2 != 0)=false from h)) a;exact bo (o (eh s M c.r 2)) (a4 rfl (eC (iD b n _)))
def zcs(a:CallOk s M c)(k:ExR s l Z)(w:ir s.t y y):jN a6 75 [.d (ei s l Z y []),I M,.d (jn {c with C:=5})] (lP s l y (zB s M c)):=by
 obtain⟨d,b⟩:=k.t;have z:=λe=>nO (s:=s) (l:=l) (Z:=Z) (y:=y) (C:=[]) e;have p:=qS k a.t0 a.t1 a.r 1 (.inr (.inl rfl));unfold zB;refine nx func75 ?_;refine ej ?_;conv=>whnf
 by_cases f:eh s M c.r 1=0
 .have m:=(qc f).1;have F:=iq c.r;have o:(0:Int)<=(a5 c.r:Int)/\(a5 c.r:Int)<32:=⟨a3,a3⟩;have n:=pF b c.r;obtain⟨G,x,J⟩:=su m;have q:hQ s.t c.r {iY with E:=(b1 s.t c.r).E}=0:=BJ m ⟨n.q0,n.q1,(λy t=>by cases t),n.q0,rfl⟩;have E:kG s.t.b (bif bk s.t.b c.r then a7 s.t.r (a5 c.r) {({iY with E:=(s.t.r (a5 c.r)).E}:Rg)with up:=(s.t.r (a5 c.r)).up}else s.t.r)=gU (hZ s.t c.r {iY with E:=(b1 s.t c.r).E}):=by unfold hZ;rw[q,m,x];rfl
  have v:=zcw b.r.Q b.r.ret s.t.r a.r (r:={iY with E:=(s.t.r (a5 c.r)).E}) (by rw[<-x];exact⟨n.q0,n.q1⟩) (λy t=>by cases t) (dG 1000) (λi j _ h=>b3 h (jm _)) ⟨i6 0,(a8:(0:Int)<=32*dK [])⟩;rw[E,m]at v;have A:OwS (hZ s.t c.r {iY with E:=(b1 s.t c.r).E}) s.o l:=JK (wK s.t _) k.own;have C:=zcW q w;rw[b9 f,m,b9 (show no true 4=0 from rfl),b9 q];rw[f]at p;refine bo (p) (b0 (b0 (dL 18 (c9 (pe b.r b.rk a.r) (λ_ h g=>by cases(show false=true from g)) (b0 (b0 (b0 (ej (bo (EX k a.r m) (a4 o ?_))))))))));conv=>whnf
  refine⟨.d (ei s l Z (a7 y (a5 c.r) []) (s.t.r (a5 c.r)).rs),by rw[BF];rfl,?_⟩;exact fg (List.range 20) [(19,65536)] (a4 o (c9 v (λ_ h=>h) (a4 rfl (eC ⟨l,Z,a7 y (a5 c.r) [],(s.t.r (a5 c.r)).rs,A,k.kt,oo _ _,C,rfl⟩))))
 .have u:(eh s M c.r 1==0)=false:=fc.2 f;rw[eR f];refine bo (p) (b0 (a4 (λh=>b3 (u.symm.trans (iZ.1 h).1) a8) λ_=>?_));refine dL 18 (c9 (pe b.r b.rk a.r) (λ_ h _=>h) (a4 (λh=>b3 (u.symm.trans (iZ.1 (iZ.1 h).1).1) a8) λ_=>?_));refine a4 (λ_=>?_) λh=>b3 (by simpa using(show(eh s M c.r 1 != 0)=false from h)) f;exact bo (z (eh s M c.r 1)) (a4 rfl (eC (iD k w _)))
def zca(a:CallOk s M c)(f:ExR s l Z)(o:ir s.t y y):jN a6 75 [.d (ei s l Z y []),I M,.d (jn {c with C:=8})] (lP s l y (za s M c)):=by
 obtain⟨d,i⟩:=f.t;have q:=λe=>nO (s:=s) (l:=l) (Z:=Z) (y:=y) (C:=[]) e;have r:=qS f a.t0 a.t1 a.r 2 (.inr (.inr rfl));unfold za;refine nx func75 ?_;refine b0 ?_;conv=>whnf
 by_cases k:eh s M c.r 2=0
 .have j:=qS f a.t0 a.t1 a.s' 1 (.inr (.inl rfl));rw[b9 k];rw[k]at r;refine bo (r) (b0 (ej ?_));conv=>whnf
  by_cases m:eh s M c.s 1=0
  .rw[b9 m];rw[m]at j;refine bo (j) (dL 18 (c9 (pe i.r i.rk a.r) (λ_ h g=>by cases(show false=true from g)) (b0 (b0 (b0 (b0 (b0 (ej (bo (zcb i a.r a.s') ?_)))))))));apply a4<;>intro b
   .have b:nL s.t c.r c.s≠0:=by have b:(nL s.t c.r c.s != 0)=true:=b;simpa using b
    rw[eR b];exact bo (q (nL s.t c.r c.s)) (a4 rfl (eC (iD f o _)))
   .have b:nL s.t c.r c.s=0:=by have b:(nL s.t c.r c.s != 0)=false:=b;simpa using b
    obtain⟨F,v,w,E,G,z,_⟩:=Ed i a.r a.s' b;have A:OwS (ln s.t c.r c.s) s.o l:=f.own.mono λx t=>by
     have u:eW s.t x:=⟨t.1.1,by rw[<-w];exact t.1.2⟩;refine⟨u,?_⟩;have p:=t.2;rw[z]at p;by_cases e:a5 x=a5 c.r
     .rw[if_pos e]at p;exact b3 p (g8 v.2)
     .rwa [if_neg e]at p
    have C:ir (ln s.t c.r c.s) y y:=Bp (Pj _ _ _) o;rw[b9 b];exact a4 rfl (eC ⟨l,Z,y,[],A,f.kt,oo _ _,C,rfl⟩)
  .have n:(eh s M c.s 1==0)=false:=fc.2 m;rw[eR m];refine bo (j) (dL 18 (c9 (pe i.r i.rk a.r) (λ_ h _=>h) (a4 (λh=>b3 (n.symm.trans (iZ.1 (iZ.1 h).1).1) a8) λ_=>?_)));refine a4 (λ_=>?_) λh=>b3 (by simpa using(show(eh s M c.s 1 != 0)=false from h)) m;exact bo (q (eh s M c.s 1)) (a4 rfl (eC (iD f o _)))
 .have n:(eh s M c.r 2==0)=false:=fc.2 k;rw[eR k];refine bo (r) (b0 (a4 (λh=>b3 (n.symm.trans (iZ.1 h).1) a8) λ_=>?_));refine dL 18 (c9 (pe i.r i.rk a.r) (λ_ h _=>h) (a4 (λh=>b3 (n.symm.trans (iZ.1 (iZ.1 h).1).1) a8) λ_=>?_));refine a4 (λ_=>?_) λh=>b3 (by simpa using(show(eh s M c.r 2 != 0)=false from h)) k;exact bo (q (eh s M c.r 2)) (a4 rfl (eC (iD f o _)))
def zb7(a:CallOk s M c)(i:ExR s l Z)(p:ir s.t y y)(A:l.length<999900):jN a6 75 [.d (ei s l Z y []),I M,.d (jn {c with C:=9})] (lP s l y (y8 s M c)):=by
 obtain⟨d,j⟩:=i.t;have v:=λe=>nO (s:=s) (l:=l) (Z:=Z) (y:=y) (C:=[]) e;have n:=qS i a.t0 a.t1 a.r 2 (.inr (.inr rfl));unfold y8;refine nx func75 ?_;refine b0 ?_;conv=>whnf
 by_cases f:eh s M c.r 2=0
 .have q:eW s.t c.r:=⟨a.r,(qc f).1⟩;obtain⟨z,b,r,m,t,u⟩:=HK j q;have k:=tv b m a.t0 a.t1;have w:OwS (fC s.t c.r) (iI s.o (fC s.t c.r) c.r M ⟨3,0,jC M⟩) (jJ l c.r (mY 3 M)):=by rw[rY k];exact i.own.with b.ok.Q m.1 t (Wt a.t0 a.t1)
  have x:ir (fC s.t c.r) y y:=Bp u p;rw[b9 f,b9 r,b9 k];rw[f]at n;exact bo (n) (b0 (b0 (dL 18 (c9 (pe j.r j.rk a.r) (λ_ h g=>by cases(show false=true from g)) (b0 (b0 (b0 (b0 (b0 (b0 (ej (bo (J8 j q) (bo (zx b i.len m a.t0 a.t1 (A:=3) (.inr (.inr rfl))) (a4 rfl (eC ⟨jJ l c.r (mY 3 M),Z,y,[],w,i.kt,eY (sO _ _ _) a3,x,rfl⟩)))))))))))))))
 .have o:(eh s M c.r 2==0)=false:=fc.2 f;rw[eR f];refine bo (n) (b0 (a4 (λh=>b3 (o.symm.trans (iZ.1 h).1) a8) λ_=>?_));refine dL 18 (c9 (pe j.r j.rk a.r) (λ_ h _=>h) (a4 (λh=>b3 (o.symm.trans (iZ.1 (iZ.1 h).1).1) a8) λ_=>?_));refine a4 (λ_=>?_) λh=>b3 (by simpa using(show(eh s M c.r 2 != 0)=false from h)) f;exact bo (v (eh s M c.r 2)) (a4 rfl (eC (iD i p _)))
end
end Sx
namespace Sx
def za3{t:Tb}{d:Int->Nat}(e:TInv t d){E n:Int}(f:di E)(a:mW t E n=0){i:Nat}(b:i<32):((ik t E n).r i).rs=(t.r i).rs:=by obtain⟨_,_,_,_,_,_,_,_,h⟩:=Be e f a;exact h i b
attribute [local irreducible] b6 eF ez eH eB eM dC ec dU dx
section
variable {s:St} {M:Int} {c:Call} {l:List (Int×Ow)} {Z:Nat->Tk} {y:Nat->List Int}
def zbW(a:CallOk s M c)(f:ExR s l Z)(o:ir s.t y y)(z:l.length<999900):jN a6 75 [.d (ei s l Z y []),I M,.d (jn {c with C:=7})] (lP s l y (yN s M c)):=by
 obtain⟨d,j⟩:=f.t;have p:=λe=>nO (s:=s) (l:=l) (Z:=Z) (y:=y) (C:=[]) e;have n:=qS f a.t0 a.t1 a.r 2 (.inr (.inr rfl));unfold yN;refine nx func75 ?_;refine b0 ?_;conv=>whnf
 by_cases i:eh s M c.r 2=0
 .have q:eW s.t c.r:=⟨a.r,(qc i).1⟩;obtain⟨x,g,r,m,t,u⟩:=HK j q;have k:=tv g m a.t0 a.t1;rw[b9 i];rw[i]at n;refine bo (n) (b0 (b0 (dL 18 (c9 (pe j.r j.rk a.r) (λ_ h _=>h) ?_))));apply a4<;>intro b
  .have b:(fl s.t c.r==c.r)=true:=b;rw[show no (fl s.t c.r != c.r) 12=12 by unfold bne;rw[b];rfl];exact ej (bo (p 12) (a4 rfl (eC (iD f o 12))))
  .have b:(fl s.t c.r==c.r)=false:=b;have v:OwS (fC s.t c.r) (iI s.o (fC s.t c.r) c.r M ⟨1,iz M,0⟩) (jJ l c.r (mY 1 M)):=by rw[rY k,r6 a.t0 (by have:=a.t1;omega)];exact f.own.with g.ok.Q m.1 t ⟨(a8:(0:Int)<=0),(a8:(0:Int)<256)⟩
   have w:ir (fC s.t c.r) y y:=Bp u o;rw[b9 (show no (fl s.t c.r != c.r) 12=0 by unfold bne;rw[b];rfl),b9 r,b9 k];exact b0 (b0 (b0 (b0 (b0 (b0 (bo (J8 j q) (bo (zx g f.len m a.t0 a.t1 (A:=1) (.inl rfl)) (a4 rfl (eC ⟨jJ l c.r (mY 1 M),Z,y,[],v,f.kt,eY (sO _ _ _) a3,w,rfl⟩)))))))))
 .have b:(eh s M c.r 2==0)=false:=fc.2 i;rw[eR i];refine bo (n) (b0 (a4 (λh=>b3 (b.symm.trans (iZ.1 h).1) a8) λ_=>?_));refine dL 18 (c9 (pe j.r j.rk a.r) (λ_ h _=>h) (a4 (λh=>b3 (b.symm.trans (iZ.1 (iZ.1 h).1).1) a8) λ_=>?_));refine a4 (λ_=>?_) λh=>b3 (by simpa using(show(eh s M c.r 2 != 0)=false from h)) i;exact bo (p (eh s M c.r 2)) (a4 rfl (eC (iD f o _)))
def zck(a:CallOk s M c)(j:ExR s l Z)(E:ir s.t y y)(Y:l.length<999900):jN a6 75 [.d (ei s l Z y []),I M,.d (jn {c with C:=1})] (lP s l y (sC s M c)):=by
 obtain⟨d,k⟩:=j.t;have J:=λe=>nO (s:=s) (l:=l) (Z:=Z) (y:=y) (C:=[]) e;have w:=qS j a.t0 a.t1 a.r 1 (.inr (.inl rfl));have A:=zcj k.r k.rk a.r (dn c.a 1000);obtain⟨T,U,V⟩:=za2 (t:=s.t) (E:=c.r) a.a.1;rw[T,U,V]at A;have L:=a.a;have P:dx c.a/\dx 1000:=⟨eD (by have:=L.1;omega) (by have:=L.2;omega),eD a3 a3⟩;unfold sC;generalize hn:dn c.a 65=n at A;refine nx func75 ?_;refine ej ?_;conv=>whnf
 by_cases o:c.r=0
 case' pos=>
  rw[show(bif c.r != 0 then eh s M c.r 1 else 0)=0 by rw[o];rfl,b9 rfl];refine bo (w) (a4 (λ_=>?_) λh=>b3 (show(c.r==0)=false from h) (by rw[o];decide));refine b0 ?_;conv=>whnf
 case' neg=>
  rw[show(bif c.r != 0 then eh s M c.r 1 else 0)=eh s M c.r 1 by rw[show(c.r != 0)=true by simpa using o];rfl];by_cases p:eh s M c.r 1=0
  case neg=>
   have G:(eh s M c.r 1==0)=false:=fc.2 p;rw[eR p];refine bo (w) (a4 (λh=>b3 (eq_of_beq (show(c.r==0)=true from h)) o) λ_=>?_);refine a4 (λh=>b3 (G.symm.trans (iZ.1 h).1) a8) λ_=>?_;refine dL 18 (c9 (pe k.r k.rk a.r) (λ_ h _=>h) (a4 (λh=>b3 (G.symm.trans (iZ.1 (iZ.1 h).1).1) a8) λ_=>?_));refine a4 (λ_=>?_) λh=>b3 (by simpa using(show(eh s M c.r 1 != 0)=false from h)) p;exact bo (J (eh s M c.r 1)) (a4 rfl (eC (iD j E _)))
  case' pos=>
   rw[b9 p];rw[p]at w;refine bo (w) (a4 (λh=>b3 (eq_of_beq (show(c.r==0)=true from h)) o) λ_=>?_);refine b0 ?_;conv=>whnf
 all_goals
  refine dL 18 (c9 (pe k.r k.rk a.r) (λ_ h g=>by cases(show false=true from g)) (b0 (b0 (ej (a4 P (bo (A) ?_))))));apply a4<;>intro b
  .have b:mW s.t c.r n≠0:=by have b:(mW s.t c.r n != 0)=true:=b;simpa using b
   rw[eR b];exact bo (J (mW s.t c.r n)) (a4 rfl (eC (iD j E _)))
  have b:mW s.t c.r n=0:=by have b:(mW s.t c.r n != 0)=false:=b;simpa using b
  obtain⟨W,z,F,k3,O,_,R,S,_⟩:=Be k a.r b;have u:∀x,gi (ik s.t c.r n) x->x≠jg s.t c.r n->gi s.t x:=λx m q=>by have Q:=((R x m.1.1).1 m.1.2).resolve_right q;refine⟨⟨m.1.1,Q⟩,?_⟩;rw[<-S x λe=>q (sI z.ok m.1 F e)];exact m.2
  have K:ir (ik s.t c.r n) y y:=λi N=>by rw[za3 k a.r b N];exact E i N
  rw[b9 b];apply a4<;>intro f
  .have f:(c.r==0)=true:=f;have r:gi (ik s.t c.r n) (jg s.t c.r n):=⟨F,O.trans (eq_of_beq f)⟩;have v:=tv z r a.t0 a.t1;have C:OwS (ik s.t c.r n) (iI s.o (ik s.t c.r n) (jg s.t c.r n) M ⟨1,iz M,0⟩) (jJ l (jg s.t c.r n) (mY 1 M)):=by rw[rY v,r6 a.t0 (by have:=a.t1;omega)];exact j.own.with z.ok.Q F u ⟨(a8:(0:Int)<=0),(a8:(0:Int)<256)⟩
   rw[f,dZ,b9 v];exact bo (zx z j.len r a.t0 a.t1 (A:=1) (.inl rfl)) (a4 rfl (eC ⟨jJ l (jg s.t c.r n) (mY 1 M),Z,y,[],C,j.kt,eY (sO _ _ _) a3,K,rfl⟩))
  .have f:(c.r==0)=false:=f;have C:OwS (ik s.t c.r n) s.o l:=j.own.mono λx m=>u x m λe=>by have:=m.2;rw[e,O]at this;rw[this]at f;cases f
   rw[f,eQ];exact a4 rfl (eC ⟨l,Z,y,[],C,j.kt,oo _ _,K,rfl⟩)
end
end Sx
end Go.Proofs.YtfbhkfhbnkncoaaGreatDoor
