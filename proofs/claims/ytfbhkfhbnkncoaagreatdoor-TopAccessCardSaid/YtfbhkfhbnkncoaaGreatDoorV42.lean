import Derived.Test.YtfbhkfhbnkncoaaGreatDoorV41
set_option linter.all false
namespace Go.Proofs.YtfbhkfhbnkncoaaGreatDoor
open Go.RowKit Tryz
open Tryz renaming prog→a6
namespace Sx
variable{a r:Int}{i:Nat}
def IV(s:Slot):(B5 s==1)=s.L:=by unfold B5;cases a:s.L<;>cases b:s.ret<;>rfl
def Na(f:Nat->Bool)(i:Nat):(List.range (i+1)).any f=((List.range i).any f||f i):=by rw[mC,List.any_append,z3,List.any_nil,wP]
def ze4{k:Toks}(h:TkI k)(r a:Int):og k r a=(ll k a&&!(List.range 32).any λi=>(k.b i).L&&iN r a (k.s i)):=by
 unfold og qV eg;rw[<-M8 h (iN r a)]
 congr 1
 rw[sQ,gG,jL,vL,ym,List.filter_eq_nil_iff]
def zcK{k:Toks}(h:TkI k)(r a:Int):qi k r a=(ll k a&&!(List.range 32).any λi=>(k.b i).L&&(iN r a (k.s i)&&(k.s i).mu)):=by unfold qi wI vl;rw[<-M8 h λx=>iN r a x&&x.mu]
def pT(r t:Int)(x:Tk):Bool:=(decide (r<0)||x.D==r)&&(decide (t<0)||x.W==t)
def JM(h:0<=r):pT r (-1)=gq r:=by
 funext x
 unfold pT gq;rw[fe a3,eI (a3:(-1:Int)<0)];simp
def zbs{t:Int}(h:0<=t):pT (-1) t=jk t:=by
 funext x
 unfold pT jk;rw[fe (a3:¬t<0),eI (a3:(-1:Int)<0)];simp
attribute [local irreducible] b6 eF ez eH eB eM dC ec dU dx
def KT:Ty:=.p .c (.p .c (.p .c (.p .c (.p .c .u))))
def uW(x:Tk):D:=.H (.z .i64 x.D) (.H (.z .i64 x.V) (.H (.z .i64 x.W) (.H (.I x.mu) (.H (.z .i64 x.A) .un))))
def jF(b:fG)(Z:Nat->Tk):D:=.H (p5 b) (.H (.ar 32 KT λi=>uW (Z i)) .un)
section
variable {k:Toks} (hk:TkI k) {Z:Nat->Tk} (hs:KtS k Z)
include hk hs
def Kh{h:Int}(d:di h):c5 a6 151 [.d (jF k.b Z),I h] (T2 (.d (uW (dr k h))) (I (bif bk k.b h then 0 else 4))):=by
 have b:=iq h;refine dq func151 ?_;refine bo (mn hk.Q hk.rt d) ?_;conv=>whnf
 cases a:bk k.b h with
 |false=>
  rw[wL a];refine ej (b7 ?_);rw[dr,a];rfl
 |true=>
  rw[m7 a];refine a4 (λc=>b3 (gM c) a3) λ_=>?_;refine a4 ⟨a3,a3⟩ (b7 ?_);rw[dr,a,<-hs.eq _ b (p7 a).2];rfl
omit hk in
def zc1(b:i<32)(r a:Int):((B5 (k.b i)==1&&(Z i).D==r)&&(Z i).A==a)=((k.b i).L&&iN r a (k.s i)):=by
 rw[IV];cases c:(k.b i).L with
 |false=>rfl
 |true=>rw[hs.eq i b c];rfl
omit hk in
def RI(c:i<32)(r a:Int):c5 a6 245 [.d (jF k.b Z),I i,I r,I a] (B ((k.b i).L&&iN r a (k.s i))):=by
 have b:(0:Int)<=(i:Int)/\(i:Int)<32:=⟨a3,a3⟩;refine dq func245 ?_;refine a4 b (a4 (λ_=>b) (a4 (λ_=>b) (b7 ?_)));rw[<-zc1 hs c r a];rfl
def Kg(r:Int)(l:di a):c5 a6 204 [.d (jF k.b Z),I r,I a] (B (qi k r a)):=by
 rw[zcK hk];refine dq func204 ?_;refine dX c6 (λi:Nat=>i<=32/\(List.range i).any (λi=>(k.b i).L&&(iN r a (k.s i)&&(k.s i).mu))=false) (λi=>32 - i) (λi=>[(7,I i)]) (λ_=>⟨[.d (jF k.b Z)],[],[]⟩) 0 ⟨dG _,rfl⟩ ⟨rfl,trivial⟩ rfl (λi=>⟨a9 _,a9 _,a9 _⟩) ?_;rintro i ⟨m,f⟩;apply a4<;>intro e
 .have b:i<32:=eZ e
  have d:=Na (λi=>(k.b i).L&&(iN r a (k.s i)&&(k.s i).mu)) i;have g:((k.b i).L&&iN r a (k.s i)&&(Z i).mu)=((k.b i).L&&(iN r a (k.s i)&&(k.s i).mu)):=by
   cases j:(k.b i).L with
   |false=>rfl
   |true=>rw[hs.eq i b j];rfl
  refine bo (RI hs b r a) (a4 (λ_=>⟨(a3:(0:Int)<=(i:Int)),(a3:(i:Int)<32)⟩) ?_);apply a4<;>intro c
  .have c:((k.b i).L&&(iN r a (k.s i)&&(k.s i).mu))=true:=g.symm.trans c;refine b7 ?_;rw[show(List.range 32).any (λi=>(k.b i).L&&(iN r a (k.s i)&&(k.s i).mu))=true from qo.2 ⟨i,gZ.2 b,c⟩];simp;rfl
  .have c:((k.b i).L&&(iN r a (k.s i)&&(k.s i).mu))=false:=g.symm.trans c;refine b2 (x:=(i:Int)+1) ?_;conv=>whnf
   exact⟨i+1,⟨b,by rw[d,f,c];rfl⟩,a3,⟨rfl,trivial⟩,⟨rfl,rfl⟩,rfl⟩
 .have b:i=32:=e9 e
  subst b;rw[f];refine c9 (mn hk.Q hk.rt l) (λ_ h _=>h) (b7 ?_);show B ((a==0)||decide (m6 k.b a>=0))=_;rw[BM];show _=B (ll k a&&!false);rw[Bool.not_false,tD];rfl
def Kj(r:Int)(g:di a):c5 a6 205 [.d (jF k.b Z),I r,I a] (B (og k r a)):=by
 rw[ze4 hk];refine dq func205 ?_;refine dX c6 (λi:Nat=>i<=32/\(List.range i).any (λi=>(k.b i).L&&iN r a (k.s i))=false) (λi=>32 - i) (λi=>[(7,I i)]) (λ_=>⟨[.d (jF k.b Z)],[],[]⟩) 0 ⟨dG _,rfl⟩ ⟨rfl,trivial⟩ rfl (λi=>⟨a9 _,a9 _,a9 _⟩) ?_;rintro i ⟨j,f⟩;apply a4<;>intro e
 .have b:i<32:=eZ e
  have d:=Na (λi=>(k.b i).L&&iN r a (k.s i)) i;refine bo (RI hs b r a) ?_;apply a4<;>intro c
  .have c:((k.b i).L&&iN r a (k.s i))=true:=c;refine b7 ?_;rw[show(List.range 32).any (λi=>(k.b i).L&&iN r a (k.s i))=true from qo.2 ⟨i,gZ.2 b,c⟩];simp;rfl
  .have c:((k.b i).L&&iN r a (k.s i))=false:=c;refine b2 (x:=(i:Int)+1) ?_;conv=>whnf
   exact⟨i+1,⟨b,by rw[d,f,c];rfl⟩,a3,⟨rfl,trivial⟩,⟨rfl,rfl⟩,rfl⟩
 .have b:i=32:=e9 e
  subst b;rw[f];refine c9 (mn hk.Q hk.rt g) (λ_ h _=>h) (b7 ?_);show B ((a==0)||decide (m6 k.b a>=0))=_;rw[BM];show _=B (ll k a&&!false);rw[Bool.not_false,tD];rfl
def EZ(r t:Int):c5 a6 203 [.d (jF k.b Z),I r,I t] (.d (fq .c (qL (eg k (pT r t) (dI k.b))))):=by
 unfold eg;rw[vb];refine dq func203 ?_;refine oA 7 .c (c7 []) rfl ?_;refine dX c6 (λi:Nat×Nat=>i.1<=32) (λi=>32 - i.1) (λi=>[(8,I i.1),(7,gx 1 i.2 .c (qL ((ga k.b i.1).filter λh=>pT r t (dr k h))))]) (λi=>⟨[.d (jF k.b Z)],[i.2],[]⟩) (0,0) (dG _) ⟨rfl,rfl,trivial⟩ rfl (λi=>⟨a9 _,a9 _,a9 _⟩) ?_;rintro⟨i,v⟩ f;have f:i<=32:=f;apply a4<;>intro e
 .have a:i<32:=eZ e
  have g:(qL ((ga k.b i).filter λh=>pT r t (dr k h))).length<=i:=by have:=AK k.b i;rw[dD]at this ⊢;exact eY (sU _ _) this
  have c:=OP k.b (λh=>pT r t (dr k h)) a;have l:((B5 (k.b i)==1&&(decide (r<0)||(Z i).D==r))&&(decide (t<0)||(Z i).W==t))=((k.b i).L&&pT r t (dr k (fT i (k.b i).gen))):=by
   rw[IV];cases j:(k.b i).L with
   |false=>rfl
   |true=>rw[(AM hk a j).2.1,<-hs.eq i a j];rfl
  have d:(0:Int)<=(i:Int)/\(i:Int)<32:=⟨a3,a3⟩;refine a4 d (a4 (λ_ _=>d) (a4 (λ_ _=>d) ?_));apply a4<;>intro b
  .have b:((k.b i).L&&pT r t (dr k (fT i (k.b i).gen)))=true:=l.symm.trans b;rw[b]at c;refine bo (Bw hk.Q a) (Or.inl (a4 ⟨rfl,by show(qL ((ga k.b i).filter λh=>pT r t (dr k h))).length+1<=2147483648;omega⟩ (b2 (x:=(i:Int)+1) ?_)));conv=>whnf
   refine⟨(i+1,v+1),a,by show 32 -(i+1)<32 - i;omega,⟨rfl,?_,trivial⟩,⟨rfl,rfl⟩,rfl⟩;show _=some (gx 1 (v+1) .c (qL ((ga k.b (i+1)).filter λh=>pT r t (dr k h))));rw[c,show(bif true then[fT i (k.b i).gen]else[])=[fT i (k.b i).gen] from rfl,EU,<-kA];rfl
  .have b:((k.b i).L&&pT r t (dr k (fT i (k.b i).gen)))=false:=l.symm.trans b;rw[b,show(bif false then[fT i (k.b i).gen]else[])=[] from rfl,gk]at c;refine b2 (x:=(i:Int)+1) ?_;conv=>whnf
   refine⟨(i+1,v),a,by show 32 -(i+1)<32 - i;omega,⟨rfl,?_,trivial⟩,⟨rfl,rfl⟩,rfl⟩;show _=some (gx 1 v .c (qL ((ga k.b (i+1)).filter λh=>pT r t (dr k h))));rw[c];rfl
 .have a:i=32:=e9 e
  subst a;exact b7
def zbU(o:0<=r):c5 a6 212 [.d (jF k.b Z),I r] (.d (jF (kD k (eg k (gq r) (dI k.b))).b Z)):=by
 have c:=(EZ hk hs r (-1)).out (iE .c (λx=>D.z .i64 x) 0 (eg k (pT r (-1)) (dI k.b)));rw[JM o]at c;have e:∀x∈eg k (gq r) (dI k.b),di x:=λx b=>wk hk.Q hk.rt (jM.1 b).1;have m:(eg k (gq r) (dI k.b)).length<=32:=eY (qY _ _ _) (qb k.b);generalize eg k (gq r) (dI k.b)=l at c e m;refine dq func212 ?_;refine bo (c) (dX c6 (λi:Nat=>i<=l.length) (λi=>l.length - i) (λi=>[(6,I i)]) (λi=>⟨[.d (jF ((l.take i).foldl e8 k.b) Z),.d (ZT.d zR)],[],[]⟩) 0 (dG _) ⟨rfl,trivial⟩ rfl (λi=>⟨a9 _,a9 _,a9 _⟩) ?_);intro i p;refine b2 (x:=(l.length:Int)) ?_;apply a4<;>intro g
 .have a:i<l.length:=eZ g
  have b:=e _ (qG a);obtain⟨⟨d,f⟩,_⟩:=FV hk.Q hk.rt (l:=l.take i) λx b=>e x (sV b);have j:=Ki d f b;have E:(l.take (i+1)).foldl e8 k.b=e8 ((l.take i).foldl e8 k.b) (l.getD i 0):=by rw[js,ed a,pq,eu,ed a];rfl
  refine fg (List.range 12) [(11,512)] (fS (i:=i) (n:=l.length) (c9 j (λ_ h=>h) (b2 (x:=(i:Int)+1) ?_)));conv=>whnf
  exact⟨i+1,a,a3,⟨rfl,trivial⟩,⟨by rw[E];rfl,rfl⟩,rfl⟩
 .have a:i=l.length:=e9 g
  subst a;rw[gv];exact b7
end
def zaj{k:Toks}{x:Tk}{e:Int}(h:iM k x=e)(a:e≠0)(Z:Nat->Tk):jF (lI k x).b (bif iM k x==0 then a7 Z (a5 (dY k.b)) x else Z)=jF k.b Z/\qO k x=0:=by unfold lI qO;rw[h,fc.2 a];exact⟨rfl,rfl⟩
def zcf{k:Toks}(l:TkI k){Z:Nat->Tk}(K:KtS k Z){x:Tk}(r:di x.A):c5 a6 155 [.d (jF k.b Z),.d (uW x)] (T3 (.d (jF (lI k x).b (bif iM k x==0 then a7 Z (a5 (dY k.b)) x else Z))) (I (qO k x)) (I (iM k x))):=by
 have m:∀{e:Int} {u:SV},iM k x=e->e≠0->u=T3 (.d (jF k.b Z)) (I 0) (I e)->u=T3 (.d (jF (lI k x).b (bif iM k x==0 then a7 Z (a5 (dY k.b)) x else Z))) (I (qO k x)) (I (iM k x)):=λh E r=>by obtain⟨y,z⟩:=zaj h E Z;rw[y,z,h];exact r
 refine dq func155 ?_;conv=>whnf
 refine c9 (mn l.Q l.rt r) (λ_ h _=>h) ?_;conv=>whnf
 have L:((x.A != 0)&&decide (m6 k.b x.A<0))=!ll k x.A:=by rw[zdz];unfold ll bne;cases(x.A==0)<;>cases bk k.b x.A<;>rfl
 apply a4<;>intro g
 .have g:(!ll k x.A)=true:=L.symm.trans g;have e:iM k x=4:=by unfold iM mK;rw[g];rfl
  conv=>whnf
  exact b7 (m e a8 rfl)
 have g:(!ll k x.A)=false:=L.symm.trans g;have y:(((decide (x.V>7)||decide (x.W>7))||(x.V==x.W))||(x.D==0))=uD x:=by unfold uD;rw[show decide (x.V>7)=decide (x.V>=8) from decide_eq_decide.2 a3,show decide (x.W>7)=decide (x.W>=8) from decide_eq_decide.2 a3]
 conv=>whnf
 apply a4<;>intro n
 .have n:uD x=true:=y.symm.trans n;have e:iM k x=2:=by unfold iM mK;rw[g,n];rfl
  conv=>whnf
  exact b7 (m e a8 rfl)
 have n:uD x=false:=y.symm.trans n;have J:x.A≠0->bk k.b x.A=true:=λE=>by unfold ll at g;rw[fc.2 E]at g;simpa using g
 have v:qi k x.D x.A=!wI k x.D x.A/\og k x.D x.A=((qV k x.D x.A).length==0):=by
  have:ll k x.A=true:=b8 g
  unfold qi og;rw[this];exact⟨rfl,rfl⟩
 have A:(!qi k x.D x.A||(x.mu&&!og k x.D x.A))=pj k x:=by
  rw[v.1,v.2];unfold pj;rw[Cj]
  congr 2
  rw[sQ,jL,fc,fY];omega
 have a:(j8 (fK k.b)/\m8 (fK k.b))/\di (dY k.b)/\((dY k.b==0)||decide (m6 (fK k.b) (dY k.b)>15))=nN k/\(nN k=false->m6 (fK k.b) (dY k.b)=(a5 (dY k.b):Int)):=by
  cases F:(kH k.b).isSome with
  |false=>
   have R:kH k.b=none:=by cases h:kH k.b;rfl;rw[h]at F;cases F
   have S:fK k.b=k.b:=by unfold fK;rw[R]
   have T:dY k.b=0:=by unfold dY;rw[R]
   unfold nN;rw[S,T];exact⟨⟨l.Q,l.rt⟩,⟨a8,a8⟩,by rw[show mv 0=true by rw[BL ⟨a8,a8⟩];decide];rfl,λh=>by rw[show mv 0=true by rw[BL ⟨a8,a8⟩];decide]at h;cases h⟩
  |true=>
   obtain⟨i,f1,V,f3,M,f5,W,f7,N,Y,C,U⟩:=AN l.Q l.rt F;have w:=tw M (l.Q i M);rw[<-V]at w;have hx:=nR (dY k.b);have e:m6 (fK k.b) (dY k.b)=(a5 (dY k.b):Int):=m7 N;refine⟨⟨Y,C⟩,W,?_,λ_=>e⟩;unfold nN;rw[e,w.2.1,fc.2 (g8 N),Cj,tE,tE];exact decide_eq_decide.2 (by unfold a5;omega)
 have P:=Kg l K x.D r;have Q:=Kj l K x.D r;have O:=RA l.Q;have q:=mn a.1.1 a.1.2 a.2.1;have c:qZ k x=false->∀{u:SV},(pj k x=true->u=T3 (.d (jF k.b Z)) (I 0) (I 5))->(pj k x=false->nN k=true->u=T3 (.d (jF k.b Z)) (I 0) (I 7))->(pj k x=false->nN k=false->u=T3 (.d (jF (fK k.b) (a7 Z (a5 (dY k.b)) x))) (I (dY k.b)) (I 0))->u=T3 (.d (jF (lI k x).b (bif iM k x==0 then a7 Z (a5 (dY k.b)) x else Z))) (I (qO k x)) (I (iM k x)):=λp u g1 g2 g3=>by
  cases d:pj k x with
  |true=>exact m (e:=5) (by unfold iM mK;rw[g,n,p,d];rfl) a8 (g1 d)
  |false=>
   cases b:nN k with
   |true=>exact m (e:=7) (by unfold iM mK;rw[g,n,p,d,b];rfl) a8 (g2 d b)
   |false=>
    have e:iM k x=0:=by unfold iM mK;rw[g,n,p,d,b];rfl
    rw[lI,qO,e];exact g3 d b
 have aa:=iq (dY k.b);conv=>whnf
 apply a4<;>intro p
 .have o:x.A≠0:=b8 p
  have G:=J o;have t:=iq x.A;have s:=mn l.Q l.rt r;rw[m7 G]at s;have z:((((Z (a5 x.A)).D != x.D)||((Z (a5 x.A)).W != x.V))||(x.mu&&!(Z (a5 x.A)).mu))=qZ k x:=by unfold qZ dr;rw[oX.2 o,G,K.eq _ t (p7 G).2];rfl
  conv=>whnf
  refine bo (s) ?_;conv=>whnf
  refine⟨⟨(a3:(0:Int)<=(a5 x.A:Int)),(a3:(a5 x.A:Int)<32)⟩,?_⟩;conv=>whnf
  apply a4<;>intro d
  .have d:qZ k x=true:=z.symm.trans d;have e:iM k x=12:=by unfold iM mK;rw[g,n,d];rfl
   conv=>whnf
   exact b7 (m e a8 rfl)
  have d:qZ k x=false:=z.symm.trans d;conv=>whnf
  refine bo (P) ?_;conv=>whnf
  refine c9 Q (λ_ h _ _=>h) ?_;conv=>whnf
  apply a4<;>intro b
  .have b:pj k x=true:=A.symm.trans b;conv=>whnf
   exact b7 (c d (λ_=>rfl) (λh=>by rw[b]at h;cases h) λh=>by rw[b]at h;cases h)
  have b:pj k x=false:=A.symm.trans b;conv=>whnf
  refine bo (O) ?_;conv=>whnf
  refine c9 q (λ_ h _=>h) ?_;conv=>whnf
  apply a4<;>intro f
  .have f:nN k=true:=a.2.2.1.symm.trans f;conv=>whnf
   exact b7 (c d (λh=>by rw[b]at h;cases h) (λ_ _=>rfl) λ_ h=>by rw[f]at h;cases h)
  have f:nN k=false:=a.2.2.1.symm.trans f;rw[a.2.2.2 f]at q;conv=>whnf
  refine dL 6 ?_;conv=>whnf
  refine c9 q (λ_ h=>h) ?_;conv=>whnf
  refine⟨⟨(a3:(0:Int)<=(a5 (dY k.b):Int)),(a3:(a5 (dY k.b):Int)<32)⟩,?_⟩;conv=>whnf
  refine⟨.d (jF (fK k.b) (a7 Z (a5 (dY k.b)) x)),by show SV.d (.H (p5 (fK k.b)) (.H (.ar 32 KT (a7 (λj=>uW (Z j)) (a5 (dY k.b)) (uW x))) .un))=_;rw[iU uW Z (a5 (dY k.b)) x];rfl,?_⟩;conv=>whnf
  exact b7 (c d (λh=>by rw[b]at h;cases h) (λ_ h=>by rw[f]at h;cases h) λ_ _=>rfl)
 .have o:x.A=0:=b8 p
  have d:qZ k x=false:=by unfold qZ;rw[o];rfl
  conv=>whnf
  refine bo (P) ?_;conv=>whnf
  refine c9 Q (λ_ h _ _=>h) ?_;conv=>whnf
  apply a4<;>intro b
  .have b:pj k x=true:=A.symm.trans b;conv=>whnf
   exact b7 (c d (λ_=>rfl) (λh=>by rw[b]at h;cases h) λh=>by rw[b]at h;cases h)
  have b:pj k x=false:=A.symm.trans b;conv=>whnf
  refine bo (O) ?_;conv=>whnf
  refine c9 q (λ_ h _=>h) ?_;conv=>whnf
  apply a4<;>intro f
  .have f:nN k=true:=a.2.2.1.symm.trans f;conv=>whnf
   exact b7 (c d (λh=>by rw[b]at h;cases h) (λ_ _=>rfl) λ_ h=>by rw[f]at h;cases h)
  have f:nN k=false:=a.2.2.1.symm.trans f;rw[a.2.2.2 f]at q;conv=>whnf
  refine dL 6 ?_;conv=>whnf
  refine c9 q (λ_ h=>h) ?_;conv=>whnf
  refine⟨⟨(a3:(0:Int)<=(a5 (dY k.b):Int)),(a3:(a5 (dY k.b):Int)<32)⟩,?_⟩;conv=>whnf
  refine⟨.d (jF (fK k.b) (a7 Z (a5 (dY k.b)) x)),by show SV.d (.H (p5 (fK k.b)) (.H (.ar 32 KT (a7 (λj=>uW (Z j)) (a5 (dY k.b)) (uW x))) .un))=_;rw[iU uW Z (a5 (dY k.b)) x];rfl,?_⟩;conv=>whnf
  exact b7 (c d (λh=>by rw[b]at h;cases h) (λ_ h=>by rw[f]at h;cases h) λ_ _=>rfl)
end Sx
namespace Sx
variable{h:Int}{j:Nat}{g:Nat->Bool}{Z:Nat->Tk}{k:Toks}
def oY(g:Nat->Bool):Nat:=((List.range 32).filter g).length
def Xq(g:Nat->Bool):oY g<=32:=eY (sU _ _) (by rw[tJ];exact a9 _)
def NV{g:Nat->Bool}{j:Nat}(d:g j=false):∀n:Nat,((List.range n).filter (a7 g j true)).length=((List.range n).filter g).length+if j<n then 1 else 0
 |0=>rfl
 |n+1=>by
  rw[mC,r9,r9,ew,ew,NV d n];by_cases c:n=j
  .subst c;have a:[n].filter (a7 g n true)=[n]:=by rw[oR,dN];rfl
   have e:[n].filter g=[]:=by rw[oR,d];rfl
   rw[a,e,if_neg (ri _),if_pos (mL _)];rfl
  .have a:[n].filter (a7 g j true)=[n].filter g:=by rw[oR,oR,dP c];rfl
   rw[a];by_cases b:j<n
   .rw[if_pos b,if_pos a3];omega
   .rw[if_neg b,if_neg a3];omega
def Xr(b:j<32)(a:g j=false):oY (a7 g j true)=oY g+1:=by unfold oY;rw[NV a,if_pos b]
structure GoS (k:Toks) (kt:Nat->Tk) (h:Int) (g:Nat->Bool):Prop where
 so:∀i,i<32->g i=true->(k.b i).L=true/\TRe k h (fT i (k.b i).gen)
 st:g (a5 h)=true
def zY(k:Toks)(Z:Nat->Tk)(g:Nat->Bool)(i:Nat):Prop:=(k.b i).L=true->g i=false->bk k.b (Z i).A=true->g (a5 (Z i).A)=false
def GoS.step(E:TkI k)(F:KtS k Z)(H:GoS k Z h g)(N:j<32)(u:(k.b j).L=true)(G:bk k.b (Z j).A=true)(J:g (a5 (Z j).A)=true):GoS k Z h (a7 g j true):=by
 refine⟨λi f C=>?_,?_⟩
 .by_cases c:i=j
  .subst c;refine⟨u,?_⟩;have K:=F.up i f;have A:=(H.so _ (iq _) J).2;rw[<-(ug E.Q K).1 G |>.2.2.2]at A;obtain⟨L,M,_⟩:=AM E f u;exact A.step (wm.2 ⟨L,by rw[M,<-F.eq i f u]⟩)
  .rw[dP c]at C;exact H.so i f C
 .by_cases c:a5 h=j
  .rw[c,dN]
  .rw[dP c];exact H.st
open Classical in
def GoS.fin(hk:TkI k)(hs:KtS k Z)(hg:bk k.b h=true)(hu:di h)(H:GoS k Z h g)(hc:∀i,i<32->zY k Z g i){i:Nat}(hi:i<32):g i=((k.b i).L&&decide (TRe k h (fT i (k.b i).gen))):=by
 rw[sQ,dH,fY];refine⟨H.so i hi,λ⟨h1,h2⟩=>?_⟩;have key:∀y,TRe k h y->bk k.b y=true/\di y/\g (a5 y)=true:=λy hy=>by
  induction hy with
  |refl=>exact⟨hg,hu,H.st⟩
  | @step z y _ hx ih=>
   obtain⟨m1,m2⟩:=wm.1 hx;obtain⟨j,hj,hq,rfl⟩:=PQ hk m1;obtain⟨_,s2,s3,s4,s5⟩:=AM hk hj hq;refine⟨s3,s5,?_⟩;rw[s4];rw[s2,<-hs.eq j hj hq]at m2;cases hgj:g j with
   |true=>rfl
   |false=>
    have:=hc j hj hq hgj (by rw[m2];exact ih.1);rw[m2,ih.2.2]at this;cases this
 have:=(key _ h2).2.2
 rwa [(tw hi (hk.Q i hi)).1]at this
attribute [local irreducible] b6 eF ez eH eB eM dC ec dU dx
def zct(a:TkI k)(c:di h)(b:bk k.b h=false):c5 a6 152 [.d (jF k.b Z),I h] (T3 (.d (jF k.b Z)) (.d (fq .c [])) (I 4)):=by
 refine dq func152 ?_;refine bo (mn a.Q a.rt c) ?_;conv=>whnf
 rw[wL b];exact ej (a4 rfl (ub (GM λO J x h=>pd _ _ _ _ O J x h)))
open Classical in
def RH(o:TkI k)(S:KtS k Z)(T:di h)(C:bk k.b h=true):c5 a6 152 [.d (jF k.b Z),I h] (T3 (.d (jF (gI k h).b Z)) (.d (fq .c (qL (vv k h)))) (I 0)):=by
 have K:=mn o.Q o.rt T;rw[m7 C]at K;have aa:=iq h;refine dq func152 ?_;refine bo (K) (a4 (λht=>b3 (gM ht) a3) λ_=>?_);refine bo (K) (a4 ⟨(a3:(0:Int)<=(a5 h:Int)),(a3:(a5 h:Int)<32)⟩ ?_);conv=>whnf
 refine⟨.d (.ar 32 .c λi=>.I (a7 (λ_=>false) (a5 h) true i)),by show SV.d (.ar 32 .c (a7 (λ_=>D.I false) (a5 h) (.I true)))=_;rw[iU D.I (λ_=>false) (a5 h) true],?_⟩;refine dX c6 (λs:(Nat->Bool)×Bool=>GoS k Z h s.1/\(s.2=false->∀i,i<32->zY k Z s.1 i)) (λs=>2*(32 - oY s.1)+bif s.2 then 1 else 0) (λs=>[(8,B s.2)]) (λs=>⟨[.d (jF k.b Z),.d (ZT.d zR),.d (.ar 32 .c λi=>.I (s.1 i))],[],[]⟩) (a7 (λ_=>false) (a5 h) true,true) ⟨⟨λi n t=>?_,(dN _ _ _:a7 (λ_=>false) (a5 h) true (a5 h)=true)⟩,ef⟩ ⟨rfl,trivial⟩ rfl (λi=>⟨a9 _,a9 _,a9 _⟩) ?_
 .have t:a7 (λ_=>false) (a5 h) true i=true:=t;by_cases c:i=a5 h
  .subst c;refine⟨(p7 C).2,?_⟩;rw[<-(ug o.Q T).1 C |>.2.2.2];exact .refl
  .rw[dP c]at t;cases t
 rintro⟨g,b⟩ ⟨W,M⟩;apply a4<;>intro w
 .have w:b=true:=w;subst w;refine dX c6 (λs:Nat×(Nat->Bool)×Bool=>s.1<=32/\GoS k Z h s.2.1/\(s.2.2=false->s.2.1=g/\∀i,i<s.1->zY k Z g i)/\(s.2.2=true->oY g<oY s.2.1)) (λs=>32 - s.1) (λs=>[(9,I s.1),(8,B s.2.2)]) (λs=>⟨[.d (jF k.b Z),.d (ZT.d zR),.d (.ar 32 .c λi=>.I (s.2.1 i))],[],[]⟩) (0,g,false) ⟨dG _,W,λ_=>⟨rfl,λi n=>b3 n (jm _)⟩,ef⟩ ⟨rfl,rfl,trivial⟩ rfl (λi=>⟨a9 _,a9 _,a9 _⟩) ?_;rintro⟨j,d,b⟩ ⟨P,q,m,l⟩;have P:j<=32:=P;have q:GoS k Z h d:=q;have m:b=false->d=g/\∀i,i<j->zY k Z g i:=m;have l:b=true->oY g<oY d:=l;apply a4<;>intro z
  .have a:j<32:=eZ z
   have u:(0:Int)<=(j:Int)/\(j:Int)<32:=⟨a3,a3⟩;have U:=S.up j a;have ab:=iq (Z j).A;have e:(((B5 (k.b j)==1&&!d j)&&decide (m6 k.b (Z j).A>=0))&&d (m6 k.b (Z j).A).toNat)=((((k.b j).L&&!d j)&&bk k.b (Z j).A)&&d (a5 (Z j).A)):=by
    rw[IV,BM];cases t:bk k.b (Z j).A with
    |false=>simp
    |true=>rw[m7 t,nE]
   refine dL 9 (a4 u (c9 (mn o.Q o.rt U) (λ_ h=>h) (a4 u (a4 (λ_=>u) (a4 (λt=>?_) ?_)))))
   .have t:((B5 (k.b j)==1&&!d j)&&decide (m6 k.b (Z j).A>=0))=true:=t;rw[BM,dH]at t;show 0<=m6 k.b (Z j).A/\m6 k.b (Z j).A<32;rw[m7 t.2];exact⟨a3,a3⟩
   apply a4<;>intro f
   .have f:((((k.b j).L&&!d j)&&bk k.b (Z j).A)&&d (a5 (Z j).A))=true:=e.symm.trans f;simp only[dH,jL]at f;have N:=Xr a f.1.1.2;refine a4 u ?_;conv=>whnf
    refine⟨.d (.ar 32 .c λi=>.I (a7 d j true i)),by show SV.d (.ar 32 .c (a7 (λi=>D.I (d i)) j (.I true)))=_;rw[iU D.I d j true],?_⟩;refine b2 (x:=(j:Int)+1) ?_;conv=>whnf
    refine⟨(j+1,a7 d j true,true),⟨a,q.step o S a f.1.1.1 f.1.2 f.2,ef,λ_=>?_⟩,by show 32 -(j+1)<32 - j;omega,⟨rfl,rfl,trivial⟩,⟨rfl,rfl⟩,rfl⟩;show oY g<oY (a7 d j true);cases b with
    |true=>have:=l rfl;omega
    |false=>rw[(m rfl).1]at N ⊢;omega
   .have f:((((k.b j).L&&!d j)&&bk k.b (Z j).A)&&d (a5 (Z j).A))=false:=e.symm.trans f;refine b2 (x:=(j:Int)+1) ?_;conv=>whnf
    refine⟨(j+1,d,b),⟨a,q,λF=>⟨(m F).1,λi n=>?_⟩,l⟩,by show 32 -(j+1)<32 - j;omega,⟨rfl,rfl,trivial⟩,⟨rfl,rfl⟩,rfl⟩;obtain⟨G,J⟩:=m F;by_cases c:i=j
    .subst c;intro q1 q2 q3;rw[<-G]at q2 ⊢;rw[q1,q2,q3]at f;simpa using f
    .exact J i (by have n:i<j+1:=n;omega)
  .have a:j=32:=e9 z
   subst a;conv=>whnf
   refine⟨(d,b),⟨q,λF=>?_⟩,?_,⟨rfl,trivial⟩,⟨rfl,rfl⟩,rfl⟩
   .obtain⟨G,J⟩:=m F;show∀i,i<32->zY k Z d i;rw[G];exact J
   .show 2*(32 - oY d)+(bif b then 1 else 0)<2*(32 - oY g)+1;have ac:=Xq d;cases b with
    |true=>have:oY g<oY d:=l rfl;show 2*(32 - oY d)+1<2*(32 - oY g)+1;omega
    |false=>rw[(m rfl).1];exact mL _
 .have w:b=false:=w;subst w;have A:=λi n=>W.fin o S C T (M rfl) (i:=i) n;generalize hp:(λy=>decide (TRe k h y))=p;have O:∀i,i<32->g i=((k.b i).L&&p (fT i (k.b i).gen)):=λi n=>(A i n).trans (by rw[<-hp]);have V:vv k h=(ga k.b 32).filter p:=by rw[<-hp];unfold vv;rw[vb]
  have eK:(gI k h).b=((ga k.b 32).filter p).foldl e8 k.b:=by unfold gI;rw[C,dZ];show(vv k h).foldl e8 k.b=_;rw[V]
  rw[eK,V];have Q:∀i,i<=32->∀x∈(ga k.b i).filter p,di x:=λi n x hx=>by obtain⟨j,P,hn,rfl⟩:=Et.1 (jM.1 hx).1;exact wh a3 (o.Q j a3)
  refine oA 11 .c (c7 []) rfl ?_;refine dX c6 (λi:Nat×Nat=>i.1<=32) (λi=>32 - i.1) (λi=>[(13,I i.1),(11,gx 1 i.2 .c (qL ((ga k.b i.1).filter p)))]) (λi=>⟨[.d (jF k.b Z),.d (ZT.d zR),.d (.ar 32 .c λi=>.I (g i)),.d (jF (((ga k.b i.1).filter p).foldl e8 k.b) Z)],[i.2],[]⟩) (0,0) (dG _) ⟨rfl,rfl,trivial⟩ rfl (λi=>⟨a9 _,a9 _,a9 _⟩) ?_;rintro⟨i,v⟩ n;have n:i<=32:=n;apply a4<;>intro z
  .have a:i<32:=eZ z
   have Y:(qL ((ga k.b i).filter p)).length<=i:=by have:=AK k.b i;rw[dD]at this ⊢;exact eY (sU _ _) this
   have r:=OP k.b p a;rw[<-O i a]at r;refine a4 ⟨(a3:(0:Int)<=(i:Int)),(a3:(i:Int)<32)⟩ ?_;apply a4<;>intro f
   .have f:g i=true:=f;rw[f]at r;have r:(ga k.b (i+1)).filter p=(ga k.b i).filter p++[fT i (k.b i).gen]:=r;obtain⟨⟨L,R⟩,_⟩:=FV o.Q o.rt (Q i n);have hV:=Ki L R (wh a3 (o.Q i a):di (fT i (k.b i).gen));have E:((ga k.b (i+1)).filter p).foldl e8 k.b=e8 (((ga k.b i).filter p).foldl e8 k.b) (fT i (k.b i).gen):=by rw[r,pq];rfl
    refine bo (Bw o.Q a) (Or.inl (a4 ⟨rfl,by show(qL ((ga k.b i).filter p)).length+1<=2147483648;omega⟩ (fg (List.range 12) [(11,512)] (c9 (Bw o.Q a) (λ_ h=>h) (c9 hV (λ_ h=>h) (b2 (x:=(i:Int)+1) ?_))))));conv=>whnf
    refine⟨(i+1,v+1),a,by show 32 -(i+1)<32 - i;omega,⟨rfl,?_,trivial⟩,⟨?_,rfl⟩,rfl⟩
    .show _=some (gx 1 (v+1) .c (qL ((ga k.b (i+1)).filter p)));rw[r,EU,<-kA];rfl
    .rw[E];rfl
   .have f:g i=false:=f;rw[f]at r;have r:(ga k.b (i+1)).filter p=(ga k.b i).filter p:=r.trans (gk _);refine b2 (x:=(i:Int)+1) ?_;conv=>whnf
    refine⟨(i+1,v),a,by show 32 -(i+1)<32 - i;omega,⟨rfl,?_,trivial⟩,⟨?_,rfl⟩,rfl⟩
    .show _=some (gx 1 v .c (qL ((ga k.b (i+1)).filter p)));rw[r];rfl
    .rw[r];rfl
  .have a:i=32:=e9 z
   subst a;exact b7
end Sx
namespace Sx
variable{t:Tb}
def gp(t:Tb):Prop:=∀i j,di ((t.r i).cells j)
def yc:di 0:=⟨a8,a8⟩
def gp.I3{b f:fG}{R:Nat->Rg}(h:gp ⟨b,R⟩){k:Nat}{r:Rg}(u:∀j,di (r.cells j)):gp ⟨f,a7 R k r⟩:=λi j=>by
 show di ((a7 R k r i).cells j);by_cases c:i=k
 .rw[c,dN];exact u j
 .rw[dP c];exact h i j
def gp.get(h:gp t)(x:Int)(j:Nat):di ((b1 t x).cells j):=by
 unfold b1;cases bk t.b x with
 |true=>exact h _ j
 |false=>exact yc
def gp.set(h:gp t){x:Int}{r:Rg}(f:∀j,di (r.cells j)):gp (hZ t x r):=by
 unfold hZ;cases(hQ t x r==0)with
 |true=>exact h.I3 f
 |false=>exact h
def gp.raise(h:gp t)(x E:Int):gp (iW t x E):=by
 unfold iW;cases(lx t x E==0)with
 |true=>exact h.I3 (h _)
 |false=>exact h
def gp.F6:∀(l:List Int) {t:Tb},gp t->gp (gT t l)
 |[],_,h=>h
 |x::l,t,h=>gp.F6 l (t:=jZ t x) (by
  unfold jZ;cases bk t.b x with
  |true=>exact h.I3 λ_=>yc
  |false=>exact h)
def gp.cut(h:gp t)(x:Int):gp (fC t x):=by
 unfold fC;cases bk t.b x with
 |false=>exact h
 |true=>
  refine gp.raise ?_ x 0;unfold qz;generalize eT t x=l;have f:∀(l:List Int) (n:Tb),gp n->gp (l.foldl (tY t x) n):=λl=>by
   induction l with
   |nil=>exact λ_ h=>h
   |cons y l u=>exact λn h=>u _ (h.set λj=>by
    show di (bif _ then 0 else _);cases(Nat.blt j 8&&pA t x ((b1 n y).cells j))with
    |true=>exact yc
    |false=>exact h.get y j)
  exact f l t h
def gp.gr(h:gp t)(x E:Int):gp (ln t x E):=by
 unfold ln;cases(!bk t.b x||!bk t.b E)with
 |true=>exact h
 |false=>
  cases((fl t x != x)||kz t x E)with
  |true=>exact h
  |false=>
   cases(decide (fk t E+nB t x>6))with
   |true=>exact h
   |false=>exact h.raise x E
def gp.new(h:gp t)(E n:Int):gp (ik t E n):=by
 unfold ik oC;cases pc t E n with
 |true=>exact h
 |false=>
  cases(jR t E n==0)with
  |true=>exact h.I3 λ_=>yc
  |false=>exact h
def gp.gone{s:St}(h:gp s.t)(x:Int):gp (jG s x).t:=gp.F6 (dJ s.t x) h
def gp.F7{s:St}(h:gp s.t)(x M:Int):gp (iv s x M).1.t:=by
 unfold iv;cases(kY (jH s.o s.t x M false).toNat==0)with
 |true=>exact gp.gone (s:={s with o:=gL s.o s.t x M false}) h x
 |false=>exact h
def Im{α:Type}{f:St->α->Except Int (St×List Rn)}(j:∀s x W b,gp s.t->f s x=.ok (W,b)->gp W.t):∀(l:List α) (s:St) (b:List Rn) {W:St} {a:List Rn},gp s.t->gQ f l s b=.ok (W,a)->gp W.t
 |[],s,b,W,a,d,h=>by cases h;exact d
 |x::l,s,b,W,a,d,h=>by
  unfold gQ at h;cases g:f s x with
  |error e=>rw[g]at h;cases h
  |ok p=>
   obtain⟨E,i⟩:=p;rw[g]at h;exact Im j l E (b++i) (j s x E i d g) h
def Og:∀(l:List Int) (s:St) (b:List Rn),gp s.t->gp (jP s l b).1.t
 |[],s,b,h=>h
 |x::l,s,b,h=>Og l (jG s x) (b++j3 s x) (gp.gone h x)
def Om{s:St}(i:gp s.t){M:Int}{W:St}{b:List Rn}(hd:lh s M=.ok (W,b)):gp W.t:=by
 unfold lh at hd;cases j:gQ iP (j4 (s.box M.toNat) (s.box M.toNat).n.toNat) (mb s M) []with
 |error e=>rw[j]at hd;cases hd
 |ok p=>
  obtain⟨E,S⟩:=p;rw[j]at hd;have m:=Im (f:=iP) (λs x W b h d=>by
   unfold iP at d;cases i:((x.D==0)||x.sh)with
   |true=>rw[i]at d;cases d;exact h
   |false=>
    rw[i]at d;cases g:s.alive x.J.toNat with
    |true=>
     rw[g]at d;obtain⟨_,d⟩:=jd (show dV _ _=_ from d);cases d;exact h
    |false=>
     rw[g]at d;cases d;exact gp.gone h x.D) _ (mb s M) _ i j
  have l:gp (fZ E M).t:=by unfold fZ;generalize(eg E.k (jk M) (dI E.k.b)).foldl gI E.k=k2;exact m
  have hd:(let a:=fZ E M;let p:=jP a (fj a.o a.t (gf M) (dW a.t.b)) S;gQ (jY M) (fj p.1.o p.1.t (gA M) (dW p.1.t.b)) p.1 p.2)=.ok (W,b):=hd;generalize fZ E M=a at hd l;have hd:(let p:=jP a (fj a.o a.t (gf M) (dW a.t.b)) S;gQ (jY M) (fj p.1.o p.1.t (gA M) (dW p.1.t.b)) p.1 p.2)=.ok (W,b):=hd;have k:=Og (fj a.o a.t (gf M) (dW a.t.b)) a S l;generalize jP a (fj a.o a.t (gf M) (dW a.t.b)) S=p at hd k;have hd:gQ (jY M) (fj p.1.o p.1.t (gA M) (dW p.1.t.b)) p.1 p.2=.ok (W,b):=hd;refine Im (f:=jY M) (λs x W b h d=>?_) _ p.1 _ k hd;unfold jY at d;obtain⟨_,d⟩:=jd d;have:=h.F7 x M;rw[show iv s x M=(W,b) from yg d]at this;exact this
def yf(W:St)(_:Rs)(_:List Rn):Prop:=gp W.t
section
variable {s:St} {M:Int} {c:Call} {G:Rn}
def WH(d:gp s.t)(k:di c.s):Al yf (fr s M c G):=by
 have a:∀{W:St} {r:Rs} {b:List Rn},gp W.t->Al yf (.ok (W,r,b)):=λh=>rp (Q:=yf) h;have e:∀w,Al yf (lJ s M c w):=λw=>dQ λ_=>dQ λ_=>dQ λ_=>dQ λ_=>a d;have f:Al yf (pJ s M):=dQ λ_=>gz (λ_=>dQ λ_=>a d) λ_=>a d;have g:∀r:Rg,(∀j,di (r.cells j))->Al yf (lu s c r):=λr i=>dQ λ_=>rp (d.set i);refine dQ λ_=>gz (λ_=>dQ λ_=>dQ λ_=>gz (λ_=>dQ λ_=>a (d.new _ _)) λ_=>a (d.new _ _)) λ_=>gz (λ_=>dQ λ_=>dQ λ_=>dQ λ_=>gz (λ_=>g _ (d.get _)) λ_=>dQ λ_=>dQ λ_=>g _ (d.get _)) λ_=>
  gz (λ_=>e 0) λ_=>gz (λ_=>e 1) λ_=>gz (λ_=>dQ λ_=>dQ λ_=>dQ λ_=>a (d.set λ_=>yc)) λ_=>gz (λ_=>dQ λ_=>a (gp.gone d c.r)) λ_=>
  gz (λ_=>dQ λ_=>dQ λ_=>dQ λ_=>dQ λ_=>a (d.cut _)) λ_=>gz (λ_=>dQ λ_=>dQ λ_=>dQ λ_=>a (d.gr _ _)) λ_=>
  gz (λ_=>dQ λ_=>dQ λ_=>dQ λ_=>a (d.cut _)) λ_=>gz (λ_=>dQ λ_=>dQ λ_=>dQ λ_=>a d) λ_=>gz (λ_=>dQ λ_=>dQ λ_=>rp (d.F7 _ _)) λ_=>
  gz (λ_=>dQ λ_=>dQ λ_=>dQ λ_=>dQ λ_=>dQ λh=>a d) λ_=>gz (λ_=>dQ λ_=>dQ λ_=>a d) λ_=>
  gz (λ_=>dQ λ_=>dQ λ_=>gz (λ_=>dQ λ_=>dQ λ_=>?_) λ_=>gz (λ_=>dQ λ_=>dQ λ_=>dQ λ_=>dQ λ_=>a (d.cut _)) λ_=>dQ λ_=>a d) λ_=>
  gz (λ_=>f) λ_=>gz (λ_=>f) λ_=>gz (λ_=>dQ λ_=>a d) λ_=>gz (λ_=>dQ λ_=>dQ λ_=>dQ λ_=>a (d.set λj=>?_)) λ_=>gz (λ_=>dQ λ_=>dQ λ_=>a d) λ_=>
  gz (λ_=>CW λ_ _ h=>Om d h) λ_=>gz (λ_=>dQ λ_=>CW λ_ _ h=>Om d h) λ_=>gz (λ_=>dQ λ_=>a d) λ_ _ _ _ h=>by cases h
 .cases(iw s.o s.t c.r c.a true==0)<;>exact a d
 .show di (a7 _ _ _ j);unfold a7;split
  .exact k
  .exact d.get _ j
end
def X0{s:St}(a:gp s.t){M:Int}{c:Call}{G:Rn}(f:di c.s):gp (dz s M c G).1.t:=by
 unfold dz;cases d:fr s M c G with
 |error e=>exact a
 |ok x=>
  obtain⟨W,r,b⟩:=x;exact WH a f _ _ _ d
end Sx
end Go.Proofs.YtfbhkfhbnkncoaaGreatDoor
