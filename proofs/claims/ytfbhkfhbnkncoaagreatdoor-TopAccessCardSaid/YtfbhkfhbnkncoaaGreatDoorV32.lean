import Derived.Test.YtfbhkfhbnkncoaaGreatDoorV31
set_option linter.all false
namespace Go.Proofs.YtfbhkfhbnkncoaaGreatDoor
open Go.RowKit Tryz
open Tryz renaming prog→a6
namespace Sx
attribute [local irreducible] b6 eF ez eH eB eM dC ec dU dx
variable{F h:Int}{l:List Rn}{i q:Nat}
def RC(a b:Int):c5 a6 201 [I a,I b] (B (jy a b)):=by
 refine dq func201 ?_;refine a4 rfl (uY rfl)
def zaV(a b:Int):0<=gY a b/\gY a b<=4:=by
 unfold gY;cases h:jy a b
 .show(0:Int)<=0/\(0:Int)<=4;omega
 .have:=pI h;show 0<=(a+31) / 32/\(a+31) / 32<=4;omega
def zci(a b:Int):c5 a6 135 [I a,I b] (I (gY a b)):=by
 have g:=zaV a b;refine dq func135 ?_;refine dX c6 (λi:Nat=>(i:Int)<=gY a b) (λi=>4 - i) (λi=>[(5,I i)]) (λ_=>⟨[],[],[]⟩) 0 g.1 ⟨rfl,trivial⟩ rfl (λi=>⟨a9 _,a9 _,a9 _⟩) ?_;intro i j;refine bo (RC a b) ?_;conv=>whnf
 have d:∀h:jy a b=true,1<=a/\a<=128/\gY a b=(a+31) / 32:=λh=>⟨(pI h).1,(pI h).2.1,by unfold gY;rw[h];rfl⟩;refine⟨λ_=>eD (x:=32*i) a3 a3,?_⟩;apply a4<;>intro c
 .have c:(jy a b&&decide (32*(i:Int)<a))=true:=c;rw[dH]at c;have e:=d c.1;have f:32*(i:Int)<a:=gM c.2;refine b2 (x:=(i:Int)+1) ?_;conv=>whnf
  exact⟨i+1,a3,a3,⟨rfl,trivial⟩,⟨rfl,rfl⟩,rfl⟩
 .have c:(jy a b&&decide (32*(i:Int)<a))=false:=c;refine b7 ?_;have:(i:Int)=gY a b:=by
   cases h:jy a b with
   |true=>
    have e:=d h;rw[h]at c;have f:¬32*(i:Int)<a:=lK c;omega
   |false=>
    have:gY a b=0:=by unfold gY;rw[h];rfl
    omega
  rw[this];rfl
def t2:Ty:=.ar 2 .c
def i7(r:Rn):D:=.ar 2 .c λk=>.z .i64 (match k with
 |0=>r.at_
 |_=>r.n)
def nJ(l:List Rn)(F:Int):D:=.H (fq t2 (l.map i7)) (.H (.z .i64 F) .un)
def xm(l:List Rn)(F:Int):D:=.H (.X l.length t2 λi=>i7 (l.getD i c8)) (.H (.z .i64 F) .un)
def KK{α:Type}{t:Ty}{e:α->D}(x:α){l:List α}{O:Ro}{a:List Value}(h:dM O (fq t (l.map e)) a):dM O (.X l.length t λi=>e (l.getD i x)) a:=by obtain⟨A,c,rfl,h⟩:=h;have h:dM O (.X (l.map e).length t (c7 (l.map e))) [.slice A (l.map e).length c]:=⟨A,c,rfl,h⟩;rw[dD]at h ⊢;exact h.congr λi b=>(qe e x b).symm
def R2(l:List Rn)(F:Int):(SV.d (nJ l F)).le (.d (xm l F)):=λO J x h=>by refine⟨λf=>?_,ef⟩;obtain⟨e,⟨a,b,rfl,c,d⟩,rfl⟩:=h.1 rfl;exact⟨_,⟨a,b,rfl,KK c8 c,d⟩,rfl⟩
abbrev qL(l:List Int):List D:=l.map λx=>.z .i64 x
def Wy{r:Rn}{k:Nat}(h:k<(32*r.n).toNat):(nh r).take (k+1)=(nh r).take k++[32*r.at_+k]:=by rw[js,nh,pr,Gt h];rfl
def J7(g:∀y∈l,dw y)(r:l.length<=1000)(F:Int):c5 a6 139 [.d (nJ l F)] (.d (fq .c (qL (gj l)))):=by
 refine c5.le (b:=[.d (xm l F)]) ?_ ⟨R2 l F,trivial⟩;refine dq func139 ?_;refine oA 3 .c (c7 []) rfl ?_;refine dX c6 (λi:Nat×Nat=>i.1<=l.length) (λi=>l.length - i.1) (λi=>[(4,I i.1),(3,gx 1 i.2 .c (qL (gj (l.take i.1))))]) (λi=>⟨[.d (xm l F)],[i.2],[]⟩) (0,0) (dG _) ⟨rfl,rfl,trivial⟩ rfl (λi=>⟨a9 _,a9 _,a9 _⟩) ?_;rintro⟨i,v⟩ j;have j:i<=l.length:=j;refine b2 (x:=(l.length:Int)) ?_;apply a4<;>intro f
 .have a:i<l.length:=by
   have:(i:Int)<(l.length:Int):=b8 f
   omega
  obtain⟨s,t,u⟩:dw (l.getD i c8):=g _ (by rw[eu,ed a];simp);have c:=vW (l:=l.take i) λy h=>g y (sV h);have q:=sF (l:=l.take i) λy h=>g y (sV h);have d:gj (l.take (i+1))=gj (l.take i)++nh (l.getD i c8):=by rw[js,ed a,eu,ed a];simp only[gj,mA,Option.toList,rh,wS,gk,tO]
  have p:(l.take i).length<=1000:=by rw[kO];omega
  generalize gj (l.take i)=L0 at c d;refine dX c6 (λk:Nat×Nat=>k.1<=(32*(l.getD i c8).n).toNat) (λk=>(32*(l.getD i c8).n).toNat - k.1) (λk=>[(5,I k.1),(3,gx 1 k.2 .c (qL (L0++(nh (l.getD i c8)).take k.1)))]) (λk=>⟨[.d (xm l F)],[k.2],[]⟩) (0,v) (dG _) ⟨rfl,by rw[yp,gk];rfl,trivial⟩ rfl (λi=>⟨a9 _,a9 _,a9 _⟩) ?_;rintro⟨k,v⟩ m;have m:k<=(32*(l.getD i c8).n).toNat:=m;refine fS (i:=i) (n:=l.length) (a4 ⟨a8,a8⟩ (b2 (x:=32*(l.getD i c8).n) ?_));apply a4<;>intro f
  .have a:k<(32*(l.getD i c8).n).toNat:=by
    have:(k:Int)<32*(l.getD i c8).n:=b8 f
    omega
   refine fS (i:=i) (n:=l.length) (a4 ⟨a8,a8⟩ (b2 (x:=32*(l.getD i c8).at_) (b2 (x:=32*(l.getD i c8).at_+k) (Or.inl ?_))));conv=>whnf
   have o:(qL (L0++(nh (l.getD i c8)).take k)).length<=1000*2048+k:=by rw[dD,ew,kO];omega
   refine⟨⟨rfl,by show(qL (L0++(nh (l.getD i c8)).take k)).length+1<=2147483648;omega⟩,?_⟩;refine b2 (x:=(k:Int)+1) ?_;conv=>whnf
   refine⟨(k+1,v+1),a,by show(32*(l.getD i c8).n).toNat -(k+1)<(32*(l.getD i c8).n).toNat - k;omega,⟨rfl,?_,trivial⟩,⟨rfl,rfl⟩,rfl⟩;have e:qL (L0++(nh (l.getD i c8)).take (k+1))=qL (L0++(nh (l.getD i c8)).take k)++[.z .i64 (32*(l.getD i c8).at_+k)]:=by rw[Wy a,<-iJ];exact je
   show _=some (gx 1 (v+1) .c (qL (L0++(nh (l.getD i c8)).take (k+1))));rw[e,<-kA];rfl
  .have a:k=(32*(l.getD i c8).n).toNat:=by
    have:¬(k:Int)<32*(l.getD i c8).n:=b8 f
    omega
   refine b2 (x:=(i:Int)+1) ?_;conv=>whnf
   subst a;refine⟨(i+1,v),by show i+1<=l.length;omega,by show l.length -(i+1)<l.length - i;omega,⟨rfl,?_,trivial⟩,⟨rfl,rfl⟩,rfl⟩;show some (gx 1 v .c (qL (L0++(nh (l.getD i c8)).take (32*(l.getD i c8).n).toNat)))=some (gx 1 v .c (qL (gj (l.take (i+1)))));rw[d,pX (by rw[nh,dD,tJ];exact a9 _)]
 .have a:i=l.length:=by
   have:¬(i:Int)<(l.length:Int):=b8 f
   omega
  subst a;refine b7 ?_;rw[gv];rfl
def Ii{b:Int}(a:b=1\/b=2\/b=4\/b=8)(c:0<=F):F<=(F+b - 1) / b*b/\(F+b - 1) / b*b<=F+7/\∀i,F<=i->(i.tmod b=0↔i % b=0)/\(i % b=0->(F+b - 1) / b*b<=i)/\(i=(F+b - 1) / b*b->i % b=0):=by rcases a with rfl|rfl|rfl|rfl<;>refine⟨a3,a3,λi d=>⟨?_,a3,a3⟩⟩<;>rw[vI a3]
def zb6(k:∀y∈l,dw y)(z:l.length<=1000){a b:Int}(g:0<=F/\F<=1000000)(o:di a):c5 a6 138 [.d (nJ l F),I a,I b] (I (p6 F (32*dK l) a b)):=by
 have f:=vW k;have C:=sF k;have v:=o.1;have w:=o.2;refine dq func138 ?_;refine bo (J7 k z F) (a4 (eD (x:=((qL (gj l)).length:Int)) a3 (by rw[dD];omega)) ?_);conv=>whnf
 have m:((qL (gj l)).length:Int)=32*dK l:=by rw[dD];exact f
 generalize(qL (gj l)).length=N at m;refine dX c6 (λi:Nat=>jy a b=true->F+i<=(F+b - 1) / b*b) (λi=>8 - i) (λi=>[(8,I (F+i))]) (λ_=>⟨[.d (nJ l F)],[],[]⟩) 0 (λh=>by have:=(Ii (pI h).2.2 g.1).1;omega) ⟨by rw[show F+((0:Nat):Int)=F by omega];rfl,trivial⟩ rfl (λi=>⟨a9 _,a9 _,a9 _⟩) ?_;intro i j;refine bo (RC a b) ?_;conv=>whnf
 have p:jy a b=true->(F+i<=F+7)/\_:=λh=>⟨by have:=(Ii (pI h).2.2 g.1).2.1;have:=j h;omega,Ii (pI h).2.2 g.1⟩;refine⟨λh=>eD (x:=F+i+a) a3 (by have:=(p h).1;omega),?_⟩;apply a4<;>intro c
 .have c:(jy a b&&decide (F+(i:Int)+a<=(N:Int)))=true:=c;rw[dH]at c;obtain⟨J,G,s,t⟩:=p c.1;have u:=j c.1;have K:F+(i:Int)+a<=N:=gM c.2;obtain⟨n,q,r⟩:=t (F+i) a3;have L:=(pI c.1).2.2;refine a4 ?_ ?_
  .conv=>whnf
   have M:=Int.emod_nonneg (F+i) (show b≠0 by omega);have E:=Int.emod_lt_of_pos (F+i) (show 0<b by omega);rw[vI a3];exact⟨a3,iL (by simp only[eU];omega) ef (by simp only[eU];omega)⟩
  apply a4<;>intro d
  .have d:((F+(i:Int)).tmod b==0)=true:=d;have e:(F+b - 1) / b*b=F+i:=by have:=q (n.1 (eq_of_beq d));omega
   refine b7 ?_;have:p6 F (32*dK l) a b=F+i:=by unfold p6;rw[c.1,e,eI a3];rfl
   rw[this];rfl
  .have d:((F+(i:Int)).tmod b==0)=false:=d;have A:F+i≠(F+b - 1) / b*b:=λe=>by rw[gG.2 (n.2 (r e))]at d;cases d
   refine b2 (x:=F+i+1) ?_;conv=>whnf
   exact⟨i+1,λ_=>a3,a3,⟨by rw[show F+((i+1:Nat):Int)=F+i+1 by omega];rfl,trivial⟩,⟨rfl,rfl⟩,rfl⟩
 .have c:(jy a b&&decide (F+(i:Int)+a<=(N:Int)))=false:=c;refine b7 ?_;have:p6 F (32*dK l) a b= -1:=by
   unfold p6;cases h:jy a b with
   |false=>rfl
   |true=>
    rw[h]at c;have s:¬F+(i:Int)+a<=N:=lK c;have u:=j h;rw[fe a3];rfl
  rw[this];rfl
def qa(r:Rn)(p:Int):Bool:=decide (r.at_<=p)&&decide (p<r.at_+r.n)
def Ci(l:List Rn):Prop:=∀i j,i<j->j<l.length->∀p,¬(qa (l.getD i c8) p=true/\qa (l.getD j c8) p=true)
def tz(l:List Rn)(i:Nat)(q:Int)(p:Nat):Bool:=(l.take i).any (λr=>qa r p)||(qa (l.getD i c8) p&&decide ((p:Int)<q))
def HX(f:Nat->Bool):SV:=.d (.ar 64 .c λp=>.I (f p))
def zeu:tz l i ((l.getD i c8).at_+((0:Nat):Int))=λp:Nat=>(l.take i).any λr=>qa r p:=by
 funext p
 unfold tz qa;cases h:decide ((l.getD i c8).at_<=(p:Int))with
 |false=>simp
 |true=>
  rw[fe (p:=(p:Int)<(l.getD i c8).at_+((0:Nat):Int)) (by have:=gM h;omega)];simp
def zev(f:i<l.length)(e:Ci l)(c:qa (l.getD i c8) q=true):tz l i q q=false:=by
 unfold tz;rw[fe (Int.lt_irrefl _),lO,wP];refine vF.2 λh=>?_;obtain⟨r,g,d⟩:=qo.1 h;obtain⟨j,b⟩:=Mn.1 g;have a:j<i:=by have:=(iA.1 b).1;rw[kO]at this;omega
 rw[tI a]at b;refine e j i a f q ⟨?_,c⟩;rw[eu,b];exact d
def zex(a:qa (l.getD i c8) q=true):a7 (λp=>D.I (tz l i q p)) q (.I true)=λp=>.I (tz l i (q+1) p):=by
 funext p
 unfold a7 tz;split
 .rename_i e;subst e;rw[a,eI (a3:(p:Int)<p+1)];simp
 .rw[show decide ((p:Int)<(q:Int)+1)=decide ((p:Int)<(q:Int)) from decide_eq_decide.2 a3]
def zew(a:i<l.length):tz l i ((l.getD i c8).at_+(l.getD i c8).n)=λp:Nat=>(l.take (i+1)).any λr=>qa r p:=by
 funext p
 rw[js,List.any_append,ed a];unfold tz;have e:l.getD i c8=l[i]:=by rw[eu,ed a];rfl
 rw[e];simp only[Option.toList,z3,List.any_nil,wP,qa];cases decide (l[i].at_<=(p:Int))<;>cases h:decide ((p:Int)<l[i].at_+l[i].n)<;>rfl
def RB(o:∀y∈l,dw y)(G:l.length<=1000)(v:Ci l)(u:0<=F/\F<=32*dK l):c5 a6 140 [.d (nJ l F)] (B true):=by
 refine c5.le (b:=[.d (xm l F)]) ?_ ⟨R2 l F,trivial⟩;refine dq func140 ?_;refine dX c6 (λi:Nat=>i<=l.length) (λi=>l.length - i) (λi=>[(5,I i),(4,I (dK (l.take i)))]) (λi=>⟨[.d (xm l F),HX λp=>(l.take i).any λr=>qa r p],[],[]⟩) 0 (dG _) ⟨rfl,rfl,trivial⟩ rfl (λi=>⟨a9 _,a9 _,a9 _⟩) ?_;intro i C;refine b2 (x:=(l.length:Int)) ?_;apply a4<;>intro m
 .have a:i<l.length:=eZ m
  obtain⟨J,K,L⟩:dw (l.getD i c8):=o _ (by rw[eu,ed a];simp);have s:=sF (l:=l.take i) λy A=>o y (sV A);have w:(l.take i).length<=1000:=by rw[kO];omega
  have t:=EG a;refine dL 14 ?_;conv=>whnf
  have g:(0:Int)<=(i:Int)/\(i:Int)<(l.length:Int):=⟨a3,a3⟩;refine⟨g,?_⟩;refine a4 ⟨a8,a8⟩ (a4 g (a4 ⟨a8,a8⟩ (a4 (λ_=>eD (x:=(l.getD i c8).at_+(l.getD i c8).n) a3 a3) (a4 (λn=>?_) λ_=>?_))))
  .exfalso;have n:((((decide ((l.getD i c8).n<1)||decide ((l.getD i c8).n>64))||decide ((l.getD i c8).at_<0))||decide ((l.getD i c8).at_>63))||decide ((l.getD i c8).at_+(l.getD i c8).n>64))=true:=n;simp only[pP,fY]at n;omega
  refine dX c6 (λk:Nat=>(k:Int)<=(l.getD i c8).n) (λk=>64 - k) (λk=>[(8,I ((l.getD i c8).at_+k))]) (λk=>⟨[.d (xm l F),HX (tz l i ((l.getD i c8).at_+k))],[],[]⟩) 0 a3 ⟨by rw[show(l.getD i c8).at_+((0:Nat):Int)=(l.getD i c8).at_ by omega];rfl,trivial⟩ ?_ (λi=>⟨a9 _,a9 _,a9 _⟩) ?_
  .rw[zeu]
  intro k E;refine b2 (x:=(l.getD i c8).at_+(l.getD i c8).n) ?_;apply a4<;>intro m
  .have j:(k:Int)<(l.getD i c8).n:=by have:(l.getD i c8).at_+(k:Int)<(l.getD i c8).at_+(l.getD i c8).n:=gM m;omega
   obtain⟨q,z⟩:∃q:Nat,(l.getD i c8).at_+(k:Int)=q:=⟨((l.getD i c8).at_+(k:Int)).toNat,a3⟩;have d:qa (l.getD i c8) q=true:=by unfold qa;rw[eI a3,eI a3];rfl
   have c:=zev a v d;rw[z];refine a4 ⟨a3,a3⟩ (a4 (λh=>b3 (c.symm.trans h) a8) λ_=>?_);refine a4 ⟨a3,a3⟩ ?_;conv=>whnf
   refine⟨HX (tz l i (q+1)),dE (λf=>SV.d (.ar 64 .c f)) (zex d),?_⟩;refine b2 (x:=(q:Int)+1) ?_;conv=>whnf
   have e:(l.getD i c8).at_+((k+1:Nat):Int)=(q:Int)+1:=a3
   exact⟨k+1,a3,a3,⟨by rw[e];rfl,trivial⟩,⟨by rw[e];rfl,rfl⟩,rfl⟩
  .have j:(k:Int)=(l.getD i c8).n:=by have:¬(l.getD i c8).at_+(k:Int)<(l.getD i c8).at_+(l.getD i c8).n:=lK m;omega
   refine b2 (x:=dK (l.take i)+(l.getD i c8).n) (b2 (x:=(i:Int)+1) ?_);conv=>whnf
   exact⟨i+1,a,a3,⟨rfl,by rw[t];rfl,trivial⟩,⟨by rw[j,zew a];rfl,rfl⟩,rfl⟩
 .have a:i=l.length:=e9 m
  subst a;rw[gv];have s:=sF o;refine a4 (λ_=>eD (x:=32*dK l) a3 a3) (b7 ?_);show B (decide (F>=0)&&decide (F<=32*dK l))=B true;rw[eI u.1,eI u.2];rfl
def sn(r:Rg):D:=.H (.z .i64 r.up) (.H (.z .i64 r.E) (.H (nJ r.rs r.len) (.H (.ar 8 .c λi=>.z .i64 (r.cells i)) .un)))
def FG:Ty:=.p .c (.p .c (.p (.p .c (.p .c .u)) (.p (.ar 8 .c) .u)))
def kG(b:fG)(R:Nat->Rg):D:=.H (p5 b) (.H (.ar 32 FG λi=>sn (R i)) .un)
def vx(b:fG)(R:Nat->Rg)(k:Nat)(r:Rg):kG b (a7 R k r)=.H (p5 b) (.H (.ar 32 FG (a7 (λi=>sn (R i)) k (sn r))) .un):=by rw[iU sn R k r];rfl
def zdz(b:fG)(h:Int):decide (m6 b h<0)=!bk b h:=by
 cases a:bk b h
 .rw[wL a];rfl
 .rw[m7 a];exact fe a3
def BM(b:fG)(h:Int):decide (m6 b h>=0)=bk b h:=by
 cases a:bk b h
 .rw[wL a];rfl
 .rw[m7 a];exact eI a3
variable {b:fG} (hb:j8 b) (hr:m8 b) (R:Nat->Rg)
include hb hr
def Rz(a:di h):c5 a6 153 [.d (kG b R),I h] (B (bk b h)):=by
 refine dq func153 ?_;refine bo (mn hb hr a) (b7 ?_);rw[<-BM b h];rfl
def zb9(e:di h):c5 a6 246 [.d (kG b R),I h] (T2 (.d (sn (bif bk b h then R (a5 h)else iY))) (I (bif bk b h then 0 else 4))):=by
 have c:=iq h;refine dq func246 ?_;refine bo (mn hb hr e) ?_;conv=>whnf
 cases a:bk b h with
 |false=>
  rw[wL a];exact ej b7
 |true=>
  rw[m7 a];refine a4 (λd=>b3 (gM d) a3) λ_=>?_;exact a4 ⟨a3,a3⟩ b7
omit hb hr in
def Ot{R:Nat->Rg}:nq R h i i=R i:=by
 unfold nq;rw[show Nat.blt i i=false from by cases e:Nat.blt i i with
  |false=>rfl
  |true=>exact b3 (dF e) a3]
 rfl
omit hb hr in
def Yb{R:Nat->Rg}(a:((nq R h i i).up==h)=true):nq R h (i+1)=a7 (nq R h i) i {nq R h i i with up:=0}:=by
 rw[Ot]at a ⊢
 funext k
 unfold a7 nq;split
 .rename_i e;subst e;rw[show Nat.blt k (k+1)=true from eA,a];rfl
 .rw[show Nat.blt k (i+1)=Nat.blt k i from by rw[sQ];simp;omega]
omit hb hr in
def X9{R:Nat->Rg}(a:((nq R h i i).up==h)=false):nq R h (i+1)=nq R h i:=by
 rw[Ot]at a
 funext k
 unfold nq;by_cases e:k=i
 .subst e;rw[a];simp
 .rw[show Nat.blt k (i+1)=Nat.blt k i from by rw[sQ];simp;omega]
def zb3(f:di h):c5 a6 248 [.d (kG b R),I h] (T2 (.d (bif bk b h then kG (e8 b h) (xi R h)else kG b R)) (I (bif bk b h then 0 else 4))):=by
 have g:=iq h;refine dq func248 ?_;conv=>whnf
 refine bo (mn hb hr f) ?_;conv=>whnf
 cases e:bk b h with
 |false=>
  rw[wL e];exact ej b7
 |true=>
  rw[m7 e];refine a4 (λd=>b3 (gM d) a3) λ_=>?_;conv=>whnf
  refine bo (Ki hb hr f) (a4 ⟨a3,a3⟩ ?_);conv=>whnf
  refine⟨.d (kG (e8 b h) (a7 R (a5 h) iY)),by rw[vx];rfl,?_⟩;unfold xi;generalize a7 R (a5 h) iY=R1;refine dX c6 (λi=>i<=32) (λi=>32 - i) (λi=>[(7,I i)]) (λi=>⟨[.d (kG (e8 b h) (nq R1 h i)),.d (ZT.d ye)],[],[]⟩) 0 (dG _) ⟨rfl,trivial⟩ rfl (λi=>⟨a9 _,a9 _,a9 _⟩) ?_;intro i j;apply a4<;>intro d
  .have a:i<32:=eZ d
   refine a4 ⟨a3,a3⟩ ?_;apply a4<;>intro c
   .have c:((nq R1 h i i).up==h)=true:=c;refine a4 ⟨a3,a3⟩ ?_;conv=>whnf
    refine⟨.d (kG (e8 b h) (nq R1 h (i+1))),?_,?_⟩
    .rw[Yb c,vx];rfl
    refine b2 (x:=(i:Int)+1) ?_;conv=>whnf
    exact⟨i+1,a,a3,⟨rfl,trivial⟩,⟨rfl,rfl⟩,rfl⟩
   .have c:((nq R1 h i i).up==h)=false:=c;refine b2 (x:=(i:Int)+1) ?_;conv=>whnf
    exact⟨i+1,a,a3,⟨rfl,trivial⟩,⟨by rw[X9 c];rfl,rfl⟩,rfl⟩
  .have a:i=32:=e9 d
   subst a;exact b7
def zcl{E:Int}(p:di E)(n:Int):c5 a6 208 [.d (kG b R),I E,I n] (T3 (.d (kG (oC ⟨b,R⟩ E n).b (oC ⟨b,R⟩ E n).r)) (I (qd ⟨b,R⟩ E n)) (I (jR ⟨b,R⟩ E n))):=by
 refine dq func208 ?_;refine c9 (Rz hb hr R p) (λ_ h _=>h) ?_;apply a4<;>intro a
 .have a:((E != 0)&&!bk b E)=true:=a;have e:jR ⟨b,R⟩ E n=4:=by unfold jR;rw[a];rfl
  refine b7 ?_;rw[oC,qd,e];rfl
 have a:((E != 0)&&!bk b E)=false:=a;apply a4<;>intro c
 .have c:(decide (n<0)||decide (n>64))=true:=c;have e:jR ⟨b,R⟩ E n=2:=by
   have g:(decide (n>=0)&&decide (n<=64))=false:=by rw[vF];intro h;simp at h c;omega
   unfold jR;rw[a,g];rfl
  refine b7 ?_;rw[oC,qd,e];rfl
 have g:(decide (n>=0)&&decide (n<=64))=true:=by have c:(decide (n<0)||decide (n>64))=false:=c;simp at c ⊢;omega
 refine bo (RA hb) ?_;conv=>whnf
 cases d:(kH b).isSome with
 |false=>
  have e:jR ⟨b,R⟩ E n=7:=by unfold jR;rw[a,g,d];rfl
  have m:dY b=0:=by unfold dY;cases h:kH b;rfl;rw[h]at d;cases d
  rw[m];refine ej (b7 ?_);rw[oC,qd,e];rfl
 |true=>
  have e:jR ⟨b,R⟩ E n=0:=by unfold jR;rw[a,g,d];rfl
  obtain⟨i,_,_,_,_,_,l,_,f,j,k,_⟩:=AN hb hr d;have q:=iq (dY b);refine⟨λo=>b3 (eq_of_beq o) (g8 f),λ_=>?_⟩;refine bo (mn j k l) ?_;conv=>whnf
  rw[m7 f];refine a4 ⟨a3,a3⟩ ?_;conv=>whnf
  refine⟨.d (kG (fK b) (a7 R (a5 (dY b)) ⟨E,n,[],0,λ_=>0⟩)),by rw[vx];rfl,?_⟩;refine b7 ?_;rw[oC,qd,e];rfl
def zcw(k:di h){r:Rg}(l:0<=r.E/\r.E<=64)(g:∀y∈r.rs,dw y)(i:r.rs.length<=1000)(f:Ci r.rs)(d:0<=r.len/\r.len<=32*dK r.rs):c5 a6 144 [.d (kG b R),I h,.d (sn r)] (T2 (.d (kG b (bif bk b h then a7 R (a5 h) {r with up:=(R (a5 h)).up}else R))) (I (bif bk b h then 0 else 4))):=by
 have e:=iq h;refine dq func144 ?_;refine bo (mn hb hr k) ?_;conv=>whnf
 cases c:bk b h with
 |false=>
  rw[wL c];exact ej b7
 |true=>
  rw[m7 c];refine⟨λj=>b3 (gM j) a3,λ_=>?_⟩;refine c9 (RB g i f d) (λ_ h _=>h) (a4 (λa=>?_) λ_=>?_)
  .have a:((decide (r.E<0)||decide (r.E>64))||!true)=true:=a;simp at a;omega
  refine a4 ⟨a3,a3⟩ (a4 ⟨a3,a3⟩ ?_);conv=>whnf
  refine⟨.d (kG b (a7 R (a5 h) {r with up:=(R (a5 h)).up})),by rw[vx];rfl,?_⟩;exact b7
omit hr in
def J6:c5 a6 42 [.d (kG b R)] (.d (fq .c (qL (dW b)))):=by
 unfold dW;rw[vb];refine dq func42 ?_;refine oA 3 .c (c7 []) rfl ?_;refine dX c6 (λi:Nat×Nat=>i.1<=32) (λi=>32 - i.1) (λi=>[(4,I i.1),(3,gx 1 i.2 .c (qL (ga b i.1)))]) (λi=>⟨[.d (kG b R)],[i.2],[]⟩) (0,0) (dG _) ⟨rfl,rfl,trivial⟩ rfl (λi=>⟨a9 _,a9 _,a9 _⟩) ?_;rintro⟨i,v⟩ d;have d:i<=32:=d;apply a4<;>intro g
 .have a:i<32:=eZ g
  have f:(qL (ga b i)).length<=i:=by have:=AK b i;rw[dD]at this ⊢;exact this
  refine a4 ⟨a3,a3⟩ ?_;apply a4<;>intro c
  .have c:(B5 (b i)==1)=true:=c;have e:ga b (i+1)=ga b i++[fT i (b i).gen]:=by rw[ga,vm a,PM c];rfl
   refine bo (Bw hb a) (Or.inl (a4 ⟨rfl,by show(qL (ga b i)).length+1<=2147483648;omega⟩ (b2 (x:=(i:Int)+1) ?_)));conv=>whnf
   refine⟨(i+1,v+1),a,by show 32 -(i+1)<32 - i;omega,⟨rfl,?_,trivial⟩,⟨rfl,rfl⟩,rfl⟩;show _=some (gx 1 (v+1) .c (qL (ga b (i+1))));rw[e,show qL (ga b i++[fT i (b i).gen])=qL (ga b i)++[.z .i64 (fT i (b i).gen)] from je,<-kA];rfl
  .have e:ga b (i+1)=ga b i:=by
    have c:(B5 (b i)==1)=false:=c;have j:(b i).L=false:=by
     cases h:(b i).L with
     |false=>rfl
     |true=>rw[PL h]at c;cases c
    rw[ga,vm a,j];exact gk _
   refine b2 (x:=(i:Int)+1) ?_;conv=>whnf
   refine⟨(i+1,v),a,by show 32 -(i+1)<32 - i;omega,⟨rfl,?_,trivial⟩,⟨rfl,rfl⟩,rfl⟩;show _=some (gx 1 v .c (qL (ga b (i+1))));rw[e];rfl
 .have a:i=32:=e9 g
  subst a;exact b7
end Sx
namespace Sx
attribute [local irreducible] b6 eF ez eH eB eM dC ec dU dx
variable{E a h x:Int}{d f l:Int->Nat}{args:List SV}{i k:Nat}{P:Program}{t:Tb}
def EP{f:FuncId}{v:SV}{G:Prop->Prop}{K:SV->Prop}(q:Prop)(h:q->c5 P f args v)(a:∀p,(q->p)->G p)(b:K v):eF P f args G K:=by unfold eF;exact⟨v,a _ h,b⟩
def gU(t:Tb):D:=kG t.b t.r
def RO(a:TbR t)(h:Int):(t.r (a5 h)).up=A0 t h:=by
 unfold A0;rcases a.J3 _ (iq h)with e|e
 .rw[e,show bk t.b 0=false from by
   cases h:bk t.b 0
   .rfl
   .exact b3 rfl (g8 h)];rfl
 .rw[e];rfl
def Bh(a:TbR t)(h:Int):t.r (a5 h)={t.r (a5 h)with up:=A0 t h}:=by rw[<-RO a h]
def Lo(a:TbR t)(h:Int):di (A0 t h):=by
 unfold A0;cases bk t.b (t.r (a5 h)).up
 .exact⟨(a8:(0:Int)<=0),(a8:(0:Int)<4294967296)⟩
 .exact a.up _ (iq h)
def FN:A0 t h=0\/bk t.b (A0 t h)=true:=by
 unfold A0;cases a:bk t.b (t.r (a5 h)).up
 .exact .inl rfl
 .exact .inr a
def zb8(a:TbR t)(c:di h):c5 a6 246 [.d (gU t),I h] (T2 (.d (sn (b1 t h))) (I (bif bk t.b h then 0 else 4))):=by
 have:=zb9 a.Q a.ret t.r c;unfold b1;cases b:bk t.b h with
 |false=>rw[b]at this;exact this
 |true=>rw[b]at this;rw[<-Bh a h];exact this
def J5(m:TbR t)(p:Rk t l)(y:di h)(o:bk t.b h=true):c5 a6 216 [.d (gU t),I a,I h] (B (lr t a 40 h)):=by
 refine dq func216 ?_;refine dX c6 (λs:Nat×Int=>di s.2/\(s.2≠0->bk t.b s.2=true/\l s.2<s.1/\lr t a 40 h=lr t a s.1 s.2)/\(s.2=0->lr t a 40 h=false)) (λs=>s.1) (λs=>[(2,I s.2)]) (λ_=>⟨[.d (gU t)],[],[]⟩) (40,h) ⟨y,λ_=>⟨o,p.le h,rfl⟩,λe=>b3 e (g8 o)⟩ ⟨rfl,trivial⟩ rfl (λi=>⟨a9 _,a9 _,a9 _⟩) ?_;rintro⟨k,x⟩ ⟨z,r,u⟩;apply a4<;>intro f
 .have f:(x != 0)=true:=f;obtain⟨q,n,g⟩:=r (b8 f);have w:=iq x;obtain⟨k,rfl⟩:∃j,k=j+1:=⟨k - 1,by show k=k - 1+1;have:l x<k:=n;omega⟩;refine bo (mn m.Q m.ret z) ?_;conv=>whnf
  rw[m7 q];refine a4 ⟨(a3:(0:Int)<=(a5 x:Int)),(a3:(a5 x:Int)<32)⟩ ?_;conv=>whnf
  have d:(t.r (a5 x)).up=A0 t x:=RO m x;have g:lr t a 40 h=bif A0 t x==0 then false else(A0 t x==a)||lr t a k (A0 t x):=g
  apply a4<;>intro b
  .have b:((t.r (a5 x)).up==a)=true:=b;rw[d]at b;have c:=eq_of_beq b;refine b7 ?_;rw[g,b,c];show B (a != 0)=_;cases v:a==0<;>simp[bne,v]
  .have b:((t.r (a5 x)).up==a)=false:=b;rw[d]at b;conv=>whnf
   have n:l x<k+1:=n;refine⟨(k,A0 t x),⟨Lo m x,λc=>⟨FN.resolve_left c,by have:=p.lt x c;show l (A0 t x)<k;omega,?_⟩,λc=>?_⟩,by show k<k+1;omega,⟨by show some (I (t.r (a5 x)).up)=some (I (A0 t x));rw[d],trivial⟩,⟨rfl,rfl⟩,rfl⟩
   .rw[g,b,fc.2 c];rfl
   .have c:A0 t x=0:=c;rw[g,c];rfl
 .have f:x=0:=by have:(x != 0)=false:=f;simpa using this
  refine b7 ?_;rw[u f];rfl
def ml(a:TbR t)(b:di h):c5 a6 153 [.d (gU t),I h] (B (bk t.b h)):=Rz a.Q a.ret _ b
def zbR(a:TbR t):c5 a6 42 [.d (gU t)] (.d (fq .c (qL (dW t.b)))):=J6 a.Q _
def BG(a:TbR t)(b:di h):c5 a6 206 [.d (gU t),I h] (I (b1 t h).up):=by
 refine dq func206 ?_;exact bo (zb8 a b) b7
def u7(a:bk t.b h=true):(b1 t h).up=A0 t h:=by unfold b1;rw[a];rfl
def Rw{t:Tb}(c:TbR t){l:Int->Nat}(g:Rk t l):∀(k:Nat) {h:Int},k<=40->di h->(h≠0->l h<k)->c5 a6 207 [.d (gU t),I h] (I (bif bk t.b h then(qC t k h:Int)+1 else 0))
 |k,h,f,i,d=>by
  refine dq func207 ?_;refine bo (ml c i) ?_;conv=>whnf
  cases a:bk t.b h with
  |false=>
   exact ej b7
  |true=>
   obtain⟨k,rfl⟩:∃j,k=j+1:=⟨k - 1,by have:=d (g8 a);omega⟩;have d:=d (g8 a);have e:di (b1 t h).up:=by rw[u7 a];exact Lo c h
   have m:=HP (t:=t) k (b1 t h).up;refine b0 (dL 7 (c9 (BG c i) (λ_ h=>h) (c9 (Rw c g k a3 e (by rw[u7 a];intro b;have:=g.lt h b;omega)) (λ_ h=>h) (a4 (eD (x:=1+bif bk t.b (b1 t h).up then(qC t k (b1 t h).up:Int)+1 else 0) (by cases bk t.b (b1 t h).up<;>simp<;>omega) (by cases bk t.b (b1 t h).up<;>simp<;>omega)) (b7 ?_)))));rw[u7 a];have:(qC t (k+1) h:Int)+1=1+bif bk t.b (A0 t h)then(qC t k (A0 t h):Int)+1 else 0:=by
    rw[show qC t (k+1) h=bif A0 t h==0 then 0 else qC t k (A0 t h)+1 from rfl];cases b:A0 t h==0 with
    |true=>
     rw[eq_of_beq b,wg _];rfl
    |false=>
     rw[FN.resolve_left (b8 b)];simp only[eQ,dZ];omega
   rw[this];rfl
def Rv(b:TbR t)(a:Rk t d)(c:di h):c5 a6 207 [.d (gU t),I h] (I (fk t h)):=Rw b a 40 (a9 _) c λ_=>a.le h
def RJ{t:Tb}(c:TbR t){m:Int->Nat}(l:Rk t m):∀(k:Nat) {h:Int},di h->(h≠0->m h<k)->c5 a6 141 [.d (gU t),I h] (I (bif bk t.b h then sH t k h else 0))
 |k,h,d,g=>by
  refine dq func141 ?_;refine bo (ml c d) (c9 (BG c d) (λ_ h _=>h) ?_);conv=>whnf
  cases a:bk t.b h with
  |false=>
   refine b0 (bo (ml c d) ?_);conv=>whnf
   rw[a];exact b0 b7
  |true=>
   obtain⟨k,rfl⟩:∃j,k=j+1:=⟨k - 1,by have:=g (g8 a);omega⟩;have g:=g (g8 a);have i:di (b1 t h).up:=by rw[u7 a];exact Lo c h
   have e:sH t (k+1) h=bif A0 t h==0 then h else sH t k (A0 t h):=rfl
   apply a4<;>intro b
   .have b:(true&&(b1 t h).up != 0)=true:=b;rw[u7 a]at b;have f:A0 t h≠0:=b8 b
    refine dL 6 (c9 (BG c d) (λ_ h=>h) (c9 (RJ c l k i (by rw[u7 a];intro n;have:=l.lt h n;omega)) (λ_ h=>h) (b7 ?_)));rw[u7 a,e,FN.resolve_left f,fc.2 f];rfl
   .have b:(true&&(b1 t h).up != 0)=false:=b;rw[u7 a]at b;have f:A0 t h=0:=b8 b
    refine bo (ml c d) ?_;conv=>whnf
    rw[a];refine ej (b7 ?_);rw[e,f];rfl
def pe(b:TbR t)(a:Rk t d)(c:di h):c5 a6 141 [.d (gU t),I h] (I (fl t h)):=RJ b a 40 c λ_=>a.le h
def RF(c:TbR t){j:Int->Nat}(i:Rk t j)(e:di a)(d:di h):c5 a6 214 [.d (gU t),I a,I h] (B (kz t a h)):=by
 refine dq func214 ?_;refine bo (ml c e) (c9 (ml c d) (λ_ h _=>h) (EP (bk t.b h=true) (λf=>J5 c i (a:=a) d f) (λp g _ b=>g ?_) ?_))
 .have b:(bk t.b a&&bk t.b h)=true:=b;rw[dH]at b;exact b.2
 exact b7
def Ym{p:Int->Bool}{l:List Int}(a:i<l.length):(l.take (i+1)).filter p=(l.take i).filter p++bif p (l.getD i 0)then[l.getD i 0]else[]:=by rw[js,ed a,r9,eu,ed a];simp only[Option.toList,tO,oR,Cv];cases p l[i]<;>rfl
def EU(l:List Int)(x:Int):qL (l++[x])=qL l++[.z .i64 x]:=je
def qG{l:List Int}(a:i<l.length):l.getD i 0∈l:=by rw[eu,ed a];exact oi a
def zcc(d:TbR t)(u:di h)(m:bk t.b h=true):c5 a6 247 [.d (gU t),I h] (.d (fq .c (qL (iG t h)))):=by
 have k:=(zbR d).out (iE .c (λx=>D.z .i64 x) 0 (dW t.b));have s:=oV t.b;have o:∀x∈dW t.b,di x/\bk t.b x=true:=λx g=>(mM d.Q d.ret).1 g;unfold iG;generalize dW t.b=l at k s o;refine dq func247 ?_;refine bo (k) (oA 5 .c (c7 []) rfl ?_);refine dX c6 (λi:Nat×Nat=>i.1<=l.length) (λi=>l.length - i.1) (λi=>[(7,I i.1),(5,gx 1 i.2 .c (qL ((l.take i.1).filter λy=>!kW t h y)))]) (λi=>⟨[.d (gU t)],[i.2],[]⟩) (0,0) (dG _) ⟨rfl,rfl,trivial⟩ rfl (λi=>⟨a9 _,a9 _,a9 _⟩) ?_;rintro⟨i,v⟩ n;have n:i<=l.length:=n;refine b2 (x:=(l.length:Int)) ?_;apply a4<;>intro j
 .have a:i<l.length:=eZ j
  have q:(qL ((l.take i).filter λy=>!kW t h y)).length<=i:=by rw[dD];exact eY (sU _ _) (List.length_take_le _ _)
  have e:=Ym (p:=λy=>!kW t h y) a;obtain⟨g,r⟩:=o _ (qG a);have c:(0:Int)<=(i:Int)/\(i:Int)<(l.length:Int):=⟨a3,a3⟩;refine dL 13 (c9 (ml d u) (λ_ h=>h) (a4 (λ_=>c) (c9 (BG d g) (λ_ h _=>h) ?_)));apply a4<;>intro b
  .have b:(bk t.b h&&(b1 t (l.getD i 0)).up==h)=true:=b;rw[m,po]at b;have f:(!kW t h (l.getD i 0))=true:=by unfold kW bne;rw[b];rfl
   rw[f]at e;refine a4 c (Or.inl (a4 ⟨rfl,by show(qL ((l.take i).filter λy=>!kW t h y)).length+1<=2147483648;omega⟩ (b2 (x:=(i:Int)+1) ?_)));conv=>whnf
   refine⟨(i+1,v+1),a,by show l.length -(i+1)<l.length - i;omega,⟨rfl,?_,trivial⟩,⟨rfl,rfl⟩,rfl⟩;show _=some (gx 1 (v+1) .c (qL ((l.take (i+1)).filter λy=>!kW t h y)));rw[e,show(bif true then[l.getD i 0]else[])=[l.getD i 0] from rfl,EU,<-kA];rfl
  .have b:(bk t.b h&&(b1 t (l.getD i 0)).up==h)=false:=b;rw[m,po]at b;have f:(!kW t h (l.getD i 0))=false:=by unfold kW bne;rw[b];rfl
   rw[f,show(bif false then[l.getD i 0]else[])=[] from rfl,gk]at e;refine b2 (x:=(i:Int)+1) ?_;conv=>whnf
   refine⟨(i+1,v),a,by show l.length -(i+1)<l.length - i;omega,⟨rfl,?_,trivial⟩,⟨rfl,rfl⟩,rfl⟩;show _=some (gx 1 v .c (qL ((l.take (i+1)).filter λy=>!kW t h y)));rw[e];rfl
 .have a:i=l.length:=e9 j
  subst a;refine b7 ?_;rw[gv];rfl
def zbK{f:FuncId}{t:Ty}{L:List D}(b:eV 0 0 0 args=true)(h:b6 P f args ⟨[],[],[]⟩ λo m=>∃v,o=.ret (.ob (.mr 0 v))/\m.o=[.row v L.length t (c7 L)]):c5 P f args (.d (fq t L)):=by refine JZ b ?_;refine uT 0 0 1 ⟨a9 _,a9 _,dG _⟩ (fa h ?_);rintro o m ⟨v,rfl,a⟩;refine⟨_,SV.le_refl _,?_,v,rfl,by simp[MS.take,a]⟩;rw[a];rfl
def zbF(a:TbR t)(c:Rk t f)(d:x≠0):(pre t k x).length<=33:=by
 have b:=EB (m:=x::dW t.b) (wG a.toTbOk c (k:=k) d) λy e=>by
  rcases xQ a.toTbOk e with rfl|h
  .exact fQ
  .exact fA _ ((mM a.Q a.ret).2 h)
 have:=oV t.b;simp only[jV]at b;omega
def zee(d:TbR t)(c:Rk t f)(e:x≠0){l:List Int}(b:iG t x=l):((l.take i).flatMap (pre t k)).length<=32:=by have a:=zbF d c (k:=k+1) e;rw[show pre t (k+1) x=x::(iG t x).flatMap (pre t k) from rfl,b,<-nF i l,mA,jV,ew]at a;omega
def zcB(b:TbR t)(c:di h)(a:bk t.b h=false):c5 a6 211 [.d (gU t),I h] (.d (fq .c [])):=by
 refine dq func211 ?_;refine bo (ml b c) ?_;conv=>whnf
 rw[a];exact ej (a4 rfl (a4 ⟨_,rfl,pd _ _ _ _⟩ rfl))
def RM{t:Tb}(d:TbR t){q:Int->Nat}(j:Rk t q):∀(k:Nat) {h:Int},di h->bk t.b h=true->40<=k+q h->c5 a6 211 [.d (gU t),I h] (.d (fq .c (qL (pre t k h))))
 |0,h,p,m,C=>b3 (j.le h) a3
 |k+1,h,p,m,C=>by
  refine zbK rfl (zy func211 rfl ey rfl rfl ?_);refine bo (ml d p) ?_;conv=>whnf
  rw[m];have r:=g8 m;have G:=j.le h;have c:∀y∈iG t h,di y/\bk t.b y=true/\40<=k+q y:=λy z=>by have f:=(vc d.toTbOk).1 z;have M:=zh d.toTbOk j r z;exact⟨f.1.1,f.1.2,a3⟩
  have s:=(zcc d p m).out (iE .c (λx=>D.z .i64 x) 0 (iG t h));have E:(iG t h).length<=32:=eY (sU _ _) (oV t.b);rw[show pre t (k+1) h=h::(iG t h).flatMap (pre t k) from rfl];have b:∃l,iG t h=l:=⟨_,rfl⟩;obtain⟨l,b⟩:=b;rw[b]at c s E ⊢;refine b0 (.inr (bo (s) ?_));conv=>whnf
  have g:=λi=>zee (k:=k) d j r (i:=i) b;refine dX c6 (λi:Nat×Nat=>i.1<=l.length) (λi=>l.length - i.1) (λi=>[(7,I i.1),(5,.ob (.mr 0 i.2))]) (λi=>⟨[.d (gU t)],[],[.row i.2 (qL (h::(l.take i.1).flatMap (pre t k))).length .c (c7 (qL (h::(l.take i.1).flatMap (pre t k))))]⟩) (0,0) (dG _) ⟨rfl,rfl,trivial⟩ rfl (λi=>⟨a9 _,a9 _,a9 _⟩) ?_;rintro⟨i,v⟩ u;have u:i<=l.length:=u;refine b2 (x:=(l.length:Int)) ?_;apply a4<;>intro f
  .have a:i<l.length:=eZ f
   have n:(0:Int)<=(i:Int)/\(i:Int)<(l.length:Int):=⟨a3,a3⟩;obtain⟨J,K,L⟩:=c _ (qG a);have A:c5 a6 211 [.d (gU t),I (l.getD i 0)] (.d (fq .c (qL (pre t k (l.getD i 0))))):=by exact RM d j k J K L
   have F:=g i;have o:=g (i+1);have w:(l.take (i+1)).flatMap (pre t k)=(l.take i).flatMap (pre t k)++pre t k (l.getD i 0):=by rw[js,ed a,mA,eu,ed a];simp only[Option.toList,tO,rh,wS,gk]
   rw[w,ew]at o;refine fg (List.range 9) [(7,0)] (a4 n (c9 A (λ_ h=>h) (a4 ⟨rfl,by show(qL (h::(l.take i).flatMap (pre t k))).length+(qL (pre t k (l.getD i 0))).length<=2147483648;rw[dD,dD,jV];omega⟩ (b2 (x:=(i:Int)+1) ?_))));conv=>whnf
   refine⟨(i+1,v+1),a,by show l.length -(i+1)<l.length - i;omega,⟨rfl,rfl,trivial⟩,⟨?_,rfl⟩,rfl⟩;have e:qL (h::(l.take (i+1)).flatMap (pre t k))=qL (h::(l.take i).flatMap (pre t k))++qL (pre t k (l.getD i 0)):=by rw[w,<-r7];exact je
   show _=(⟨[.d (gU t)],[],[.row (v+1) (qL (h::(l.take (i+1)).flatMap (pre t k))).length .c (c7 (qL (h::(l.take (i+1)).flatMap (pre t k))))]⟩:MS);rw[e,ew,<-rO];rfl
  .have a:i=l.length:=e9 f
   subst a;rw[gv];conv=>whnf
   exact⟨v,rfl,rfl⟩
def Bx(b:TbR t){e:Int->Nat}(d:Rk t e)(c:di h):c5 a6 211 [.d (gU t),I h] (.d (fq .c (qL (dJ t h)))):=by
 unfold dJ;cases a:bk t.b h with
 |false=>exact zcB b c a
 |true=>exact RM b d 40 c a a3
def zcj(b:TbR t){g:Int->Nat}(f:Rk t g)(c:di E)(n:Int):c5 a6 142 [.d (gU t),I E,I n] (T3 (.d (gU (ik t E n))) (I (jg t E n)) (I (mW t E n))):=by
 refine dq func142 ?_;refine c9 (ml b c) (λ_ h _=>h) (c9 (Rv b f c) (λ_ h _=>h) ?_);conv=>whnf
 have e:((((E==0)||bk t.b E)&&decide (n>=0))&&decide (n<=64)&&decide (fk t E>5))=pc t E n:=by have d:decide (fk t E>5)=decide (fk t E>=6):=decide_eq_decide.2 a3;rw[d];unfold pc jR;cases a:E==0<;>cases i:bk t.b E<;>cases j:decide (n>=0)<;>cases k:decide (n<=64)<;>cases l:(kH t.b).isSome<;>simp[bne,a]
 apply a4<;>intro a
 .have a:pc t E n=true:=e▸a;refine b7 ?_;rw[ik,jg,mW,a];rfl
 .have a:pc t E n=false:=e▸a;refine bo (zcl b.Q b.ret t.r c n) (b7 ?_);rw[ik,jg,mW,a];rfl
def zcp(f:TbR t)(j:Rk t l)(n:∀x,l x<39)(i:di h)(k:di E):c5 a6 215 [.d (gU t),I h,I E] (T2 (.d (gU (iW t h E))) (I (lx t h E))):=by
 have d:=QJ j n h E;refine dq func215 ?_;refine bo (ml f i) (c9 (ml f k) (λ_ h _ _=>h) ?_);apply a4<;>intro b
 .have b:(!bk t.b h||((E != 0)&&!bk t.b E))=true:=b;refine b7 ?_;have e:lx t h E=4:=by rw[lx,b];rfl
  rw[iW,e];rfl
 have b:(!bk t.b h||((E != 0)&&!bk t.b E))=false:=b;have o:bk t.b h=true:=by rw[gX]at b;simpa using b.1
 have m:=iq h;refine EP ((E != 0)=true) (λc=>J5 f j (a:=h) k (by
  rw[gX]at b;have g:=b.2;rw[c,po]at g;simpa using g)) (λp q _ c=>q c) ?_
 apply a4<;>intro c
 .have c:xM t h E=true:=d.trans c;refine b7 ?_;have e:lx t h E=12:=by rw[lx,b,c];rfl
  rw[iW,e];rfl
 .have c:xM t h E=false:=d.trans c;have e:lx t h E=0:=by rw[lx,b,c];rfl
  refine bo (mn f.Q f.ret i) ?_;conv=>whnf
  rw[m7 o];refine a4 ⟨a3,a3⟩ ?_;conv=>whnf
  refine⟨.d (kG t.b (a7 t.r (a5 h) {t.r (a5 h)with up:=E})),by rw[vx];rfl,?_⟩;refine b7 ?_;rw[iW,e];rfl
end Sx
end Go.Proofs.YtfbhkfhbnkncoaaGreatDoor
