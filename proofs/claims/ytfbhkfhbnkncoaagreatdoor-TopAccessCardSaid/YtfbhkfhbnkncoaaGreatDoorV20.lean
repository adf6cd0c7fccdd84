import Derived.Test.YtfbhkfhbnkncoaaGreatDoorV19
set_option linter.all false
namespace Go.Proofs.YtfbhkfhbnkncoaaGreatDoor
open Go.RowKit Tryz
open Tryz renaming prog→a6
namespace Sx
attribute [local irreducible] b6 eF fR ez eH eB eM fx dC ec dU dx s0 vH uI vG
def VJ(t:Tb)(r a A:Int)(b:Bool){l:Int->Nat}(k:Rk t l)(i:vO {b1 t r with cells:=a7 (b1 t r).cells a.toNat A}):c5 a6 339 [.d (eN t),H r,I a,H A,B b] (T2 (.d (eN (bif iX t r a A b==0 then oI t r a A else t))) (I (iX t r a A b))):=by
 have f:=zbL t r a A b k i;generalize iX t r a A b=e at f ⊢;refine dq func339 ?_;refine Ai rfl f ?_;rintro o ⟨X,rfl,j,g⟩;rcases j with rfl|⟨m,rfl⟩
 all_goals
  apply a4<;>intro c
  .have c:(e != 0)=true:=c;have d:(e==0)=false:=b8 c
   refine b7 ?_;rw[d];rfl
  .have c:(e != 0)=false:=c;have d:e=0:=b8 c
   have h:=g d;refine b7 ?_;subst d
   first
   |exact dE (λx=>T2 (.d x) (I 0)) h
   |rfl
def v7(t:Tb)(r a:Int):Int:=(b1 t r).cells a.toNat
def UP(t:Tb)(r a:Int):b6 a6 340 [.d (eN t),H r,I a] ⟨[],[],[]⟩ λo m=>(∃x:Int,o=.ret (T2 (H x) (I (kr t r a)))/\(kr t r a=0->x=v7 t r a))/\m=⟨[],[],[]⟩:=by
 refine Oq ?_;refine HN func340 rfl ey rfl rfl (g:=365) func365 ey rfl (List.range' 8 60) ?_;conv=>whnf
 refine⟨_,_,rfl,Od (t:=7) rfl rfl rfl rfl rfl rfl,?_⟩;refine JF (Bj (eJ c6 ?_) ey) ey;conv=>whnf
 have d:kr t r a=bif m4 t r a==0 then(bif v7 t r a != 0 then no (bk t.b (v7 t r a)) 4 else 10)else m4 t r a:=by unfold kr m4 v7;cases bk t.b r<;>cases(decide (a>=0)&&decide (a<8))<;>rfl
 refine N3 t r a (λb=>?_) λb=>?_
 .have j:0<=a/\a<8:=by
   cases i:(decide (a>=0)&&decide (a<8))with
   |true=>simpa using i
   |false=>
    unfold m4 at b;rw[i]at b;cases c:bk t.b r<;>rw[c]at b<;>cases b
  refine a4 j (JF (Bj (eJ c6 ?_) ey) ey);refine xc (v7 t r a != 0) 10 _ (λf=>?_) λf=>?_
  .refine JF (Bj (eJ c6 ?_) ey) ey;refine bo (jA t.b (v7 t r a)) (xc (bk t.b (v7 t r a)) 4 _ (λc=>?_) λc=>?_)
   .refine zba (eJ c6 (HM c6 func365 rfl rfl rfl rfl rfl rfl rfl rfl rfl rfl (dF rfl) (dF rfl) (dF rfl) ?_));refine b0 ?_;conv=>whnf
    have e:kr t r a=0:=by rw[d,b,f,c];rfl
    rw[e];exact⟨.inl rfl,_,rfl,rfl,v7 t r a,rfl,λ_=>rfl⟩
   .refine xf c6 func365 rfl rfl rfl rfl rfl rfl rfl rfl rfl rfl (dF rfl) (dF rfl) (dF rfl) ?_;refine ej (b0 ?_);conv=>whnf
    have e:kr t r a=4:=by rw[d,b,f,c];rfl
    rw[e];exact⟨.inl rfl,_,rfl,rfl,0,rfl,ef⟩
  .refine xf c6 func365 rfl rfl rfl rfl rfl rfl rfl rfl rfl rfl (dF rfl) (dF rfl) (dF rfl) ?_;refine ej (b0 ?_);conv=>whnf
   have e:kr t r a=10:=by rw[d,b,f];rfl
   rw[e];exact⟨.inl rfl,_,rfl,rfl,0,rfl,ef⟩
 .refine xf c6 func365 rfl rfl rfl rfl rfl rfl rfl rfl rfl rfl (dF rfl) (dF rfl) (dF rfl) ?_;refine ej (b0 ?_);conv=>whnf
  have e:kr t r a=m4 t r a:=by rw[d,fc.2 b];rfl
  rw[e];exact⟨.inl rfl,_,rfl,rfl,0,rfl,(λh=>b3 h b)⟩
end Sx
namespace Sx
variable{a:List Value}{i:Nat}{O:Ro}
def jD(L:List (List Rn)):Nat->Nat
 |0=>0
 |i+1=>jD L i+(L.getD i []).length
def cF(L:List (List Rn)):Nat->Nat->D
 |0=>c7 []
 |i+1=>fE (jD L i) (cF L i) (rF (L.getD i []))
attribute [local irreducible] b6 eF fR ez eH eB eM fx dC ec dU dx
abbrev Ct(L:List (List Rn)):SV:=.d (.X L.length .c λi=>RS (L.getD i []))
def UG(L:List (List Rn))(hL:L.length<=10)(c:∀i,i<=L.length->jD L i<=1000)(f:0<jD L L.length):sR a6 267 [Ct L] (jD L L.length) fi (cF L L.length):=by
 refine uT 0 0 1 ⟨a9 _,a9 _,dG _⟩ (zy func267 rfl ey rfl rfl ?_);refine b2 (x:=(L.length:Int)) (dX c6 (λi=>i<=L.length) (λi=>L.length - i) (λi=>[(3,I (jD L i)),(11,I i)]) (λ_=>⟨[],[],[]⟩) 0 (dG _) ⟨rfl,rfl,trivial⟩ rfl (λi=>⟨a9 _,a9 _,a9 _⟩) ?_);intro i e;apply a4<;>intro b
 .have a:i<L.length:=eZ b
  have d:=c (i+1) a;simp only[jD]at d;refine fS (i:=i) (n:=L.length) (b2 (x:=((L.getD i []).length:Int)) (b2 (x:=(jD L i:Int)+((L.getD i []).length:Int)) (a4 (λb=>?_) λ_=>?_)))
  .have:(jD L i:Int)+((L.getD i []).length:Int)<0:=b8 b
   omega
  .refine b2 (x:=(i:Int)+1) ?_;conv=>whnf
   exact⟨i+1,a,a3,⟨by simp only[jD];rfl,rfl,trivial⟩,⟨rfl,rfl⟩,rfl⟩
 .have a:i=L.length:=e9 b
  subst a;have g:=c L.length (a9 _);refine ev func268 ?_;refine a4 (λb=>?_) λ_=>?_
  .have:(jD L L.length:Int)<0:=b8 b
   omega
  .refine b2 (x:=0) (b2 (x:=0) (b2 (x:=0) (b2 (x:=(jD L L.length:Int) - 0) (a4 (λ_=>?_) λb=>?_))))
   .refine b2 (x:=0) (a4 rfl (a4 (a3:0<(jD L L.length:Int) - 0/\(jD L L.length:Int) - 0<=2147483648) (b2 (x:=0) (a4 ⟨rfl,(i6 0),(a3:(0:Int)<=((((jD L L.length:Int) - 0).toNat:Nat):Int))⟩ (b2 (x:=(L.length:Int)) (Qc 0 (c7 []) rfl (λi e=>b3 e (jm _)) ?_))))));refine dX c6 (λi=>i<=L.length) (λi=>L.length - i) (λi=>[(6,.ob (.mr 0 (1+i))),(27,I i)]) (λi=>⟨[],[],[.row (1+i) (jD L i) fi (cF L i)]⟩) 0 (dG _) ⟨rfl,rfl,trivial⟩ rfl (λi=>⟨a9 _,a9 _,a9 _⟩) ?_;intro i e;apply a4<;>intro b
    .have a:i<L.length:=eZ b
     have d:=c (i+1) a;simp only[jD]at d;refine fS (i:=i) (n:=L.length) (a4 ⟨rfl,(a3:jD L i+(L.getD i []).length<=2147483648)⟩ (b2 (x:=(i:Int)+1) ?_));conv=>whnf
     exact⟨i+1,a,a3,⟨rfl,rfl,trivial⟩,⟨rfl,rfl⟩,rfl⟩
    .have a:i=L.length:=e9 b
     subst a;conv=>whnf
     exact⟨_,SV.le_refl _,rfl,_,rfl,rfl⟩
   .have:¬(0<(jD L L.length:Int) - 0):=b8 b
    omega
def UH(L:List (List Rn))(hL:L.length<=10)(c:∀i,i<=L.length->jD L i=0):c5 a6 267 [Ct L] (.d (.X 0 fi (c7 []))):=by
 refine dq func267 ?_;refine b2 (x:=(L.length:Int)) (dX c6 (λi=>i<=L.length) (λi=>L.length - i) (λi=>[(3,I 0),(11,I i)]) (λ_=>⟨[],[],[]⟩) 0 (dG _) ⟨rfl,rfl,trivial⟩ rfl (λi=>⟨a9 _,a9 _,a9 _⟩) ?_);intro i g;apply a4<;>intro b
 .have a:i<L.length:=eZ b
  have e:=c (i+1) a;simp only[jD]at e;have f:L.getD i []=[]:=ym.1 a3;refine fS (i:=i) (n:=L.length) (b2 (x:=((L.getD i []).length:Int)) (b2 (x:=(0:Int)+((L.getD i []).length:Int)) (a4 (λb=>?_) λ_=>?_)))
  .have:(0:Int)+((L.getD i []).length:Int)<0:=b8 b
   omega
  .refine b2 (x:=(i:Int)+1) ?_;conv=>whnf
   refine⟨i+1,a,a3,⟨?_,rfl,trivial⟩,⟨rfl,rfl⟩,rfl⟩;show some (I (0+((L.getD i []).length:Int)))=some (I 0);rw[f];rfl
 .have a:i=L.length:=e9 b
  subst a;refine ev func268 ?_;refine a4 ef λ_=>?_;refine b2 (x:=0) (b2 (x:=0) (b2 (x:=0) (b2 (x:=0) (a4 ef λ_=>?_))));refine b2 (x:=(L.length:Int)) (oA 6 fi (c7 []) rfl ?_);refine dX c6 (λi=>i<=L.length) (λi=>L.length - i) (λi=>[(6,.ow 1 i 0 fi (cF L i)),(27,I i)]) (λi=>⟨[],[i],[]⟩) 0 (dG _) ⟨rfl,rfl,trivial⟩ rfl (λi=>⟨a9 _,a9 _,a9 _⟩) ?_;intro i g;apply a4<;>intro b
  .have a:i<L.length:=eZ b
   have e:=c (i+1) a;simp only[jD]at e;have f:L.getD i []=[]:=ym.1 a3;refine fS (i:=i) (n:=L.length) (a4 ⟨rfl,(a3:0+(L.getD i []).length<=2147483648)⟩ (b2 (x:=(i:Int)+1) ?_));conv=>whnf
   refine⟨i+1,a,a3,⟨?_,rfl,trivial⟩,⟨rfl,rfl⟩,rfl⟩;show some (SV.ow 1 (i+1) (0+(L.getD i []).length) fi (fE 0 (cF L i) (rF (L.getD i []))))=some (SV.ow 1 (i+1) 0 fi (cF L (i+1)));rw[show cF L (i+1)=fE 0 (cF L i) (rF (L.getD i [])) by rw[cF,c i g],f];rfl
  .have a:i=L.length:=e9 b
   subst a;exact a4 rfl (a4 ⟨_,rfl,λO J x h=>⟨ef,λ_=>dM.C8 ((h.B9 (d:=.X 0 fi (cF L L.length)) rfl).X)⟩⟩ rfl)
def Ht(L:List (List Rn)):∀i,i<=L.length->jD L i=(L.take i).flatten.length/\∀j,j<jD L i->cF L i j=c7 (fX (L.take i).flatten) j
 |0,_=>⟨rfl,λj b=>b3 b (jm _)⟩
 |i+1,g=>
  by
  obtain⟨c,f⟩:=Ht L i a3;have e:(L.take (i+1)).flatten=(L.take i).flatten++L.getD i []:=by rw[js,Vl,ed a3,eu,ed a3];simp
  refine⟨by rw[jD,e,ew,c],λj b=>?_⟩;rw[e,cF];unfold fE;rw[show fX ((L.take i).flatten++L.getD i [])=fX (L.take i).flatten++fX (L.getD i []) from je,<-rO];unfold fE;rw[show(fX (L.take i).flatten).length=jD L i by rw[dD,c]];cases a:Nat.blt j (jD L i)with
  |true=>exact f j (b8 a)
  |false=>
   have:¬j<jD L i:=λh=>
    by
     have d:Nat.blt j (jD L i)=true:=b8 h
     rw[d]at a;cases a
   simp only[jD]at b;show dR ((L.getD i []).getD (j - jD L i) c8)=_;exact(qe dR c8 a3).symm
def UI(L:List (List Rn))(hL:L.length<=10)(g:L.flatten.length<=1000):c5 a6 267 [Ct L] (.d (fq fi (fX L.flatten))):=by
 have b:∀i,i<=L.length->jD L i<=L.flatten.length:=λi a=>by
  rw[(Ht L i a).1];have:L.flatten=(L.take i).flatten++(L.drop i).flatten:=by rw[<-Vl,nF]
  rw[this,ew];omega
 have c:=Ht L L.length (a9 _);rw[gv]at c;rcases pt (jD L L.length)with d|d
 .have f:L.flatten=[]:=ym.1 (by rw[<-c.1,d]);rw[f];exact UH L hL λi a=>by have:=b i a;rw[f]at this;simpa using this
 .refine(JZ rfl (UG L hL (λi a=>eY (b i a) g) d)).out ?_;intro O J x h;refine b0 ?_;have:=h.2 rfl;have e:(fX L.flatten).length=jD L L.length:=by rw[dD,c.1]
  show dM O (.X (fX L.flatten).length fi (c7 (fX L.flatten))) [x];rw[e];exact dM.congr this λi a=>(c.2 i a).symm
def kU(y x:Rn):List Rn:=(bif decide (x.at_>y.at_)then[⟨y.at_,x.at_ - y.at_⟩]else[])++(bif decide (x.at_+x.n<y.at_+y.n)then[⟨x.at_+x.n,y.at_+y.n -(x.at_+x.n)⟩]else[])
def tx(l:List Rn)(x:Rn):Option (List Rn):=
 bif sA x then(bif decide (ly (λy=>mf y x) l 0<0)then none
  else some (l.take (ly (λy=>mf y x) l 0).toNat++kU (l.getD (ly (λy=>mf y x) l 0).toNat c8) x++l.drop ((ly (λy=>mf y x) l 0).toNat+1)))else none
def zdF{n:Nat}{t:Ty}{f g:Nat->D}(h:∀i,i<n->(g i).shape=(f i).shape/\∀a,dM O (f i) a->dM O (g i) a):dM O (.X n t f) a->dM O (.X n t g) a:=by rintro⟨A,c,p,q,r⟩;refine⟨A,c,p,q,λs=>?_⟩;obtain⟨d,j,Y,o,k,l,m,e⟩:=r s;exact⟨d,j,Y,o,k,l,m,λi b=>⟨(h i b).1.trans (e i b).1,(h i b).2 _ (e i b).2.1,(e i b).2.2⟩⟩
def zdi(l:List Rn)(f:i<=l.length)(h:dM O (.X (((i:Int)).toNat - 0) fi (jT (rF l) 0)) a):dM O (RS (l.take i)) a:=by
 have e:((i:Int)).toNat - 0=(l.take i).length:=by simp;omega
 rw[e]at h;have b:=h;obtain⟨A,c,rfl,_⟩:=id b;refine dM.congr h λj d=>?_;show dR ((l.take i).getD j c8)=dR (l.getD (0+j) c8);rw[ld,eu,eu,tI (by simp at d;omega)]
def zdd(l:List Rn)(h:dM O (.X (l.length -((i:Int)+1).toNat) fi (jT (rF l) ((i:Int)+1).toNat)) a):dM O (RS (l.drop (i+1))) a:=by
 have b:((i:Int)+1).toNat=i+1:=a3
 rw[b]at h;have e:l.length -(i+1)=(l.drop (i+1)).length:=eA
 rw[e]at h;obtain⟨A,c,rfl,_⟩:=id h;refine dM.congr h λj d=>?_;show dR ((l.drop (i+1)).getD j c8)=dR (l.getD (i+1+j) c8);rw[eu,eu,sT]
def Sg(p:Rn->Bool):∀(l:List Rn) (k:Nat),ly p l k= -1\/∃i,i<l.length/\ly p l k=((k+i:Nat):Int)
 |[],_=>.inl rfl
 |y::l,k=>by
  rw[ly];cases p y with
  |true=>exact .inr ⟨0,Nat.zero_lt_succ _,rfl⟩
  |false=>
   rcases Sg p l (k+1)with h|⟨i,a,b⟩
   .exact .inl h
   .exact .inr ⟨i+1,Nat.succ_lt_succ a,by rw[eQ,b];congr 1;omega⟩
def Dv(l:List Rn){left:List Rn}(i:Nat)(e:i<=l.length){b:D}(d:b.shape=.c)(c:∀O a,dM O b a->dM O (RS left) a):(SV.ow 0 0 3 .c (c7 [.X (((i:Int)).toNat - 0) fi (jT (rF l) 0),b,.X (l.length -((i:Int)+1).toNat) fi (jT (rF l) ((i:Int)+1).toNat)])).le (Ct [l.take i,left,l.drop (i+1)]):=λO J x h=>by
 refine b0 (zdF (f:=c7 [.X (((i:Int)).toNat - 0) fi (jT (rF l) 0),b,.X (l.length -((i:Int)+1).toNat) fi (jT (rF l) ((i:Int)+1).toNat)]) (λj g=>?_) ((h.B9 rfl).2 rfl))
 match j,g with
 |0,_=>exact⟨rfl,λa h=>zdi l e h⟩
 |1,_=>exact⟨d.symm,λa h=>c O a h⟩
 |2,_=>exact⟨rfl,λa h=>zdd l h⟩
def zag(y x:Rn):(kU y x).length<=2:=by unfold kU;cases decide (x.at_>y.at_)<;>cases decide (x.at_+x.n<y.at_+y.n)<;>simp
def VQ{l:List Rn}(z:∀y∈l,dw y)(L:l.length<=500)(x:Rn)(K:dx x.n):c5 a6 260 [.d (n8 l),I x.at_,I x.n] (T2 (.d (n8 ((tx l x).getD l))) (B (tx l x).isSome)):=by
 refine c5.le (b:=[.d (tP l),I x.at_,I x.n]) ?_ ⟨Fl l,SV.le_refl _,SV.le_refl _,trivial⟩;refine dq func260 ?_;refine bo (Jk x K) ?_;apply a4<;>intro C
 .have r:sA x=false:=b8 C
  have e:tx l x=none:=by unfold tx;rw[r];rfl
  rw[e];exact a4 rfl (a4 ⟨_,rfl,vQ λO J x h=>Fk l O J x h⟩ rfl)
 .have r:sA x=true:=b8 C
  have u:=xE.1 r;unfold dw at u;refine mD (L9 (p:=λy=>mf y x) a3 λy v=>?_) ?_
  .have E:=z y v;unfold dw at E;refine fm func266 ?_;exact bo (Pw y x (eD a3 a3) (eD a3 a3)) (a4 rfl (a4 rfl rfl))
  .have G:tx l x=(bif decide (ly (λy=>mf y x) l 0<0)then none else some (l.take (ly (λy=>mf y x) l 0).toNat++kU (l.getD (ly (λy=>mf y x) l 0).toNat c8) x++l.drop ((ly (λy=>mf y x) l 0).toNat+1))):=by unfold tx;rw[r];rfl
   rw[G];rcases Sg (λy=>mf y x) l 0 with t|⟨i,g,t⟩
   .rw[t];exact ej (a4 rfl (a4 ⟨_,rfl,vQ λO J x h=>Fk l O J x h⟩ rfl))
   .rw[t,ld,fe (show¬((i:Nat):Int)<0 by omega),eQ];have v:=z (l.getD i c8) (by rw[eu,ed g];exact oi g);unfold dw at v;have q:=UI [l.take i,kU (l.getD i c8) x,l.drop (i+1)] (show 3<=10 by decide) (by
     have F:=zag (l.getD i c8) x;generalize kU (l.getD i c8) x=M at F;simp;omega)
    refine a4 (λh=>?_) λ_=>?_
    .have:((i:Nat):Int)<0:=b8 h
     omega
    .conv=>
      whnf
     refine fS (i:=i) (n:=l.length) ?_;apply a4<;>intro w
     .have d:decide (x.at_>(l.getD i c8).at_)=true:=w;refine b2 (x:=x.at_ -(l.getD i c8).at_) (Or.inl (a4 a8 (.inl (dL 5 (c9 (pD x (eD a3 a3)) (λ_ h=>h) (c9 (pD (l.getD i c8) (eD a3 a3)) (λ_ h=>h) ?_))))));apply a4<;>intro k
      .have a:decide (x.at_+x.n<(l.getD i c8).at_+(l.getD i c8).n)=true:=k;refine fg (List.range 12) [(9,1),(10,0)] (c9 (pD x (eD a3 a3)) (λ_ h=>h) (c9 (pD (l.getD i c8) (eD a3 a3)) (λ_ h=>h) (c9 (pD x (eD a3 a3)) (λ_ h=>h) (b2 (x:=(l.getD i c8).at_+(l.getD i c8).n -(x.at_+x.n)) (Or.inl (a4 ⟨rfl,a8⟩ (dL 10 (a4 ⟨i6 0,(a3:(0:Int)<=(i:Int)),(a3:(i:Int)<=(l.length:Int))⟩ (b2 (x:=(i:Int)+1) (a4 ⟨(a3:(0:Int)<=(i:Int)+1),(a3:(i:Int)+1<=(l.length:Int))⟩ (Or.inl ?_)))))))))));conv=>whnf
       have f:kU (l.getD i c8) x=[⟨(l.getD i c8).at_,x.at_ -(l.getD i c8).at_⟩,⟨x.at_+x.n,(l.getD i c8).at_+(l.getD i c8).n -(x.at_+x.n)⟩]:=by unfold kU;rw[d,a];rfl
       refine bo (c5.le q ?_) ?_
       .rw[f];refine⟨Dv l i (uP g) rfl λO s h=>?_,trivial⟩;obtain⟨A,c,rfl,_⟩:=id h;exact dM.congr h λj o=>by
         match j,o with
         |0,_=>rfl
         |1,_=>rfl
       exact b7 (dE (λm=>T2 (.d (n8 m)) (B true)) (show[l.take i,kU (l.getD i c8) x,l.drop (i+1)].flatten=l.take i++kU (l.getD i c8) x++l.drop (i+1) by simp))
      .have a:decide (x.at_+x.n<(l.getD i c8).at_+(l.getD i c8).n)=false:=k;refine dL 10 (a4 ⟨i6 0,(a3:(0:Int)<=(i:Int)),(a3:(i:Int)<=(l.length:Int))⟩ (b2 (x:=(i:Int)+1) (a4 ⟨(a3:(0:Int)<=(i:Int)+1),(a3:(i:Int)+1<=(l.length:Int))⟩ (Or.inl ?_))));conv=>whnf
       have f:kU (l.getD i c8) x=[⟨(l.getD i c8).at_,x.at_ -(l.getD i c8).at_⟩]:=by unfold kU;rw[d,a];rfl
       refine bo (c5.le q ?_) ?_
       .rw[f];refine⟨Dv l i (uP g) rfl λO s h=>?_,trivial⟩;obtain⟨A,c,rfl,_⟩:=id h;exact dM.congr h λj o=>by
         match j,o with
         |0,_=>rfl
       exact b7 (dE (λm=>T2 (.d (n8 m)) (B true)) (show[l.take i,kU (l.getD i c8) x,l.drop (i+1)].flatten=l.take i++kU (l.getD i c8) x++l.drop (i+1) by simp))
     .have d:decide (x.at_>(l.getD i c8).at_)=false:=w;refine dL 5 (c9 (pD x (eD a3 a3)) (λ_ h=>h) (c9 (pD (l.getD i c8) (eD a3 a3)) (λ_ h=>h) ?_));apply a4<;>intro k
      .have a:decide (x.at_+x.n<(l.getD i c8).at_+(l.getD i c8).n)=true:=k;refine fg (List.range 12) [(9,1),(10,0)] (c9 (pD x (eD a3 a3)) (λ_ h=>h) (c9 (pD (l.getD i c8) (eD a3 a3)) (λ_ h=>h) (c9 (pD x (eD a3 a3)) (λ_ h=>h) (b2 (x:=(l.getD i c8).at_+(l.getD i c8).n -(x.at_+x.n)) (Or.inl (a4 a8 (.inl (dL 10 (a4 ⟨i6 0,(a3:(0:Int)<=(i:Int)),(a3:(i:Int)<=(l.length:Int))⟩ (b2 (x:=(i:Int)+1) (a4 ⟨(a3:(0:Int)<=(i:Int)+1),(a3:(i:Int)+1<=(l.length:Int))⟩ (Or.inl ?_))))))))))));conv=>whnf
       have f:kU (l.getD i c8) x=[⟨x.at_+x.n,(l.getD i c8).at_+(l.getD i c8).n -(x.at_+x.n)⟩]:=by unfold kU;rw[d,a];rfl
       refine bo (c5.le q ?_) ?_
       .rw[f];refine⟨Dv l i (uP g) rfl λO s h=>?_,trivial⟩;obtain⟨A,c,rfl,_⟩:=id h;exact dM.congr h λj o=>by
         match j,o with
         |0,_=>rfl
       exact b7 (dE (λm=>T2 (.d (n8 m)) (B true)) (show[l.take i,kU (l.getD i c8) x,l.drop (i+1)].flatten=l.take i++kU (l.getD i c8) x++l.drop (i+1) by simp))
      .have a:decide (x.at_+x.n<(l.getD i c8).at_+(l.getD i c8).n)=false:=k;refine dL 10 (a4 ⟨i6 0,(a3:(0:Int)<=(i:Int)),(a3:(i:Int)<=(l.length:Int))⟩ (b2 (x:=(i:Int)+1) (a4 ⟨(a3:(0:Int)<=(i:Int)+1),(a3:(i:Int)+1<=(l.length:Int))⟩ (Or.inl ?_))));conv=>whnf
       have f:kU (l.getD i c8) x=[]:=by unfold kU;rw[d,a];rfl
       refine bo (c5.le q ?_) ?_
       .rw[f];refine⟨Dv l i (uP g) rfl λO s h=>?_,trivial⟩;obtain⟨A,c,rfl,_⟩:=id h;exact dM.C8 h
       exact b7 (dE (λm=>T2 (.d (n8 m)) (B true)) (show[l.take i,kU (l.getD i c8) x,l.drop (i+1)].flatten=l.take i++kU (l.getD i c8) x++l.drop (i+1) by simp))
end Sx
namespace Sx
variable{n p:Int}{l:List Rn}{x y:Rn}
def pg(r:Rn):List Int:=(List.range r.n.toNat).map λj:Nat=>r.at_+(j:Int)
def dm(l:List Rn):List Int:=l.flatMap pg
def iS{r:Rn}:p∈pg r↔r.at_<=p/\p<r.at_+r.n:=by
 unfold pg;rw[l6];constructor
 .rintro⟨j,a,rfl⟩;have:=gZ.1 a;omega
 .rintro⟨b,c⟩;exact⟨(p - r.at_).toNat,gZ.2 a3,a3⟩
def Bg{α β:Type}{f:α->β}:∀{l:List α},(∀x∈l,∀y∈l,f x=f y->x=y)->l.Nodup->(l.map f).Nodup
 |[],_,_=>wV
 |a::l,c,h=>by rw[oT,pW];rw[pW]at h;refine⟨λd=>?_,Bg (λx g y b=>c x (fA _ g) y (fA _ b)) h.2⟩;obtain⟨y,b,e⟩:=l6.1 d;have:=c y (fA _ b) a (fQ ..) e;exact h.1 (this▸b)
def JR(r:Rn):(pg r).Nodup:=Bg (λx _ y _ (h:r.at_+(x:Int)=r.at_+(y:Int))=>a3) Gx
structure FreeOk (l:List Rn):Prop where
 ap:l.Pairwise λa b=>a.at_+a.n<b.at_
 ok:∀y∈l,dw y
def Dj(a b:Rn):Prop:=a.at_+a.n<=b.at_\/b.at_+b.n<=a.at_
def Po{x:Rn}:∀{l out:List Rn},(∀y∈l,y.at_>x.at_+x.n/\1<=y.n)->0<=x.n->p8 ⟨x,true,out⟩ l=some ⟨x,true,out++l⟩
 |[],out,_,_=>by simp[p8]
 |y::l,out,h,c=>by
  obtain⟨d,g⟩:=h y (fQ ..);have a:decide (y.at_+y.n<x.at_)=false:=fe a3;have b:decide (y.at_>x.at_+x.n)=true:=eI d;have e:kJ ⟨x,true,out⟩ y=some ⟨x,true,out++[y]⟩:=by unfold kJ;simp only[a,b,dZ,eQ,Gv.fin]
  rw[p8,e];simp only;rw[Po (λz f=>h z (fA _ f)) c,iJ];rfl
def Ef:∀{l out:List Rn} {x:Rn},FreeOk (out++l)->(∀y∈out,y.at_+y.n<x.at_)->dw x->(∀y∈l,Dj x y)->
 ∃g,p8 ⟨x,false,out⟩ l=some g/\FreeOk g.fin/\∀p,p∈dm g.fin↔(p∈dm out\/p∈pg x)\/p∈dm l
 |[],out,x,d,q,r,_=>by
  refine⟨_,rfl,⟨?_,?_⟩,λp=>?_⟩
  .show List.Pairwise _ (out++[x]);rw[gk]at d;exact wW.2 ⟨d.ap,eA,λa h b hb=>by rw[nZ.1 hb];exact q a h⟩
  .intro y j;rcases eP.1 j with j|j
   .exact d.ok y (eP.2 (.inl j))
   .rw[nZ.1 j];exact r
  .show p∈dm (out++[x])↔_;simp[dm]
 |y::l,out,x,d,q,r,t=>by
  have j:=d.ok y (eP.2 (.inr (fQ ..)));have i:=wW.1 d.ap;have f:=CC.1 i.2.1;have w:=t y (fQ ..);unfold dw at r j;unfold Dj at w;by_cases k:y.at_+y.n<x.at_
  .have e:kJ ⟨x,false,out⟩ y=some ⟨x,false,out++[y]⟩:=by unfold kJ;simp only[eI k,dZ]
   have h:out++y::l=out++[y]++l:=eA
   obtain⟨g,m,n,o⟩:=Ef (l:=l) (out:=out++[y]) (x:=x) (h▸d) (λz c=>by
    rcases eP.1 c with c|c
    .exact q z c
    .rw[nZ.1 c];exact k) r λz c=>t z (fA _ c)
   refine⟨g,by rw[p8,e];exact m,n,λp=>?_⟩;rw[o p];simp only[dm,mA,rh,wS,gk,eP]
   grind
  .by_cases s:y.at_>x.at_+x.n
   .have e:kJ ⟨x,false,out⟩ y=some ⟨x,true,(out++[x])++[y]⟩:=by unfold kJ;simp only[fe k,eI s,dZ,eQ,Gv.fin]
    have G:=Po (x:=x) (l:=l) (out:=(out++[x])++[y]) (λz c=>by
     have:=f.1 z c;have:=d.ok z (eP.2 (.inr (fA _ c)));unfold dw at this;omega) a3
    refine⟨_,by rw[p8,e];exact G,⟨?_,?_⟩,λp=>?_⟩
    .show List.Pairwise _ (((out++[x])++[y])++l);have E:((out++[x])++[y])++l=out++x::(y::l):=eA
     rw[E];refine wW.2 ⟨i.1,CC.2 ⟨λz c=>?_,i.2.1⟩,λa h b hb=>?_⟩
     .rcases iB.1 c with c|c
      .rw[c];exact s
      .have:=f.1 z c;omega
     .rcases iB.1 hb with hb|hb
      .rw[hb];exact q a h
      .exact i.2.2 a h b hb
    .intro z c;simp only[Gv.fin,dZ,eP,nZ]at c;rcases c with((c|c)|c)|c
     .exact d.ok z (eP.2 (.inl c))
     .rw[c];exact r
     .rw[c];exact j
     .exact d.ok z (eP.2 (.inr (fA _ c)))
    .simp only[dm,Gv.fin,dZ,mA,rh,wS,gk,eP]
     grind
   .by_cases A:y.at_+y.n=x.at_
    .have e:kJ ⟨x,false,out⟩ y=some ⟨⟨y.at_,y.n+x.n⟩,false,out⟩:=by unfold kJ;simp only[fe k,fe s,eQ,gG.2 A,dZ]
     obtain⟨g,m,n,o⟩:=Ef (l:=l) (out:=out) (x:=⟨y.at_,y.n+x.n⟩) ⟨wW.2 ⟨i.1,f.2,λa h b hb=>i.2.2 a h b (fA _ hb)⟩,λz c=>d.ok z (by
      rcases eP.1 c with c|c
      .exact eP.2 (.inl c)
      .exact eP.2 (.inr (fA _ c)))⟩ (λz c=>i.2.2 z c y (fQ ..)) (by unfold dw;simp only;omega) (λz c=>by
      have F:=f.1 z c;have u:=t z (fA _ c);have v:=d.ok z (eP.2 (.inr (fA _ c)));unfold Dj at u ⊢;unfold dw at v;simp only;omega)
     refine⟨g,by rw[p8,e];exact m,n,λp=>?_⟩;rw[o p];have:p∈pg ⟨y.at_,y.n+x.n⟩↔p∈pg y\/p∈pg x:=by rw[iS,iS,iS];simp only;omega
     rw[this];simp only[dm,rh,eP]
     grind
    .by_cases C:y.at_=x.at_+x.n
     .have e:kJ ⟨x,false,out⟩ y=some ⟨⟨x.at_,x.n+y.n⟩,false,out⟩:=by unfold kJ;simp only[fe k,fe s,eQ,fc.2 A,gG.2 C,dZ]
      obtain⟨g,m,n,o⟩:=Ef (l:=l) (out:=out) (x:=⟨x.at_,x.n+y.n⟩) ⟨wW.2 ⟨i.1,f.2,λa h b hb=>i.2.2 a h b (fA _ hb)⟩,λz c=>d.ok z (by
       rcases eP.1 c with c|c
       .exact eP.2 (.inl c)
       .exact eP.2 (.inr (fA _ c)))⟩ q (by unfold dw;simp only;omega) (λz c=>by
       have F:=f.1 z c;have u:=t z (fA _ c);have v:=d.ok z (eP.2 (.inr (fA _ c)));unfold Dj at u ⊢;unfold dw at v;simp only;omega)
      refine⟨g,by rw[p8,e];exact m,n,λp=>?_⟩;rw[o p];have:p∈pg ⟨x.at_,x.n+y.n⟩↔p∈pg x\/p∈pg y:=by rw[iS,iS,iS];simp only;omega
      rw[this];simp only[dm,rh,eP]
      grind
     .exfalso;omega
def YF(f:FreeOk l)(b:dw x)(hd:∀y∈l,Dj x y):∃a,o7 l x=some a/\FreeOk a/\∀p,p∈dm a↔p∈dm l\/p∈pg x:=by
 obtain⟨g,c,d,e⟩:=Ef (l:=l) (out:=[]) (x:=x) f (λy h=>by cases h) b hd;refine⟨g.fin,by rw[o7,xE.2 b,dZ,c];rfl,d,λp=>?_⟩;rw[e p];simp only[dm,wS,List.not_mem_nil]
 grind
def XZ{a b:Rn}(e:dw a)(f:dw b)(h:∀p,p∈pg a->p∈pg b->False):Dj a b:=by
 unfold Dj;unfold dw at e f;by_cases c:a.at_+a.n<=b.at_\/b.at_+b.n<=a.at_
 .exact c
 .exfalso;by_cases d:a.at_<=b.at_
  .exact h b.at_ (iS.2 ⟨d,a3⟩) (iS.2 ⟨a3,a3⟩)
  .exact h a.at_ (iS.2 ⟨a3,a3⟩) (iS.2 ⟨a3,a3⟩)
def vi:p∈dm l↔∃y∈l,p∈pg y:=om
def oE(l m:List Rn):dm (l++m)=dm l++dm m:=mA
def y7:∀{l:List Rn},FreeOk l->(dm l).Nodup
 |[],_=>wV
 |y::l,h=>by have d:=CC.1 h.ap;show(pg y++dm l).Nodup;refine mB.2 ⟨JR y,y7 ⟨d.2,λz c=>h.ok z (fA _ c)⟩,λp a q f e=>?_⟩;subst e;obtain⟨z,c,b⟩:=vi.1 f;have:=d.1 z c;rw[iS]at a b;omega
def QZ{l m:List Int}(a:l.Nodup)(b:m.Nodup)(h:∀p,p∈l↔p∈m):l.Perm m:=(List.perm_ext_iff_of_nodup a b).2 h
def Pc(d:FreeOk l)(f:dw x)(hd:∀p,p∈pg x->p∈dm l->False):∃a,o7 l x=some a/\FreeOk a/\(dm a).Perm (dm l++pg x):=by obtain⟨a,c,b,h⟩:=YF d f λy g=>XZ f (d.ok y g) λp c b=>hd p c (vi.2 ⟨y,g,b⟩);refine⟨a,c,b,QZ (y7 b) (mB.2 ⟨y7 d,JR x,λp i q j e=>hd p (e▸j) i⟩) λp=>?_⟩;rw[h p,eP]
def Kv(p:Rn->Bool):∀(l:List Rn) (k:Nat),(ly p l k= -1/\∀y∈l,p y=false)\/∃A y B,l=A++y::B/\ly p l k=((k+A.length:Nat):Int)/\p y=true
 |[],k=>.inl ⟨rfl,λ_ h=>by cases h⟩
 |y::l,k=>by
  cases b:p y with
  |true=>exact .inr ⟨[],y,l,rfl,by simp[ly,b],b⟩
  |false=>
   have e:ly p (y::l) k=ly p l (k+1):=by simp[ly,b]
   rcases Kv p l (k+1)with⟨c,d⟩|⟨A,z,B,c,d,f⟩
   .exact .inl ⟨by rw[e,c],λz a=>by
     rcases iB.1 a with a|a
     .rw[a];exact b
     .exact d z a⟩
   .exact .inr ⟨y::A,z,B,by rw[c];rfl,by rw[e,d];simp only[jV];omega,f⟩
def AG:mf y x=true↔y.at_<=x.at_/\x.at_+x.n<=y.at_+y.n\/x.at_=y.at_/\x.n=y.n:=by unfold mf;simp only[pP,dH,gG,fY];omega
def zah(i:dw y)(g:dw x)(h:mf y x=true):FreeOk (kU y x)/\(∀z∈kU y x,y.at_<=z.at_/\z.at_+z.n<=y.at_+y.n)/\(∀p,p∈dm (kU y x)↔p∈pg y/\¬p∈pg x):=by
 have h:=AG.1 h;unfold dw at i g;unfold kU;have k:∀p,p∈pg y↔y.at_<=p/\p<y.at_+y.n:=λp=>iS;have e:∀p,p∈pg x↔x.at_<=p/\p<x.at_+x.n:=λp=>iS;by_cases b:x.at_>y.at_<;>by_cases c:x.at_+x.n<y.at_+y.n
 .rw[eI b,eI c];refine⟨⟨?_,?_⟩,?_,λp=>?_⟩
  .simp;omega
  .intro z a;simp at a;rcases a with rfl|rfl<;>unfold dw<;>simp only<;>omega
  .intro z a;simp at a;rcases a with rfl|rfl<;>simp only<;>omega
  .simp only[dZ,dm,r7,lE,rh,wS,gk,eP,iS];omega
 .rw[eI b,fe c];refine⟨⟨?_,?_⟩,?_,λp=>?_⟩
  .simp
  .intro z a;simp at a;subst a;unfold dw;simp only;omega
  .intro z a;simp at a;subst a;simp only;omega
  .simp only[dZ,eQ,dm,r7,lE,rh,wS,gk,iS];omega
 .rw[fe b,eI c];refine⟨⟨?_,?_⟩,?_,λp=>?_⟩
  .simp
  .intro z a;simp at a;subst a;unfold dw;simp only;omega
  .intro z a;simp at a;subst a;simp only;omega
  .simp only[dZ,eQ,dm,r7,lE,rh,wS,gk,iS];omega
 .rw[fe b,fe c];refine⟨⟨?_,?_⟩,?_,λp=>?_⟩
  .simp
  .intro z a;simp at a
  .intro z a;simp at a
  .rw[iS,iS];constructor
   .intro f;cases f
   .rintro⟨j,d⟩;exact b3 ⟨a3,a3⟩ d
def zef(k:FreeOk l)(G:dw x)(N:∃y∈l,mf y x=true):∃C,tx l x=some C/\FreeOk C/\(dm l).Perm (dm C++pg x):=by
 rcases Kv (λy=>mf y x) l 0 with⟨_,u⟩|⟨A,y,B,E,u,F⟩
 .obtain⟨y,Q,i⟩:=N;have:mf y x=false:=u y Q;rw[i]at this;cases this
 .have O:(ly (λy=>mf y x) l 0).toNat=A.length:=by rw[u];simp
  have P:decide (ly (λy=>mf y x) l 0<0)=false:=by rw[u];exact fe a3
  have e:tx l x=some (A++kU y x++B):=by
   unfold tx;rw[xE.2 G,P,O];subst E;simp only[dZ,eQ]
   congr 1
   rw[List.take_left' rfl,eu,oh (a9 _),tM,pR];simp
  subst E;have s:=k.ok y (eP.2 (.inr (fQ ..)));obtain⟨J,K,L⟩:=zah s G F;have j:=wW.1 k.ap;have r:=CC.1 j.2.1;have t:=s;unfold dw at t;have m:FreeOk (A++kU y x++B):=by
   refine⟨wW.2 ⟨wW.2 ⟨j.1,J.ap,λa d b i=>?_⟩,r.2,λa d b i=>?_⟩,λz c=>?_⟩
   .have:=j.2.2 a d y (fQ ..);have:=K b i;omega
   .rcases eP.1 d with d|d
    .exact j.2.2 a d b (fA _ i)
    .have:=r.1 b i;have:=K a d;omega
   .rcases eP.1 c with c|c
    .rcases eP.1 c with c|c
     .exact k.ok z (eP.2 (.inl c))
     .exact J.ok z c
    .exact k.ok z (eP.2 (.inr (fA _ c)))
  have f:=y7 k;have g:∀p,p∈pg x->p∈pg y:=λp j=>by have:=AG.1 F;rw[iS]at j ⊢;omega
  refine⟨_,e,m,?_⟩;refine QZ f (mB.2 ⟨y7 m,JR x,λp o q w M=>?_⟩) λp=>?_
  .subst M;rw[oE,oE,eP,eP,L]at o;rw[oE]at f;have n:=mB.1 f;have v:(pg y++dm B).Nodup:=n.2.1;rcases o with(h|h)|h
   .exact n.2.2 _ h _ (show p∈pg y++dm B from eP.2 (.inl (g p w))) rfl
   .exact h.2 w
   .exact(mB.1 v).2.2 _ (g p w) _ h rfl
  .rw[oE,eP,show dm (y::B)=pg y++dm B from rfl,eP,eP,oE,oE,eP,eP,L];have:=g p
   grind
def Yq(h:nu l n=some y):y∈l/\1<=n/\n<=y.n:=by have a:=List.find?_some h;have b:=List.mem_of_find?_eq_some h;simp only[dH,fY]at a;exact⟨b,a.1,a.2⟩
def NP(c:FreeOk l)(h:nu l n=some y):dw ⟨y.at_,n⟩/\∃a,tx l ⟨y.at_,n⟩=some a/\FreeOk a/\(dm l).Perm (dm a++pg ⟨y.at_,n⟩):=by
 obtain⟨b,f,g⟩:=Yq h;have e:=c.ok y b;unfold dw at e;have d:dw ⟨y.at_,n⟩:=by unfold dw;simp only;omega
 exact⟨d,zef c d ⟨y,b,AG.2 (by simp only;omega)⟩⟩
def Ql:∀{l all:List Rn},FreeOk all->(∀y∈l,dw y)->(dm all++dm l).Nodup->(xD all l).isSome=true
 |[],all,_,_,_=>rfl
 |y::l,all,h,b,i=>by have a:(dm all++(pg y++dm l)).Nodup:=i;rw[<-iJ]at a;have f:=mB.1 a;have g:=mB.1 f.1;obtain⟨n,c,d,e⟩:=Pc h (b y (fQ ..)) λp j k=>g.2.2 p k p j rfl;rw[xD,c];refine Ql d (λz m=>b z (fA _ m)) ?_;exact(List.Perm.nodup_iff (e.append_right _)).2 a
def zaL(c:∀y∈l,dw y)(d:(dm l).Nodup){F:Int}(a:0<=F)(b:F<=dK l*32):mV l F=true:=by unfold mV;rw[Ql (all:=[]) ⟨List.Pairwise.nil,λ_ h=>by cases h⟩ c (by simpa[dm]using d),eI a,eI b];rfl
def Pq(g:∀y∈l,dw y):p9 l p=true↔p∈dm l:=by
 unfold p9;rw[dH,xE,fY,vi];rcases Kv (λy=>mf y ⟨p,1⟩) l 0 with⟨d,e⟩|⟨A,y,B,d,e,b⟩
 .constructor
  .rintro⟨_,h⟩;omega
  .rintro⟨y,a,f⟩;have:mf y ⟨p,1⟩=false:=e y a;rw[iS]at f;have:mf y ⟨p,1⟩=true:=AG.2 (by simp only;omega)
   simp_all
 .have a:y∈l:=by rw[d];exact eP.2 (.inr (fQ ..))
  have c:=g y a;unfold dw at c;have b:=AG.1 b;simp only at b;constructor
  .rintro⟨f,_⟩;exact⟨y,a,iS.2 a3⟩
  .rintro _;exact⟨by unfold dw;simp only;omega,a3⟩
def zeM{N:Int}(i:FreeOk l)(o:1<=N)(h:∀p,p∈dm l↔0<=p/\p<N):l=[⟨0,N⟩]:=by
 cases l with
 |nil=>exact b3 ((h 0).2 (by omega)) (by simp[dm])
 |cons y l=>
  have f:=CC.1 i.ap;have m:=i.ok y (fQ ..);have e:∀z∈y::l,∀p,p∈pg z->0<=p/\p<N:=λz a p f=>(h p).1 (vi.2 ⟨z,a,f⟩);have b:∀p,0<=p->p<N->p∈pg y\/∃z∈l,p∈pg z:=λp j k=>by
   obtain⟨z,a,g⟩:=vi.1 ((h p).2 ⟨j,k⟩);rcases iB.1 a with a|a
   .exact .inl (a▸g)
   .exact .inr ⟨z,a,g⟩
  unfold dw at m;have n:y.at_=0:=by
   rcases b 0 (by omega) (by omega)with d|⟨z,a,d⟩
   .rw[iS]at d;omega
   .rw[iS]at d;have:=f.1 z a;omega
  have j:=e y (fQ ..) (y.at_+y.n - 1) (iS.2 (by omega));have k:y.n=N:=by
   by_cases c:y.n<N
   .rcases b y.n (by omega) c with d|⟨z,a,d⟩
    .rw[iS]at d;omega
    .rw[iS]at d;have:=f.1 z a;omega
   .omega
  cases l with
  |nil=>cases y;simp_all
  |cons z l=>
   have:=f.1 z (fQ ..);have a:=i.ok z (fA _ (fQ ..));unfold dw at a;have:=e z (fA _ (fQ ..)) z.at_ (iS.2 (by omega));omega
def Bs:∀{l:List Rn},(∀y∈l,dw y)->((dm l).length:Int)=dK l
 |[],_=>rfl
 |y::l,h=>by have a:=h y (fQ ..);unfold dw at a;have:=Bs (l:=l) λz b=>h z (fA _ b);show(((pg y++dm l).length:Nat):Int)=y.n+dK l;rw[ew,show(pg y).length=y.n.toNat by simp[pg]];omega
end Sx
end Go.Proofs.YtfbhkfhbnkncoaaGreatDoor
