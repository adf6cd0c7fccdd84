import Derived.Test.YtfbhkfhbnkncoaaGreatDoorV42
set_option linter.all false
set_option maxRecDepth 100000
namespace Go.Proofs.YtfbhkfhbnkncoaaGreatDoor
open Go.RowKit Tryz
open Tryz renaming prog→a6
namespace Sx
attribute [local irreducible] b6 eF ez eH eB eM dC ec dU dx
variable{M c h r:Int}{b:MBox}{i:Nat}
structure ExR (s:St) (l:List (Int×Ow)) (kt:Nat->Tk):Prop where
 t:∃d,TInv s.t d
 k:TkI s.k
 own:OwS s.t s.o l
 len:l.length<=1000000
 kt:KtS s.k kt
 cu:gp s.t
def qD(s:St)(l:List (Int×Ow))(Z:Nat->Tk):D:=.H (gU s.t) (.H (mc l) (.H (jF s.k.b Z) .un))
def O5{l:List Int}(a:i<l.length):l[i]?=some (l.getD i 0):=by rw[eu,ed a];rfl
def Nb(f:Int->Bool){l:List Int}(a:i<l.length):(l.take (i+1)).any f=((l.take i).any f||f (l.getD i 0)):=by rw[js,O5 a,List.any_append];simp
section
variable {s:St} {l:List (Int×Ow)} {Z:Nat->Tk} (hE:ExR s l Z)
include hE
def zcn(t:di h)(w:Int)(A:w=0\/w=1\/w=2):c5 a6 202 [.d (qD s l Z),I h,I w] (B (vr s h w)):=by
 obtain⟨d,j⟩:=hE.t;rcases A with rfl|rfl|rfl
 .refine dq func202 ?_;exact ej (bo (Kg hE.k hE.kt h ⟨a8,a8⟩) b7)
 .refine dq func202 ?_;exact b0 (ej (bo (Kj hE.k hE.kt h ⟨a8,a8⟩) b7))
 .have q:=(Bx j.r j.rk t).out (iE .c (λx=>D.z .i64 x) 0 (dJ s.t h));have r:∀x∈dJ s.t h,di x:=λx f=>by
   unfold dJ at f;cases g:bk s.t.b h with
   |false=>rw[g]at f;cases f
   |true=>
    rw[g]at f;exact((oM j ⟨t,g⟩).1 f).1.1
  have v:(dJ s.t h).length<=33:=by
   unfold dJ;cases g:bk s.t.b h with
   |false=>exact dG _
   |true=>exact ra j.ok j.rk (g8 g)
  have u:vr s h 2=!(dJ s.t h).any λx=>decide (((eg s.k (gq x) (dI s.k.b)).length:Int)>0):=by show FP s h=_;unfold FP hL;simp only[dD]
  rw[u];generalize dJ s.t h=L at q r v;refine dq func202 ?_;refine b0 (b0 (bo (q) (dX c6 (λi:Nat=>i<=L.length/\(L.take i).any (λx=>decide (((eg s.k (gq x) (dI s.k.b)).length:Int)>0))=false) (λi=>L.length - i) (λi=>[(8,I i)]) (λ_=>⟨[.d (qD s l Z)],[],[]⟩) 0 ⟨dG _,rfl⟩ ⟨rfl,trivial⟩ rfl (λi=>⟨a9 _,a9 _,a9 _⟩) ?_)));rintro i ⟨E,e⟩;refine b2 (x:=(L.length:Int)) ?_;apply a4<;>intro p
  .have a:i<L.length:=eZ p
   have f:=r _ (qG a);have k:=EZ hE.k hE.kt (L.getD i 0) (-1);rw[JM f.1]at k;have m:(eg s.k (gq (L.getD i 0)) (dI s.k.b)).length<=32:=eY (qY _ _ _) (qb s.k.b);have b:=Nb (λx=>decide (((eg s.k (gq x) (dI s.k.b)).length:Int)>0)) a;rw[e,tE]at b;generalize eg s.k (gq (L.getD i 0)) (dI s.k.b)=M at k m b;refine dL 9 (fS (i:=i) (n:=L.length) (c9 k (λ_ h=>h) (a4 (eD (x:=((qL M).length:Int)) a3 (by rw[dD];omega)) ?_)));conv=>whnf
   have o:(qL M).length=M.length:=dD _;apply a4<;>intro c
   .have c:decide (((qL M).length:Int)>0)=true:=c;rw[o]at c;refine b7 ?_;have:L.any (λx=>decide (((eg s.k (gq x) (dI s.k.b)).length:Int)>0))=true:=by rw[c]at b;obtain⟨y,C,z⟩:=qo.1 b;exact qo.2 ⟨y,sV C,z⟩
    rw[this];rfl
   .have c:decide (((qL M).length:Int)>0)=false:=c;rw[o]at c;refine b2 (x:=(i:Int)+1) ?_;conv=>whnf
    exact⟨i+1,⟨a,b.trans c⟩,a3,⟨rfl,trivial⟩,⟨rfl,rfl⟩,rfl⟩
  .have a:i=L.length:=e9 p
   subst a;rw[gv]at e;rw[e];exact b7
set_option maxRecDepth 10000 in
def qS(n:0<=M)(o:M<8)(q:di h)(w:Int)(Q:w=0\/w=1\/w=2):c5 a6 136 [.d (qD s l Z),I M,I h,I w] (I (eh s M h w)):=by
 obtain⟨d,y⟩:=hE.t;have J:=zw y hE.own hE.len q;have u:=zcn hE q w Q;have N:=wA y hE.own q;have v:=(EZ hE.k hE.kt h (-1)).out (iE .c (λx=>D.z .i64 x) 0 (eg s.k (pT h (-1)) (dI s.k.b)));rw[JM q.1]at v;have E:∀x∈eg s.k (gq h) (dI s.k.b),di x:=λx r=>wk hE.k.Q hE.k.rt (jM.1 r).1;have O:(eg s.k (gq h) (dI s.k.b)).length<=32:=eY (qY _ _ _) (qb s.k.b);unfold eh;refine dq func136 ?_;refine bo (ml y.r q) ?_;apply a4<;>intro j
 .have j:bk s.t.b h=false:=b8 j
  refine b7 ?_;rw[j];rfl
 have j:bk s.t.b h=true:=b8 j
 rw[j];show _;refine bo (J) ?_;conv=>whnf
 have K:=II N n o;have F:=De n o;have z:M.toNat<8:=a3
 rw[F];refine⟨λ_=>⟨n,o⟩,?_⟩;conv=>whnf
 have f:j5 s M h w=bif (dy s.o s.t h).kind==3 then((w==0)&&iV (dy s.o s.t h).hold M.toNat)else bif (dy s.o s.t h).kind==1 then(((dy s.o s.t h).task==M)&&vr s h w)||xz s M h w else false:=by unfold j5;rw[K,uh z,eI n,eI o,tD,tD]
 have A:((((((dy s.o s.t h).kind==3)&&(w==0))&&decide (M>=0))&&decide (M<8))&&iV (dy s.o s.t h).hold M.toNat)=(((dy s.o s.t h).kind==3)&&((w==0)&&iV (dy s.o s.t h).hold M.toNat)):=by rw[eI n,eI o,tD,tD,Bool.and_assoc]
 apply a4<;>intro e
 .have e:=A.symm.trans e;rw[dH]at e;refine b7 ?_;rw[f,e.1,e.2];rfl
 have e:=A.symm.trans e;apply a4<;>intro b
 .have b:((dy s.o s.t h).kind==1)=false:=by have b:((dy s.o s.t h).kind != 1)=true:=b;simpa using b
  refine b7 ?_;rw[f,b];cases P:(dy s.o s.t h).kind==3 with
  |false=>rfl
  |true=>rw[P,po]at e;rw[e];rfl
 have b:((dy s.o s.t h).kind==1)=true:=by have b:((dy s.o s.t h).kind != 1)=false:=b;simpa using b
 have G:((dy s.o s.t h).kind==3)=false:=by rw[eq_of_beq b];rfl
 rw[b,G,eQ,dZ]at f;refine c9 u (λ_ h _=>h) ?_;apply a4<;>intro k
 .have k:(((dy s.o s.t h).task==M)&&vr s h w)=true:=k;refine b7 ?_;rw[f,k];rfl
 have k:(((dy s.o s.t h).task==M)&&vr s h w)=false:=k;rw[k,tE]at f;have t:xz s M h w=(eg s.k (gq h) (dI s.k.b)).any (uo s M h w):=rfl;generalize eg s.k (gq h) (dI s.k.b)=L at v E O t;refine bo (v) (dX c6 (λi:Nat=>i<=L.length/\(L.take i).any (uo s M h w)=false) (λi=>L.length - i) (λi=>[(11,I i)]) (λ_=>⟨[.d (qD s l Z),.d (lH (dy s.o s.t h))],[],[]⟩) 0 ⟨dG _,rfl⟩ ⟨rfl,trivial⟩ rfl (λi=>⟨a9 _,a9 _,a9 _⟩) ?_);rintro i ⟨R,g⟩;refine b2 (x:=(L.length:Int)) ?_;apply a4<;>intro C
 .have a:i<L.length:=eZ C
  have r:=E _ (qG a);have c:(0:Int)<=(i:Int)/\(i:Int)<(L.length:Int):=⟨a3,a3⟩;have p:=Nb (uo s M h w) a;rw[g,tE]at p;refine fg (List.range 13) [(10,1023),(11,512)] (a4 c (c9 (Kh hE.k hE.kt r) (λ_ h=>h) (iF (by first|exact(show _/\_ from⟨rfl,rfl⟩)|exact(show _/\_ from⟨c,rfl,rfl⟩)) (kT ?_ ?_))));rotate_left
  .repeat' (first|exact trivial|refine iF (by first|exact(show _/\_ from⟨rfl,rfl⟩)|exact(show _/\_ from⟨c,rfl,rfl⟩)) ?_)
  refine dL 36 (a4 (λ_ _=>c) (c9 (Kg hE.k hE.kt h r) (λ_ h _ _=>h) (a4 (λ_ _ _=>c) (c9 (Kj hE.k hE.kt h r) (λ_ h _ _ _=>h) ?_))));apply a4<;>intro m
  .have m:uo s M h w (L.getD i 0)=true:=m;refine b7 ?_;have:L.any (uo s M h w)=true:=qo.2 ⟨_,qG a,m⟩;rw[f,t,this];rfl
  .have m:uo s M h w (L.getD i 0)=false:=m;refine b2 (x:=(i:Int)+1) ?_;conv=>whnf
   exact⟨i+1,⟨a,p.trans m⟩,a3,⟨rfl,trivial⟩,⟨rfl,rfl⟩,rfl⟩
 .have a:i=L.length:=e9 C
  subst a;rw[gv]at g;refine b7 ?_;rw[f,t,g];rfl
end
def KR:Ty:=.p .c (.p .c (.p .c (.p .c .u)))
def ku(m:Msg):D:=.H (.z .i64 m.J) (.H (.z .u64 m.word) (.H (.z .i64 m.D) (.H (.I m.sh) .un)))
def xl(q:List Msg)(c:Bool):D:=.H (fq KR (q.map ku)) (.H (.I c) .un)
def oy(b:MBox):D:=xl (gd b) b.cl
def Jq(h:BoxOk b):(gd b).length=b.n.toNat:=by unfold gd j4;rw[dD,tJ]
def zco(h:BoxOk b)(m:Msg):c5 a6 156 [.d (oy b),.d (ku m)] (T2 (.d (oy (jq b m))) (I (j6 b))):=by
 have l:=h.n0;have n:=h.n1;have o:=Jq h;refine dq func156 ?_;apply a4<;>intro a
 .have a:b.cl=true:=a;have e:j6 b=11:=by unfold j6;rw[a];rfl
  refine b7 ?_;rw[show jq b m=b by unfold jq;rw[e];rfl,e];rfl
 have a:b.cl=false:=a;refine a4 (eD (x:=((gd b).map ku).length) a3 (by rw[dD];omega)) ?_;apply a4<;>intro c
 .have e:j6 b=7:=by have c:((((gd b).map ku).length:Int)>3):=gM c;rw[dD]at c;unfold j6;rw[a,show(b.n==4)=true from gG.2 a3];rfl
  refine b7 ?_;rw[show jq b m=b by unfold jq;rw[e];rfl,e];rfl
 have e:j6 b=0:=by have c:¬((((gd b).map ku).length:Int)>3):=lK c;rw[dD]at c;unfold j6;rw[a,show(b.n==4)=false from fc.2 a3];rfl
 obtain⟨_,g,_⟩:=ET h (m:=m) e;have j:(jq b m).cl=b.cl:=by unfold jq;cases j6 b==0<;>rfl
 have k:oy (jq b m)=xl (gd b++[m]) false:=by unfold oy;rw[g,j,a]
 rw[k,e];have f:T2 (.d (.H (.X (0+((gd b).map ku).length+1) KR (fE (0+((gd b).map ku).length) (fE 0 (c7 []) (c7 ((gd b).map ku))) (c7 [ku m]))) (.H (.I false) .un))) (I 0)=T2 (.d (xl (gd b++[m]) false)) (I 0):=by unfold xl fq;rw[ld,je,ew,show fE 0 (c7 []) (c7 ((gd b).map ku))=c7 ((gd b).map ku) from rfl,rO];rfl
 refine yU ey ?_;refine sg 2 4 a8 ?_ ?_
 .refine oq c6 ey (λi=>[0,1,3,2,4,5,6,7,8].getD i 0) [0,1,3,2,4,5,6,7,8] [(2,8),(4,0),(5,0),(7,0)] (by repeat first|exact .refl|refine .add _ _ ?_ rfl) ey ?_;refine a4 (by rw[dD];omega) (Or.inl (fy ?_))
  exact Or.inl (a4 ⟨rfl,by rw[dD];omega⟩ (a4 rfl (uY f)))
 .refine oq c6 ey (λi=>[0,1,4,2,3,5,6,7,8].getD i 0) [0,1,3,4,2,5,6,7,8] [(2,8),(4,3),(5,0),(7,0)] (by repeat first|exact .refl|refine .add _ _ ?_ rfl) ey ?_;refine Or.inl (fy ?_)
  refine a4 (by rw[dD];omega) (Or.inl (fy ?_))
  exact a4 ⟨rfl,by rw[dD];omega⟩ (a4 rfl (uY f))
def zcA(h:BoxOk b):c5 a6 157 [.d (oy b)] (T3 (.d (oy (ia b))) (.d (ku (gJ b))) (I (lA b))):=by
 have p:=h.n0;have r:=h.n1;have s:=Jq h;refine dq func157 ?_;refine a4 (eD (x:=((gd b).map ku).length) a3 (by rw[dD];omega)) ?_;apply a4<;>intro c
 .have c:((((gd b).map ku).length:Int)>0):=gM c;rw[dD]at c;have e:lA b=0:=by unfold lA;rw[show(b.n==0)=false from fc.2 a3];rfl
  obtain⟨_,k⟩:=KX h e;have l:(ia b).cl=b.cl:=by unfold ia;cases lA b==0<;>rfl
  have n:oy (ia b)=xl (gd (ia b)) b.cl:=by unfold oy;rw[l]
  rw[n,e];unfold oy;rw[k];generalize gJ b=m;generalize gd (ia b)=q;conv=>whnf
  have g:(0:Int)<=1/\(1:Int)<=(((m::q).map ku).length:Int):=⟨a8,by rw[dD,jV];omega⟩;have a:(0:Int)<=0/\(0:Int)<(((m::q).map ku).length:Int):=⟨a8,by rw[dD,jV];omega⟩;have o:T3 (.d (.H (.X (((m::q).map ku).length - 1) KR (jT (c7 ((m::q).map ku)) 1)) (.H (.I b.cl) .un))) (.d (ku m)) (I 0)=T3 (.d (xl q b.cl)) (.d (ku m)) (I 0):=by unfold xl fq;rw[show jT (c7 ((m::q).map ku)) 1=c7 (q.map ku) from by funext i;unfold jT;rw[Nat.add_comm];rfl];rfl
  refine fg (List.range 13) [(10,960),(11,0)] (a4 g (a4 a (iF (by first|exact(show _/\_ from⟨rfl,rfl⟩)|exact(show _/\_ from⟨a,rfl,rfl⟩)) (kT ?_ ?_))));rotate_left
  .repeat' (first|exact trivial|refine iF (by first|exact(show _/\_ from⟨rfl,rfl⟩)|exact(show _/\_ from⟨a,rfl,rfl⟩)) ?_)
  exact a4 rfl (uY o)
 have c:¬((((gd b).map ku).length:Int)>0):=lK c;rw[dD]at c;have j:(b.n==0)=true:=gG.2 a3;apply a4<;>intro f
 .have f:b.cl=true:=f;have e:lA b=11:=by unfold lA;rw[j,f];rfl
  refine b7 ?_;rw[show ia b=b by unfold ia;rw[e];rfl,show gJ b=mz by unfold gJ;rw[e];rfl,e];rfl
 .have f:b.cl=false:=f;have e:lA b=10:=by unfold lA;rw[j,f];rfl
  refine b7 ?_;rw[show ia b=b by unfold ia;rw[e];rfl,show gJ b=mz by unfold gJ;rw[e];rfl,e];rfl
section
variable {t:Tb} {d:Int->Nat} (ht:TInv t d)
include ht
def zb0(j:gp t)(m:di r)(k:0<=c):c5 a6 158 [.d (gU t),I r,I c] (T2 (I (bif kr t r c==0 then(b1 t r).cells c.toNat else 0)) (I (kr t r c))):=by
 have n:=iq r;refine dq func158 ?_;refine bo (ml ht.r m) ?_;apply a4<;>intro g
 .have g:(!bk t.b r)=true:=g;have e:kr t r c=4:=by unfold kr;rw[show bk t.b r=false by simpa using g];rfl
  exact b7 (by rw[e];rfl)
 have h:bk t.b r=true:=by have g:(!bk t.b r)=false:=g;simpa using g
 apply a4<;>intro f
 .have e:kr t r c=2:=by have f:(decide (c<0)||decide (c>7))=true:=f;unfold kr;rw[h,show(decide (c>=0)&&decide (c<8))=false by simp at f ⊢;omega];rfl
  exact b7 (by rw[e];rfl)
 have f:c<=7:=by have f:(decide (c<0)||decide (c>7))=false:=f;simp at f;omega
 refine bo (mn ht.r.Q ht.r.ret m) ?_;conv=>whnf
 rw[m7 h];refine a4 ⟨(a3:(0:Int)<=(a5 r:Int)),(a3:(a5 r:Int)<32)⟩ (a4 ⟨k,(a3:c<8)⟩ ?_);conv=>whnf
 have l:b1 t r=t.r (a5 r):=by unfold b1;rw[h,<-Bh ht.r r];rfl
 have i:kr t r c=bif (t.r (a5 r)).cells c.toNat != 0 then no (bk t.b ((t.r (a5 r)).cells c.toNat)) 4 else 10:=by unfold kr;rw[h,l,eI k,eI (a3:c<8)];rfl
 have o:di ((t.r (a5 r)).cells c.toNat):=j _ _;apply a4<;>intro b
 .have b:((t.r (a5 r)).cells c.toNat==0)=true:=b;have e:kr t r c=10:=by rw[i];unfold bne;rw[b];rfl
  exact b7 (by rw[e];rfl)
 have b:((t.r (a5 r)).cells c.toNat != 0)=true:=by have b:((t.r (a5 r)).cells c.toNat==0)=false:=b;unfold bne;rw[b];rfl
 refine bo (ml ht.r o) ?_;apply a4<;>intro a
 .have a:bk t.b ((t.r (a5 r)).cells c.toNat)=false:=by have a:(!bk t.b ((t.r (a5 r)).cells c.toNat))=true:=a;simpa using a
  have e:kr t r c=4:=by rw[i,b,a];rfl
  exact b7 (by rw[e];rfl)
 .have a:bk t.b ((t.r (a5 r)).cells c.toNat)=true:=by have a:(!bk t.b ((t.r (a5 r)).cells c.toNat))=false:=a;simpa using a
  have e:kr t r c=0:=by rw[i,b,a];rfl
  exact b7 (by rw[e,l];rfl)
def zcr{A:Int}(k:di r)(o:di A)(p:0<=c)(a:Bool):c5 a6 159 [.d (gU t),I r,I c,I A,B a] (T2 (.d (gU (bif iX t r c A a==0 then oI t r c A else t))) (I (iX t r c A a))):=by
 refine dq func159 ?_;refine bo (ml ht.r k) (c9 (ml ht.r o) (λ_ h _ _=>h) ?_);conv=>whnf
 have l:(!bk t.b r||((A != 0)&&!bk t.b A))=!(bk t.b r&&((A==0)||bk t.b A)):=by unfold bne;cases bk t.b r<;>cases A==0<;>cases bk t.b A<;>rfl
 apply a4<;>intro f
 .have f:(bk t.b r&&((A==0)||bk t.b A))=false:=(jL _).mp (l.symm.trans f);have e:iX t r c A a=4:=by unfold iX;rw[f];rfl
  exact b7 (by rw[e];rfl)
 have f:(bk t.b r&&((A==0)||bk t.b A))=true:=(lD _).mp (l.symm.trans f);have i:bk t.b r=true:=(iZ.1 f).1;apply a4<;>intro b
 .have e:iX t r c A a=2:=by have b:(decide (c<0)||decide (c>7))=true:=b;unfold iX;rw[f,show(decide (c>=0)&&decide (c<8))=false by simp at b ⊢;omega];rfl
  exact b7 (by rw[e];rfl)
 have b:(decide (c>=0)&&decide (c<8))=true:=by have b:(decide (c<0)||decide (c>7))=false:=b;simp at b ⊢;omega
 have s:c<8:=gM (iZ.1 b).2;refine c9 (RF ht.r ht.rk o k) (λ_ h _=>h) ?_;conv=>whnf
 have m:(((A != 0)&&!a)&&!kz t A r)=!(((A==0)||a)||kz t A r):=by unfold bne;cases A==0<;>cases a<;>cases kz t A r<;>rfl
 apply a4<;>intro g
 .have g:(((A==0)||a)||kz t A r)=false:=(jL _).mp (m.symm.trans g);have e:iX t r c A a=5:=by unfold iX;rw[f,b,g];rfl
  exact b7 (by rw[e];rfl)
 have g:(((A==0)||a)||kz t A r)=true:=(lD _).mp (m.symm.trans g);have j:=iq r;have n:hQ t r {b1 t r with cells:=a7 (b1 t r).cells c.toNat A}=0:=BJ i (by rw[show b1 t r=t.r (a5 r) by unfold b1;rw[i,<-Bh ht.r r];rfl];exact RgI.cells (ht.rg _ j) _ _);have e:iX t r c A a=0:=by unfold iX;rw[f,b,g];exact n
 have q:oI t r c A=⟨t.b,a7 t.r (a5 r) {t.r (a5 r)with cells:=a7 (t.r (a5 r)).cells c.toNat A}⟩:=by unfold oI hZ;rw[n,show b1 t r=t.r (a5 r) by unfold b1;rw[i,<-Bh ht.r r];rfl];rfl
 rw[e,show(bif (0:Int)==0 then oI t r c A else t)=oI t r c A from rfl,q];refine bo (mn ht.r.Q ht.r.ret k) ?_;conv=>whnf
 rw[m7 i];refine a4 ⟨(a3:(0:Int)<=(a5 r:Int)),(a3:(a5 r:Int)<32)⟩ (a4 ⟨p,s⟩ ?_);conv=>whnf
 refine⟨.d (kG t.b (a7 t.r (a5 r) {t.r (a5 r)with cells:=a7 (t.r (a5 r)).cells c.toNat A})),by rw[vx,So];rfl,?_⟩;exact b7
end
def BQ:Ty:=.p .c (.p .c .u)
def qU(l:List Int):List D:=l.map (.z .u8)
def Ay(W:D)(c:Nat->MBox)(a b:Nat->Bool)(y:Nat->List Int)(C:List Rn):D:=.H W (.H (.ar 8 BQ λi=>oy (c i)) (.H (.ar 8 .c λi=>.I (a i)) (.H (.ar 8 .c λi=>.I (b i)) (.H (.ar 32 .c λi=>fq .c (qU (y i))) (.H (fq t2 (C.map i7)) .un)))))
def ei(s:St)(l:List (Int×Ow))(Z:Nat->Tk)(y:Nat->List Int)(C:List Rn):D:=Ay (qD s l Z) s.box s.alive s.born y C
def sm(r:Rs):D:=.H (.z .i64 r.e) (.H (.z .u64 r.v) (.H (.z .i64 r.w) .un))
section
variable {s:St} {l:List (Int×Ow)} {Z:Nat->Tk} {y:Nat->List Int} {C:List Rn}
def xS{a:Int}(b:0<=a):c5 a6 71 [.d (ei s l Z y C),I a] (B (decide (a<8)&&s.alive a.toNat)):=by
 refine dq func71 ?_;conv=>whnf
 have d:a<8->dC .and .i64 a 7=a:=De b;refine⟨λg=>?_,?_⟩
 .have g:(decide (a>=0)&&decide (a<8))=true:=g;have g:=gM (iZ.1 g).2;rw[d g];exact⟨b,g⟩
 refine b7 ?_;show B ((decide (a>=0)&&decide (a<8))&&s.alive (dC .and .i64 a 7).toNat)=_;rw[eI b,po];by_cases c:a<8
 .rw[d c]
 .rw[fe c];rfl
def nO(e:Int):c5 a6 73 [.d (ei s l Z y C),I e] (T2 (.d (ei s l Z y C)) (.d (sm ⟨e,0,0⟩))):=by
 refine dq func73 ?_;exact b7
variable (hE:ExR s l Z)
include hE
def EX(e:di h)(b:bk s.t.b h=true):c5 a6 137 [.d (ei s l Z y C),I h] (T2 (.d (nJ (s.t.r (a5 h)).rs (s.t.r (a5 h)).len)) (I (a5 h))):=by
 obtain⟨d,a⟩:=hE.t;have c:=iq h;refine dq func137 ?_;refine bo (mn a.r.Q a.r.ret e) ?_;conv=>whnf
 rw[m7 b];exact a4 ⟨(a3:(0:Int)<=(a5 h:Int)),(a3:(a5 h:Int)<32)⟩ b7
def Kf(i:0<=M)(j:M<8)(g:di h):c5 a6 148 [.d (ei s l Z y C),I M,I h] (I (jw s M h)):=by
 obtain⟨d,f⟩:=hE.t;have m:=wA f hE.own g;have k:va (dy s.o s.t h) M=iV (dy s.o s.t h).hold M.toNat:=by rw[II m i j,uh (a3:M.toNat<8)]
 refine dq func148 ?_;refine bo (zw f hE.own hE.len g) (bo (ml f.r g) ?_);apply a4<;>intro a
 .have a:bk s.t.b h=false:=(jL _).mp a;exact b7 (by unfold jw;rw[a];rfl)
 have a:bk s.t.b h=true:=(lD _).mp a;refine bo (pe f.r f.rk g) ?_;conv=>whnf
 have e:(((fl s.t h != h))||((dy s.o s.t h).kind != 3))=!((fl s.t h==h)&&((dy s.o s.t h).kind==3)):=by unfold bne;cases fl s.t h==h<;>cases(dy s.o s.t h).kind==3<;>rfl
 apply a4<;>intro b
 .have b:((fl s.t h==h)&&((dy s.o s.t h).kind==3))=false:=(jL _).mp (e.symm.trans b);exact b7 (by unfold jw;rw[a,b];rfl)
 have b:((fl s.t h==h)&&((dy s.o s.t h).kind==3))=true:=(lD _).mp (e.symm.trans b);refine a4 ⟨i,j⟩ ?_;apply a4<;>intro c
 .have c:iV (dy s.o s.t h).hold M.toNat=false:=(jL _).mp c;exact b7 (by unfold jw;rw[a,b,k,c];rfl)
 have c:iV (dy s.o s.t h).hold M.toNat=true:=(lD _).mp c;exact b7 (by unfold jw;rw[a,b,k,c];rfl)
end
end Sx
namespace Sx
def rG(y:Nat->List Int)(l:List Int):Nat->List Int:=l.foldl (λy x=>a7 y (a5 x) []) y
def take_one{l:List Int}{i:Nat}(a:i<l.length):l.take (i+1)=l.take i++[l.getD i 0]:=by rw[js,O5 a];rfl
def BD{r:Rg}(h:RgI r):r.rs.length<=64:=by
 have b:=EM (l:=r.rs) λy a=>by have:=h.ok y a;unfold dw at this;omega
 have c:((dm r.rs).length:Int)=dK r.rs:=Bs h.ok;have:=h.pg;have:=h.q1;omega
def Dt{t:Tb}{d:Int->Nat}(a:TInv t d):∀l:List Int,(g7 t l).length<=64*l.length
 |[]=>a9 _
 |x::l=>by have b:=BD (pF a x);have c:=Dt a l;show((b1 t x).rs++g7 t l).length<=_;rw[ew,jV];omega
def BF(s:St)(l:List (Int×Ow))(Z:Nat->Tk)(y:Nat->List Int)(C:List Rn)(k:Nat)(q:List Int):ei s l Z (a7 y k q) C=.H (qD s l Z) (.H (.ar 8 BQ λi=>oy (s.box i)) (.H (.ar 8 .c λi=>.I (s.alive i)) (.H (.ar 8 .c λi=>.I (s.born i)) (.H (.ar 32 .c (a7 (λi=>fq .c (qU (y i))) k (fq .c (qU q)))) (.H (fq t2 (C.map i7)) .un))))):=by rw[iU (λq=>fq .c (qU q)) y k q];rfl
attribute [local irreducible] b6 eF ez eH eB eM dC ec dU dx
def EY{s:St}{l:List (Int×Ow)}{Z:Nat->Tk}{y:Nat->List Int}{C:List Rn}(m:ExR s l Z)(R:C.length<=1000000){h:Int}(c:eW s.t h):c5 a6 145 [.d (ei s l Z y C),I h] (.d (ei (jG s h) l Z (rG y (dJ s.t h)) (C++j3 s h))):=by
 obtain⟨d,a⟩:=m.t;have z:=(Bx a.r a.rk c.1).out (iE .c (λx=>D.z .i64 x) 0 (dJ s.t h));have n:=zb5 a.r a.rk c.1 c.2;rw[(Ia a c).1,(Ia a c).2]at n;have E:∀x∈dJ s.t h,eW s.t x:=λx e=>by rw[wN c.2]at e;exact((oM a c).1 e).1
 have O:(dJ s.t h).length<=33:=by rw[wN c.2];exact ra a.ok a.rk (g8 c.2)
 have o:=Dt a;have F:jG s h={s with t:=gT s.t (dJ s.t h),k:=ke s.k (dJ s.t h)}:=rfl;rw[F,show j3 s h=g7 s.t (dJ s.t h) from rfl];generalize dJ s.t h=L at z n E O;refine dq func145 ?_;refine bo (z) (a4 (by rw[dD];omega) (Or.inl (dX c6 (λi:Nat×Nat=>i.1<=L.length) (λi=>L.length - i.1) (λi=>[(7,I i.1),(6,gx 1 i.2 t2 ((C++g7 s.t (L.take i.1)).map i7))]) (λi=>⟨[.d (ei {s with k:=ke s.k (L.take i.1)} l Z (rG y (L.take i.1)) C),.d (ZT.d pn)],[i.2],[]⟩) (0,0) (dG _) ⟨rfl,?_,trivial⟩ rfl (λi=>⟨a9 _,a9 _,a9 _⟩) ?_)))
 .show some (SV.ow 1 0 (0+(C.map i7).length) t2 (fE 0 (c7 []) (c7 (C.map i7))))=some (gx 1 0 t2 ((C++[]).map i7));rw[ld,gk];rfl
 rintro⟨i,v⟩ A;have A:i<=L.length:=A;refine b2 (x:=(L.length:Int)) ?_;apply a4<;>intro u
 .have b:i<L.length:=eZ u
  have e:=E _ (qG b);have f:(0:Int)<=(i:Int)/\(i:Int)<(L.length:Int):=⟨a3,a3⟩;have r:=iq (L.getD i 0);have g:(0:Int)<=(a5 (L.getD i 0):Int)/\(a5 (L.getD i 0):Int)<32:=⟨a3,a3⟩;have w:=mn a.r.Q a.r.ret e.1;rw[m7 e.2]at w;have p:=m.k.gone (L.take i);have q:=m.kt.gone (L.take i);have N:=zbU p q e.1.1;have j:=take_one b;have P:((C++g7 s.t (L.take i)).map i7).length<=1100000:=by have:=o (L.take i);rw[dD,ew,kO]at*;omega
  have Q:((s.t.r (a5 (L.getD i 0))).rs.map i7).length<=64:=by rw[dD];exact BD (a.rg _ r)
  have J:g7 s.t (L.take (i+1))=g7 s.t (L.take i)++(s.t.r (a5 (L.getD i 0))).rs:=by unfold g7;rw[j,mA,Ml,(su e.2).1]
  have G:(C++g7 s.t (L.take (i+1))).map i7=(C++g7 s.t (L.take i)).map i7++(s.t.r (a5 (L.getD i 0))).rs.map i7:=by rw[J,<-iJ,je]
  have M:rG y (L.take (i+1))=a7 (rG y (L.take i)) (a5 (L.getD i 0)) []:=by unfold rG;rw[j,pq];rfl
  have K:ke s.k (L.take (i+1))=kD (ke s.k (L.take i)) (eg (ke s.k (L.take i)) (gq (L.getD i 0)) (dI (ke s.k (L.take i)).b)):=by unfold ke;rw[j,pq];rfl
  refine dL 10 (a4 f (c9 w (λ_ h=>h) (a4 g (a4 ⟨rfl,by show((C++g7 s.t (L.take i)).map i7).length+((s.t.r (a5 (L.getD i 0))).rs.map i7).length<=2147483648;omega⟩ (a4 g ?_)))));conv=>whnf
  refine⟨.d (ei {s with k:=ke s.k (L.take i)} l Z (rG y (L.take (i+1))) C),?_,?_⟩
  .rw[M,BF];rfl
  refine dL 10 (a4 f (c9 N (λ_ h=>h) (b2 (x:=(i:Int)+1) ?_)));conv=>whnf
  refine⟨(i+1,v+1),b,by show L.length -(i+1)<L.length - i;omega,⟨rfl,?_,trivial⟩,⟨?_,rfl⟩,rfl⟩
  .show _=some (gx 1 (v+1) t2 ((C++g7 s.t (L.take (i+1))).map i7));rw[G,<-kA];rfl
  .rw[K];rfl
 .have b:i=L.length:=e9 u
  subst b;rw[gv];exact bo (n) b7
end Sx
namespace Sx
variable{M h:Int}{d:Int->Nat}{C:List Rn}{y z:Nat->List Int}{Z:Nat->Tk}{s:St}
def ir(t:Tb)(y z:Nat->List Int):Prop:=∀i,i<32->z i=jh (32*dK (t.r i).rs).toNat (y i)
def Bp{t t':Tb}(h:∀i,(t'.r i).rs=(t.r i).rs)(p:ir t y z):ir t' y z:=λi a=>by rw[h i];exact p i a
def Ya(h:Int)(i:Nat):∀(n:Nat) (R:Nat->Rg),(nq R h n i).rs=(R i).rs
 |n,R=>by unfold nq;cases(Nat.blt i n&&(R i).up==h)<;>rfl
def OL{y:Nat->List Int}:∀(l:List Int) {R:Nat->Rg} {z:Nat->List Int},(∀i,i<32->z i=jh (32*dK (R i).rs).toNat (y i))->∀i,i<32->rG z l i=jh (32*dK (uZ R l i).rs).toNat (y i)
 |[],_,_,h=>h
 |x::l,R,z,h=>OL l (R:=xi R x) (z:=a7 z (a5 x) []) λi a=>by
  unfold xi;rw[Ya];by_cases c:i=a5 x
  .rw[c,dN,dN];show[]=jh 0 _;unfold jh;simp
  .rw[dP c,dP c];exact h i a
def JN(c:TInv s.t d)(a:eW s.t h)(p:ir s.t y z):ir (jG s h).t y (rG z (dJ s.t h)):=λi b=>by have:=OL (y:=y) (dJ s.t h) p i b;rw[wN a.2]at this ⊢;rw[(Ia c a).2]at this;exact this
def US(W:St)(r:Rs)(l:List (Int×Ow))(y:Nat->List Int)(v:SV):Prop:=∃c a d b,OwS W.t W.o c/\KtS W.k a/\c.length<=l.length+100/\ir W.t y d/\v=T2 (.d (ei W c a d b)) (.d (sm r))
def Ku(s:St)(X:Ex):St×Rs×List Rn:=match X with
 | .ok x=>x
 | .error e=>(s,⟨e,0,0⟩,[])
def lP(s:St)(l:List (Int×Ow))(y:Nat->List Int)(X:Ex)(v:SV):Prop:=US (Ku s X).1 (Ku s X).2.1 l y v
def iD{l:List (Int×Ow)}(a:ExR s l Z)(b:ir s.t y y)(e:Int):lP s l y (.error e) (T2 (.d (ei s l Z y C)) (.d (sm ⟨e,0,0⟩))):=⟨l,Z,y,C,a.own,a.kt,oo _ _,b,rfl⟩
def IG{o:Nat->Sd}{t:Tb}(e:TInv t d){r:Int}(a:gi t r)(f:0<=M)(g:M<8)(i:(dy o t r).kind=3)(b:Bool):iw o t r M b=bif qK (dy o t r) M==b then(bif b then 7 else 5)else 0:=by
 have c:=tv e a f g;have h:tj t r M=false:=by unfold tj;rw[c,(rW e a.1).2 a.2];simp
 unfold iw;rw[h,i,c];cases qK (dy o t r) M<;>cases b<;>rfl
def IK(f:TInv s.t d)(e:di h)(a:jw s M h=0):gi s.t h/\(dy s.o s.t h).kind=3/\va (dy s.o s.t h) M=true:=by
 unfold jw at a;cases c:bk s.t.b h with
 |false=>rw[c]at a;cases a
 |true=>
  rw[c]at a;cases b:((fl s.t h==h)&&((dy s.o s.t h).kind==3))with
  |false=>rw[b]at a;cases a
  |true=>
   rw[b]at a;rw[dH,gG,gG]at b;exact⟨⟨⟨e,c⟩,(rW f ⟨e,c⟩).1 b.1⟩,b.2,mX a8 a⟩
def Ei{x:Ow}(c:0<=x.hold/\x.hold<256)(a:0<=M)(b:M<8):qK x M=iV x.hold M.toNat/\va x M=iV x.hold M.toNat:=by rw[ID a,II c a b,uh (a3:M.toNat<8)];exact⟨rfl,rfl⟩
def ExR.hold{l:List (Int×Ow)}(f:ExR s l Z)(J:l.length<1000000)(C:di h){b:Bool}(G:iw s.o s.t h M b=0):ExR {s with o:=gL s.o s.t h M b} (jJ l h (jQ s.o s.t h M)) Z:=by obtain⟨d,u⟩:=f.t;obtain⟨E,K,L,N,F⟩:=u9 u C G;refine⟨f.t,f.k,?_,eY (sO _ _ _) J,f.kt,f.cu⟩;show OwS s.t (gL s.o s.t h M b) _;rw[F];have A:=wA u f.own C;have j:=(Cd A.1 A.2 (a:=M.toNat) (b:=0) a3 a3).2;rw[show((M.toNat:Nat):Int)=M by omega]at j;exact f.own.with u.ok.Q E.1 (λx j _=>j) j
attribute [local irreducible] b6 eF ez eH eB eM dC ec dU dx
def yR(s:St)(h M:Int)(z:Nat->List Int):Nat->List Int:=bif kY (jH s.o s.t h M false).toNat==0 then rG z (dJ s.t h)else z
def Ry{l:List (Int×Ow)}(f:ExR s l Z)(A:l.length<1000000)(z:C.length<=1000000)(m:di h)(i:iw s.o s.t h M false=0):c5 a6 149 [.d (ei s l Z y C),I h,I M] (.d (ei (iv s h M).1 (jJ l h (jQ s.o s.t h M)) Z (yR s h M y) (C++(iv s h M).2))):=by
 obtain⟨d,k⟩:=f.t;obtain⟨n,⟨o,p⟩,u,v,E⟩:=u9 k m i;have g:=f.hold A m i;have j:=wA k f.own m;have t:=(Cd j.1 j.2 (a:=M.toNat) (b:=0) a3 a3).2;rw[show((M.toNat:Nat):Int)=M by omega]at t;have r:=Xs (x:=(jQ s.o s.t h M).hold) t;have q:=J9 k f.own f.len n o p u false;rw[show iV (dy s.o s.t h).hold M.toNat=true from((Ei j o p).1).symm.trans v,show(true==false)=false from rfl,eQ]at q;have w:jH s.o s.t h M false=(jQ s.o s.t h M).hold:=by unfold jH;rw[i];rfl
 unfold iv yR;rw[w];refine dq func149 ?_;refine bo (q) ?_;apply a4<;>intro c
 .have c:((sk (jQ s.o s.t h M).hold 8:Int)==0)=true:=c;rw[show(kY (jQ s.o s.t h M).hold.toNat==0)=true from gG.2 (r.1 (by have:=eq_of_beq c;omega)),dZ,dZ];exact bo (EY g z n.1) b7
 .have c:((sk (jQ s.o s.t h M).hold 8:Int)==0)=false:=c;rw[show(kY (jQ s.o s.t h M).hold.toNat==0)=false from fc.2 λe=>by rw[r.2 e]at c;exact b3 c a8,eQ,eQ,gk];exact b7
end Sx
namespace Sx
variable{h:Int}
def jn(c:Call):D:=.H (.z .i64 c.C) (.H (.z .i64 c.r) (.H (.z .i64 c.s) (.H (.z .i64 c.a) (.H (.z .i64 c.b) (.H (.z .u64 c.v) .un)))))
def OD{s:St}{l:List (Int×Ow)}{Z:Nat->Tk}(b:ExR s l Z){M:Int}(g:di h)(e:iw s.o s.t h M false=0){y z:Nat->List Int}(p:ir s.t y z):ir (iv s h M).1.t y (yR s h M z):=by
 obtain⟨d,a⟩:=b.t;have f:=(u9 a g e).1;unfold iv yR;cases kY (jH s.o s.t h M false).toNat==0 with
 |true=>exact JN (s:={s with o:=gL s.o s.t h M false}) a f.1 p
 |false=>exact p
def Iy{s:St}{l:List (Int×Ow)}{d:Int->Nat}(g:TInv s.t d)(f:eW s.t h)(e:OwS s.t s.o l):OwS (jG s h).t s.o l:=by obtain⟨hD,i,_,b⟩:=tf g f;exact e.mono λx a=>⟨⟨a.1.1,((hD.D2 x a.1.1).1 a.1.2).1⟩,(b x a.1).symm.trans a.2⟩
def OC{s:St}{l:List (Int×Ow)}{Z:Nat->Tk}(b:ExR s l Z)(i:l.length<1000000){M:Int}(g:di h)(e:iw s.o s.t h M false=0):OwS (iv s h M).1.t (iv s h M).1.o (jJ l h (jQ s.o s.t h M))/\KtS (iv s h M).1.k Z:=by
 obtain⟨d,f⟩:=b.t;have j:=(u9 f g e).1;have a:=b.hold i g e;unfold iv;cases kY (jH s.o s.t h M false).toNat==0 with
 |true=>exact⟨Iy (s:={s with o:=gL s.o s.t h M false}) f j.1 a.own,b.kt.gone _⟩
 |false=>exact⟨a.own,b.kt⟩
attribute [local irreducible] b6 eF ez eH eB eM dC ec dU dx
section
variable {s:St} {M:Int} {c:Call} {l:List (Int×Ow)} {Z:Nat->Tk} {y:Nat->List Int} {C:List Rn}
def zb2(a:CallOk s M c)(f:ExR s l Z)(k:ir s.t y y)(x:l.length<999900)(p:C.length<=1000000):jN a6 76 [.d (ei s l Z y C),I M,.d (jn {c with C:=11})] (lP s l y (xj s M c)):=by
 obtain⟨d,j⟩:=f.t;have o:=λe=>nO (s:=s) (l:=l) (Z:=Z) (y:=y) (C:=C) e;refine nx func76 ?_;refine c9 (xS a.a.1) (λ_ h g=>by cases(show false=true from g)) (b0 (bo (Kf f a.t0 a.t1 a.r) ?_));apply a4<;>intro b
 .have b:(jw s M c.r != 0)=true:=b;refine bo (o (jw s M c.r)) (a4 rfl (eC ?_));unfold xj;rw[eR (b8 b)];exact iD f k _
 have b:jw s M c.r=0:=by have b:(jw s M c.r != 0)=false:=b;simpa using b
 obtain⟨u,v,w⟩:=IK j a.r b;have q:=wA j f.own a.r;have i:iw s.o s.t c.r M false=0:=by obtain⟨m,n⟩:=Ei q a.t0 a.t1;rw[IG j u a.t0 a.t1 v,m,<-n,w];rfl
 obtain⟨r,t⟩:=OC f a3 a.r i;refine ej (bo (Ry f a3 p a.r i) (a4 rfl (eC ?_)));unfold xj;rw[b9 b,b9 i];exact⟨_,_,_,_,r,t,eY (sO _ _ _) a3,OD f a.r i k,rfl⟩
def zcx(b:CallOk s M c)(f:ExR s l Z)(m:ir s.t y y)(w:l.length<999900):jN a6 76 [.d (ei s l Z y C),I M,.d (jn {c with C:=10})] (lP s l y (vz s M c)):=by
 obtain⟨d,n⟩:=f.t;have p:=λe=>nO (s:=s) (l:=l) (Z:=Z) (y:=y) (C:=C) e;refine nx func76 ?_;refine c9 (xS b.a.1) (λ_ h _=>h) ?_;apply a4<;>intro g
 .have g:(!(decide (c.a<8)&&s.alive c.a.toNat))=true:=g;have e:ki s c.a=2:=by unfold ki;rw[(jL _).mp g];rfl
  refine bo (p 2) (a4 rfl (eC ?_));unfold vz;rw[e];exact iD f m 2
 have g:(decide (c.a<8)&&s.alive c.a.toNat)=true:=(lD _).mp g;have o:ki s c.a=0:=by unfold ki;rw[g];rfl
 have q:c.a<8:=gM (iZ.1 g).1;refine bo (Kf f b.t0 b.t1 b.r) ?_;apply a4<;>intro a
 .have a:(jw s M c.r != 0)=true:=a;refine bo (p (jw s M c.r)) (a4 rfl (eC ?_));unfold vz;rw[b9 o,eR (b8 a)];exact iD f m _
 have a:jw s M c.r=0:=by have a:(jw s M c.r != 0)=false:=a;simpa using a
 obtain⟨t,u,x⟩:=IK n b.r a;have v:=wA n f.own b.r;have k:=J9 n f.own f.len t b.a.1 q u true;have i:=IG n t b.a.1 q u true;rw[(Ei v b.a.1 q).1]at i;refine b0 ?_;conv=>whnf
 cases r:iV (dy s.o s.t c.r).hold c.a.toNat==true with
 |true=>
  rw[r,dZ]at k i;refine bo (k) (ej (bo (p 7) (a4 rfl (eC ?_))));unfold vz;rw[b9 o,b9 a,i];exact iD f m 7
 |false=>
  rw[r,eQ]at k i;have j:=f.hold a3 b.r i;refine bo (k) (b0 (a4 rfl (eC ?_)));unfold vz;rw[b9 o,b9 a,b9 i];exact⟨_,_,_,_,j.own,j.kt,eY (sO _ _ _) a3,m,rfl⟩
end
end Sx
end Go.Proofs.YtfbhkfhbnkncoaaGreatDoor
