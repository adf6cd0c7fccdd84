import Derived.Test.YtfbhkfhbnkncoaaGreatDoorV43
set_option linter.all false
set_option maxRecDepth 100000
set_option maxHeartbeats 4000000
namespace Go.Proofs.YtfbhkfhbnkncoaaGreatDoor
open Go.RowKit Tryz
open Tryz renaming prog→a6
namespace Sx
attribute [local irreducible] b6 eF ez eH eB eM dC ec dU dx
section
variable {s:St} {M:Int} {c:Call} {l:List (Int×Ow)} {Z:Nat->Tk} {y:Nat->List Int} {C:List Rn}
def zbS(i:CallOk s M c)(b:ExR s l Z)(f:ir s.t y y):jN a6 77 [.d (ei s l Z y C),I M,.d (jn {c with C:=13})] (lP s l y (w9 s M c)):=by
 have h:=λe=>nO (s:=s) (l:=l) (Z:=Z) (y:=y) (C:=C) e;have d:=Kh b.k b.kt i.s';unfold w9;refine nx func77 ?_;conv=>whnf
 cases g:bk s.k.b c.s with
 |false=>
  rw[g,eQ]at d;exact bo (d) (ej (ej (bo (h 4) (a4 rfl (eC (iD b f 4))))))
 |true=>
  rw[g,dZ]at d;refine bo (d) (ej (b0 ?_));apply a4<;>intro a
  .have a:((dr s.k c.s).W==M)=false:=by have a:((dr s.k c.s).W != M)=true:=a;simpa using a
   rw[a];exact bo (h 5) (a4 rfl (eC (iD b f 5)))
  .have a:((dr s.k c.s).W==M)=true:=by have a:((dr s.k c.s).W != M)=false:=a;simpa using a
   rw[a];exact bo (RH b.k b.kt i.s' g) (a4 rfl (eC ⟨_,_,_,_,b.own,b.kt.ret _,oo _ _,f,rfl⟩))
set_option maxHeartbeats 1000000 in
def zce(h:CallOk s M c)(f:ExR s l Z)(j:ir s.t y y):jN a6 77 [.d (ei s l Z y C),I M,.d (jn {c with C:=12})] (lP s l y (wt s M c)):=by
 obtain⟨d,t⟩:=f.t;have o:=λe=>nO (s:=s) (l:=l) (Z:=Z) (y:=y) (C:=C) e;have A:=Kh f.k f.kt h.s';have F:=zw t f.own f.len h.r;have r:((bif bk s.k.b c.s then(0:Int)else 4) != 0)=!bk s.k.b c.s:=by cases bk s.k.b c.s<;>rfl
 refine nx func77 ?_;conv=>whnf
 refine bo (A) ?_;conv=>whnf
 refine b0 ?_;conv=>whnf
 refine bo (xS h.a.1) ?_;conv=>whnf
 apply a4<;>intro g
 .have g:(!(decide (c.a<8)&&s.alive c.a.toNat)||decide (c.b>1))=true:=g;have e:∀k:Ex,(dV (ki s c.a) <| dV (no (decide (c.b<=1)) 2) k)=.error 2:=λk=>by
   unfold ki;cases n:(decide (c.a<8)&&s.alive c.a.toNat)with
   |false=>rfl
   |true=>
    rw[n]at g;have g:decide (c.b>1)=true:=g;rw[show decide (c.b<=1)=false from fe (by have:=gM g;omega)];rfl
  conv=>whnf
  refine bo (o 2) ?_;conv=>whnf
  refine⟨rfl,eC ?_⟩;unfold wt;rw[e];exact iD f j 2
 have g:(!(decide (c.a<8)&&s.alive c.a.toNat)||decide (c.b>1))=false:=g;rw[gX]at g;have u:ki s c.a=0:=by unfold ki;rw[(lD _).mp g.1];rfl
 have v:no (decide (c.b<=1)) 2=0:=by rw[eI (by have:=lK g.2;omega:c.b<=1)];rfl
 have G:c.a<8:=gM (iZ.1 ((lD _).mp g.1)).1;have z:wt s M c=dV (no (bk s.t.b c.r) 4) (dV (bif c.s==0 then no (((dy s.o s.t c.r).kind==1)&&((dy s.o s.t c.r).task==M)) 5 else bif bk s.k.b c.s then no (((dr s.k c.s).W==M)&&((dr s.k c.s).D==c.r)) 5 else 4) <| dV (iM s.k ⟨c.r,M,c.a,c.b==1,c.s⟩) <| .ok ({s with k:=lI s.k ⟨c.r,M,c.a,c.b==1,c.s⟩},⟨0,0,qO s.k ⟨c.r,M,c.a,c.b==1,c.s⟩⟩,[])):=by unfold wt;rw[b9 u,b9 v,r6 h.t0 (by have:=h.t1;omega),r6 h.a.1 a3]
 rw[z];generalize q:(⟨c.r,M,c.a,c.b==1,c.s⟩:Tk)=x;have hL:=zcf f.k f.kt (x:=x) (by rw[<-q];exact h.s');conv=>whnf
 refine bo (ml t.r h.r) ?_;conv=>whnf
 apply a4<;>intro b
 .have b:(!bk s.t.b c.r||((c.s != 0)&&((bif bk s.k.b c.s then(0:Int)else 4) != 0)))=true:=b;rw[r]at b;conv=>whnf
  refine bo (o 4) ?_;conv=>whnf
  refine⟨rfl,eC ?_⟩;cases n:bk s.t.b c.r with
  |false=>exact iD f j 4
  |true=>
   rw[n]at b;have b:=iZ.1 (show((c.s != 0)&&!bk s.k.b c.s)=true from b);rw[(jL _).mp b.2,show(c.s==0)=false by simpa using b.1];exact iD f j 4
 have b:(!bk s.t.b c.r||((c.s != 0)&&((bif bk s.k.b c.s then(0:Int)else 4) != 0)))=false:=b;rw[r,gX]at b;rw[show bk s.t.b c.r=true from(lD _).mp b.1];have w:(bif c.s==0 then no (((dy s.o s.t c.r).kind==1)&&((dy s.o s.t c.r).task==M)) 5 else bif bk s.k.b c.s then no (((dr s.k c.s).W==M)&&((dr s.k c.s).D==c.r)) 5 else 4)=bif ((c.s==0)&&(((dy s.o s.t c.r).kind != 1)||((dy s.o s.t c.r).task != M)))||((c.s != 0)&&(((dr s.k c.s).W != M)||((dr s.k c.s).D != c.r)))then 5 else 0:=by
  have b:=b.2;unfold bne at b ⊢;cases n:c.s==0 with
  |true=>cases(dy s.o s.t c.r).kind==1<;>cases(dy s.o s.t c.r).task==M<;>rfl
  |false=>
   rw[n]at b;rw[(lD _).mp (show(!bk s.k.b c.s)=false from b)];cases(dr s.k c.s).W==M<;>cases(dr s.k c.s).D==c.r<;>rfl
 rw[w];conv=>whnf
 refine bo (F) ?_;conv=>whnf
 apply a4<;>intro i
 .have i:(((c.s==0)&&(((dy s.o s.t c.r).kind != 1)||((dy s.o s.t c.r).task != M)))||((c.s != 0)&&(((dr s.k c.s).W != M)||((dr s.k c.s).D != c.r))))=true:=i;rw[i];conv=>whnf
  refine bo (o 5) ?_;conv=>whnf
  exact⟨rfl,eC (iD f j 5)⟩
 have i:(((c.s==0)&&(((dy s.o s.t c.r).kind != 1)||((dy s.o s.t c.r).task != M)))||((c.s != 0)&&(((dr s.k c.s).W != M)||((dr s.k c.s).D != c.r))))=false:=i;rw[i];have hL:=c5.le (a:=[.d (jF s.k.b Z),.d (.H (.z .i64 c.r) (.H (.z .i64 M) (.H (.z .i64 c.a) (.H (.I (c.b==1)) (.H (.z .i64 c.s) .un)))))]) hL ⟨SV.le_refl _,by rw[<-q];exact SV.le_refl _,trivial⟩;conv=>whnf
 by_cases m:iM s.k x=0
 .have E:=f.kt.E1 f.k m (by rw[<-q];exact h.s');rw[m,show(bif (0:Int)==0 then a7 Z (a5 (dY s.k.b)) x else Z)=a7 Z (a5 (dY s.k.b)) x from rfl]at hL;refine bo (hL) ?_;conv=>whnf
  refine b0 ?_;conv=>whnf
  refine⟨rfl,eC ?_⟩;rw[m];exact⟨l,a7 Z (a5 (dY s.k.b)) x,y,C,f.own,E,oo _ _,j,rfl⟩
 .refine bo (hL) ?_;conv=>whnf
  refine⟨λ_=>?_,λp=>?_⟩;rotate_left
  .have p:(iM s.k x != 0)=false:=p;exact b3 (b8 p) m
  conv=>whnf
  refine bo (o (iM s.k x)) ?_;conv=>whnf
  refine⟨rfl,eC ?_⟩;show lP s l y (dV (iM s.k x) _) _;rw[eR m];exact iD f j _
end
end Sx
namespace Sx
def xZ(s:St)(l:List (Int×Ow))(Z:Nat->Tk)(y:Nat->List Int)(C:List Rn)(a:Int)(b:MBox):ei (xR s a b) l Z y C=.H (qD s l Z) (.H (.ar 8 BQ (a7 (λi=>oy (s.box i)) a.toNat (oy b))) (.H (.ar 8 .c λi=>.I (s.alive i)) (.H (.ar 8 .c λi=>.I (s.born i)) (.H (.ar 32 .c λi=>fq .c (qU (y i))) (.H (fq t2 (C.map i7)) .un))))):=by rw[iU oy s.box a.toNat b];rfl
def Yw{s:St}(f:SInv s){a:Nat}(b:a<8){m:Msg}(e:m∈gd (s.box a))(d:pE m=true):gi s.t m.D:=
 (f.o.K m.D (eP.2 (.inr (om.2 ⟨a,gZ.2 b,l6.2 ⟨m,jM.2 ⟨e,d⟩,rfl⟩⟩)))).1
def QT{s:St}{l:List (Int×Ow)}{d:Int->Nat}(e:TInv s.t d)(g:OwS s.t s.o l){h M:Int}(b:gi s.t h)(a:0<=M)(f:M<8):OwS s.t (iI s.o s.t h M ⟨1,iz M,0⟩) (jJ l h (mY 1 M)):=by rw[rY (tv e b a f),r6 a a3];exact g.with e.ok.Q b.1 (λx i _=>i) ⟨by show(0:Int)<=0;decide,by show(0:Int)<256;decide⟩
attribute [local irreducible] b6 eF ez eH eB eM dC ec dU dx
section
variable {s:St} {M:Int} {c:Call} {l:List (Int×Ow)} {Z:Nat->Tk} {y:Nat->List Int} {C:List Rn}
def zbV(h:CallOk s M c)(b:ExR s l Z)(g:ir s.t y y):jN a6 79 [.d (ei s l Z y C),I M,.d (jn {c with C:=17})] (lP s l y (yG s M)):=by
 have i:=λe=>nO (s:=s) (l:=l) (Z:=Z) (y:=y) (C:=C) e;have d:=h.t0;have f:=h.t1;unfold yG;refine nx func79 ?_;refine ej (a4 ⟨d,f⟩ ?_);apply a4<;>intro a
 .have a:(s.box M.toNat).cl=true:=a;rw[a];exact bo (i 11) (a4 rfl (eC (iD b g 11)))
 .have a:(s.box M.toNat).cl=false:=a;rw[a];refine a4 ⟨d,f⟩ ?_;conv=>whnf
  refine⟨.d (ei (xR s M {s.box M.toNat with cl:=true}) l Z y C),by rw[xZ];rfl,?_⟩;exact a4 rfl (eC ⟨l,Z,y,C,b.own,b.kt,oo _ _,g,rfl⟩)
def RG(u:SInv s)(t:CallOk s M c)(x:c.C≠17)(g:ExR s l Z)(n:ir s.t y y):jN a6 79 [.d (ei s l Z y C),I M,.d (jn c)] (lP s l y (pJ s M)):=by
 obtain⟨d,q⟩:=g.t;have v:=λe=>nO (s:=s) (l:=l) (Z:=Z) (y:=y) (C:=C) e;have h:=t.t0;have i:=t.t1;have j:M.toNat<8:=a3
 have r:=(u.o.bx _ j).1;have w:=zcA r;unfold pJ;refine nx func79 ?_;refine a4 (λa=>b3 (eq_of_beq a) x) λ_=>?_;refine a4 ⟨h,i⟩ (bo (w) ?_);apply a4<;>intro a
 .have a:lA (s.box M.toNat)≠0:=by have a:(lA (s.box M.toNat) != 0)=true:=a;simpa using a
  rw[eR a];exact bo (v (lA (s.box M.toNat))) (a4 rfl (eC (iD g n _)))
 have a:lA (s.box M.toNat)=0:=by have a:(lA (s.box M.toNat) != 0)=false:=a;simpa using a
 rw[b9 a];have o:=(KX r a).2;have k:=Yw u j (m:=gJ (s.box M.toNat)) (by rw[o];exact fQ);refine a4 ⟨h,i⟩ ?_;conv=>whnf
 refine⟨.d (ei (xR s M (ia (s.box M.toNat))) l Z y C),by rw[xZ];rfl,?_⟩;conv=>whnf
 generalize gJ (s.box M.toNat)=m at k;generalize ia (s.box M.toNat)=b;apply a4<;>intro f
 .have f:((m.D != 0)&&!m.sh)=true:=f;have p:=k f;rw[f,dZ,b9 (tv q p h i)];refine bo (zx q g.len p h i (A:=1) (.inl rfl)) (fg (List.range 8) [(6,62),(7,0)] (fy ?_))
  exact a4 rfl (eC ⟨jJ l m.D (mY 1 M),Z,y,C,QT q g.own p h i,g.kt,eY (sO _ _ _) a3,n,rfl⟩)
 .have f:((m.D != 0)&&!m.sh)=false:=f;rw[f,eQ];refine fg (List.range 8) [(6,62),(7,0)] (fy ?_)
  exact a4 rfl (eC ⟨l,Z,y,C,g.own,g.kt,oo _ _,n,rfl⟩)
end
end Sx
namespace Sx
variable{a r:Int}{t:Tb}
def JK{t':Tb}(h:Alike t t'){o:Nat->Sd}{l:List (Int×Ow)}(b:OwS t o l):OwS t' o l:=b.mono λx a=>⟨h.B5.1 a.1,(h.A0 x).symm.trans a.2⟩
def Qo(b:0<=a):(dn a 8=a/\a<=8)\/(dn a 8=8/\8<a):=by
 unfold dn;by_cases c:8<a
 .rw[eI c];exact .inr ⟨rfl,c⟩
 .rw[fe c];exact .inl ⟨rfl,a3⟩
def zcO{A:Int}(d:0<=a)(f:Bool):iX t r (dn a 8) A f=iX t r a A f/\(iX t r a A f=0->oI t r (dn a 8) A=oI t r a A):=by
 rcases Qo d with⟨e,_⟩|⟨e,h⟩
 .rw[e];exact⟨rfl,λ_=>rfl⟩
 .rw[e];have:iX t r 8 A f=iX t r a A f:=by unfold iX;rw[show(decide (a>=0)&&decide (a<8))=false by rw[fe (a3:¬a<8)];simp];rfl
  refine⟨this,λb=>?_⟩;exfalso;unfold iX at b;rw[show(decide (a>=0)&&decide (a<8))=false by rw[fe (a3:¬a<8)];simp]at b;cases g:(bk t.b r&&((A==0)||bk t.b A))<;>rw[g]at b<;>cases b
def Oe(d:0<=a):kr t r (dn a 8)=kr t r a/\(kr t r a=0->dn a 8=a):=by
 rcases Qo d with⟨e,_⟩|⟨e,h⟩
 .rw[e];exact⟨rfl,λ_=>rfl⟩
 .rw[e];have:kr t r 8=kr t r a:=by unfold kr;rw[show(decide (a>=0)&&decide (a<8))=false by rw[fe (a3:¬a<8)];simp];rfl
  refine⟨this,λb=>?_⟩;exfalso;unfold kr at b;rw[show(decide (a>=0)&&decide (a<8))=false by rw[fe (a3:¬a<8)];simp]at b;cases f:bk t.b r<;>rw[f]at b<;>cases b
attribute [local irreducible] b6 eF ez eH eB eM dC ec dU dx
section
variable {s:St} {M:Int} {c:Call} {l:List (Int×Ow)} {Z:Nat->Tk} {y:Nat->List Int} {C:List Rn}
def zbZ(f:CallOk s M c)(b:ExR s l Z)(h:ir s.t y y):jN a6 80 [.d (ei s l Z y C),I M,.d (jn {c with C:=19})] (lP s l y (yP s M c)):=by
 obtain⟨d,j⟩:=b.t;have i:=λe=>nO (s:=s) (l:=l) (Z:=Z) (y:=y) (C:=C) e;unfold yP;rw[(Oe f.a.1).1];refine nx func80 ?_;refine ej (bo (qS b f.t0 f.t1 f.r 0 (.inl rfl)) ?_);apply a4<;>intro a
 .have a:eh s M c.r 0≠0:=by have a:(eh s M c.r 0 != 0)=true:=a;simpa using a
  rw[eR a];exact bo (i (eh s M c.r 0)) (a4 rfl (eC (iD b h _)))
 have a:eh s M c.r 0=0:=by have a:(eh s M c.r 0 != 0)=false:=a;simpa using a
 rw[b9 a];have hD:=zb0 j b.cu f.r f.a.1;conv=>whnf
 by_cases g:kr s.t c.r c.a=0
 .rw[b9 g,(Oe f.a.1).2 g];rw[g,show(bif (0:Int)==0 then(b1 s.t c.r).cells c.a.toNat else 0)=(b1 s.t c.r).cells c.a.toNat from rfl]at hD;exact bo (hD) (a4 rfl (eC ⟨l,Z,y,C,b.own,b.kt,oo _ _,h,rfl⟩))
 .rw[eR g];rw[show(bif kr s.t c.r c.a==0 then(b1 s.t c.r).cells c.a.toNat else 0)=0 by rw[fc.2 g];rfl]at hD;exact bo (hD) (a4 rfl (eC (iD b h _)))
def zcq(j:CallOk s M c)(m:ExR s l Z)(o:ir s.t y y):jN a6 80 [.d (ei s l Z y C),I M,.d (jn {c with C:=18})] (lP s l y (xW s M c)):=by
 obtain⟨d,w⟩:=m.t;have p:=λe=>nO (s:=s) (l:=l) (Z:=Z) (y:=y) (C:=C) e;have A:=zcr w j.r j.s' j.a.1 ((dy s.o s.t c.s).kind==3);have x:=zw w m.own m.len j.s';obtain⟨F,G⟩:=zcO (t:=s.t) (r:=c.r) (A:=c.s) j.a.1 ((dy s.o s.t c.s).kind==3);have q:=qS m j.t0 j.t1 j.r 1 (.inr (.inl rfl));have v:=qS m j.t0 j.t1 j.s' 0 (.inl rfl);have E:OwS (oI s.t c.r c.a c.s) s.o l:=JK (wK s.t _) m.own;have z:ir (oI s.t c.r c.a c.s) y y:=Bp (λi=>Hx (u:=(b1 s.t c.r).up) i) o;unfold xW;rw[F];refine nx func80 ?_;refine b0 ?_;conv=>whnf
 by_cases n:eh s M c.r 1=0
 case neg=>
  rw[eR n];refine bo (q) (a4 (λf=>?_) λ_=>?_)
  .have f:((eh s M c.r 1==0)&&(c.s != 0))=true:=f;exact b3 (eq_of_beq (iZ.1 f).1) n
  refine a4 (λ_=>?_) λf=>?_
  .exact bo (p (eh s M c.r 1)) (a4 rfl (eC (iD m o _)))
  .have f:(eh s M c.r 1 != 0)=false:=f;exact b3 (b8 f) n
 case pos=>
  rw[b9 n];rw[n]at q;refine bo (q) (a4 (λf=>?a) λf=>?b)
  case' a=>
   have f:(c.s != 0)=true:=f;refine bo (v) ?_;conv=>whnf
   rw[f,dZ];apply a4<;>intro k
   .have k:eh s M c.s 0≠0:=by have k:(eh s M c.s 0 != 0)=true:=k;simpa using k
    rw[eR k];exact bo (p (eh s M c.s 0)) (a4 rfl (eC (iD m o _)))
   have k:eh s M c.s 0=0:=by have k:(eh s M c.s 0 != 0)=false:=k;simpa using k
   rw[b9 k];conv=>whnf
  case' b=>
   have f:(c.s != 0)=false:=f;rw[f,eQ,b9 rfl];refine b0 ?_;conv=>whnf
  all_goals
   refine fg (List.range 27) [(24,16777215),(25,8388608)] (c9 x (λ_ h=>h) (c9 A (λ_ h=>h) (fy ?_)))
   apply a4<;>intro g
   .have g:iX s.t c.r c.a c.s ((dy s.o s.t c.s).kind==3)≠0:=by have g:(iX s.t c.r c.a c.s ((dy s.o s.t c.s).kind==3) != 0)=true:=g;simpa using g
    rw[eR g];exact bo (p (iX s.t c.r c.a c.s ((dy s.o s.t c.s).kind==3))) (a4 rfl (eC (iD m o _)))
   .have g:iX s.t c.r c.a c.s ((dy s.o s.t c.s).kind==3)=0:=by have g:(iX s.t c.r c.a c.s ((dy s.o s.t c.s).kind==3) != 0)=false:=g;simpa using g
    rw[b9 g,G g,show(bif iX s.t c.r c.a c.s ((dy s.o s.t c.s).kind==3)==0 then oI s.t c.r c.a c.s else s.t)=oI s.t c.r c.a c.s by rw[g];rfl];exact a4 rfl (eC ⟨l,Z,y,C,E,m.kt,oo _ _,z,rfl⟩)
end
end Sx
namespace Sx
variable{h:Int}{d:Int->Nat}
def HK{t:Tb}(m:TInv t d)(b:eW t h):∃a,TInv (fC t h) a/\rz t h=0/\gi (fC t h) h/\(∀x,gi (fC t h) x->x≠h->gi t x)/\∀i,((fC t h).r i).rs=(t.r i).rs:=by
 obtain⟨n,o,a,p,k,_⟩:=v5 m b;have g:∀x,eW (fC t h) x↔eW t x:=λx=>by unfold eW;rw[o]
 refine⟨a,p,n,⟨(g h).2 b,by rw[k,if_pos rfl]⟩,λx j f=>⟨(g x).1 j.1,?_⟩,DE t h⟩;have:=j.2
 rwa [k,if_neg λe=>f (sI m.ok ((g x).1 j.1) b e)]at this
def J8{t:Tb}(b:TInv t d)(a:eW t h):c5 a6 147 [.d (gU t),I h] (T2 (.d (gU (fC t h))) (I 0)):=by rw[show gU (fC t h)=kG t.b (a7 (qT t h (eT t h)) (a5 h) {qT t h (eT t h) (a5 h)with up:=0}) from by rw[XM b a];rfl];exact zbX b.r b.rk a.1 a.2
attribute [local irreducible] b6 eF ez eH eB eM dC ec dU dx
section
variable {s:St} {M:Int} {c:Call} {l:List (Int×Ow)} {Z:Nat->Tk} {y:Nat->List Int} {C:List Rn}
def zcv(hs:SInv s)(b:CallOk s M c)(f:ExR s l Z)(q:ir s.t y y)(hl:l.length<999900):jN a6 78 [.d (ei s l Z y C),I M,.d (jn c)] (lP s l y (pK s M c)):=by
 obtain⟨d,z⟩:=f.t;have E:=λe=>nO (s:=s) (l:=l) (Z:=Z) (y:=y) (C:=C) e;have P:jz M c=⟨M,c.v,c.r,(c.r != 0)&&(c.b==1)⟩:=by unfold jz;rw[r6 b.t0 (by have:=b.t1;omega)]
 refine nx func78 ?_;refine bo (xS b.a.1) ?_;apply a4<;>intro g
 .have g:(!(decide (c.a<8)&&s.alive c.a.toNat)||decide (c.b>1))=true:=g;have e:∀k:Ex,(dV (ki s c.a) <| dV (no (decide (c.b<=1)) 2) k)=.error 2:=λk=>by
   unfold ki;cases L:(decide (c.a<8)&&s.alive c.a.toNat)with
   |false=>rfl
   |true=>
    rw[L]at g;have g:decide (c.b>1)=true:=g;rw[show decide (c.b<=1)=false from fe (by have:=gM g;omega)];rfl
  refine bo (E 2) (a4 rfl (eC ?_));unfold pK;rw[e];exact iD f q 2
 have g:(!(decide (c.a<8)&&s.alive c.a.toNat)||decide (c.b>1))=false:=g;rw[gX]at g;have T:ki s c.a=0:=by unfold ki;rw[(lD _).mp g.1];rfl
 have U:no (decide (c.b<=1)) 2=0:=by rw[eI (by have:=lK g.2;omega:c.b<=1)];rfl
 have v:0<=c.a/\c.a<8:=⟨b.a.1,gM (iZ.1 ((lD _).mp g.1)).1⟩;have hB:=(hs.o.bx c.a.toNat a3).1;obtain⟨m,K⟩:∃m,m=(⟨M,c.v,c.r,(c.r != 0)&&(c.b==1)⟩:Msg):=⟨_,rfl⟩;have r:c5 a6 156 [.d (oy (s.box c.a.toNat)),.d (.H (.z .i64 M) (.H (.z .u64 c.v) (.H (.z .i64 c.r) (.H (.I ((c.r != 0)&&(c.b==1))) .un))))] (T2 (.d (oy (jq (s.box c.a.toNat) m))) (I (j6 (s.box c.a.toNat)))):=by rw[K];exact zco hB ⟨M,c.v,c.r,(c.r != 0)&&(c.b==1)⟩
 have O:pK s M c=bif (c.r != 0)&&(c.b==1)then dV (jw s M c.r) (uz (bif iw s.o s.t c.r c.a true==0 then{s with o:=gL s.o s.t c.r c.a true}else s) c m)else bif c.r != 0 then dV (eh s M c.r 2) (dV (rz s.t c.r) (dV (gR (fC s.t c.r) c.r 0) (uz {s with t:=fC s.t c.r,o:=iI s.o (fC s.t c.r) c.r 0 ⟨2,0,0⟩} c m)))else uz s c m:=by unfold pK;rw[b9 T,b9 U,P,<-K];subst K;rfl
 rw[O];clear O K P;refine a4 (λp=>?u1) λp=>?u2
 case' u1=>
  have p:((c.r != 0)&&(c.b==1))=true:=p;rw[show(bif (c.r != 0)&&(c.b==1)then dV (jw s M c.r) (uz (bif iw s.o s.t c.r c.a true==0 then{s with o:=gL s.o s.t c.r c.a true}else s) c m)else _)=dV (jw s M c.r) (uz (bif iw s.o s.t c.r c.a true==0 then{s with o:=gL s.o s.t c.r c.a true}else s) c m) by rw[p];rfl];refine bo (Kf f b.t0 b.t1 b.r) ?_;apply a4<;>intro a
  .have a:jw s M c.r≠0:=by have a:(jw s M c.r != 0)=true:=a;simpa using a
   rw[eR a];exact bo (E (jw s M c.r)) (a4 rfl (eC (iD f q _)))
  have a:jw s M c.r=0:=by have a:(jw s M c.r != 0)=false:=a;simpa using a
  rw[b9 a];obtain⟨R,S,r3⟩:=IK z b.r a;have hh:=wA z f.own b.r;have F:=J9 z f.own f.len R b.a.1 v.2 S true;have x:=IG z R b.a.1 v.2 S true;rw[(Ei hh b.a.1 v.2).1]at x;conv=>whnf
  cases L:iV (dy s.o s.t c.r).hold c.a.toNat==true
  case' true=>
   rw[L,dZ]at F x;rw[x,show(bif ((bif true then(7:Int)else 5)==0)then{s with o:=gL s.o s.t c.r c.a true}else s)=s from rfl];have G:=f.own;have J:=q;have n:l.length<=l.length+100:=oo _ _;have j:=xZ s l Z y C c.a (jq (s.box c.a.toNat) m);refine bo (F) (b0 ?_);conv=>whnf
  case' false=>
   rw[L,eQ]at F x;rw[x,show(bif ((0:Int)==0)then{s with o:=gL s.o s.t c.r c.a true}else s)={s with o:=gL s.o s.t c.r c.a true} from rfl];have G:=(f.hold a3 b.r x).own;have J:=q;have n:(jJ l c.r (jQ s.o s.t c.r c.a)).length<=l.length+100:=eY (sO _ _ _) a3;have j:=xZ {s with o:=gL s.o s.t c.r c.a true} (jJ l c.r (jQ s.o s.t c.r c.a)) Z y C c.a (jq (s.box c.a.toNat) m);refine bo (F) (ej ?_);conv=>whnf
 case' u2=>
  have p:((c.r != 0)&&(c.b==1))=false:=p;rw[p,eQ];rw[p]at r;refine a4 (λu=>?u3) λu=>?u4
  case' u3=>
   have u:(c.r != 0)=true:=u;rw[u,dZ];refine bo (qS f b.t0 b.t1 b.r 2 (.inr (.inr rfl))) ?_;apply a4<;>intro a
   .have a:eh s M c.r 2≠0:=by have a:(eh s M c.r 2 != 0)=true:=a;simpa using a
    rw[eR a];exact bo (E (eh s M c.r 2)) (a4 rfl (eC (iD f q _)))
   have a:eh s M c.r 2=0:=by have a:(eh s M c.r 2 != 0)=false:=a;simpa using a
   have Q:eW s.t c.r:=⟨b.r,(qc a).1⟩;obtain⟨d',w,V,N,W,Y⟩:=HK z Q;have A:=tv w N (a8:(0:Int)<=0) (a8:(0:Int)<8);rw[b9 a,b9 V,b9 A];have G:OwS (fC s.t c.r) (iI s.o (fC s.t c.r) c.r 0 ⟨2,0,0⟩) (jJ l c.r (mY 2 0)):=by rw[rY A];exact f.own.with w.ok.Q N.1 W ⟨a8,a8⟩
   have J:ir (fC s.t c.r) y y:=Bp Y q;have n:(jJ l c.r (mY 2 0)).length<=l.length+100:=eY (sO _ _ _) a3;have j:=xZ {s with t:=fC s.t c.r,o:=iI s.o (fC s.t c.r) c.r 0 ⟨2,0,0⟩} (jJ l c.r (mY 2 0)) Z y C c.a (jq (s.box c.a.toNat) m);refine bo (J8 z Q) (bo (zx w f.len N a8 a8 (A:=2) (.inr (.inl rfl))) ?_);conv=>whnf
  case' u4=>
   have u:(c.r != 0)=false:=u;rw[u,eQ];have G:=f.own;have J:=q;have n:l.length<=l.length+100:=oo _ _;have j:=xZ s l Z y C c.a (jq (s.box c.a.toNat) m);conv=>whnf
 all_goals
  refine fg (List.range 19) [(16,65535),(17,32768)] (a4 v (c9 r (λ_ h=>h) (iF (by first|exact(show _/\_ from⟨rfl,rfl⟩)|exact(show _/\_ from⟨v,rfl,rfl⟩)) (kT ?_ ?_))));rotate_left
  .repeat' (first|exact trivial|refine iF (by first|exact(show _/\_ from⟨rfl,rfl⟩)|exact(show _/\_ from⟨v,rfl,rfl⟩)) ?_)
  conv=>whnf
  unfold uz;apply a4<;>intro i
  .have i:j6 (s.box c.a.toNat)≠0:=by have i:(j6 (s.box c.a.toNat) != 0)=true:=i;simpa using i
   rw[eR i];refine bo (E (j6 (s.box c.a.toNat))) ?_;conv=>whnf
   exact⟨rfl,eC (iD f q _)⟩
  .have i:j6 (s.box c.a.toNat)=0:=by have i:(j6 (s.box c.a.toNat) != 0)=false:=i;simpa using i
   rw[b9 i];refine a4 v ?_;conv=>whnf
   refine⟨_,(dE SV.d j).symm,?_⟩;conv=>whnf
   exact⟨rfl,eC ⟨_,Z,y,C,G,f.kt,n,J,rfl⟩⟩
end
end Sx
end Go.Proofs.YtfbhkfhbnkncoaaGreatDoor
