import Derived.Test.YtfbhkfhbnkncoaaGreatDoorV32
set_option linter.all false
namespace Go.Proofs.YtfbhkfhbnkncoaaGreatDoor
open Go.RowKit Tryz
open Tryz renaming prog→a6
namespace Sx
attribute [local irreducible] b6 eF ez eH eB eM dC ec dU dx
variable{a h:Int}{l:List Int}{i j k:Nat}{c:Nat->Int}{R:Nat->Rg}{t:Tb}
def QN{t:Tb}{a:Int}:∀{k:Nat} {x:Int},lr t a k x=true->bk t.b a=true
 |0,_,h=>by cases h
 |k+1,x,h=>by
  have h:(bif A0 t x==0 then false else(A0 t x==a)||lr t a k (A0 t x))=true:=h;cases b:A0 t x==0 with
  |true=>rw[b]at h;cases h
  |false=>
   rw[b]at h;have h:((A0 t x==a)||lr t a k (A0 t x))=true:=h;cases c:A0 t x==a with
   |true=>rw[<-eq_of_beq c];exact FN.resolve_left (b8 b)
   |false=>rw[c]at h;exact QN h
def QO{t:Tb}{c:Int->Nat}(e:Rk t c){a:Int}:∀{k:Nat} {x:Int},lr t a k x=true->c a<c x
 |0,_,h=>by cases h
 |k+1,x,h=>by
  have h:(bif A0 t x==0 then false else(A0 t x==a)||lr t a k (A0 t x))=true:=h;cases b:A0 t x==0 with
  |true=>rw[b]at h;cases h
  |false=>
   rw[b]at h;have h:((A0 t x==a)||lr t a k (A0 t x))=true:=h;have f:=e.lt x (b8 b);cases d:A0 t x==a with
   |true=>rw[<-eq_of_beq d];exact f
   |false=>rw[d]at h;have:=QO e h;omega
def N5{i:Int->Nat}(g:Rk t i){x:Int}(f:bk t.b h=true):((x != 0)&&lr t x 40 h)=pA t h x:=by
 unfold pA kz;cases b:lr t x 40 h with
 |true=>
  have a:=QN b;have c:=QO g b;have d:x≠h:=λe=>by rw[e]at c;omega
  rw[a,f,oX.2 (g8 a),oX.2 d];simp
 |false=>
  cases a:x==h<;>simp[bne,a]
def Nn(h:i≠k):Nat.blt i (k+1)=Nat.blt i k:=by rw[sQ];simp;omega
def XK{a:Nat->Int}(b:pA t h (c k)=true):vZ t h c a (k+1)=a7 (vZ t h c a k) k 0:=by
 funext i
 unfold a7 vZ;split
 .rename_i e;subst e;rw[b,show Nat.blt i (i+1)=true by simp];rfl
 .rename_i e;rw[Nn e]
def XJ{a:Nat->Int}(b:pA t h (c k)=false):vZ t h c a (k+1)=vZ t h c a k:=by
 funext i
 unfold vZ;by_cases e:i=k
 .subst e;rw[b];simp
 .rw[Nn e]
def zcI(a:i<l.length):qT t h (l.take (i+1))=oH t h (qT t h (l.take i)) (a5 (l.getD i 0)) 8:=by unfold qT;rw[js,ed a,pq,eu,ed a];rfl
def zcH:oH t h R k 0=R:=Tf _ _ _ rfl
def zcG(a:pA t h ((t.r j).cells k)=true):oH t h R j (k+1)=a7 (oH t h R j k) j {oH t h R j k j with cells:=a7 (oH t h R j k j).cells k 0}:=by have e:oH t h R j k j={R j with cells:=vZ t h (t.r j).cells (R j).cells k}:=dN _ _ _;rw[e];unfold oH;rw[XK a,Tg]
def zcF(a:pA t h ((t.r j).cells k)=false):oH t h R j (k+1)=oH t h R j k:=by unfold oH;rw[XJ a]
def So(r:Rg)(k:Nat)(x:Int):sn {r with cells:=a7 r.cells k x}=.H (.z .i64 r.up) (.H (.z .i64 r.E) (.H (nJ r.rs r.len) (.H (.ar 8 .c (a7 (λi=>.z .i64 (r.cells i)) k (.z .i64 x))) .un))):=by rw[iU (λx:Int=>D.z .i64 x) r.cells k x];rfl
def zbX(f:TbR t){C:Int->Nat}(m:Rk t C)(o:di h)(c:bk t.b h=true):c5 a6 147 [.d (gU t),I h] (T2 (.d (kG t.b (a7 (qT t h (eT t h)) (a5 h) {qT t h (eT t h) (a5 h)with up:=0}))) (I 0)):=by
 have w:=(Bx f m o).out (iE .c (λx=>D.z .i64 x) 0 (dJ t h));have A:(dJ t h).length<=33:=by unfold dJ;rw[c];exact ra f.toTbOk m (g8 c)
 have y:∀x∈dJ t h,di x/\bk t.b x=true:=λx p=>by
  unfold dJ at p;rw[c]at p;rcases xQ f.toTbOk p with rfl|e
  .exact⟨o,c⟩
  .exact e
 rw[show eT t h=dJ t h from by unfold dJ;rw[c];rfl];generalize dJ t h=l at w A y;refine dq func147 ?_;refine bo (ml f o) ?_;conv=>whnf
 rw[c];refine b0 (bo (w) (dX c6 (λi:Nat=>i<=l.length) (λi=>l.length - i) (λi=>[(8,I i)]) (λi=>⟨[.d (gU t),.d (ZT.d ye),.d (kG t.b (qT t h (l.take i)))],[],[]⟩) 0 (dG _) ⟨rfl,trivial⟩ rfl (λi=>⟨a9 _,a9 _,a9 _⟩) ?_));intro i E;refine b2 (x:=(l.length:Int)) ?_;apply a4<;>intro s
 .have b:i<l.length:=eZ s
  obtain⟨p,q⟩:=y _ (qG b);have r:=iq (l.getD i 0);refine dL 8 (fS (i:=i) (n:=l.length) ?_);conv=>whnf
  have v:=mn f.Q f.ret p;rw[m7 q]at v;refine c9 v (λ_ h=>h) ?_;conv=>whnf
  have g:=zcI (t:=t) (h:=h) b;generalize qT t h (l.take i)=R at g;generalize a5 (l.getD i 0)=k0 at g r;refine dX c6 (λk:Nat=>k<=8) (λk=>8 - k) (λk=>[(10,I k)]) (λk=>⟨[.d (gU t),.d (ZT.d ye),.d (kG t.b (oH t h R k0 k))],[],[]⟩) 0 (dG _) ⟨rfl,trivial⟩ (by rw[zcH]) (λi=>⟨a9 _,a9 _,a9 _⟩) ?_;intro k F;apply a4<;>intro u
  .have d:k<8:=eZ u
   have S:(0:Int)<=(k0:Int)/\(k0:Int)<32:=⟨a3,a3⟩;have Q:(0:Int)<=(k:Int)/\(k:Int)<8:=⟨a3,a3⟩;refine a4 S (a4 Q (c9 (J5 f m (a:=(t.r k0).cells k) o c) (λ_ h _=>h) ?_));apply a4<;>intro j
   .have j:pA t h ((t.r k0).cells k)=true:=(N5 m c).symm.trans j;refine a4 S (a4 Q ?_);conv=>whnf
    refine⟨.d (kG t.b (oH t h R k0 (k+1))),by rw[zcG j,vx,So];rfl,?_⟩;refine b2 (x:=(k:Int)+1) ?_;conv=>whnf
    exact⟨k+1,d,a3,⟨rfl,trivial⟩,⟨rfl,rfl⟩,rfl⟩
   .have j:pA t h ((t.r k0).cells k)=false:=(N5 m c).symm.trans j;refine b2 (x:=(k:Int)+1) ?_;conv=>whnf
    exact⟨k+1,d,a3,⟨rfl,trivial⟩,⟨by rw[zcF j];rfl,rfl⟩,rfl⟩
  .have d:k=8:=e9 u
   subst d;refine b2 (x:=(i:Int)+1) ?_;conv=>whnf
   exact⟨i+1,b,a3,⟨rfl,trivial⟩,⟨by rw[g];rfl,rfl⟩,rfl⟩
 .have b:i=l.length:=e9 s
  subst b;rw[gv];have z:=iq h;refine bo (mn f.Q f.ret o) ?_;conv=>whnf
  rw[m7 c];refine a4 ⟨a3,a3⟩ ?_;conv=>whnf
  refine⟨.d (kG t.b (a7 (qT t h l) (a5 h) {qT t h l (a5 h)with up:=0})),by rw[vx];rfl,?_⟩;exact b7
def Yl{b:fG}(a:i<l.length):xo b (l.take (i+1))=e8 (xo b (l.take i)) (l.getD i 0)/\uZ R (l.take (i+1))=xi (uZ R (l.take i)) (l.getD i 0):=by unfold xo uZ;rw[js,ed a,pq,pq,eu,ed a];exact⟨rfl,rfl⟩
def za6(h:l.Nodup)(a:i<l.length):l.getD i 0∉l.take i:=by rw[<-nF i l]at h;have b:=(mB.1 h).2.2;intro c;refine b _ c (l.getD i 0) ?_ rfl;rw[yk a,eu,ed a];exact fQ
def zb5(c:TbR t){A:Int->Nat}(j:Rk t A)(v:di h)(f:bk t.b h=true):c5 a6 213 [.d (gU t),I h] (T3 (.d (kG (xo t.b (eT t h)) (uZ t.r (eT t h)))) (.d (.X (eT t h).length .c λi=>.z .i64 ((eT t h).getD i 0))) (I 0)):=by
 have k:=(Bx c j v).out (iE .c (λx=>D.z .i64 x) 0 (dJ t h));have z:(eT t h).length<=33:=ra c.toTbOk j (g8 f);have g:(eT t h).Nodup:=wG c.toTbOk j (g8 f);have r:∀x∈eT t h,di x/\bk t.b x=true:=λx d=>by
  rcases xQ c.toTbOk d with rfl|e
  .exact⟨v,f⟩
  .exact e
 have w:0<(eT t h).length:=by rw[zP c.toTbOk j (g8 f)];exact Nat.succ_pos _
 rw[show dJ t h=eT t h from by unfold dJ;rw[f];rfl]at k;generalize eT t h=l at k z g r w;refine dq func213 ?_;refine bo (k) (dX c6 (λi:Nat=>i<=l.length) (λi=>l.length - i) (λi=>[(8,I i)]) (λi=>⟨[.d (kG (xo t.b (l.take i)) (uZ t.r (l.take i))),.d (ZT.d ye)],[],[]⟩) 0 (dG _) ⟨rfl,trivial⟩ rfl (λi=>⟨a9 _,a9 _,a9 _⟩) ?_);intro i F;refine b2 (x:=(l.length:Int)) ?_;apply a4<;>intro u
 .have a:i<l.length:=eZ u
  obtain⟨d,q⟩:=r _ (qG a);obtain⟨⟨m,s⟩,p⟩:=FV c.Q c.ret (l:=l.take i) λx d=>(r x (sV d)).1;have o:=(p _ d).2 ⟨q,za6 g a⟩;have hD:=zb3 m s (uZ t.r (l.take i)) d;rw[o]at hD;obtain⟨E,C⟩:=Yl (b:=t.b) (R:=t.r) a;refine fg (List.range 10) [(9,256)] (fS (i:=i) (n:=l.length) (c9 hD (λ_ h=>h) (b2 (x:=(i:Int)+1) ?_)));conv=>whnf
  exact⟨i+1,a,a3,⟨rfl,trivial⟩,⟨by rw[E,C];rfl,rfl⟩,rfl⟩
 .have a:i=l.length:=e9 u
  subst a;rw[gv];refine b2 (x:=(l.length:Int)) (a4 (λy=>b3 (eq_of_beq y) a3) λ_=>?_);exact b7
def zcb{d:Int->Nat}(h:TInv t d){E:Int}(s:di a)(G:di E):c5 a6 146 [.d (gU t),I a,I E] (T2 (.d (gU (ln t a E))) (I (nL t a E))):=by
 refine dq func146 ?_;refine bo (ml h.r s) (c9 (ml h.r G) (λ_ h _=>h) ?_);apply a4<;>intro o
 .have o:(!bk t.b a||!bk t.b E)=true:=o;refine b7 ?_;rw[ln,nL,o];rfl
 have o:(!bk t.b a||!bk t.b E)=false:=o;have b:=o;rw[gX,lD,lD]at b;have K:=rW h ⟨s,b.1⟩;refine bo (BG h.r s) (c9 (RF h.r h.rk s G) (λ_ h _=>h) ?_);conv=>whnf
 have O:(((b1 t a).up != 0)||kz t a E)=((fl t a != a)||kz t a E):=by
  congr 1
  rw[u7 b.1,sQ,oX,oX,ne_eq,ne_eq,K]
 apply a4<;>intro u
 .have u:((fl t a != a)||kz t a E)=true:=O.symm.trans u;refine b7 ?_;rw[ln,nL,o,u];rfl
 have u:((fl t a != a)||kz t a E)=false:=O.symm.trans u;have y:=u;rw[gX]at y;have M:gi t a:=⟨⟨s,b.1⟩,K.1 (b8 y.1)⟩;obtain⟨L,m,S,r,k⟩:=YS h M ⟨G,b.2⟩ y.2;refine bo (zcp h.r h.rk (λx=>by have:=h.d5 x;omega) s G) ?_;conv=>whnf
 have p:(bif decide (fk t E+nB t a>6)then t else iW t a E)=ln t a E:=by rw[ln,o,u];rfl
 have A:(bif decide (fk t E+nB t a>6)then 8 else(0:Int))=nL t a E:=by rw[nL,o,u,L];rfl
 have w:decide (fk t E+nB t a>6)=false->∀x,eW (iW t a E) x->fk (iW t a E) x<=6:=λz x f=>by rw[z]at p A;obtain⟨_,_,_,T,g,_⟩:=Ed h s G A.symm;have p:iW t a E=ln t a E:=p;rw[<-p]at g;have:=g.d5 x;rw[uU g f.2];omega
 rw[L];have c:bk (iW t a E).b a=true:=by rw[(xU L).1];exact b.1
 generalize iW t a E=n at m r k p w c;have R:=(Bx m r s).out (iE .c (λx=>D.z .i64 x) 0 (dJ n a));have N:(dJ n a).length<=33:=by unfold dJ;rw[c];exact ra m.toTbOk r (g8 c)
 have P:∀x∈dJ n a,eW n x:=λx f=>by
  unfold dJ at f;rw[c]at f;rcases xQ m.toTbOk f with rfl|e
  .exact⟨s,c⟩
  .exact e
 have C:fk t E+nB t a>6->∃x∈dJ n a,fk n x>6:=λz=>by obtain⟨x,f,v⟩:=k z;exact⟨x,by unfold dJ;rw[c];exact f,v⟩
 refine bo (R) ?_;conv=>whnf
 generalize dJ n a=l at N P C;refine dX c6 (λi:Nat=>i<=l.length/\∀j,j<i->fk n (l.getD j 0)<=6) (λi=>l.length - i) (λi=>[(11,I i)]) (λ_=>⟨[.d (gU t),.d (ZT.d ye),.d (gU n)],[],[]⟩) 0 ⟨dG _,λj F=>b3 F (jm _)⟩ ⟨rfl,trivial⟩ rfl (λi=>⟨a9 _,a9 _,a9 _⟩) ?_;rintro i ⟨U,Q⟩;refine b2 (x:=(l.length:Int)) ?_;apply a4<;>intro z
 .have q:i<l.length:=eZ z
  have f:=P _ (qG q);refine dL 7 (fS (i:=i) (n:=l.length) (c9 (Rv m r f.1) (λ_ h=>h) ?_));apply a4<;>intro v
  .have v:fk n (l.getD i 0)>6:=b8 v
   refine b7 ?_;cases J:decide (fk t E+nB t a>6)with
   |false=>exact b3 (w J _ f) a3
   |true=>
    rw[J]at p A;rw[<-p,<-A];rfl
  .have v:fk n (l.getD i 0)<=6:=by
    have:¬fk n (l.getD i 0)>6:=b8 v
    omega
   refine b2 (x:=(i:Int)+1) ?_;conv=>whnf
   refine⟨i+1,⟨q,λj F=>?_⟩,a3,⟨rfl,trivial⟩,⟨rfl,rfl⟩,rfl⟩;by_cases e:j=i
   .rw[e];exact v
   .exact Q j a3
 .have q:i=l.length:=e9 z
  subst q;refine b7 ?_;cases J:decide (fk t E+nB t a>6)with
  |false=>
   rw[J]at p A;rw[<-p,<-A];rfl
  |true=>
   exfalso;obtain⟨x,f,v⟩:=C (gM J);obtain⟨j,F,e⟩:=List.mem_iff_getElem.1 f;have:=Q j F;rw[eu,ed F,e]at this;exact b3 (show fk n x<=6 from this) a3
end Sx
namespace Sx
variable{f:FuncId}{ρ:Nat->Nat}{α:Type}
def fD(i j k:Nat):Nat:=bif Nat.beq k i then j else bif Nat.beq k j then i else k
def Jr{a b:Nat}(h:a≠b):Nat.beq a b=false:=by
 cases c:Nat.beq a b with
 |false=>rfl
 |true=>exact b3 (fp c) h
def KP(i j:Nat):fD i j i=j:=by unfold fD;rw[uO];rfl
def KQ(i j:Nat):fD i j j=i:=by
 unfold fD;by_cases h:j=i
 .subst h;rw[uO];rfl
 .rw[Jr h,uO];rfl
def FE{i j k:Nat}(a:k≠i)(b:k≠j):fD i j k=k:=by unfold fD;rw[Jr a,Jr b];rfl
def zJ(i j k:Nat):fD i j (fD i j k)=k:=by
 by_cases a:k=i
 .rw[a,KP,KQ]
 .by_cases b:k=j
  .rw[b,KQ,KP]
  .rw[FE a b,FE a b]
def r4(l:List α)(i j:Nat):List α:=match l[i]?,l[j]? with
 |some x,some y=>(l.set i y).set j x
 |_,_=>l
def zH(l:List α)(i j:Nat):(r4 l i j).length=l.length:=by unfold r4;split<;>simp
def x7{l:List α}{i j:Nat}(d:i<l.length)(c:j<l.length)(k:Nat):(r4 l i j)[k]?=l[fD i j k]?:=by
 unfold r4;rw[ed d,ed c];simp only[Cx,wU];by_cases b:j=k
 .rw[<-b,KQ];by_cases a:j=i
  .subst a;simp[c]
  .simp[c,ed d]
 .by_cases a:i=k
  .rw[<-a,KP];have:¬j=i:=λe=>b (e.trans a);simp[d,this,ed c]
  .rw[FE (λe=>a e.symm) λe=>b e.symm];simp[a,b]
def Hd.F(ρ:Nat->Nat):Hd->Hd
 | .sb id p f n=>.sb (ρ id) p f n
 |h=>h
def SV.F(ρ:Nat->Nat):SV->SV
 | .B id p=>.B (ρ id) p
 | .fn f c=>.fn f (c.F ρ)
 | .H a b=>.H (a.F ρ) (b.F ρ)
 | .tu a=>.tu (a.F ρ)
 | .ob k=>.ob (k.F ρ)
 | .ar n t f=>.ar n t λi=>(f i).F ρ
 | .fb f a=>.fb f (a.F ρ)
 |v=>v
def Out.F(ρ:Nat->Nat):Out->Out
 | .ret v=>.ret (v.F ρ)
 | .P d=>.P d
def Fc(ρ:Nat->Nat):∀v:SV,(v.F ρ).shape=v.shape
 | .d _| .B .. | .el _| .fn .. | .ow .. | .tu _| .ob _| .ar .. | .fb .. =>rfl
 | .H a b=>by simp only[SV.F,SV.shape,Fc ρ a,Fc ρ b]
def Ko(ρ:Nat->Nat):∀v:SV,(v.F ρ).agg=v.agg
 | .d _| .B .. | .el _| .fn .. | .ow .. | .tu _| .ob _| .ar .. | .fb .. | .H .. =>rfl
structure Rn2 (ρ:Nat->Nat) (bl bl':Bl):Prop where
 b:∀(id:Nat) x,bl.b[id]?=some x->bl'.b[ρ id]?=some x
 t:bl'.t=bl.t
 o:bl'.o=bl.o
 g:bl'.g=bl.g
def eX.F{O:Ro}{J bl':Bl}(h:Rn2 ρ J bl'):∀{v:SV} {cs:List Value},eX O J v cs->eX O bl' (v.F ρ) cs
 | .d _,_,hv| .el _,_,hv=>hv
 | .B id p,_,⟨N,t,o,t',h1,h2⟩=>⟨N,t,o,t',h.b _ _ h1,h2⟩
 | .fn _ _,_,⟨vs,h1,h2⟩=>⟨vs,h1.F h,h2⟩
 | .ow id A6 n t f,_,⟨x,e,h1,h2,h3⟩=>⟨x,e,h1,by
  cases id with
  |zero=>exact h2
  |succ k=>show bl'.t[k]?=_;rw[h.t];exact h2,h3⟩
 | .H _ _,_,⟨c1,c2,e,h1,h2⟩=>⟨c1,c2,e,h1.F h,h2.F h⟩
 | .ob k,_,⟨x,e,h1⟩=>⟨x,e,by
  cases k with
  |mr|mq|mp|yl|mo=>first|(unfold Hd.F ka at*;rw[h.o];exact h1)
  |sb id p lo n=>
   obtain⟨N,t,o,c,t',g1,g2⟩:=h1;exact⟨N,t,o,c,t',h.b _ _ g1,g2⟩
  |gl g=>exact h1
  |gm=>unfold Hd.F ka at*;rw[h.g];exact h1⟩
 | .fb f a,_,⟨x,h1,h2⟩=>⟨x,⟨h1.1.F h,by rw[Ko];exact h1.2⟩,h2⟩
 | .ar n t f,_,⟨g,e,hg⟩=>⟨g,e,λi hi=>⟨by rw[Fc];exact(hg i hi).1,(hg i hi).2.F h⟩⟩
def fJ.F{O:Ro}{J f:Bl}(h:Rn2 ρ J f){v:SV}{x:Value}(A:fJ O J v x):fJ O f (v.F ρ) x:=
 ⟨λu=>let⟨C,F,G⟩:=A.1 (by rw[Ko]at u;exact u);⟨C,F.F h,G⟩,λu=>(A.2 (by rw[Ko]at u;exact u)).F h⟩
def n4.F{O:Ro}{J u:Bl}(h:Rn2 ρ J u):∀{v:SV} {vs:List Value},n4 O J v vs->n4 O u (v.F ρ) vs
 | .d _,_,f| .B _ _,_,f| .el _,_,f| .fn _ _,_,f| .ow _ _ _ _ _,_,f| .tu _,_,f| .ob _,_,f| .fb ..,_,f| .ar ..,_,f=>f
 | .H _ _,_,⟨x,r,e,A,C⟩=>⟨x,r,e,A.F h,C.F h⟩
def du.F{O:Ro}{J u:Bl}(h:Rn2 ρ J u):∀{v:SV} {x:Value},du O J v x->du O u (v.F ρ) x
 | .tu _,_,⟨C,f,A⟩=>⟨C,f.F h,A⟩
 | .d _,_,f| .B _ _,_,f| .el _,_,f| .fn _ _,_,f| .ow _ _ _ _ _,_,f| .H _ _,_,f| .ob _,_,f| .fb ..,_,f| .ar ..,_,f=>fJ.F h f
def jf.F{O:Ro}{J f:Bl}(h:Rn2 ρ J f):∀{a:List SV} {G:List Value},jf O J a G->jf O f (a.map (SV.F ρ)) G
 |[],[],_=>trivial
 |_::_,_::_,u=>⟨u.1.F h,jf.F h u.2⟩
 |[],_::_,u|_::_,[],u=>u
def Bl.sw(J:Bl)(i j:Nat):Bl:=⟨r4 J.b i j,J.t,J.o,J.k,J.g⟩
def nS(l:List SV)(i j:Nat):List SV:=r4 (l.map (SV.F (fD i j))) i j
section
variable {E:Gh} {O:Ro} {J:Bl} {m:MS} {w:World} {i j:Nat}
def wJ(a:i<J.b.length)(b:j<J.b.length):Rn2 (fD i j) J (J.sw i j):=
 ⟨λid x h=>by show(r4 J.b i j)[fD i j id]?=_;rw[x7 a b,zJ];exact h,rfl,rfl,rfl⟩
def FF(a:i<J.b.length)(b:j<J.b.length){id:Nat}{x:Nat×Ty}(h:(J.sw i j).b[id]?=some x):J.b[fD i j id]?=some x:=by have h:(r4 J.b i j)[id]?=_:=h;rw[x7 a b]at h;exact h
def xt(d:i<J.b.length)(e:j<J.b.length)(b:Nat):(J.sw i j).hb b↔J.hb b:=by
 constructor
 .rintro(⟨id,x,a,c⟩|h)
  .exact .inl ⟨_,x,FF d e a,c⟩
  .exact .inr h
 .rintro(⟨id,x,a,c⟩|h)
  .exact .inl ⟨_,x,(wJ d e).b _ _ a,c⟩
  .exact .inr h
def Mem.sw(h:Mem E O J m w)(Q:i<m.c.length)(R:j<m.c.length)(Z:m.o=[]):Mem E O (J.sw i j) ⟨nS m.c i j,m.t,[]⟩ w:=by
 have f:i<J.b.length:=by rw[h.len];exact Q
 have A:j<J.b.length:=by rw[h.len];exact R
 have P:J.o=[]:=ym.1 (by rw[h.R,Z];rfl);have F:(J.sw i j).o=[]:=P;have L:(J.sw i j).has=J.has:=funext λb=>propext (by unfold Bl.has;rw[xt f A];exact Iff.rfl);refine⟨⟨?_,h.A6,λid S t v G M=>?_,λa b x y G K e=>?_,h.tail,h.A3,h.known,by rw[F];rfl,λid y x K=>by rw[F]at K;simp at K,λa b x y k G=>by rw[F]at G;simp at G,λa b x y G K=>by rw[F]at K;simp at K⟩,by rw[L];exact h.gh,h.B1,⟨λN=>h.C3.1 ((xt f A _).1 N),λN=>h.C3.2 ((xt f A _).1 N)⟩,h.marks⟩
 .show(r4 J.b i j).length=(r4 (m.c.map (SV.F (fD i j))) i j).length;rw[zH,zH,dD];exact h.len
 .have G:=FF f A G;have M:(r4 (m.c.map (SV.F (fD i j))) i j)[id]?=some v:=M;rw[x7 (b8 Q) (b8 R),pr]at M;obtain⟨u,hu,rfl⟩:=fB.1 M;obtain⟨C,e,T,U,V,W⟩:=h.box _ _ _ _ G hu;exact⟨C,e,T,U.F (wJ f A),by rw[Fc];exact V,W⟩
 .have:=h.inj _ _ _ _ (FF f A G) (FF f A K) e;rw[<-zJ i j a,this,zJ]
end
def HH{P:Program}{args:List SV}{c:List SV}{t:List Nat}(i j:Nat)(Q:i<c.length)(R:j<c.length){K:Out->MS->Prop}(h:b6 P f (args.map (SV.F (fD i j))) ⟨nS c i j,t,[]⟩ λo U=>U.o=[]/\K (o.F (fD i j)) ⟨nS U.c i j,U.t,[]⟩):b6 P f args ⟨c,t,[]⟩ K:=by
 refine⟨h.1,λE O J w G y V=>?_⟩;have p:i<J.b.length:=by rw[y.len];exact Q
 have q:j<J.b.length:=by rw[y.len];exact R
 refine(h.2 E O (J.sw i j) w G (y.sw Q R rfl) (V.F (wJ p q))).mono ?_;rintro e M ⟨F,a,U,s,u,k,L,S,T⟩;have Y:(J.sw i j).b.length<=a.b.length:=by refine CH.1 λC=>?_;have N:=k.le.b a.b.length ((J.sw i j).b[a.b.length]) (ed C);rw[wT (a9 _)]at N;cases N
 have hl:(J.sw i j).b.length=J.b.length:=zH _ _ _;have l:i<a.b.length:=a3
 have n:j<a.b.length:=a3
 have z:=u.sw (i:=i) (j:=j) (by rw[<-u.len];exact l) (by rw[<-u.len];exact n) S;refine⟨F,a.sw i j,_,s.F (fD i j),z,⟨k.os,k.tape,k.output,k.size,λb A Z=>k.old b A λW=>Z ((xt p q b).1 W),⟨k.le.r,λid x r=>?_,k.le.t,k.le.o,k.le.g⟩,λb A=>?_,k.k⟩,?_,T⟩
 .show(r4 a.b i j)[id]?=some x;rw[x7 l n];exact k.le.b _ _ ((wJ p q).b _ _ r)
 .rcases k.new b ((xt l n b).1 A)with g|g
  .exact .inl ((xt p q b).1 g)
  .exact .inr g
 .cases s with
  |ret v=>obtain⟨x,e,r⟩:=L;exact⟨x,e,r.F (wJ l n)⟩
  |P d=>obtain⟨x,e,r⟩:=L;exact⟨x,e,r.F (wJ l n)⟩
def R9{O c:Ro}{J b:Bl}(d:Le O J c b):∀{a:List SV} {G:List Value},jf O J a G->jf c b a G
 |[],[],_=>trivial
 |_::_,_::_,h=>⟨h.1.mono d,R9 d h.2⟩
 |[],_::_,h|_::_,[],h=>h
def NZ{P:Program}{args:List SV}{m:MS}{K:Out->MS->Prop}(id:Nat)(b:List Nat)(ty:Ty)(R:Nat->D){k:Ty}{Q:Nat->D}{v v':SV}(s:kI m.c id=some v)(W:v.B0 b=some (.ow 0 0 0 k Q))(hv:v.set b (.ow (m.t.length+1) 0 0 ty R)=some v')(d:∃o t',v.shape.off b=some (o,t'))(h:b6 P f args ⟨oJ m.c id v',m.t++[0],m.o⟩ K):b6 P f args m K:=by
 refine⟨h.1,λE O J w G V hA=>?_⟩;obtain⟨a,hG,h2,g⟩:=GP V;rw[qH]at s;rw[vy]at h;have q:Mem E O (J.A1 (none,0,0)) ⟨m.c.set id v',m.t++[0],m.o⟩ w:=by
  refine⟨⟨by show(J.A1 _).b.length=(m.c.set id v').length;rw[wU];exact a.len,a.A6,λi c t u r z=>?_,a.inj,a.tail,a.A3,a.known,a.R,a.obj,a.A2,a.I⟩,a.gh,a.B1,a.C3,a.marks⟩;rcases mS z with⟨rfl,rfl⟩|⟨_,z⟩
  .obtain⟨C,e,S,T,g3,g4⟩:=a.box i c t v r s;refine⟨C,e,S,?_⟩;subst g3;obtain⟨o,t',x⟩:=d;obtain⟨hs,aa⟩:=SV.O T x W;cases hs;obtain⟨l,e0,n,L,Y,Z⟩:=V.box i c _ v r s;rw[S]at n;cases n;obtain⟨_,y⟩:=SV.O L x W;obtain⟨k1,A⟩:=SV.A4 T x (g (ty:=ty) (f:=R) y) rfl hv;have:(C.toList.take o++(C.toList.drop o).take (Ty.size .c)++C.toList.drop (o+Ty.size .c))=C.toList:=by rw[iJ,<-pS,nF,nF]
   rw[show(SV.ow 0 0 0 k Q).shape.size=Ty.size .c from rfl]at A;rw[this]at A;exact⟨A,k1,g4⟩
  .exact a.box i c t u r z
 refine(h.2 E O _ w G q (R9 h2 hA)).mono ?_;rintro e M ⟨N,p,U,F,n,L,Y,Z⟩;exact⟨N,p,U,F,n,hG.trans L,Y,Z⟩
variable {P:Program}
def LZ(P:Program)(f:FuncId)(args:List SV)(n:Nat)(t:Ty)(F:Nat->D):Prop:=∀m K,(∀v,K (.ret (.ow (m.t.length+1) v n t F)) ⟨m.c,m.t++[v],m.o⟩)->b6 P f args m K
def YA{args:List SV}{n:Nat}{t:Ty}{F:Nat->D}(ha:eV 0 0 0 args=true)(h:b6 P f args ⟨[],[],[]⟩ λo m=>∃v,o=.ret (.ow 1 v n t F)/\m=⟨[],[v],[]⟩):LZ P f args n t F:=λm K hK=>by
 refine⟨h.1,λE O J w G W hA=>?_⟩;refine(h.2 _ O _ w G (OY W) (Dn hA ha)).mono ?_;rintro e M ⟨g,A,U,ae,s,hG,ho,v,rfl,rfl⟩;obtain⟨x,rfl,hx⟩:=ho;have hd:=s.drop (n:=0) (k:=0) (j:=0) rfl rfl;obtain⟨b,a,c,_,Y⟩:=Ip W hd (hG.drop (sX (by simp[Bl.take])) (sX (by simp[Bl.take])) (sX (by simp[Bl.take]))) ⟨⟨dG _,dG _,dG _⟩,rfl,rfl,rfl⟩;simp only[MS.take,List.take_nil,yp,vM,lE]at a;obtain⟨y,q,ad,T,hv,hT,Z⟩:=hx.2 rfl;have T:A.t[0]?=some q:=T;have ac:q.2.1=v:=by
  have:=s.A6;have V:(A.t.map (·.2.1))[0]?=some v:=by rw[this];rfl
  rw[pr,T]at V;simpa using V
 have S:∀k,q.1=some k->A.hb k:=λk l=>Bl.D9 T l;have R:∀k,q.1=some k->¬b.hb k:=λk l p=>by
  rcases(Y k).1 p with r|r
  .exact Bf r
  .exact(s.gh.1 k r).2.2.2 (.inl (S k l))
 have L:Le g b g (b.A1 q):=Le.A1 g b _;have ab:∀k,(b.A1 q).hb k->b.hb k\/q.1=some k:=λk l=>by
  rcases l with l|⟨i,z,hz,e⟩|l
  .exact .inl (.inl l)
  .rcases lV hz with⟨_,rfl⟩|hz
   .exact .inr e
   .exact .inl (Bl.D9 hz e)
  .exact .inl (.inr (.inr l))
 have N:Gr O J w g (b.A1 q) M:=⟨c.os,c.tape,c.output,c.size,c.old,c.le.trans L,λk l=>by
  rcases ab k l with r|r
  .exact c.new k r
  .exact(hG.new k (S k r)).elim (λh=>(Bf h).elim) .inr,c.k⟩
 have Q:b.t.length=m.t.length:=by have:=dE List.length a.A6;simpa using this
 have hC:MemC g (b.A1 q) ⟨m.c,m.t++[v],m.o⟩ M:=by
  refine⟨a.len,?_,λi d t u p hc=>?_,a.inj,λi e d he p=>?_,λi j e e' d he aa p C=>?_,a.known,a.R,λi y x hy hx=>(a.obj i y x hy hx).to L λ_ _=>⟨rfl,rfl⟩,a.A2,a.I⟩
  .show(b.t++[q]).map (·.2.1)=m.t++[v];rw[je,a.A6,z5,ac]
  .obtain⟨cl,e',r,V,h3⟩:=a.box i d t u p hc;exact⟨cl,e',r,V.mono L,h3⟩
  .rcases lV he with⟨_,rfl⟩|he
   .exact s.tail 0 _ _ T p
   .exact a.tail i e d he p
  .rcases lV he with⟨e1,e2⟩|g1<;>rcases lV aa with⟨e3,e4⟩|g2
   .exact e1.trans e3.symm
   .exact(R d (e2▸p) (Bl.D9 g2 C)).elim
   .exact(R d (e4▸C) (Bl.D9 g1 p)).elim
   .exact a.A3 _ _ _ _ _ g1 g2 p C
 refine⟨g,b.A1 q,_,.ret (.ow (m.t.length+1) v n t F),W.to N hC,N,⟨x,rfl,⟨ef,λ_=>⟨y,q,ad,?_,hv,hT,Z⟩⟩⟩,hK v⟩;show(b.t++[q])[m.t.length]?=some q;rw[<-Q];exact rE
end Sx
namespace Sx
variable {P:Program} {tb:TT}
variable{a f j:Array Oper}{F:Bool}{V:List Ent}{m:MS}{N:Nat}{K:X->List Ent->MS->Prop}
def X7(hP:tb.ok P)(hm:P.follows .mixedOrders=true){id:Nat}{C:Array Oper}(W:lB C.toList=jK (.region id f true)){q:List Nat}{Y:List (Nat×Nat)}{sw:Nat->Nat}(R:xh sw C.toList q Y=true)(h:nA P tb N C.toList Y V q [] [] m (λA U=>K .U A U) λd U=>K (.P d) V U){E:Gh}{r:Option Nat}{nn:Nat}{O:Ro}{J:Bl}{g:Act}{c:World}(b:Sim E O J V m N g c):wpAnyIn (FR r) nn P .any C (QK E O J N F (jK (.region id f true)) g c K) C.size (Array.replicate C.size false) g {c with drawn:=c.drawn+1}:=by
 have Z:=HR R;have e:∀j,kK (Array.replicate C.size false) j=false:=λj=>by unfold kK;simp only[oO,LN];split<;>rfl
 have n:rq C.size (kK (Array.replicate C.size false))=C.size:=by unfold rq;rw[Mg.2 λj _=>by simp[e],tJ]
 have l:Gr O J c O J {c with drawn:=c.drawn+1}:=⟨rfl,rfl,rfl,a9 _,λ_ _ _=>⟨rfl,rfl⟩,Le.refl _ _,λ_ h=>.inl h,rfl⟩;have L:Mem E O J m {c with drawn:=c.drawn+1}:=b.m.to l ⟨b.m.len,b.m.A6,b.m.box,b.m.inj,b.m.tail,b.m.A3,b.m.known,b.m.R,λi y x hy hx=>(b.m.obj i y x hy hx).to (Le.refl _ _) λ_ _=>⟨rfl,rfl⟩,b.m.A2,b.m.I⟩;exact Aw hP Z b.l (Q:=QK E O J N F (jK (.region id f true)) g c K) (K:=λA U=>K .U A U) (Kp:=λd U=>K (.P d) V U)
  ⟨λS t A U T M u s v w z G=>QK.put (x:=.U) u trivial v (λ_=>s) s.size w z (W▸G),
   λS t U T M d x u s v w z G h7=>QK.put (x:=.P d) u ⟨x,rfl,s⟩ v (λhd=>b3 rfl (hd d)) z w G (W▸h7)⟩
  C.size (Array.replicate C.size false) O J g _ 0 (λ_=>([],.d .un)) [] m eA n λj o ho p=>by rw[e]at p;cases p
  ⟨dG _,λk _ _ a=>b3 a (jm _),λk _ _ _ a=>b3 a (jm _),λk _ _ a=>b3 a (jm _),λk _ _ a=>b3 a (jm _)⟩
  ⟨L,l,b.l.size,rfl,gN.refl _ _,λk _ a=>b3 a (jm _),(λj p=>by rw[e]at p;cases p),λk _ _ _ a=>b3 a (jm _),λk _ _ _ a=>b3 a (jm _),λ_ _=>rfl,λk _ _ a=>b3 a (jm _)⟩ h
inductive Ext (ops:Array Oper):Array Oper->Prop
 |refl:Ext ops ops
 |add {o1 o2:Array Oper} (y x:Nat):Ext ops o1->o2.toList=kb o1.toList y x->Ext ops o2
def Ext.ops{u:Array Oper}(h:Ext f u){F:Fence}{n:Nat}{Q:Exit->Act->World->Prop}{l:List Nat}{a:Act}{w:World}(j:wpOpsIn F n P u Q l a w):wpOpsIn F n P f Q l a w:=by
 induction h with
 |refl=>exact j
 |add y x _ A C=>exact C (EF A j)
def Ext.wr(h:Ext f j):lB j.toList=lB f.toList:=by
 induction h with
 |refl=>rfl
 |add y x _ u A=>rw[u,Lw];exact A
def Ext.size(h:Ext f j):j.size=f.size:=by
 induction h with
 |refl=>rfl
 |add y x _ u A=>
  have:=dE List.length u;rw[CT]at this;exact(by simpa using this:_=_).trans A
def zU(P:Program)(N id:Nat)(F:Bool)(a e:Array Oper)(V:List Ent)(m:MS)(K:X->List Ent->MS->Prop):Prop:=
 ∀E r d O J c b,(F=false->r=none)->Sim E O J V m N c b->∀l,vK e a.size (Array.replicate a.size false) l->
  wpOpsIn (FR r) d P a (QK E O J N F (jK (.region id a true)) c b K) l c {b with drawn:=b.drawn+1}
def oq(j:tb.ok P)(o:P.follows .mixedOrders=true)(s:Nat->Nat)(b:List Nat)(i:List (Nat×Nat)){id:Nat}{c:Array Oper}(f:Ext a c)(e:xh s c.toList b i=true)(h:nA P tb N c.toList i V b [] [] m (λA U=>K .U A U) λd U=>K (.P d) V U):zU P N id F a c V m K:=by
 intro E r q O J t u p k l n;have g:=X7 j o (id:=id) (F:=F) (f.wr.trans rfl) e h (r:=r) (nn:=q) k;rw[f.size]at g;exact f.ops (Df g n)
def sg(x y:Nat)(e:x≠y){id:Nat}(k:zU P N id F a ⟨kb f.toList y x⟩ V m K)(n:zU P N id F a ⟨kb f.toList x y⟩ V m K):zU P N id F a f V m K:=by
 intro E r i O J g j b h l d;rcases HW x y e d with c|c
 .exact k E r i O J g j b h l (AR rfl d c)
 .exact n E r i O J g j b h l (AR rfl d c)
def yU(e:P.follows .mixedOrders=true){id:Nat}(h:zU P N id F a a V m K):eB P N F id a V m K:=by intro E r f O J c g b d;refine wpIn_region_draw λt=>?_;simp only[Region.schedule,e,Bool.true_or,xw];exact h E r f O J c g b d _ (Jd a a.size t (Array.replicate a.size false))
end Sx
namespace Sx
variable{F:Bool}{c x y:Code}{fn:Func}{f:FuncId}{V:List Ent}{args:List SV}{m:MS}{N:Nat}{C:Out->MS->Prop}{K:X->List Ent->MS->Prop}
def lL{P:Program}(h:Ok P N F x V m λe A U=>match e with
  | .U=>Ok P N F y A U K
  |e=>K e A U):Ok P N F (.seq x y) V m K:=λE r o O J a w n C=>by
 have i:∀t∈jK x,t∈jK (.seq x y):=λt j=>eP.2 (.inl j);refine wpIn_seq (wpIn_mono (h E r o O J a w n C) ?_);rintro e T M f;cases e with
 |normal=>
  obtain⟨u,A,U,d,c,L,g,b,k,p,R,q,s,v,z⟩:=f;cases vn b;refine wpIn_mono (g E r o d c T M n ⟨p eA,k⟩) λe G S f=>?_;exact f.next k q s v (z.sub i) (λt j=>eP.2 (.inr j)) λ_ _ _ h=>h
 |exit id=>exact f.of i λx V m d c b g=>by cases ud b;exact⟨_,g,b,λh=>h⟩
 |ret=>exact f.of i λx V m d c b g=>by cases x<;>first|exact b.elim|exact⟨_,g,b,λh=>h⟩
 |goto l=>obtain⟨u,_,_,_,_,_,_,b,_⟩:=f;cases u<;>cases b
 |panic Q=>exact f.of i λx V m d c b g=>by cases x<;>first|exact b.elim|exact⟨_,g,b,λh=>h⟩
 |outgrown=>obtain⟨u,_,_,_,_,_,_,b,_⟩:=f;cases u<;>cases b
def dA{P:Program}{l:List (Nat×SV)}{U:MS}(i:tC V l)(n:m=U)(h:Ok P N F c (gy l []) U K):Ok P N F c V m K:=λE r q O J a w o f=>by
 subst n;refine h E r q O J a w o ⟨⟨f.l.size,λt c v b _=>?_,λt c v b k=>?_⟩,f.m⟩
 .simp only[fP,fB]at b;obtain⟨u,p,e⟩:=b;cases e;rcases Jf p with d|d
  .have j:=Ab i _ d;exact f.l.yes t [] _ (by simp[fP,j]) λ_ g=>by cases g
  .cases d
 .simp only[fP,fB]at b;obtain⟨u,_,e⟩:=b;cases e;exact b3 (λ_ g=>by cases g) k
def HG(e:a6.funcs[f]?=some fn)(b:fn.body=some c)(k:(fn.name== "runtime.NumGoroutine")=false)(j:Nat.ble fn.results.toList.length 3=true)(g:Nat.ble args.length fn.ntmps=true){K:Out->MS->Prop}(h:Ok a6 fn.ntmps false c (kc 0 args) m (gS ff m.c.length m.t.length m.o.length fn.results.toList K)):b6 a6 f args m K:=by
 refine Dz (DA c6 e b (v8 e k (by rw[b];rfl)) (dF j) (dF g) (QH h λx A U h=>?_));have a:(match Ff ff A U fn.results.toList with
  |some v=>(v.ids m.c.length m.t.length m.o.length&&(eV m.c.length m.t.length m.o.length (U.c.take m.c.length)&&gV m.c.length m.t.length m.o.length (U.o.take m.o.length)))=true/\K (.ret v) (U.take m.c.length m.t.length m.o.length)
  |none=>False)->match rT ff A U fn.results.toList with
  |some v=>∃u,(∀O J x,du O J v x->du O J u x)/\(u.ids m.c.length m.t.length m.o.length&&(eV m.c.length m.t.length m.o.length (U.c.take m.c.length)&&gV m.c.length m.t.length m.o.length (U.o.take m.o.length)))=true/\K (.ret u) (U.take m.c.length m.t.length m.o.length)
  |none=>False:=λh=>by
  split at h
  .rename_i v o;obtain⟨u,n,l⟩:=Kt o;rw[n];exact⟨v,l,h⟩
  .cases h
 cases x with
 |exit i=>cases h
 |P d=>exact h
 |U=>exact a h
 |ret=>exact a h
def zbJ(s:a6.funcs[f]?=some fn)(q:fn.body=some c)(z:(fn.name== "runtime.NumGoroutine")=false)(y:Nat.ble fn.results.toList.length 3=true)(p:Nat.ble args.length fn.ntmps=true)(t:eV 0 0 0 args=true){v:SV}(h:Ok a6 fn.ntmps false c (kc 0 args) ⟨[],[],[]⟩ (gS ff 0 0 0 fn.results.toList λo m=>(∃u,o=.ret u/\u.le v)/\m=⟨[],[],[]⟩)):c5 a6 f args v:=by
 have d:=HG s q z y p (m:=⟨[],[],[]⟩) h;have:b6 a6 f args ⟨[],[],[]⟩ (λo m=>o=.ret v/\m=⟨[],[],[]⟩):=⟨d.1,λE O J w G n l=>(d.2 E O J w G n l).mono (by
  rintro e M ⟨b,a,U,F,g,i,j,⟨u,rfl,A⟩,k⟩;obtain⟨x,r,C⟩:=j;exact⟨b,a,U,.ret v,g,i,⟨x,r,A _ _ _ C⟩,rfl,k⟩)⟩
 exact ES t this
def R8{P:Program}{tb:TT}(A:List Ent)(U:MS)(a:∀K0:X->List Ent->MS->Prop,ji P tb N F c V m K0=K0 .U A U)(b:K .U A U):ji P tb N F c V m K:=(a K)▸b
def gW:Nat->Code->Code
 |0,c=>c
 |n+1,.seq _ b=>gW n b
 |_+1,c=>c
def gB(fn:Func):Code:=match fn.body with
 |some c=>c
 |none=>.skip
def dB(h:ji a6 ff N F x V m λe A U=>match e with
  | .U=>Ok a6 N F y A U K
  |e=>K e A U):Ok a6 N F (.seq x y) V m K:=lL (eJ c6 h)
def ov{K:Out->MS->Prop}(d:a6.funcs[f]?=some fn)(h:Ok a6 fn.ntmps false c (kc 0 args) m (gS ff m.c.length m.t.length m.o.length fn.results.toList K))(b:fn.body=some c:=by rfl)(g:(fn.name== "runtime.NumGoroutine")=false:=by kernel_rfl)(e:Nat.ble fn.results.toList.length 3=true:=by rfl)(a:Nat.ble args.length fn.ntmps=true:=by rfl):b6 a6 f args m K:=HG d b g e a h
def zu{v:SV}(d:a6.funcs[f]?=some fn)(h:Ok a6 fn.ntmps false c (kc 0 args) ⟨[],[],[]⟩ (gS ff 0 0 0 fn.results.toList λo m=>(∃u,o=.ret u/\u.le v)/\m=⟨[],[],[]⟩))(b:fn.body=some c:=by rfl)(i:(fn.name== "runtime.NumGoroutine")=false:=by kernel_rfl)(g:Nat.ble fn.results.toList.length 3=true:=by rfl)(a:Nat.ble args.length fn.ntmps=true:=by rfl)(e:eV 0 0 0 args=true:=by rfl):c5 a6 f args v:=zbJ d b i g a e h
variable {P:Program}
def yL{K:Out->MS->Prop}(h:b6 P f args m C)(y:∀o U,C o U->∃i j,(m.c.length<=i/\m.c.length<=j)/\(i<U.c.length/\j<U.c.length)/\U.o=[]/\K (o.F (fD i j)) ⟨nS U.c i j,U.t,[]⟩):b6 P f args m K:=by
 refine⟨h.1,λE O J w G s u=>(h.2 E O J w G s u).mono ?_⟩;rintro e M ⟨q,c,U,l,p,a,r,t⟩;obtain⟨i,j,⟨N,R⟩,⟨S,Q⟩,L,F⟩:=y l U t;have g:i<c.b.length:=by rw[p.len];exact S
 have k:j<c.b.length:=by rw[p.len];exact Q
 have T:J.b.length=m.c.length:=s.len;refine⟨q,c.sw i j,_,l.F (fD i j),p.sw S Q L,⟨a.os,a.tape,a.output,a.size,a.old,⟨a.le.r,λid x n=>?_,a.le.t,a.le.o,a.le.g⟩,λb z=>a.new b ((xt g k b).1 z),a.k⟩,?_,F⟩
 .show(r4 c.b i j)[id]?=some x;have A:id<J.b.length:=(iA.1 n).1;rw[x7 g k,FE a3 a3];exact a.le.b _ _ n
 .cases l with
  |ret v=>obtain⟨x,e,n⟩:=r;exact⟨x,e,n.F (wJ g k)⟩
  |P d=>obtain⟨x,e,n⟩:=r;exact⟨x,e,n.F (wJ g k)⟩
def wH(i j:Nat):∀v:SV,(v.F (fD i j)).F (fD i j)=v
 | .B id p=>by show SV.B (fD i j (fD i j id)) p=_;rw[zJ]
 | .fn f c=>by show SV.fn f ((c.F _).F _)=_;rw[wH i j c]
 | .H a b=>by show SV.H ((a.F _).F _) ((b.F _).F _)=_;rw[wH i j a,wH i j b]
 | .tu a=>by show SV.tu ((a.F _).F _)=_;rw[wH i j a]
 | .ob k=>by
  cases k with
  |sb id p lo n=>show SV.ob (.sb (fD i j (fD i j id)) p lo n)=_;rw[zJ]
  |_=>rfl
 | .ar n t f=>by show SV.ar n t (λk=>((f k).F _).F _)=_;congr 1;funext k;exact wH i j (f k)
 | .fb f a=>by show SV.fb f ((a.F _).F _)=_;rw[wH i j a]
 | .d _| .el _| .ow .. =>rfl
def AZ(i j:Nat):∀l:List SV,(l.map (SV.F (fD i j))).map (SV.F (fD i j))=l
 |[]=>rfl
 |v::l=>by rw[oT,oT,wH,AZ i j l]
def zeb{l:List SV}{i j:Nat}(b:i<l.length)(c:j<l.length):nS (nS l i j) i j=l:=by
 unfold nS;have a:(l.map (SV.F (fD i j))).length=l.length:=dD ..;apply z4;intro k;rw[x7 (by rw[dD,zH,a];exact b) (by rw[dD,zH,a];exact c),pr,x7 (by rw[a];exact b) (by rw[a];exact c),zJ,pr];cases l[k]? with
 |none=>rfl
 |some v=>show some ((v.F _).F _)=_;rw[wH]
def zI(l:List SV)(i j:Nat):(nS l i j).length=l.length:=by unfold nS;rw[zH,dD]
def HI{c:List SV}{t:List Nat}(i j:Nat)(a:i<c.length)(b:j<c.length){K:Out->MS->Prop}(h:b6 P f args ⟨c,t,[]⟩ C)(d:∀o U,C o U->U.o=[]/\K (o.F (fD i j)) ⟨nS U.c i j,U.t,[]⟩):b6 P f (args.map (SV.F (fD i j))) ⟨nS c i j,t,[]⟩ K:=by
 refine HH i j (by rw[zI];exact a) (by rw[zI];exact b) ?_;rw[AZ,zeb a b];exact fa h d
end Sx
end Go.Proofs.YtfbhkfhbnkncoaaGreatDoor
