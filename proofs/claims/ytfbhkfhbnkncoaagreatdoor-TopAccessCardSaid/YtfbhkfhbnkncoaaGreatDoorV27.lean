import Derived.Test.YtfbhkfhbnkncoaaGreatDoorV26
set_option linter.all false
namespace Go.Proofs.YtfbhkfhbnkncoaaGreatDoor
open Go.RowKit
namespace Sx
variable{h:Int}{d:Int->Nat}{P l m:List Int}{b:MBox}{a:Nat}{F:Nat->Bool}{box:Nat->MBox}{o:Nat->Sd}{r:Rn}
def UT(f:a<8){L:List Int}(h:g6 (gd b)=g6 (gd (box a))++L):(FL (a7 box a b)).Perm (FL box++L):=by
 have d:=Cp f b (box:=box);rw[h]at d;have e:(FL box++(g6 (gd (box a))++L)).Perm ((FL box++L)++g6 (gd (box a))):=by rw[iJ];exact(sW).append_left _
 exact(Gy _).1 (d.trans e)
def Am{Q:MBox->Prop}(d:Q b)(h:∀i,i<8->Q (box i)):∀i,i<8->Q (a7 box a b i):=λi e=>by
 by_cases c:i=a
 .rw[c,dN];exact d
 .rw[dP c];exact h i e
def HL(e:F a=false->b.n=0)(h:∀i,i<8->F i=false->(box i).n=0):∀i,i<8->F i=false->(a7 box a b i).n=0:=λi f d=>by
 by_cases c:i=a
 .rw[c,dN];exact e (c▸d)
 .rw[dP c];exact h i f d
section
variable {s:St} {M:Int} {c:Call} {G:Rn}
abbrev zW(b:MBox):Prop:=BoxOk b/\∀m∈gd b,(0<=m.J/\m.J<8)/\di m.D
def Rf{m:Msg}(h:zW b)(g:(0<=m.J/\m.J<8)/\di m.D)(f:j6 b=0):zW (jq b m):=by
 obtain⟨d,e,_⟩:=ET h.1 (m:=m) f;refine⟨d,λx a=>?_⟩;rw[e]at a;rcases eP.1 a with a|a
 .exact h.2 x a
 .rw[nZ.1 a];exact g
def zdl(a:CallOk s M c):(0<=(jz M c).J/\(jz M c).J<8)/\di (jz M c).D:=by have:(jz M c).J=M:=r6 a.t0 (by have:=a.t1;omega);rw[this];exact⟨⟨a.t0,a.t1⟩,a.r⟩
def J4{t:Tb}{A:Nat->Bool}(h:OInv t o box F A P)(d:a<8)(k:F a=true){m:Msg}(l:(0<=m.J/\m.J<8)/\di m.D)(j:pE m=false)(f:j6 (box a)=0):OInv t o (a7 box a (jq (box a) m)) F A P:=by
 have g:=(ET (h.bx a d).1 (m:=m) f).2.1;have b:FL (a7 box a (jq (box a) m))=FL box:=wb λi _=>by
  by_cases c:i=a
  .subst c;rw[dN,g,OT];have:g6 [m]=[]:=by unfold g6;rw[oR,j];rfl
   rw[this,gk]
  .rw[dP c]
 refine⟨by rw[b];exact h.rt,by rw[b];exact h.nd,by rw[b];exact h.K,HL (λe=>by rw[k]at e;cases e) h.dead,Am (Rf (h.bx a d) l f) h.bx⟩
def zao{a:Int}(b:di a)(h:ki s a=0):a.toNat<8/\s.alive a.toNat=true:=by have:=mX a8 h;simp only[dH,fY]at this;exact⟨by have:=b.1;omega,this.2⟩
def zdn(a:SInv s)(l:CallOk s M c):la s [] (pK s M c):=by
 refine gD λQ=>gD λY=>?_;obtain⟨f,g⟩:=zao l.a Q;obtain⟨d,j⟩:=a.t;have t:=zdl l;cases o:(jz M c).sh with
 |true=>
  have u:pE (jz M c)=false:=by unfold pE;rw[o];simp
  refine gD λF=>gD λk=>?_;cases A:(iw s.o s.t c.r c.a true==0)with
  |true=>
   rw[A]at k;have V:=Pv j a.o l.r g (b8 A);exact mh ⟨⟨d,j⟩,a.k,J4 V f g t u k⟩ (.refl _)
  |false=>
   rw[A]at k;exact mh ⟨⟨d,j⟩,a.k,J4 a.o f g t u k⟩ (.refl _)
 |false=>
  cases O:(c.r != 0)with
  |true=>
   refine gD λF=>gD λk=>gD λR=>gD λr=>?_;obtain⟨N,T⟩:=Bb (.inr rfl) F;obtain⟨_,S,P,p,E,C⟩:=v5 j ⟨l.r,N⟩;have U:=xJ j a.o T a8;have v:g6 [jz M c]=[c.r]:=by
    have:pE (jz M c)=true:=by unfold pE;rw[o];simp[jz];simpa using O
    unfold g6;rw[oR,this];rfl
   have w:=(ET (a.o.bx _ f).1 (m:=jz M c) r).2.1;have J:=UT f (box:=s.box) (b:=jq (s.box c.a.toNat) (jz M c)) (L:=[c.r]) (by rw[w,OT,v]);have i:∀x,x∈[]++FL (a7 s.box c.a.toNat (jq (s.box c.a.toNat) (jz M c)))↔x∈[]++FL s.box\/x=c.r:=λx=>by rw[lE,lE,J.mem_iff,eP,nZ]
   refine mh ⟨⟨P,p⟩,a.k,?_⟩ (x1 (xX C));show OInv (fC s.t c.r) (iI s.o (fC s.t c.r) c.r 0 ⟨2,0,0⟩) (a7 s.box c.a.toNat (jq (s.box c.a.toNat) (jz M c))) s.alive s.alive [];rw[rY R];refine Ep j p a.o ⟨l.r,N⟩ S E (λx q z=>((i x).1 q).resolve_right z) (λx q _=>(i x).2 (.inl q)) (.inr (.inl ⟨rfl,(i _).2 (.inr rfl)⟩)) (λ_=>rfl) ?_ (λ_ _ h=>h) (HL (λK=>by rw[g]at K;cases K) a.o.dead) (Am (Rf (a.o.bx _ f) t r) a.o.bx);rw[lE,J.nodup_iff,mB];have n:=a.o.nd;rw[lE]at n;exact⟨n,eA,λx q y W e=>U (by rw[lE,<-nZ.1 W,<-e];exact q)⟩
  |false=>
   refine gD λr=>?_;have u:pE (jz M c)=false:=by have:(c.r != 0)=false:=O;unfold pE jz;simp only;rw[this];rfl
   exact mh ⟨⟨d,j⟩,a.k,J4 a.o f g t u r⟩ (.refl _)
def R6(e:SInv s)(t:CallOk s M c)(z:s.alive M.toNat=true):la s [] (pJ s M):=by
 refine gD λF=>?_;obtain⟨d,y⟩:=e.t;have i:M.toNat<8:=by have:=t.t0;have:=t.t1;omega
 obtain⟨J,n⟩:=KX (e.o.bx _ i).1 F;have v:zW (ia (s.box M.toNat)):=⟨J,λm K=>(e.o.bx _ i).2 m (by rw[n];exact fA _ K)⟩;have L:=(e.o.bx _ i).2 (gJ (s.box M.toNat)) (by rw[n];exact fQ ..);have f:=HL (box:=s.box) (F:=s.alive) (a:=M.toNat) (b:=ia (s.box M.toNat)) (λA=>by rw[z]at A;cases A) e.o.dead;have j:=Am (a:=M.toNat) v e.o.bx;have q:=Cp i (ia (s.box M.toNat)) (box:=s.box);rw[n]at q;cases C:(((gJ (s.box M.toNat)).D != 0)&&!(gJ (s.box M.toNat)).sh)with
 |false=>
  have l:g6 (gJ (s.box M.toNat)::gd (ia (s.box M.toNat)))=g6 (gd (ia (s.box M.toNat))):=by unfold g6;rw[oR,show pE (gJ (s.box M.toNat))=false from C];rfl
  rw[l]at q;have p:=(Gy _).1 q;refine mh ⟨⟨d,y⟩,e.k,?_⟩ (.refl _);show OInv s.t s.o (a7 s.box M.toNat (ia (s.box M.toNat))) s.alive s.alive [];refine⟨λx k=>⟨(e.o.rt x k).1,(e.o.rt x k).2.sub (λ_ _ h=>h) λh=>?_⟩,?_,λx k=>e.o.K x ?_,f,j⟩
  .exact p.mem_iff.2 h
  .rw[lE,p.nodup_iff];exact e.o.nd
  .exact p.mem_iff.1 k
 |true=>
  have l:g6 (gJ (s.box M.toNat)::gd (ia (s.box M.toNat)))=(gJ (s.box M.toNat)).D::g6 (gd (ia (s.box M.toNat))):=by unfold g6;rw[oR,show pE (gJ (s.box M.toNat))=true from C];rfl
  rw[l]at q;generalize P:(gJ (s.box M.toNat)).D=r at*;have p:((FL (a7 s.box M.toNat (ia (s.box M.toNat))))++[r]).Perm (FL s.box):=by
   have u:(FL (a7 s.box M.toNat (ia (s.box M.toNat)))++r::g6 (gd (ia (s.box M.toNat)))).Perm ((FL (a7 s.box M.toNat (ia (s.box M.toNat)))++[r])++g6 (gd (ia (s.box M.toNat)))):=by rw[iJ];exact .refl _
   exact(Gy _).1 (u.symm.trans q)
  have o:=e.o.nd;rw[lE,<-p.nodup_iff,mB]at o;have g:∀x,x∈[]++FL s.box↔x∈[]++FL (a7 s.box M.toNat (ia (s.box M.toNat)))\/x=r:=λx=>by rw[lE,lE,<-p.mem_iff,eP,nZ]
  have N:r∉[]++FL (a7 s.box M.toNat (ia (s.box M.toNat))):=λh=>o.2.2 r h r (nZ.2 rfl) rfl;obtain⟨E,O⟩:=e.o.K r ((g r).2 (.inr rfl));refine gD λu=>mh ⟨⟨d,y⟩,e.k,?_⟩ (.refl _);show OInv s.t (iI s.o s.t r M ⟨1,iz M,0⟩) (a7 s.box M.toNat (ia (s.box M.toNat))) s.alive s.alive [];rw[rY u];exact Er y e.o E (λx k _=>(g x).2 (.inl k)) (λx k w=>((g x).1 k).resolve_right w) (JL t.t0 t.t1 z) (λh=>b3 h N) o.1 (λ_ _ h=>h) f j
def Ov{t:Tb}(i:TInv t d){A:Nat->Bool}(h:OInv t o box F A P){r:Int}(T:di r)(C:iw o t r M false=0):
 (kY (jH o t r M false).toNat=0->OInv (gT t (dJ t r)) (gL o t r M false) box F A P)/\(kY (jH o t r M false).toNat≠0->OInv t (gL o t r M false) box F A P/\kf (jQ o t r M).hold M.toNat=false):=by
 obtain⟨g,L,w,N,O⟩:=u9 i T C;have Q:jH o t r M false=(jQ o t r M).hold:=by unfold jH;rw[C];rfl
 have z:=xK i g (h.rt r g).1;have n:=(h.rt r g).2;rw[<-z]at n;have l:Gp A (dy o t r).hold:=by
  rcases n with⟨k,_⟩|⟨k,_⟩|⟨_,k⟩
  .rw[w]at k;cases k
  .rw[w]at k;cases k
  .exact k
 have f:∀b,b<8->kf (jQ o t r M).hold b=(kf (dy o t r).hold b != decide (M.toNat=b))/\0<=(jQ o t r M).hold/\(jQ o t r M).hold<256:=λb p=>by have:=Cd l.1.1 l.1.2 (a:=M.toNat) a3 p;rw[show((M.toNat:Nat):Int)=M by omega]at this;exact this
 have p:=ID (x:=dy o t r) L.1;rw[N]at p;have J:=xJ i h w a8;have m:=(f 0 a8).2;rw[Q,O];refine⟨λK=>?_,λK=>⟨?_,?_⟩⟩
 .have j:=Eo i h g.1 J;obtain⟨hD,_⟩:=tf i g.1;have v:∀x,eW (gT t (dJ t r)) x->a5 x≠a5 r:=λx f e=>by have E:=(hD.D2 x f.1).1 f.2;have:=sI i.ok ⟨f.1,E.1⟩ g.1 e;exact E.2 (by rw[this];exact(oM i g.1).2 ⟨g.1,.refl _⟩)
  exact j.move (λx f=>.inl ⟨f,dP (v x f.1),λh=>h⟩) j.nd (λx f=>⟨(j.K x f).1,by rw[dP (v x (j.K x f).1.1)];exact(j.K x f).2⟩) j.dead j.bx
 .refine Er i h g (λ_ h _=>h) (λ_ h _=>h) (.inr (.inr ⟨w,m,?_,λb q u=>?_⟩)) (λh=>b3 h J) h.nd (λ_ _ h=>h) h.dead h.bx
  .refine Gl λy=>K ((Q9 m.1 m.2).2 λa R=>?_);cases S:kf (jQ o t r M).hold a with
   |false=>rfl
   |true=>exact b3 ⟨a,R,S⟩ y
  .rw[(f b q).1]at u;by_cases c:M.toNat=b
   .rw[<-c,<-p]at u;simp at u
   .rw[fe c]at u;exact l.2.2 b q (b8 u)
 .rw[(f _ a3).1,<-p];simp
def Ox(a:kY (jH s.o s.t h M false).toNat=0):iv s h M=(jG {s with o:=gL s.o s.t h M false} h,j3 s h):=by unfold iv;rw[a];rfl
def Oy(a:kY (jH s.o s.t h M false).toNat≠0):iv s h M=({s with o:=gL s.o s.t h M false},[]):=by unfold iv;rw[fc.2 a];rfl
def Yd(e:SInv s)(g:CallOk s M c):la s [] (xj s M c):=by
 refine gD λ_=>gD λh=>?_;obtain⟨d,a⟩:=e.t;obtain⟨k,l⟩:=Ov a e.o g.r h;have i:=(u9 a g.r h).1;obtain⟨_,j,f,_⟩:=tf a i.1;by_cases b:kY (jH s.o s.t c.r M false).toNat=0
 .rw[Ox b];exact mh ⟨⟨j,f⟩,TkI.gone _ e.k,k b⟩ (by rw[gk];exact AE a i.1)
 .rw[Oy b];exact mh ⟨⟨d,a⟩,e.k,(l b).1⟩ (.refl _)
end
structure DInv (al A:Nat->Bool) (bx:Nat->MBox) (s:St) (P:List Int):Prop where
 t:∃d,TInv s.t d
 k:TkI s.k
 o:OInv s.t s.o bx al A P
 ea:s.alive=al
 eb:s.box=bx
section
variable {al A:Nat->Bool} {bx:Nat->MBox}
def Ik{α:Type}{f:St->α->Except Int (St×List Rn)}{J:St->List α->Prop}(c:∀s x l,J s (x::l)->∃W b,f s x=.ok (W,b)/\J W l/\(eG s.t).Perm (eG W.t++dm b)):∀(l:List α) (s:St) (b:List Rn),J s l->∃W a,gQ f l s b=.ok (W,a)/\J W []/\(eG s.t++dm b).Perm (eG W.t++dm a)
 |[],s,b,h=>⟨s,b,rfl,h,.refl _⟩
 |x::l,s,b,h=>by
  obtain⟨E,S,i,j,k⟩:=c s x l h;obtain⟨W,a,d,e,g⟩:=Ik c l E (b++S) j;refine⟨W,a,by simp only[gQ,i];exact d,e,.trans ?_ g⟩;rw[oE];have:(eG E.t++(dm b++dm S)).Perm ((eG E.t++dm S)++dm b):=by rw[iJ];exact(sW).append_left _
  exact((k.append_right _).trans this.symm)
def Qf(E:∀a,a<8->al a=true->A a=true):∀(s:St) (m:Msg) (l:List Msg),(DInv al A bx s (g6 (m::l))/\∀x∈m::l,(0<=x.J/\x.J<8)/\di x.D)->∃W b,iP s m=.ok (W,b)/\(DInv al A bx W (g6 l)/\∀x∈l,(0<=x.J/\x.J<8)/\di x.D)/\(eG s.t).Perm (eG W.t++dm b):=by
 rintro s m l ⟨h,k⟩;have y:∀x∈l,(0<=x.J/\x.J<8)/\di x.D:=λx i=>k x (fA _ i);have k:=k m (fQ ..);cases g:pE m with
 |false=>
  have j:g6 (m::l)=g6 l:=by unfold g6;rw[oR,g];rfl
  rw[j]at h;have t:((m.D==0)||m.sh)=true:=by unfold pE at g;cases u:m.sh<;>cases v:(m.D==0)<;>first|rfl|(exfalso;rw[u]at g;simp only[bne,v]at g;cases g)
  exact⟨s,[],by unfold iP;rw[t];rfl,⟨h,y⟩,by simp[dm]⟩
 |true=>
  have j:g6 (m::l)=m.D::g6 l:=by unfold g6;rw[oR,g];rfl
  rw[j]at h;have t:((m.D==0)||m.sh)=false:=by unfold pE at g;cases u:m.sh<;>cases v:(m.D==0)<;>first|rfl|(exfalso;rw[u]at g;simp only[bne,v]at g;cases g)
  obtain⟨d,p⟩:=h.t;have o:=h.o;obtain⟨q,F⟩:=o.K m.D (eP.2 (.inl (fQ ..)));have f:=o.nd;rw[r7,pW]at f;have c:∀x,x∈(m.D::g6 l)++FL bx↔x∈g6 l++FL bx\/x=m.D:=λx=>by rw[r7,iB];exact Or.comm
  cases w:s.alive m.J.toNat with
  |true=>
   have r:=tv p q k.1.1 k.1.2;refine⟨rP s m.D m.J,[],by unfold iP;rw[t,w,r];rfl,⟨⟨⟨d,p⟩,h.k,?_,h.ea,h.eb⟩,y⟩,by simp[dm,rP]⟩;show OInv s.t (iI s.o s.t m.D m.J ⟨1,iz m.J,0⟩) bx al A (g6 l);rw[rY r];exact Er p o q (λx i _=>(c x).2 (.inl i)) (λx i n=>((c x).1 i).resolve_right n) (JL k.1.1 k.1.2 (E _ a3 (by rw[<-h.ea];exact w))) (λh=>b3 h f.1) f.2 (λ_ _ h=>h) o.dead o.bx
  |false=>
   obtain⟨_,C,z,_⟩:=tf p q.1;refine⟨jG s m.D,j3 s m.D,by unfold iP;rw[t,w];rfl,⟨⟨⟨C,z⟩,TkI.gone _ h.k,?_,h.ea,h.eb⟩,y⟩,AE p q.1⟩;exact PK p o q.1 (λx=>⟨λi=>⟨(c x).2 (.inl i),λe=>f.1 (e▸i)⟩,λ⟨i,n⟩=>((c x).1 i).resolve_right n⟩) f.2
structure DL (p:Ow->Bool) (s:St) (l:List Int):Prop where
 all:∀h,gi s.t h->p (s.o (a5 h)).own=true->h∈l
 each:∀h∈l,gi s.t h/\p (s.o (a5 h)).own=true
 nd:l.Nodup
def DF{s:St}(h:DInv al A bx s P)(p:Ow->Bool):DL p s (fj s.o s.t p (dW s.t.b)):=by
 obtain⟨d,b⟩:=h.t;have e:∀x,x∈fj s.o s.t p (dW s.t.b)↔gi s.t x/\p (s.o (a5 x)).own=true:=λx=>by
  unfold fj;rw[jM,mM b.ok.Q b.ok.ret];simp only[dH,gG];constructor
  .rintro⟨a,c,g⟩;have f:gi s.t x:=⟨a,(rW b a).1 c⟩;rw[xK b f (h.o.rt x f).1]at g;exact⟨f,g⟩
  .rintro⟨a,c⟩;refine⟨a.1,(rW b a.1).2 a.2,?_⟩;rw[xK b a (h.o.rt x a).1];exact c
 exact⟨λx a c=>(e x).2 ⟨a,c⟩,λx i=>(e x).1 i,(GV b.ok.Q).filter _⟩
def KN{t:Tb}(f:TInv t d){r:Int}(c:gi t r):(∀x,gi (gT t (dJ t r)) x->gi t x/\x≠r/\a5 x≠a5 r)/\∀x,gi t x->x≠r->gi (gT t (dJ t r)) x/\a5 x≠a5 r:=by
 obtain⟨hD,n,m,g⟩:=tf f c.1;refine⟨λx a=>?_,λx a b=>?_⟩
 .have i:=(hD.D2 x a.1.1).1 a.1.2;have b:x≠r:=λe=>i.2 (by rw[e];exact(oM f c.1).2 ⟨c.1,.refl _⟩);have h:=a.2;rw[g x a.1]at h;exact⟨⟨⟨a.1.1,i.1⟩,h⟩,b,λe=>b (sI f.ok ⟨a.1.1,i.1⟩ c.1 e)⟩
 .have l:x∉eT t r:=λk=>b (GX ((oM f c.1).1 k).2 a.2);have j:eW (gT t (dJ t r)) x:=⟨a.1.1,(hD.D2 x a.1.1).2 ⟨a.1.2,l⟩⟩;exact⟨⟨j,by rw[g x j];exact a.2⟩,λe=>b (sI f.ok a.1 c.1 e)⟩
def Pf{p:Ow->Bool}(n:∀w,p w=true->w.kind≠2):∀(l:List Int) (s:St) (b:List Rn),DInv al A bx s []->DL p s l->DInv al A bx (jP s l b).1 []/\DL p (jP s l b).1 []/\(eG s.t++dm b).Perm (eG (jP s l b).1.t++dm (jP s l b).2)
 |[],s,b,h,a=>⟨h,a,.refl _⟩
 |r::l,s,b,h,a=>by
  obtain⟨d,g⟩:=h.t;obtain⟨f,q⟩:=a.each r (fQ ..);have c:=pW.1 a.nd;have z:r∉[]++FL bx:=λy=>n _ q (h.o.K r y).2;obtain⟨_,o,j,_⟩:=tf g f.1;obtain⟨E,J⟩:=KN g f;have t:DInv al A bx (jG s r) []:=⟨⟨o,j⟩,TkI.gone _ h.k,Eo g h.o f.1 z,h.ea,h.eb⟩;have u:DL p (jG s r) l:=⟨λx i C=>by
   obtain⟨k,m,_⟩:=E x i;exact(iB.1 (a.all x k C)).resolve_left m,λx i=>by
   obtain⟨k,m⟩:=a.each x (fA _ i);exact⟨(J x k λe=>c.1 (e▸i)).1,m⟩,c.2⟩
  obtain⟨F,G,i3⟩:=Pf n l (jG s r) (b++j3 s r) t u;refine⟨F,G,.trans ?_ i3⟩;have v:(eG s.t).Perm (eG (jG s r).t++dm (j3 s r)):=AE g f.1;rw[oE];have:(eG (jG s r).t++(dm b++dm (j3 s r))).Perm ((eG (jG s r).t++dm (j3 s r))++dm b):=by rw[iJ];exact(sW).append_left _
  exact((v.append_right _).trans this.symm)
def Pt{t:Int}(T:0<=t)(U:t<8)(q:Ow->Bool)(K:∀w,q w=true->w.kind≠3):∀(s:St) (r:Int) (l:List Int),(DInv al A bx s []/\DL (gA t) s (r::l)/\DL q s [])->∃W b,jY t s r=.ok (W,b)/\(DInv al A bx W []/\DL (gA t) W l/\DL q W [])/\(eG s.t).Perm (eG W.t++dm b):=by
 rintro s r l ⟨h,u,Q⟩;obtain⟨d,k⟩:=h.t;obtain⟨i,S⟩:=u.each r (fQ ..);have n:=pW.1 u.nd;have P:=i.1.1;have y:=xK k i (h.o.rt r i).1;have z:=tv k i T U;have m:=S;unfold gA at m;simp only[dH,gG]at m;have G:iw s.o s.t r t false=0:=by
  have V:tj s.t r t=false:=by unfold tj;rw[z,i.1.2,(rW k i.1).2 i.2];simp
  have Z:((dy s.o s.t r).kind != 3)=false:=by rw[y];simp[m.1.1.1]
  have Y:qK (dy s.o s.t r) t=true:=by rw[y];exact m.2
  unfold iw;rw[V,Z,z,Y];rfl
 obtain⟨i1,i2⟩:=Ov k h.o P G;obtain⟨_,_,k3,_,N⟩:=u9 k P G;have hD:jY t s r=.ok (iv s r t):=by unfold jY;rw[G];rfl
 have f:∀x,a5 x≠a5 r->gL s.o s.t r t false (a5 x)=s.o (a5 x):=λx a=>by rw[N];exact dP a
 have j:∀x,gi s.t x->x≠r->a5 x≠a5 r:=λx a J e=>J (sI k.ok a.1 i.1 e);by_cases F:kY (jH s.o s.t r t false).toNat=0
 .rw[Ox F]at hD;obtain⟨_,R,L,_⟩:=tf k i.1;obtain⟨E,s2⟩:=KN k i;refine⟨_,_,hD,⟨⟨⟨R,L⟩,TkI.gone _ h.k,i1 F,h.ea,h.eb⟩,⟨λx a g=>?_,λx a=>?_,n.2⟩,⟨λx a g=>?_,λx a=>(by cases a),wV⟩⟩,AE k i.1⟩
  .obtain⟨p,v,C⟩:=E x a;have g:gA t (gL s.o s.t r t false (a5 x)).own=true:=g;rw[f x C]at g;exact(iB.1 (u.all x p g)).resolve_left v
  .obtain⟨p,v⟩:=u.each x (fA _ a);obtain⟨C,q4⟩:=s2 x p λe=>n.1 (e▸a);refine⟨C,?_⟩;show gA t (gL s.o s.t r t false (a5 x)).own=true;rw[f x q4];exact v
  .obtain⟨p,v,C⟩:=E x a;have g:q (gL s.o s.t r t false (a5 x)).own=true:=g;rw[f x C]at g;exact Q.all x p g
 .rw[Oy F]at hD;obtain⟨j1,M⟩:=i2 F;refine⟨_,_,hD,⟨⟨⟨d,k⟩,h.k,j1,h.ea,h.eb⟩,⟨λx a g=>?_,λx a=>?_,n.2⟩,⟨λx a g=>?_,λx a=>(by cases a),wV⟩⟩,by simp[dm]⟩
  .have a:gi s.t x:=a;have g:gA t (gL s.o s.t r t false (a5 x)).own=true:=g;by_cases c:x=r
   .exfalso;rw[c,N,dN]at g;unfold gA at g;simp only[dH]at g;have O:=g.2;unfold kf at M;rw[show((t.toNat:Nat):Int)=t by omega]at M;rw[M]at O;cases O
   .rw[f x (j x a c)]at g;exact(iB.1 (u.all x a g)).resolve_left c
  .obtain⟨p,v⟩:=u.each x (fA _ a);refine⟨p,?_⟩;show gA t (gL s.o s.t r t false (a5 x)).own=true;rw[f x (j x p λe=>n.1 (e▸a))];exact v
  .have a:gi s.t x:=a;have o:q (gL s.o s.t r t false (a5 x)).own=true:=g;by_cases c:x=r
   .exfalso;rw[c,N,dN]at o;exact K _ o k3
   .rw[f x (j x a c)]at o;exact Q.all x a o
end
def XY{s:St}(j:SInv s){t:Int}(R:0<=t)(U:t<8):∃W b,lh s t=.ok (W,b)/\SInv W/\(eG s.t).Perm (eG W.t++dm b)/\W.alive=a7 s.alive t.toNat false:=by
 have z:t.toNat<8:=by omega
 obtain⟨d,ht⟩:=j.t;have hA:∀a,a<8->a7 s.alive t.toNat false a=true->a7 s.alive t.toNat true a=true:=λa _ h=>by
  by_cases c:a=t.toNat
  .rw[c,dN]
  .rw[dP c]at h ⊢;exact h
 have F:∀a,a<8->s.alive a=true->a7 s.alive t.toNat true a=true:=λa _ h=>by
  by_cases c:a=t.toNat
  .rw[c,dN]
  .rw[dP c];exact h
 have y:gd (⟨λ_=>mz,0,0,true⟩:MBox)=[]:=rfl;have r:=Cp z (⟨λ_=>mz,0,0,true⟩:MBox) (box:=s.box);rw[y,show g6 []=[] from rfl,gk]at r;have r:(g6 (gd (s.box t.toNat))++FL (a7 s.box t.toNat ⟨λ_=>mz,0,0,true⟩)).Perm (FL s.box):=sW.trans r;have D0:DInv (a7 s.alive t.toNat false) (a7 s.alive t.toNat true) (a7 s.box t.toNat ⟨λ_=>mz,0,0,true⟩) (mb s t) (g6 (gd (s.box t.toNat))):=by
  refine⟨⟨d,ht⟩,j.k,⟨λx n=>⟨(j.o.rt x n).1,(j.o.rt x n).2.sub F λh=>r.mem_iff.2 h⟩,r.nodup_iff.2 j.o.nd,λx n=>j.o.K x (r.mem_iff.1 n),λi hi V=>?_,Am (Q:=zW) ⟨⟨by decide,by decide,by decide,by decide⟩,λm Z=>by rw[y]at Z;cases Z⟩ j.o.bx⟩,rfl,rfl⟩;by_cases c:i=t.toNat
  .rw[c,dN]
  .rw[dP c]at V ⊢;exact j.o.dead i hi V
 obtain⟨E,S,P,⟨u,_⟩,p1⟩:=Ik (J:=λW l=>DInv (a7 s.alive t.toNat false) (a7 s.alive t.toNat true) (a7 s.box t.toNat ⟨λ_=>mz,0,0,true⟩) W (g6 l)/\∀x∈l,(0<=x.J/\x.J<8)/\di x.D) (f:=iP) (λW m l h=>Qf hA W m l h) (gd (s.box t.toNat)) (mb s t) [] ⟨D0,(j.o.bx _ z).2⟩;have N:DInv (a7 s.alive t.toNat false) (a7 s.alive t.toNat true) (a7 s.box t.toNat ⟨λ_=>mz,0,0,true⟩) (fZ E t) []:=by
  have Y:=TkI.F0 (eg E.k (jk t) (dI E.k.b)) u.k;have ho:=u.o;generalize hK:(eg E.k (jk t) (dI E.k.b)).foldl gI E.k=K at Y;have e:fZ E t={E with k:=K}:=by unfold fZ;rw[hK]
  rw[e];exact⟨u.t,Y,ho,u.ea,u.eb⟩
 have o:∀w,gf t w=true->w.kind=1:=λw q=>by unfold gf at q;simp only[dH,gG]at q;exact q.1
 obtain⟨O,L3,p2⟩:=Pf (p:=gf t) (λw q=>by rw[o w q];decide) _ (fZ E t) S N (DF N (gf t));have H3:=DF O (gA t);obtain⟨W,b',e3,⟨g,L4,L5⟩,p3⟩:=Ik (J:=λW l=>DInv (a7 s.alive t.toNat false) (a7 s.alive t.toNat true) (a7 s.box t.toNat ⟨λ_=>mz,0,0,true⟩) W []/\DL (gA t) W l/\DL (gf t) W []) (f:=jY t) (Pt R U (gf t) (λw q=>by rw[o w q];decide)) _ _ (jP (fZ E t) (fj (fZ E t).o (fZ E t).t (gf t) (dW (fZ E t).t.b)) S).2 ⟨O,H3,L3⟩;refine⟨W,b',?_,⟨g.t,g.k,?_⟩,?_,g.ea⟩
 .unfold lh;unfold gd at P;rw[P];exact e3
 .rw[g.ea,g.eb];refine⟨λx n=>⟨(g.o.rt x n).1,?_⟩,g.o.nd,g.o.K,g.o.dead,g.o.bx⟩;rcases(g.o.rt x n).2 with⟨A,L,C⟩|k|⟨A,L,C,k4⟩
  .refine .inl ⟨A,L,?_⟩;by_cases c:(W.o (a5 x)).own.task=t
   .have:gf t (W.o (a5 x)).own=true:=by unfold gf;rw[A,c];simp
    cases L5.all x n this
   .rw[dP (by omega)]at C ⊢;exact C
  .exact .inr (.inl k)
  .refine .inr (.inr ⟨A,L,C,λa ha v=>?_⟩);have T:=k4 a ha v;by_cases c:a=t.toNat
   .exfalso;have:gA t (W.o (a5 x)).own=true:=by rw[c]at v;unfold kf at v;rw[show((t.toNat:Nat):Int)=t by omega]at v;unfold gA;rw[A,eI R,eI U,v];rfl
    cases L4.all x n this
   .rw[dP c]at T ⊢;exact T
 .have e:eG s.t=eG (mb s t).t:=by unfold mb;rfl
  rw[e];rw[show dm ([]:List Rn)=[] from rfl,gk]at p1;have e2:eG (fZ E t).t=eG E.t:=by unfold fZ;rfl
  rw[e2]at p2;exact p1.trans (p2.trans p3)
def HZ{s:St}(g:SInv s){t:Int}(a:0<=t)(f:t<8):∃W b,te (lh s t)=.ok (W,⟨0,0,0⟩,b)/\SInv W/\(eG s.t).Perm (eG W.t++dm b)/\W.alive=a7 s.alive t.toNat false:=by obtain⟨W,b,d,e⟩:=XY g a f;exact⟨W,b,by rw[d];rfl,e⟩
section
variable {s:St} {M:Int} {c:Call} {G:Rn}
def OH(i:SInv s){t:Int}(a:0<=t)(g:t<8):la s [] (te (lh s t)):=λW r b h=>by obtain⟨E,S,d,e,f,_⟩:=HZ i a g;rw[d]at h;cases h;exact⟨e,by rw[gk];exact f⟩
def zaa(d:SInv s)(b:CallOk s M c):la s [] (uj s c):=by refine gD λa=>OH d b.a.1 ?_;have:=mX a8 a;simp only[dH,fY]at this;exact this.1
def WI{x:St×Rs×List Rn}(h:fr s M c G=.ok x):(0<=M/\M<8)/\s.alive M.toNat=true:=by unfold fr at h;obtain⟨a,_⟩:=jd h;have:=mX a8 a;simp only[dH,fY]at this;exact this
def Jt(h:dv s M c>0):c.C=2:=by
 unfold dv at h;cases a:(c.C==2)with
 |true=>simpa using a
 |false=>rw[a]at h;exact b3 (show(0:Int)>0 from h) a8
def NG(f:SInv s)(g:CallOk s M c)(p:dv s M c>0->G.n=dv s M c->dw G):la s (bif decide (dv s M c>0)then pg G else[]) (fr s M c G)/\(∀x,fr s M c G=.ok x->dv s M c>0->G.n=dv s M c):=by
 have i:∀x,fr s M c G=.ok x->s.alive M.toNat=true:=λx h=>(WI h).2;have q:c.C≠2->(bif decide (dv s M c>0)then pg G else[])=[]:=λh=>by
  cases j:decide (dv s M c>0)with
  |true=>exact b3 (Jt (gM j)) h
  |false=>rfl
 refine⟨λW r b h=>?_,λx h o=>?_⟩
 .have i:=i _ h;have d:∀R:Ex,R=.ok (W,r,b)->(c.C≠2/\la s [] R)\/(c.C=2/\la s (bif decide (dv s M c>0)then pg G else[]) R)->SInv W/\(eG s.t++(bif decide (dv s M c>0)then pg G else[])).Perm (eG W.t++dm b):=by
   rintro R e (⟨m,l⟩|⟨m,l⟩)
   .rw[q m];exact l _ _ _ e
   .exact l _ _ _ e
  unfold fr at h;obtain⟨_,h⟩:=jd h;have a:∀{k:Int} {X Y:Ex},(bif c.C==k then X else Y)=.ok (W,r,b)->(c.C=k/\X=.ok (W,r,b))\/Y=.ok (W,r,b):=λ{k X Y} h=>by
   cases j:(c.C==k)with
   |true=>rw[j]at h;exact .inl ⟨b8 j,h⟩
   |false=>rw[j]at h;exact .inr h
  rcases a h with⟨e,h⟩|h; ·exact d _ h (.inl ⟨a3,za1 f g i⟩)
  rcases a h with⟨e,h⟩|h; ·exact d _ h (.inr ⟨e,(MY f p e).1⟩)
  rcases a h with⟨e,h⟩|h; ·exact d _ h (.inl ⟨a3,P4 f 0⟩)
  rcases a h with⟨e,h⟩|h; ·exact d _ h (.inl ⟨a3,P4 f 1⟩)
  rcases a h with⟨e,h⟩|h; ·exact d _ h (.inl ⟨a3,zcV f⟩)
  rcases a h with⟨e,h⟩|h; ·exact d _ h (.inl ⟨a3,XS f g⟩)
  rcases a h with⟨e,h⟩|h; ·exact d _ h (.inl ⟨a3,XN f g i⟩)
  rcases a h with⟨e,h⟩|h; ·exact d _ h (.inl ⟨a3,YR f g⟩)
  rcases a h with⟨e,h⟩|h; ·exact d _ h (.inl ⟨a3,Yz f g i⟩)
  rcases a h with⟨e,h⟩|h; ·exact d _ h (.inl ⟨a3,zdt f g⟩)
  rcases a h with⟨e,h⟩|h; ·exact d _ h (.inl ⟨a3,Yd f g⟩)
  rcases a h with⟨e,h⟩|h; ·exact d _ h (.inl ⟨a3,zak f⟩)
  rcases a h with⟨e,h⟩|h; ·exact d _ h (.inl ⟨a3,Wo f⟩)
  rcases a h with⟨e,h⟩|h; ·exact d _ h (.inl ⟨a3,zdn f g⟩)
  rcases a h with⟨e,h⟩|h; ·exact d _ h (.inl ⟨a3,R6 f g i⟩)
  rcases a h with⟨e,h⟩|h; ·exact d _ h (.inl ⟨a3,R6 f g i⟩)
  rcases a h with⟨e,h⟩|h; ·exact d _ h (.inl ⟨a3,W8 f g⟩)
  rcases a h with⟨e,h⟩|h; ·exact d _ h (.inl ⟨a3,zcN f⟩)
  rcases a h with⟨e,h⟩|h; ·exact d _ h (.inl ⟨a3,XU f⟩)
  rcases a h with⟨e,h⟩|h; ·exact d _ h (.inl ⟨a3,OH f g.t0 g.t1⟩)
  rcases a h with⟨e,h⟩|h; ·exact d _ h (.inl ⟨a3,zaa f g⟩)
  rcases a h with⟨e,h⟩|h; ·exact d _ h (.inl ⟨a3,zdN f⟩)
  cases h
 .have n:=Jt o;unfold fr at h;obtain⟨_,h⟩:=jd h;rw[n]at h;have h:mN s M c G=.ok x:=h;exact(MY f p n).2 x h o
def Yk(h:SInv s)(a:0<=M)(d:M<8)(g:s.alive M.toNat=true):∃W b,dz s M (fO 20) G=(W,⟨0,0,0⟩,b)/\SInv W/\(eG s.t).Perm (eG W.t++dm b)/\W.alive=a7 s.alive M.toNat false:=by
 obtain⟨W,b,e,f⟩:=HZ h a d;refine⟨W,b,?_,f⟩;unfold dz;have:fr s M (fO 20) G=te (lh s M):=by unfold fr;rw[eI a,eI d,g];rfl
 rw[this,e]
end
def NE(R:Ex):Prop:=R≠.error 0
def fV{e:Int}{R:Ex}(h:NE R):NE (dV e R):=λa=>by
 by_cases c:e=0
 .rw[b9 c]at a;exact h a
 .rw[eR c]at a;cases a;exact c rfl
def lX(x:St×Rs×List Rn):NE (.ok x):=ef
def kV{b:Bool}{R Q:Ex}(h:NE R)(k:NE Q):NE (bif b then R else Q):=by cases b<;>assumption
def Js(s:St)(c:Call)(m:Msg):NE (uz s c m):=fV (lX _)
def xb{s:St}{M:Int}{c:Call}{G:Rn}(j:SInv s)(e:CallOk s M c):NE (fr s M c G):=by
 have f:∀t:Int,0<=t->t<8->NE (te (lh s t)):=λt g i=>by obtain⟨W,b,h,_⟩:=HZ j g i;rw[h];exact lX _
 have a:NE (uj s c):=λa=>by
  unfold uj at a;by_cases d:ki s c.a=0
  .rw[b9 d]at a;have:=mX a8 d;simp only[dH,fY]at this;exact f c.a e.a.1 this.1 a
  .rw[eR d]at a;exact d (by injection a)
 refine fV ?_;refine kV (fV (fV (kV (fV (lX _)) (lX _)))) ?_;refine kV (fV (fV (fV (kV (fV (lX _)) (fV (fV (fV (lX _)))))))) ?_;refine kV (fV (fV (fV (fV (lX _))))) ?_;refine kV (fV (fV (fV (fV (lX _))))) ?_;refine kV (fV (fV (fV (lX _)))) ?_;refine kV (fV (lX _)) ?_;refine kV (fV (fV (fV (fV (lX _))))) ?_;refine kV (fV (fV (fV (lX _)))) ?_;refine kV (fV (fV (fV (lX _)))) ?_;refine kV (fV (fV (fV (lX _)))) ?_;refine kV (fV (fV (lX _))) ?_;refine kV (fV (fV (fV (fV (fV (lX _)))))) ?_;refine kV (fV (fV (lX _))) ?_;refine kV (fV (fV (kV (fV (Js _ _ _)) (kV (fV (fV (fV (Js _ _ _)))) (Js _ _ _))))) ?_;refine kV (fV (kV (fV (lX _)) (lX _))) ?_;refine kV (fV (kV (fV (lX _)) (lX _))) ?_;refine kV (fV (lX _)) ?_;refine kV (fV (fV (fV (lX _)))) ?_;refine kV (fV (fV (lX _))) ?_;refine kV (f M e.t0 e.t1) ?_;refine kV a ?_;exact kV (fV (lX _)) ef
def mH(N:Int):List Int:=(List.range N.toNat).map λi:Nat=>(i:Int)
def vh{N p:Int}:p∈mH N↔0<=p/\p<N:=by
 unfold mH;rw[l6];constructor
 .rintro⟨j,a,rfl⟩;have:=gZ.1 a;omega
 .rintro⟨b,d⟩;exact⟨p.toNat,gZ.2 a3,a3⟩
def IQ(N:Int):(mH N).Nodup:=Bg (λx _ y _ (h:(x:Int)=(y:Int))=>a3) Gx
def xO(h:∀a,List.count a l=List.count a m):l.Perm m:=List.perm_iff_count.2 h
def ru(h:l.Perm m)(a:Int):List.count a l=List.count a m:=h.count_eq a
def Br(h:r.n<=0):pg r=[]:=by unfold pg;rw[show r.n.toNat=0 by omega];rfl
def ko(r:Rn):Prop:=r.n=0\/dw r
def ko.nn(h:ko r):0<=r.n:=by
 rcases h with h|h
 .omega
 .unfold dw at h;omega
def ko.ok(h:ko r)(f:0<r.n):dw r:=by
 rcases h with h|h
 .omega
 .exact h
structure CI (N:Int) (U:List Int) (x:Cr) (r:Rn):Prop where
 n:x.p.n=N
 K:FreeOk x.p.K
 s:SInv x.s
 rn:ko r
 pp:(dm x.p.K++(eG x.s.t++(pg r++(x.q++U)))).Perm (mH N)
def CI.I7{N:Int}{U:List Int}{x:Cr}(h:CI N U x r):CI N U (dS x r) c4:=by refine⟨h.n,h.K,h.s,.inl rfl,xO λa=>?_⟩;have:=ru h.pp a;rw[Br (r:=c4) a8];show List.count a (dm x.p.K++(eG x.s.t++([]++((x.q++pg r)++U))))=_;simp only[yj,Mh]at this ⊢;omega
structure SameC (x y:Cr):Prop where
 n:y.p.n=x.p.n
 K:y.p.K=x.p.K
 s:y.s=x.s
 q:y.q=x.q
def CI.same{N:Int}{U:List Int}{x y:Cr}(h:CI N U x r)(k:SameC x y):CI N U y r:=
 ⟨k.n.trans h.n,by rw[k.K];exact h.K,by rw[k.s];exact h.s,h.rn,by rw[k.K,k.s,k.q];exact h.pp⟩
def CI.cut{N:Int}{U:List Int}{x:Cr}{c:Rt}(h:CI N U x c.run):CI N U (jO x c) c4:=h.I7.same ⟨rfl,rfl,rfl,rfl⟩
def rR:∀(b:List Rn) (x:Cr),(b.foldl dS x).q=x.q++dm b/\(b.foldl dS x).p=x.p/\(b.foldl dS x).s=x.s/\(b.foldl dS x).m=x.m
 |[],x=>⟨by simp[dm],rfl,rfl,rfl⟩
 |r::b,x=>by obtain⟨a,d,e,f⟩:=rR b (dS x r);refine⟨?_,d,e,f⟩;rw[uN,a];show(x.q++pg r)++dm b=x.q++dm (r::b);rw[iJ];rfl
def BP(v:Int):∀(l:List Int) (p:Pl) (i:Nat),(jr v p l i).n=p.n/\(jr v p l i).K=p.K
 |[],p,i=>⟨rfl,rfl⟩
 |a::l,p,i=>by
  obtain⟨b,d⟩:=BP v l (nV p a (IntKind.u8.wrap (dU .u64 v (8*(i:Int))))) (i+1);have:(nV p a (IntKind.u8.wrap (dU .u64 v (8*(i:Int))))).n=p.n/\(nV p a (IntKind.u8.wrap (dU .u64 v (8*(i:Int))))).K=p.K:=by unfold nV;cases(kF p a==0)<;>exact⟨rfl,rfl⟩
  exact⟨b.trans this.1,d.trans this.2⟩
structure CtOk (t:Nat) (c:Rt):Prop where
 t:c.task=t
 r:di c.c.r
 s:di c.c.s
 a:di c.c.a
 b:di c.c.b
def CtOk.call{t:Nat}{c:Rt}(h:CtOk t c)(f:t<8)(s:St):CallOk s c.task c.c:=⟨by rw[h.t];omega,by rw[h.t];omega,h.r,h.s,h.a,h.b⟩
def se(N:Int)(U:List Int)(p:Sp):Prop:=match p.e with
 |true=>CI N U p.x c4
 |false=>CI N U p.x p.c.run
section
variable {N:Int} {U:List Int} {x:Cr} {c:Rt} {t:Nat}
def DN(h:CI N U x c.run)(r:Rs):se N U (rC x c r):=h.cut
def WV(h:CI N U x c.run):se N U (ou x c):=by
 unfold ou;cases vD x.s c.task c.c with
 |true=>exact h
 |false=>
  cases(nk x.s c.task c.c != 0)with
  |true=>exact DN h _
  |false=>exact h
def zaD(h:CI N U x c.run)(g:Int)(l:List Int):se N U (wv x c g l):=h.same ⟨rfl,rfl,rfl,rfl⟩
def Ih{l:List Rn}{n:Int}{y:Rn}(h:nu l n=some y):u0 l n=y.at_:=by unfold u0;rw[h]
def WY(h:CI N U x c.run)(r:c.run.n<=0)(n:Int):se N U (lS x c n):=by
 unfold lS;cases q:(kP x.p n != 0)with
 |true=>exact DN h _
 |false=>
  have b:kP x.p n=0:=b8 q
  have e:∃y,nu x.p.K n=some y:=by
   unfold kP at b;cases d:decide (n<1)with
   |true=>rw[d]at b;exact b3 (show(2:Int)=0 from b) a8
   |false=>
    rw[d]at b;cases f:nu x.p.K n with
    |some y=>exact⟨y,rfl⟩
    |none=>rw[f]at b;exact b3 (show(6:Int)=0 from b) a8
  obtain⟨y,e⟩:=e;obtain⟨i,g,j,k,l⟩:=NP h.K e;have m:s9 x.p n=y.at_:=by unfold s9;rw[b];exact Ih e
  have o:pZ x.p n={x.p with K:=g}:=by unfold pZ;rw[b,Ih e];show{x.p with K:=KV x.p.K ⟨y.at_,n⟩}=_;unfold KV;rw[j];rfl
  show CI N U {x with p:=pZ x.p n} ⟨s9 x.p n,n⟩;rw[m,o];refine⟨h.n,k,h.s,.inr i,xO λa=>?_⟩;have d:=ru h.pp a;have f:=ru l a;rw[Br r]at d;show List.count a (dm g++(eG x.s.t++(pg ⟨y.at_,n⟩++(x.q++U))))=_;simp only[yj,Mh]at d f ⊢;omega
def NR(p:Pl)(a:Int):(p0 p a).n=p.n/\(p0 p a).K=p.K:=by unfold p0;cases(kg p a==0)<;>exact⟨rfl,rfl⟩
def W4(h:CI N U x c.run):se N U (sj x c):=h.same ⟨(NR _ _).1,(NR _ _).2,rfl,rfl⟩
def HD(h:CI N U x c.run)(m:t<8)(l:CtOk t c)(w:dv x.s c.task c.c<=0->c.run.n<=0):se N U (gO x c):=by
 unfold gO;cases d:((dz x.s c.task c.c c.run).2.1.e != 0)with
 |true=>exact DN h _
 |false=>
  have d:(dz x.s c.task c.c c.run).2.1.e=0:=b8 d
  show se N U (vY x c _ _ _);obtain⟨z,E⟩:=NG (G:=c.run) h.s (l.call m x.s) λ_ C=>h.rn.ok a3;have j:SInv (dz x.s c.task c.c c.run).1/\(eG x.s.t++pg c.run).Perm (eG (dz x.s c.task c.c c.run).1.t++dm (dz x.s c.task c.c c.run).2.2):=by
   unfold dz at d ⊢;cases i:fr x.s c.task c.c c.run with
   |ok y=>
    obtain⟨W,r,b⟩:=y;obtain⟨o,g⟩:=z W r b i;refine⟨o,?_⟩;by_cases f:dv x.s c.task c.c>0
    .rw[eI f]at g;exact g
    .rw[fe f]at g;rw[Br (w a3)];exact g
   |error e=>
    rw[i]at d;have d:e=0:=d;rw[d]at i;exact b3 i (xb h.s (l.call m x.s))
  generalize dz x.s c.task c.c c.run=R at j;unfold vY;have v:=rR R.2.2 {x with s:=R.1,p:=bif c.c.C==4 then jr c.c.v x.p (jS x.s c.c) 0 else x.p};obtain⟨A,k,n,F⟩:=v;have f:∀b:Bool,(bif b then jr c.c.v x.p (jS x.s c.c) 0 else x.p).n=x.p.n/\(bif b then jr c.c.v x.p (jS x.s c.c) 0 else x.p).K=x.p.K:=λb=>by
   cases b with
   |true=>exact BP _ _ _ _
   |false=>exact⟨rfl,rfl⟩
  refine DN (c:={c with run:=c4}) ⟨?_,?_,?_,.inl rfl,?_⟩ _
  .rw[k];exact(f _).1.trans h.n
  .rw[k];show FreeOk (bif c.c.C==4 then jr c.c.v x.p (jS x.s c.c) 0 else x.p).K;rw[(f _).2];exact h.K
  .rw[n];exact j.1
  .rw[A,k,n];show(dm (bif c.c.C==4 then jr c.c.v x.p (jS x.s c.c) 0 else x.p).K++(eG R.1.t++(pg c4++((x.q++dm R.2.2)++U)))).Perm (mH N);rw[(f _).2];refine xO λa=>?_;have q:=ru h.pp a;have u:=ru j.2 a;rw[Br (r:=c4) a8];simp only[yj,Mh]at q u ⊢;omega
end
section
variable {N:Int} {U:List Int} {x:Cr} {c:Rt} {t:Nat}
def XA(h:CI N U x c.run)(d:t<8)(a:CtOk t c):se N U (lg x c):=by
 unfold lg;cases b:(decide (c.run.n>0)&&(dv x.s c.task c.c != c.run.n))with
 |true=>
  exact HD (c:={c with run:=c4}) h.I7 d ⟨a.t,a.r,a.s,a.a,a.b⟩ λ_=>i6 0
 |false=>
  refine HD h d a λf=>?_;have:=h.rn.nn;by_cases e:c.run.n>0
  .rw[eI e,po]at b;have:dv x.s c.task c.c=c.run.n:=b8 b
   omega
  .omega
def zdU(h:CI N U x c.run)(d:t<8)(b:CtOk t c):se N U (fh x c):=by
 unfold fh;cases c.E4 with
 |false=>exact WV h
 |true=>
  cases e:c.G with
  |cons g l=>exact zaD h g l
  |nil=>
   show se N U (bif (dv x.s c.task c.c != 0)&&decide (c.run.n<=0)then lS x c (dv x.s c.task c.c)else bif decide (c.S<c.run.n)then sj x c else lg x c);cases a:((dv x.s c.task c.c != 0)&&decide (c.run.n<=0))with
   |true=>
    simp only[dH,fY]at a;exact WY h a.2 _
   |false=>
    cases decide (c.S<c.run.n)with
    |true=>exact W4 h
    |false=>exact XA h d b
def SQ:(fh x c).c.c=c.c/\(fh x c).c.task=c.task:=by
 have a:∀y d,(gO y d).c.c=d.c/\(gO y d).c.task=d.task:=λy d=>by unfold gO;cases((dz y.s d.task d.c d.run).2.1.e != 0)<;>exact⟨rfl,rfl⟩
 unfold fh;cases c.E4 with
 |false=>
  show(ou x c).c.c=c.c/\(ou x c).c.task=c.task;unfold ou;cases vD x.s c.task c.c with
  |true=>exact⟨rfl,rfl⟩
  |false=>cases(nk x.s c.task c.c != 0)<;>exact⟨rfl,rfl⟩
 |true=>
  cases b:c.G with
  |cons g l=>exact⟨rfl,rfl⟩
  |nil=>
   show(bif (dv x.s c.task c.c != 0)&&decide (c.run.n<=0)then lS x c (dv x.s c.task c.c)else bif decide (c.S<c.run.n)then sj x c else lg x c).c.c=c.c/\(bif (dv x.s c.task c.c != 0)&&decide (c.run.n<=0)then lS x c (dv x.s c.task c.c)else bif decide (c.S<c.run.n)then sj x c else lg x c).c.task=c.task;cases((dv x.s c.task c.c != 0)&&decide (c.run.n<=0))with
   |true=>
    show(lS x c (dv x.s c.task c.c)).c.c=c.c/\(lS x c (dv x.s c.task c.c)).c.task=c.task;unfold lS;cases(kP x.p (dv x.s c.task c.c) != 0)<;>exact⟨rfl,rfl⟩
   |false=>
    cases decide (c.S<c.run.n)with
    |true=>exact⟨rfl,rfl⟩
    |false=>
     show(lg x c).c.c=c.c/\(lg x c).c.task=c.task;unfold lg;cases(decide (c.run.n>0)&&(dv x.s c.task c.c != c.run.n))<;>exact a _ _
end
end Sx
end Go.Proofs.YtfbhkfhbnkncoaaGreatDoor
