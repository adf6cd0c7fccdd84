import Derived.Test.YtfbhkfhbnkncoaaGreatDoorV30
set_option linter.all false
namespace Go.Proofs.YtfbhkfhbnkncoaaGreatDoor
open Go.RowKit Tryz
open Tryz renaming prog→a6
namespace Sx
variable{M h:Int}{d:Int->Nat}{i:Nat}{o:Nat->Sd}{Z:Nat->Tk}{w:Ow}{s:Slot}{t':Tb}{k:Toks}{α:Type}
def rl(c:Rt):Prop:=c.run=c4\/dw c.run/\c.run.n=gY c.c.a c.c.b
def qt(p:Pl)(c:Rt):Prop:=∀j,0<=j->j<c.S->Zp p (c.run.at_+j)
def Ld{s W:St}{c:Call}{G a:Rn}{r:Rs}{y y':Nat->List Int}(e:a=G)(h:sf s W M c G r y y'):sf s W M c a r y y':=e▸h
structure SB (x:Cr) (c:Rt) (y:Nat->List Int) (p:Sp):Prop where
 z:∀q,0<=q->q<64->q∉eG x.s.t->Zp x.p q->Zp p.x.p q
 go:p.e=false->p.x.s=x.s/\PB p.x.p x.s.t y/\rl p.c/\qt p.x.p p.c
 fin:p.e=true->∃y',sf x.s p.x.s c.task c.c (ky (bif (p.r.e != 0)||(c.c.C != 2)then c4 else c.run) x.q.length p.x.q.length) p.r y y'/\PB p.x.p p.x.s.t y'
def IH(a b:Int):ky c4 a b=c4:=by unfold ky;rw[show decide (c4.n>0)=false from rfl,lO];rfl
def zaW{s:St}{c:Call}(h:c.C≠2):dv s M c=0:=by unfold dv;rw[fc.2 h];rfl
section
variable {N:Int} {U:List Int} {x:Cr} {c:Rt} {t:Nat} {y:Nat->List Int}
def WT(h:CI N U x c.run)(q:t<8)(p:CtOk t c)(e:PB x.p x.s.t y)(l:rl c)(m:qt x.p c):SB x c y (ou x c):=by
 have a:=p.call q x.s;unfold ou;cases vD x.s c.task c.c with
 |true=>exact⟨λ_ _ _ _ h=>h,λ_=>⟨rfl,e,l,m⟩,ef⟩
 |false=>
  cases i:(nk x.s c.task c.c != 0)with
  |false=>exact⟨λ_ _ _ _ h=>h,λ_=>⟨rfl,e,l,m⟩,ef⟩
  |true=>
   have b:=oX.1 i;have k:dv x.s c.task c.c=0:=by
    by_cases f:dv x.s c.task c.c>0
    .exfalso;apply b;unfold nk;rw[eI f];rfl
    .have:=Jv (s:=x.s) (M:=c.task) (c:=c.c);omega
   have j:nk x.s c.task c.c=(dz x.s c.task c.c c4).2.1.e:=by unfold nk;rw[k];rfl
   rcases HQ (G:=c4) h.s a with⟨d,g,r,o⟩|⟨d,g⟩
   .have n:ky (bif ((rC x c ⟨nk x.s c.task c.c,0,0⟩).r.e != 0)||(c.c.C != 2)then c4 else c.run) x.q.length (rC x c ⟨nk x.s c.task c.c,0,0⟩).x.q.length=c4:=by rw[show(rC x c ⟨nk x.s c.task c.c,0,0⟩).r.e=nk x.s c.task c.c from rfl,i];exact IH _ _
    refine⟨λ_ _ _ _ h=>h,ef,λ_=>⟨qx x.s x.s c.c (dz x.s c.task c.c c4).2.1.e y,Ld n (.inr ⟨.inl rfl,k,λh=>b3 h a8,g.symm,?_,rfl⟩),?_⟩⟩
    .unfold pM;rw[fc.2 d,lO,eQ,o,<-j];rfl
    .exact EH (G:=c4) e h.s h.s (by rw[fc.2 d,lO]) (λ_=>.inl rfl) λf=>b3 f a8
   .exact b3 (j.trans d) b
def WX(h:CI N U x c.run)(z:RtX c)(m:PB x.p x.s.t y)(C:dv x.s c.task c.c≠0)(w:c.run.n<=0):SB x c y (lS x c (dv x.s c.task c.c)):=by
 have p:dv x.s c.task c.c>0:=by have:=Jv (s:=x.s) (M:=c.task) (c:=c.c);omega
 unfold lS;cases n:(kP x.p (dv x.s c.task c.c) != 0)with
 |true=>
  have d:=oX.1 n;refine⟨λ_ _ _ _ h=>h,ef,λ_=>⟨y,.inl ⟨?_,p,rfl,rfl⟩,m⟩⟩;show kP x.p (dv x.s c.task c.c)=6;unfold kP at d ⊢;rw[fe a3]at d ⊢;cases e:(nu x.p.K (dv x.s c.task c.c)).isSome with
  |false=>rfl
  |true=>rw[e]at d;exact b3 rfl d
 |false=>
  have g:kP x.p (dv x.s c.task c.c)=0:=b8 n
  have f:(pZ x.p (dv x.s c.task c.c)).V=x.p.V:=by unfold pZ;rw[g];rfl
  have k:rd (pZ x.p (dv x.s c.task c.c))=rd x.p:=by funext a;unfold rd;rw[f]
  refine⟨λq _ _ _ v=>λo u=>by show(pZ x.p (dv x.s c.task c.c)).V _ _=0;rw[f];exact v o u,λ_=>⟨rfl,λi r=>by show(gj _).map (rd (pZ x.p (dv x.s c.task c.c)))=_/\_;rw[k];exact m i r,.inr ⟨?_,?_⟩,λj A l=>?_⟩,ef⟩
  .show dw ⟨s9 x.p (dv x.s c.task c.c),dv x.s c.task c.c⟩;have e:∃y,nu x.p.K (dv x.s c.task c.c)=some y:=by
    have b:=g;unfold kP at b;rw[fe a3]at b;cases e:nu x.p.K (dv x.s c.task c.c)with
    |some y=>exact⟨y,rfl⟩
    |none=>rw[e]at b;exact b3 (show(6:Int)=0 from b) a8
   obtain⟨y,e⟩:=e;unfold s9;rw[g];show dw ⟨u0 x.p.K (dv x.s c.task c.c),dv x.s c.task c.c⟩;rw[Ih e];exact(NP h.K e).1
  .exact(Ez p).2.2.2.2.2.2
  .have l:j<c.S:=l;have:=z.c1;omega
def W1(z:N<=64)(h:CI N U x c.run)(G:RtX c)(p:PB x.p x.s.t y)(F:rl c)(J:qt x.p c)(Q:c.S<c.run.n):SB x c y (sj x c):=by
 have n:=G.c0;have l:c.run.at_+c.S∈pg c.run:=by rw[iS];omega
 obtain⟨L,m,M⟩:=h.dj.2.2 _ (.inr l);have hL:kg x.p (c.run.at_+c.S)=0:=by have f:=(h.F3 z (a:=32*(c.run.at_+c.S)) (.inr (by rw[show 32*(c.run.at_+c.S) / 32=c.run.at_+c.S by omega];exact l))).2;unfold kF at f;rw[(xP (a:=32*(c.run.at_+c.S)) a3 a3).1,fe a3,show 32*(c.run.at_+c.S) / 32=c.run.at_+c.S by omega]at f;exact f
 obtain⟨s,u⟩:=W2 hL;have d:∀q,0<=q->Zp x.p q->Zp (p0 x.p (c.run.at_+c.S)) q:=λq b A=>by
  by_cases e:q=c.run.at_+c.S
  .rw[e];exact s
  .exact λo E=>(u q e b m o).trans (A o E)
 refine⟨λq n _ _ b=>d q n b,λ_=>⟨rfl,λi g=>⟨?_,(p i g).2⟩,F,λj K r=>?_⟩,ef⟩
 .rw[<-(p i g).1];refine tK λa C=>?_;have b:=Km g (zk.1 C);obtain⟨_,w,P⟩:=h.dj.2.2 _ (.inl b);obtain⟨v,O⟩:=xP (a:=a) a3 a3;show(p0 x.p (c.run.at_+c.S)).V _ _=x.p.V _ _;rw[v,u (a / 32) (λe=>(mB.1 h.dj.2.1).2.2 _ b _ l e) w m]
 .show Zp (p0 x.p (c.run.at_+c.S)) (c.run.at_+j);have r:j<c.S+1:=r;by_cases e:j=c.S
  .rw[e];exact s
  .have k:c.run.at_+j∈pg c.run:=by rw[iS];omega
   exact d _ (h.dj.2.2 _ (.inr k)).2.1 (J j K a3)
def Xz(z:N<=64)(h:CI N U x c.run)(F:t<8)(i:CtOk t c)(w:x.s.alive t=true)(A:PB x.p x.s.t y)(E:rl c)(P:qt x.p c)(K:¬(dv x.s c.task c.c≠0/\c.run.n<=0))(Q:¬c.S<c.run.n):SB x c y (lg x c):=by
 have L:=Jv (s:=x.s) (M:=c.task) (c:=c.c);have O:=h.rn.nn;unfold lg;cases a:(decide (c.run.n>0)&&(dv x.s c.task c.c != c.run.n))with
 |true=>
  rw[dH,fY,oX]at a;have j:dv x.s c.task c.c=0:=by
   by_cases d:dv x.s c.task c.c>0
   .exfalso;rcases E with e|⟨_,e⟩
    .have:=a.1;rw[e]at this;exact b3 this a8
    .exact a.2 ((Ez d).2.2.2.2.2.2.trans e.symm)
   .omega
  obtain⟨o,p,r,l,u,G,v⟩:=NX (x:=dS x c.run) (c:={c with run:=c4}) (y:=y) z h.I7 F ⟨i.t,i.r,i.s,i.a,i.b⟩ w A j λd=>b3 (show(0:Int)<0 from d) a8;have m:ky (bif ((gO (dS x c.run) {c with run:=c4}).r.e != 0)||(c.c.C != 2)then c4 else c.run) x.q.length (gO (dS x c.run) {c with run:=c4}).x.q.length=c4:=by
   cases n:(((gO (dS x c.run) {c with run:=c4}).r.e != 0)||(c.c.C != 2))with
   |true=>exact IH _ _
   |false=>
    rw[gX]at n;have b:c.c.C=2:=b8 n.2
    have f:(gO (dS x c.run) {c with run:=c4}).r.e=0:=b8 n.1
    have g:(dz x.s c.task c.c c4).2.1.e=0:=by rw[l]at f;unfold pM at f;rw[show((({c with run:=c4}:Rt).c.C==3))=false from by show(c.c.C==3)=false;rw[b];rfl]at f;exact f
    rw[v g b];show ky c.run x.q.length ((x.q++pg c.run).length:Nat)=c4;unfold ky;have:((x.q++pg c.run).length:Int)=x.q.length+c.run.n:=by
     rw[ew];have:(pg c.run).length=c.run.n.toNat:=by simp[pg]
     omega
    rw[eI a3,eI a.1];rfl
  exact⟨p,(λh=>by rw[show(bif true then gO (dS x c.run) {c with run:=c4}else gO x c)=gO (dS x c.run) {c with run:=c4} from rfl,o]at h;cases h),λ_=>⟨_,Ld m (.inr ⟨.inl rfl,j,λh=>b3 h a8,r,l,rfl⟩),u⟩⟩
 |false=>
  have C:dv x.s c.task c.c=c.run.n:=by
   rw[Gi,kq,bne_eq_false_iff_eq]at a;rcases a with a|a
   .by_cases J:dv x.s c.task c.c=0
    .omega
    .exact b3 ⟨J,a3⟩ K
   .exact a
  have k:0<c.run.n\/c.run=c4:=by
   rcases E with e|⟨e,_⟩
   .exact .inr e
   .unfold dw at e;left;omega
  obtain⟨o,p,r,l,u,G,v⟩:=NX (y:=y) z h F i w A C λd q a=>by
   have M:=iS.1 a;have:=P (q - c.run.at_) a3 a3
   rwa [show c.run.at_+(q - c.run.at_)=q by omega]at this
  have m:ky (bif ((gO x c).r.e != 0)||(c.c.C != 2)then c4 else c.run) x.q.length (gO x c).x.q.length=c.run:=by
   rcases k with d|e
   .have f:=G d;have b:c.c.C=2:=by
     by_cases b:c.c.C=2
     .exact b
     .have:=zaW (s:=x.s) (M:=c.task) b;omega
    have g:(gO x c).r.e=0:=by rw[l];unfold pM;rw[show(c.c.C==3)=false from by rw[b];rfl];exact f
    rw[g,b,v f b];show ky c.run x.q.length x.q.length=c.run;unfold ky;rw[fe a3];rfl
   .rw[e];cases(((gO x c).r.e != 0)||(c.c.C != 2))<;>exact IH _ _
  exact⟨p,(λh=>by rw[show(bif false then gO (dS x c.run) {c with run:=c4}else gO x c)=gO x c from rfl,o]at h;cases h),λ_=>⟨_,Ld m (.inr ⟨k.symm.imp_right λd=>h.rn.ok d,C,λ_=>h.dj.2.1,r,l,rfl⟩),u⟩⟩
def zdT(i:N<=64)(h:CI N U x c.run)(k:t<8)(j:CtOk t c)(n:x.s.alive t=true)(m:RtX c)(a:PB x.p x.s.t y)(d:rl c)(e:qt x.p c):SB x c y (fh x c):=by
 unfold fh;cases c.E4 with
 |false=>exact WT h k j a d e
 |true=>
  cases o:c.G with
  |cons g l=>exact⟨λ_ _ _ _ h=>h,λ_=>⟨rfl,a,d,e⟩,ef⟩
  |nil=>
   show SB x c y (bif (dv x.s c.task c.c != 0)&&decide (c.run.n<=0)then lS x c (dv x.s c.task c.c)else bif decide (c.S<c.run.n)then sj x c else lg x c);cases b:((dv x.s c.task c.c != 0)&&decide (c.run.n<=0))with
   |true=>
    rw[dH,oX,fY]at b;exact WX h m a b.1 b.2
   |false=>
    cases f:decide (c.S<c.run.n)with
    |true=>exact W1 i h m a d e (gM f)
    |false=>exact Xz i h k j n a d e (λh=>by rw[oX.2 h.1,eI h.2]at b;cases b) (lK f)
end
structure BI (m:Mc) (y:Nat->List Int):Prop where
 pb:PB m.x.p m.x.s.t y
 run:∀i,i<8->rl (m.ts i).c
 ze:∀i,i<8->qt m.x.p (m.ts i).c
def KD:rl iT:=.inl rfl
def Fm(p:Pl):qt p iT:=λj d c=>by have c:j<0:=c;omega
def uF{Q:Nat->Rt->Prop}{C:Nat->Rr}{t:Nat}{r:Rr}(h:∀i,i<8->i≠t->Q i (C i).c)(e:Q t r.c):∀i,i<8->Q i (a7 C t r i).c:=λi d=>by
 by_cases c:i=t
 .rw[c,dN];exact e
 .rw[dP c];exact h i d c
section
variable {N:Int} {m:Mc} {t:Nat} {y:Nat->List Int} {a b:Int}
def W9(d:BI m y)(i:Nat):BI (kp m i) y:=by
 unfold kp;cases((m.ts i).busy&&!jW m i)with
 |false=>exact d
 |true=>exact⟨d.pb,uF (Q:=λ_ c=>rl c) (λj e _=>d.run j e) KD,uF (Q:=λ_ c=>qt m.x.p c) (λj e _=>d.ze j e) (Fm _)⟩
def Dx(c:BI m y):BI (p4 m) y:=by
 unfold p4;generalize List.range 8=l;induction l generalizing m with
 |nil=>exact c
 |cons i l d=>exact d (W9 c i)
def WC(h:MI N m)(g:MX2 a b m)(d:i<8){j:Int}(k:0<=j)(l:j<(m.ts i).c.S):0<=(m.ts i).c.run.at_+j/\(m.ts i).c.run.at_+j<64/\(m.ts i).c.run.at_+j∉eG m.x.s.t:=by
 have e:(m.ts i).c.run.at_+j∈pg (m.ts i).c.run:=by rw[iS];have:=(g.rt i d).c1;omega
 have c:=h.ci d;have:=c.dj.2.2 _ (.inr e);have n:=h.hN;exact⟨this.2.1,a3,λf=>(mB.1 c.dj.2.1).2.2 _ f _ e rfl⟩
def NB(h:MI N m)(A:MX2 a b m)(n:BI m y)(k:t<8)(s:(m.ts t).busy=true)(E:m.x.s.alive t=true):
 ((mO m t).M=m.M/\(mO m t).x.s=m.x.s/\BI (mO m t) y)\/∃e y',(mO m t).M=m.M++[e]/\(e.task=(t:Int)/\CallOk m.x.s e.task e.c)/\sf m.x.s (mO m t).x.s e.task e.c e.run e.r y y'/\BI (mO m t) y':=by
 have p:=(h.rr t k).busy s;have w:=SQ (x:=m.x) (c:=(m.ts t).c);have r:=zdT h.hN.2 (h.ci k) k p E (A.rt t k) n.pb (n.run t k) (n.ze t k);have g:∀i,i<8->i≠t->qt (fh m.x (m.ts t).c).x.p (m.ts i).c:=λi f _ j u v=>by obtain⟨l,o,q⟩:=WC h A f u v;exact r.z _ l o q (n.ze i f j u v)
 unfold mO Du;cases z:(fh m.x (m.ts t).c).e with
 |false=>
  obtain⟨l,o,q,C⟩:=r.go z;refine .inl ⟨rfl,l,?_,uF (Q:=λ_ c=>rl c) (λi f _=>n.run i f) q,uF (Q:=λ_ c=>qt (fh m.x (m.ts t).c).x.p c) g C⟩;show PB (fh m.x (m.ts t).c).x.p (fh m.x (m.ts t).c).x.s.t y;rw[l];exact o
 |true=>
  obtain⟨y',l,o⟩:=r.fin z;refine .inr ⟨_,y',rfl,⟨rfl,?_⟩,?_,o,?_,?_⟩
  .show CallOk m.x.s (t:Int) (fh m.x (m.ts t).c).c.c;rw[w.1,<-p.t];exact p.call k _
  .show sf m.x.s (fh m.x (m.ts t).c).x.s (t:Int) (fh m.x (m.ts t).c).c.c (ky (bif ((fh m.x (m.ts t).c).r.e != 0)||((fh m.x (m.ts t).c).c.c.C != 2)then c4 else(m.ts t).c.run) m.x.q.length (fh m.x (m.ts t).c).x.q.length) (fh m.x (m.ts t).c).r y y';rw[w.1,<-p.t];exact l
  .refine uF (Q:=λ_ c=>rl c) (λi f d=>?_) KD;show rl (a7 m.ts t _ i).c;rw[dP d];exact n.run i f
  .refine uF (Q:=λ_ c=>qt (fh m.x (m.ts t).c).x.p c) (λi f d=>?_) (Fm _);show qt _ (a7 m.ts t _ i).c;rw[dP d];exact g i f d
def zea(h:MI N m)(n:MX2 a b m)(d:BI m y)(g:t<8)(l:m.x.s.alive t=true):
 ((mw m t).M=m.M/\(mw m t).x.s=m.x.s/\BI (mw m t) y)\/∃e y',(mw m t).M=m.M++[e]/\(e.task=(t:Int)/\CallOk m.x.s e.task e.c)/\sf m.x.s (mw m t).x.s e.task e.c e.run e.r y y'/\BI (mw m t) y':=by
 unfold mw;cases j:(m.ts t).busy with
 |true=>exact NB h n d g j l
 |false=>
  cases kZ (m.ts t).t with
  |false=>exact .inl ⟨rfl,rfl,d.pb,uF (Q:=λ_ c=>rl c) (λi f _=>d.run i f) (d.run t g),uF (Q:=λ_ c=>qt m.x.p c) (λi f _=>d.ze i f) (d.ze t g)⟩
  |true=>
   have k:((qw m t).ts t).busy=true:=by unfold qw;simp only[dN]
   exact NB (Dr h g j) (Hp n g) ⟨d.pb,uF (Q:=λ_ c=>rl c) (λi f _=>d.run i f) (.inl rfl),uF (Q:=λ_ c=>qt m.x.p c) (λi f _=>d.ze i f) (Fm _)⟩ g k l
def zdK(h:MI N m)(d:BI m y)(v:t<8)(u:m.x.s.alive t=true):∃e y',(oK m t).M=m.M++[e]/\(e.task=(t:Int)/\CallOk m.x.s e.task e.c)/\sf m.x.s (oK m t).x.s e.task e.c e.run e.r y y'/\BI (oK m t) y':=by
 have z:di 0:=⟨a8,a8⟩;have c:CallOk m.x.s (t:Int) (fO 20):=⟨a3,a3,z,z,z,z⟩;obtain⟨_,q,r,_⟩:=rR (dz m.x.s t (fO 20) c4).2.2 {m.x with s:=(dz m.x.s t (fO 20) c4).1};have j:=(DG (G:=c4) h.s c λo _=>by rw[show dv m.x.s t (fO 20)=0 from rfl]at o;omega).1;have n:(oK m t).x.s=(dz m.x.s t (fO 20) c4).1:=r;have l:(oK m t).x.p=m.x.p:=q;have f:∀i,((dz m.x.s t (fO 20) c4).1.t.r i).rs=(m.x.s.t.r i).rs\/((dz m.x.s t (fO 20) c4).1.t.r i).rs=[]\/((dz m.x.s t (fO 20) c4).1.t.r i).rs=(m.x.s.t.r i).rs++[c4]/\0<c4.n:=λi=>by
  rcases HQ (G:=c4) h.s c with⟨_,g,_⟩|⟨_,g⟩
  .rw[g];exact .inl rfl
  .exact(g.r i).imp_right λk=>k.imp_right λk=>k.2
 refine⟨_,qx m.x.s (oK m t).x.s (fO 20) (dz m.x.s t (fO 20) c4).2.1.e y,rfl,⟨rfl,c⟩,.inr ⟨.inl rfl,rfl,λh=>b3 (show(0:Int)<0 from h) a8,n,rfl,rfl⟩,?_,d.run,λi p=>?_⟩
 .rw[l,n];exact EH d.pb h.s j rfl f λh=>b3 h a8
 .rw[l];exact d.ze i p
def zby(h:MI N m)(L:MX2 a b m)(d:BI m y){k:Int}(J:0<=k):
 ((jo m k).M=m.M/\(jo m k).x.s=m.x.s/\BI (jo m k) y)\/∃e y',(jo m k).M=m.M++[e]/\(CallOk m.x.s e.task e.c/\m.x.s.alive e.task.toNat=true)/\sf m.x.s (jo m k).x.s e.task e.c e.run e.r y y'/\BI (jo m k) y':=by
 have r:∀{t:Nat} {e:Ev},m.x.s.alive t=true->e.task=(t:Int)->m.x.s.alive e.task.toNat=true:=λh e=>by rw[e,nE];exact h
 rcases Q2 (m:=m) J with e|⟨_,⟨q,l,w⟩,_,e⟩|⟨t,A,_,u,_,⟨_,e⟩|⟨_,e⟩⟩<;>rw[e]
 .exact .inl ⟨rfl,rfl,d⟩
 .obtain⟨g,_,C,_⟩:=HB (mJ {m with x:=kM m.x});have z:=(Kl h w).2.2;have s:(kM m.x).p.V=m.x.p.V:=by unfold kM;rw[w];show(uR m.x.p q).V=_;unfold uR;cases(kg m.x.p q==0)<;>rfl
  refine .inl ⟨C,g.trans z,Dx ⟨?_,d.run,λi G j E F o K=>?_⟩⟩
  .show PB (kM m.x).p (kM m.x).s.t y;rw[z];have:rd (kM m.x).p=rd m.x.p:=by funext c;unfold rd;rw[s]
   unfold PB;rw[this];exact d.pb
  .show(kM m.x).p.V _ _=0;rw[s];exact d.ze i G j E F o K
 .obtain⟨e,y',n,f,p,v⟩:=zdK (sL h) (m:=mJ m) ⟨d.pb,d.run,d.ze⟩ A u;obtain⟨g,_,C,_⟩:=HB (oK (mJ m) t);exact .inr ⟨e,y',C.trans n,⟨f.2,r u f.1⟩,by rw[g];exact p,Dx v⟩
 .obtain⟨g,_,C,_⟩:=HB (mw (mJ m) t);rcases zea (sL h) (ya L) (m:=mJ m) ⟨d.pb,d.run,d.ze⟩ A u with⟨n,f,p⟩|⟨e,y',n,f,p,v⟩
  .exact .inl ⟨C.trans n,g.trans f,Dx p⟩
  .exact .inr ⟨e,y',C.trans n,⟨f.2,r u f.1⟩,by rw[g];exact p,Dx v⟩
def zaM{n:Int}(c:Nat->List Ins):BI (fo n c) λ_=>[]:=
 ⟨λ_ _=>⟨rfl,λb d=>by cases d⟩,λ_ _=>KD,λ_ _=>Fm _⟩
end
def rL:List (Int×Ow)->Int->Option Ow
 |[],_=>none
 |p::l,h=>bif p.1==h then some p.2 else rL l h
def py:List (Int×Ow)->Int->Option Nat
 |[],_=>none
 |p::l,h=>bif p.1==h then some 0 else(py l h).map (·+1)
def jJ:List (Int×Ow)->Int->Ow->List (Int×Ow)
 |[],h,w=>[(h,w)]
 |p::l,h,w=>bif p.1==h then(h,w)::l else p::jJ l h w
def Qa{h x:Int}{w:Ow}:∀{l:List (Int×Ow)},rL (jJ l h w) x=if x=h then some w else rL l x
 |[]=>by
  show(bif h==x then some w else none)=_;by_cases c:x=h
  .subst c;rw[if_pos rfl,beq_self_eq_true];rfl
  .rw[if_neg c,fc.2 (sZ c)];rfl
 |p::l=>by
  unfold jJ;cases a:(p.1==h)with
  |true=>
   show(bif h==x then some w else rL l x)=if x=h then some w else bif p.1==x then some p.2 else rL l x
   rw[eq_of_beq a];by_cases c:x=h
   .subst c;rw[if_pos rfl,beq_self_eq_true];rfl
   .rw[if_neg c,fc.2 (sZ c)];rfl
  |false=>
   show(bif p.1==x then some p.2 else rL (jJ l h w) x)=if x=h then some w else bif p.1==x then some p.2 else rL l x
   rw[Qa];by_cases c:x=h
   .subst c;rw[if_pos rfl,if_pos rfl,a];rfl
   .rw[if_neg c,if_neg c]
def sO(h:Int)(w:Ow):∀l:List (Int×Ow),(jJ l h w).length<=l.length+1
 |[]=>a9 _
 |p::l=>by
  unfold jJ;cases(p.1==h)with
  |true=>exact Nat.le_succ _
  |false=>exact Nat.succ_le_succ (sO h w l)
def Hl{h:Int}{w:Ow}:∀{l:List (Int×Ow)},py l h=none->jJ l h w=l++[(h,w)]/\rL l h=none
 |[],_=>⟨rfl,rfl⟩
 |p::l,a=>by
  unfold py at a;unfold jJ rL;cases b:(p.1==h)with
  |true=>rw[b]at a;cases a
  |false=>
   rw[b]at a;have:=Hl (w:=w) (l:=l) (b8 a);rw[eQ,this.1];exact⟨rfl,this.2⟩
def Hn{h:Int}{w:Ow}:∀{l:List (Int×Ow)} {i:Nat},py l h=some i->jJ l h w=l.set i (h,w)/\∃v,l[i]?=some (h,v)/\rL l h=some v
 |[],_,a=>by cases a
 |p::l,i,a=>by
  unfold py at a;unfold jJ rL;cases b:(p.1==h)with
  |true=>
   rw[b]at a;cases a;exact⟨rfl,p.2,by rw[<-eq_of_beq b];rfl,rfl⟩
  |false=>
   rw[b]at a;obtain⟨j,f,rfl⟩:=fB.1 a;obtain⟨c,v,d,e⟩:=Hn (w:=w) f;rw[eQ,c];exact⟨rfl,v,d,e⟩
def Wn{l:List (Int×Ow)}(d:i<l.length)(b:py (l.take i) h=none):((l[i].1==h)=true->py l h=some i)/\((l[i].1==h)=false->py (l.take (i+1)) h=none):=by
 induction l generalizing i with
 |nil=>exact b3 d (jm _)
 |cons p l g=>
  cases i with
  |zero=>
   apply a4<;>intro a
   .have a:(p.1==h)=true:=a;unfold py;rw[a];rfl
   .have a:(p.1==h)=false:=a;show(bif p.1==h then some 0 else _)=none;rw[a];rfl
  |succ i=>
   have b:(bif p.1==h then some 0 else(py (l.take i) h).map (·+1))=none:=b;cases c:(p.1==h)with
   |true=>rw[c]at b;cases b
   |false=>
    rw[c]at b;obtain⟨e,f⟩:=g (i:=i) (Nat.lt_of_succ_lt_succ d) (b8 b);apply a4<;>intro a
    .show(bif p.1==h then some 0 else(py l h).map (·+1))=_;rw[c,e a];rfl
    .show(bif p.1==h then some 0 else(py (l.take (i+1)) h).map (·+1))=none;rw[c,f a];rfl
structure OwS (t:Tb) (o:Nat->Sd) (l:List (Int×Ow)):Prop where
 rt:∀x,gi t x->(o (a5 x)).root=x
 lk:∀x,gi t x->rL l x=some (o (a5 x)).own
 hb:∀x,gi t x->0<=(o (a5 x)).own.hold/\(o (a5 x)).own.hold<256
def OwS.mono{t:Tb}{l:List (Int×Ow)}(h:OwS t o l)(j:∀x,gi t' x->gi t x):OwS t' o l:=
 ⟨λx f=>h.rt x (j x f),λx f=>h.lk x (j x f),λx f=>h.hb x (j x f)⟩
def OwS.with{t:Tb}{l:List (Int×Ow)}(h:OwS t o l)(E:j8 t'.b){r:Int}(C:eW t' r)(j:∀x,gi t' x->x≠r->gi t x)(F:0<=w.hold/\w.hold<256):OwS t' (a7 o (a5 r) ⟨r,w⟩) (jJ l r w):=by
 have A:∀x,gi t' x->x≠r->a5 x≠a5 r:=λx f u e=>u (rH E f.1.1 C.1 f.1.2 C.2 e);refine⟨λx f=>?_,λx f=>?_,λx f=>?_⟩
 .by_cases c:x=r
  .rw[c,dN]
  .rw[dP (A x f c)];exact h.rt x (j x f c)
 .rw[Qa];by_cases c:x=r
  .rw[if_pos c,c,dN]
  .rw[if_neg c,dP (A x f c)];exact h.lk x (j x f c)
 .by_cases c:x=r
  .rw[c,dN];exact F
  .rw[dP (A x f c)];exact h.hb x (j x f c)
def QS{t:Tb}(b:TInv t d){l:List (Int×Ow)}(h:OwS t o l){x:Int}(c:eW t x):gi t (fl t x)/\dy o t x=(o (a5 (fl t x))).own/\rL l (fl t x)=some (dy o t x):=by
 have a:=(Kz b c).1;have e:dy o t x=(o (a5 (fl t x))).own:=by
  have:=xK b a (h.rt _ a);unfold dy at this ⊢
  rwa [(rW b a.1).2 a.2]at this
 exact⟨a,e,by rw[e];exact h.lk _ a⟩
def QD{t:Tb}{x:Int}(a:bk t.b x=false):dy o t x=xN:=by unfold dy fl;rw[a,eQ,show mv 0=true by decide];rfl
def wA{t:Tb}(e:TInv t d){l:List (Int×Ow)}(h:OwS t o l){x:Int}(f:di x):0<=(dy o t x).hold/\(dy o t x).hold<256:=by
 cases a:bk t.b x with
 |false=>rw[QD a];exact⟨a8,a8⟩
 |true=>
  obtain⟨b,c,_⟩:=QS e h ⟨f,a⟩;rw[c];exact h.hb _ b
set_option maxRecDepth 100000 in
def Y5:∀v:Fin 256,∀a:Fin 8,(dC .and .u8 (dU .u8 ((v.val:Nat):Int) ((a.val:Nat):Int)) 1==1)=kf ((v.val:Nat):Int) a.val:=by decide+kernel
def II{x:Ow}(h:0<=x.hold/\x.hold<256){t:Int}(b:0<=t)(d:t<8):va x t=kf x.hold t.toNat:=by obtain⟨a,rfl⟩:=sS b;obtain⟨v,c⟩:=sS h.1;unfold va;rw[c];exact Y5 ⟨v,a3⟩ ⟨a,a3⟩
structure KtS (k:Toks) (kt:Nat->Tk):Prop where
 eq:∀i,i<32->(k.b i).L=true->kt i=k.s i
 up:∀i,i<32->di (kt i).A
def KtS.void(h:KtS k Z)(y:Int):KtS ⟨e8 k.b y,k.s⟩ Z:=by
 refine⟨λi j f=>?_,h.up⟩;rcases Th (b:=k.b) y i with e|⟨_,e,_⟩
 .exact h.eq i j (by rw[<-e];exact f)
 .have f:(e8 k.b y i).L=true:=f;rw[e]at f;cases f
def KtS.wo:∀(l:List Int) {k:Toks} {Z:Nat->Tk},KtS k Z->KtS (kD k l) Z
 |[],_,_,h=>h
 |y::l,k,_,h=>KtS.wo l (k:=⟨e8 k.b y,k.s⟩) (h.void y)
def KtS.ret(h:KtS k Z)(y:Int):KtS (gI k y) Z:=by
 unfold gI;cases bk k.b y with
 |true=>exact KtS.wo _ h
 |false=>exact h
def KtS.gone:∀(l:List Int) {k:Toks} {Z:Nat->Tk},KtS k Z->KtS (ke k l) Z
 |[],_,_,h=>h
 |y::l,k,_,h=>by have g:=KtS.gone l (KtS.wo (eg k (gq y) (dI k.b)) h);unfold ke at g ⊢;rw[uN];exact g
def KtS.E1(h:KtS k Z)(E:TkI k){x:Tk}(F:iM k x=0)(J:di x.A):KtS (lI k x) (a7 Z (a5 (dY k.b)) x):=by
 rw[(PX E F).1];refine⟨λi A f=>?_,λi A=>?_⟩
 .show a7 Z (a5 (dY k.b)) x i=a7 k.s (a5 (dY k.b)) x i;by_cases c:i=a5 (dY k.b)
  .rw[c,dN,dN]
  .rw[dP c,dP c];refine h.eq i A ?_;have f:(fK k.b i).L=true:=f;unfold fK at f;unfold dY at c;cases u:kH k.b with
   |none=>rw[u]at f;exact f
   |some j=>
    rw[u]at f c;have C:=Iq u;have G:=E.Q j C.1;have:i≠j:=λe=>c (by rw[e];exact((tw C.1 G).1).symm);have f:(a7 k.b j ⟨(k.b j).gen,true,(k.b j).ret⟩ i).L=true:=f;rw[dP this]at f;exact f
 .by_cases c:i=a5 (dY k.b)
  .rw[c,dN];exact J
  .rw[dP c];exact h.up i A
def AM(h:TkI k)(a:i<32)(g:(k.b i).L=true):fT i (k.b i).gen∈dI k.b/\dr k (fT i (k.b i).gen)=k.s i/\bk k.b (fT i (k.b i).gen)=true/\a5 (fT i (k.b i).gen)=i/\di (fT i (k.b i).gen):=by have e:fT i (k.b i).gen∈dI k.b:=(Ad (b:=k.b)).2 ⟨i,a,by rw[vm a,g];rfl,rfl⟩;obtain⟨f,c⟩:=Es h e;have d:=(tw a (h.Q i a)).1;refine⟨e,?_,c,d,f⟩;unfold dr;rw[c,d];rfl
def PQ(h:TkI k){y:Int}(d:y∈dI k.b):∃i,i<32/\(k.b i).L=true/\y=fT i (k.b i).gen:=by obtain⟨i,a,c,e⟩:=(Ad (b:=k.b)).1 d;rw[vm a]at c;exact⟨i,a,b8 c,e⟩
def M8(h:TkI k)(f:Tk->Bool):(dI k.b).any (λy=>f (dr k y))=(List.range 32).any λi=>(k.b i).L&&f (k.s i):=by
 rw[sQ,qo,qo];constructor
 .rintro⟨y,d,a⟩;obtain⟨i,b,c,rfl⟩:=PQ h d;rw[(AM h b c).2.1]at a;exact⟨i,gZ.2 b,by rw[c];exact a⟩
 .rintro⟨i,b,a⟩;rw[dH]at a;have:=AM h (gZ.1 b) a.1;exact⟨_,this.1,by rw[this.2.1];exact a.2⟩
def OP(b:fG)(p:Int->Bool)(a:i<32):(ga b (i+1)).filter p=(ga b i).filter p++bif (b i).L&&p (fT i (b i).gen)then[fT i (b i).gen]else[]:=by
 rw[ga,r9,vm a];cases(b i).L with
 |false=>rfl
 |true=>
  show _++[fT i (b i).gen].filter p=_;rw[oR];cases p (fT i (b i).gen)<;>rfl
attribute [local irreducible] b6 eF ez eH eB eM dC ec dU dx
def B5(s:Slot):Int:=bif s.L then 1 else bif s.ret then 2 else 0
def rB(b Q:fG):D:=.H (.ar 32 .c λi=>.z .i64 (b i).gen) (.H (.ar 32 .c λi=>.z .i64 (B5 (Q i))) .un)
abbrev p5(b:fG):D:=rB b b
def RE{b Q:fG}(a:j8 b)(e:i<32):c5 a6 89 [.d (rB b Q),I i] (I (fT i (b i).gen)):=by
 have d:=a i e;have c:=Eg (i:=i) a3 d;refine dq func89 ?_;refine a4 ⟨a3,a3⟩ (b2 (x:=256*(b i).gen) (b2 (x:=i+256*(b i).gen) (b2 (x:=i+256*(b i).gen+1) (b7 ?_))));rw[c,show(b i).gen*256+i+1=i+256*(b i).gen+1 by omega];rfl
def Bw{b:fG}(a:j8 b)(c:i<32):c5 a6 89 [.d (p5 b),I i] (I (fT i (b i).gen)):=RE a c
def PM(h:(B5 s==1)=true):s.L=true:=by unfold B5 at h;cases a:s.L<;>cases b:s.ret<;>simp[a,b]at h ⊢
def PL(h:s.L=true):B5 s=1:=by unfold B5;rw[h];rfl
def m6(b:fG)(h:Int):Int:=bif bk b h then(a5 h:Int)else -1
def zdy{b:fG}(e:j8 b)(g:m8 b)(c:i<32)(d:(b i).L=true):m6 b (fT i (b i).gen)=i:=by have f:=e i c;have a:=(tw c f).1;have:bk b (fT i (b i).gen)=true:=(ug e (wh a3 f)).2 ⟨a3,by rw[a];exact d,by rw[a];exact g i c d,by rw[a]⟩;unfold m6;rw[this,a];rfl
def zdA{b:fG}(e:j8 b)(j:di h)(g:∀i:Nat,i<32->(b i).L=true->fT i (b i).gen≠h):m6 b h= -1:=by
 unfold m6;cases f:bk b h with
 |false=>rfl
 |true=>
  obtain⟨a,c,_,d⟩:=(ug e j).1 f;exact b3 d.symm (g _ a c)
def mn{b:fG}(d:j8 b)(p:m8 b)(q:di h):c5 a6 44 [.d (p5 b),I h] (I (m6 b h)):=by
 refine dq func44 ?_;refine dX c6 (λi=>i<=32/\∀j:Nat,j<i->(b j).L=true->fT j (b j).gen≠h) (λi=>32 - i) (λi=>[(5,I i)]) (λ_=>⟨[.d (p5 b)],[],[]⟩) 0 ⟨a3,λj o=>a3⟩ ⟨rfl,trivial⟩ rfl (λi=>⟨a9 _,a9 _,a9 _⟩) ?_;rintro i ⟨r,g⟩;apply a4<;>intro k
 .have a:i<32:=eZ k
  refine a4 ⟨a3,a3⟩ (c9 (Bw d a) (λ_ h _=>h) ?_);apply a4<;>intro c
  .have c:(B5 (b i)==1&&fT i (b i).gen==h)=true:=c;rw[dH]at c;have l:=PM c.1;have m:fT i (b i).gen=h:=eq_of_beq c.2;refine b7 ?_;rw[<-m,zdy d p a l];rfl
  .have c:(B5 (b i)==1&&fT i (b i).gen==h)=false:=c;refine b2 (x:=(i:Int)+1) ?_;conv=>whnf
   refine⟨i+1,⟨a,λj o f=>?_⟩,a3,⟨rfl,trivial⟩,⟨rfl,rfl⟩,rfl⟩;by_cases e:j=i
   .subst e;intro n;rw[n,PL f]at c;simp at c
   .exact g j a3 f
 .have a:i=32:=e9 k
  subst a;refine b7 ?_;rw[zdA d q g];rfl
def Tf(f:Nat->α)(k:Nat)(x:α)(h:f k=x):a7 f k x=f:=by
 funext i;unfold a7;split<;>simp_all
def Fb(b Q:fG)(k:Nat)(s:Slot):rB b (a7 Q k s)=.H (.ar 32 .c λi=>.z .i64 (b i).gen) (.H (.ar 32 .c (a7 (λi=>.z .i64 (B5 (Q i))) k (.z .i64 (B5 s)))) .un):=by rw[iU (λs:Slot=>D.z .i64 (B5 s)) Q k s];rfl
def RX(b Q:fG)(k:Nat)(s:Slot):rB (a7 b k s) Q=.H (.ar 32 .c (a7 (λi=>.z .i64 (b i).gen) k (.z .i64 s.gen))) (.H (.ar 32 .c λi=>.z .i64 (B5 (Q i))) .un):=by rw[iU (λs:Slot=>D.z .i64 s.gen) b k s];rfl
def RY(b Q:fG)(k:Nat)(s:Slot)(h:s.gen=(b k).gen):rB (a7 b k s) Q=rB b Q:=by rw[RX,Tf _ _ _ (by rw[h])];rfl
def RA{b:fG}(j:j8 b):c5 a6 219 [.d (p5 b)] (T2 (.d (p5 (fK b))) (I (dY b))):=by
 refine dq func219 ?_;refine dX c6 (λi=>i<=32/\kH b=uf b i (32 - i)) (λi=>32 - i) (λi=>[(4,I i)]) (λ_=>⟨[.d (p5 b),.d (ZT.d FX)],[],[]⟩) 0 ⟨a3,rfl⟩ ⟨rfl,trivial⟩ rfl (λi=>⟨a9 _,a9 _,a9 _⟩) ?_;rintro i ⟨k,d⟩;apply a4<;>intro g
 .have c:i<32:=eZ g
  rw[show 32 - i=(32 -(i+1))+1 by omega]at d;refine a4 ⟨a3,a3⟩ ?_;apply a4<;>intro a
  .have a:((b i).L||(b i).ret)=false:=by have a:(B5 (b i)==0)=true:=a;unfold B5 at a;cases e:(b i).L<;>cases f:(b i).ret<;>simp[e,f]at a ⊢
   simp only[uf,a]at d;refine a4 ⟨a3,a3⟩ ?_;refine⟨.d (rB b (a7 b i ⟨(b i).gen,true,(b i).ret⟩)),by rw[Fb];rfl,?_⟩;refine dL 4 (c9 (RE j c) (λ_ h=>h) (b7 ?_));rw[fK,dY,d];show _=T2 (.d (rB (a7 b i ⟨(b i).gen,true,(b i).ret⟩) (a7 b i ⟨(b i).gen,true,(b i).ret⟩))) (I (fT i (b i).gen));rw[RY b _ i ⟨(b i).gen,true,(b i).ret⟩ rfl];rfl
  .have a:((b i).L||(b i).ret)=true:=by have a:(B5 (b i)==0)=false:=a;unfold B5 at a;cases e:(b i).L<;>cases f:(b i).ret<;>simp[e,f]at a ⊢
   simp only[uf,a]at d;refine b2 (x:=(i:Int)+1) ?_;conv=>whnf
   exact⟨i+1,⟨c,d⟩,a3,⟨rfl,trivial⟩,⟨rfl,rfl⟩,rfl⟩
 .have c:i=32:=e9 g
  subst c;have d:kH b=none:=d;refine b7 ?_;rw[fK,dY,d];rfl
def Tg(f:Nat->α)(i:Nat)(s t:α):a7 (a7 f i s) i t=a7 f i t:=by funext j;unfold a7;split<;>rfl
def wL{b:fG}(a:bk b h=false):m6 b h= -1:=by unfold m6;rw[a];rfl
def m7{b:fG}(a:bk b h=true):m6 b h=(a5 h:Int):=by unfold m6;rw[a];rfl
def Ki{b:fG}(f:j8 b)(l:m8 b)(g:di h):c5 a6 217 [.d (p5 b),I h] (T2 (.d (p5 (e8 b h))) (B (bk b h))):=by
 have e:=iq h;refine dq func217 ?_;refine bo (mn f l g) ?_;conv=>whnf
 cases c:bk b h with
 |false=>
  rw[wL c];refine ej (b7 ?_);rw[e8,c];rfl
 |true=>
  rw[m7 c];refine a4 (λm=>?_) λ_=>?_
  .have:(a5 h:Int)<0:=b8 m
   omega
  refine a4 ⟨a3,a3⟩ ?_;conv=>whnf
  refine⟨.d (rB b (a7 b (a5 h) ⟨0,false,false⟩)),by rw[Fb];rfl,?_⟩;refine a4 ⟨a3,a3⟩ ?_;apply a4<;>intro a
  .have a:((b (a5 h)).gen==8388607)=true:=a;refine a4 ⟨a3,a3⟩ ?_;conv=>whnf
   refine⟨.d (rB b (a7 (a7 b (a5 h) ⟨0,false,false⟩) (a5 h) ⟨(b (a5 h)).gen,false,true⟩)),dE SV.d (Fb b (a7 b (a5 h) ⟨0,false,false⟩) (a5 h) ⟨(b (a5 h)).gen,false,true⟩).symm,?_⟩;refine b7 ?_;rw[e8,c,a,Tg];show _=T2 (.d (rB (a7 b (a5 h) ⟨(b (a5 h)).gen,false,true⟩) (a7 b (a5 h) ⟨(b (a5 h)).gen,false,true⟩))) (B true);rw[RY b _ (a5 h) ⟨(b (a5 h)).gen,false,true⟩ rfl];rfl
  .have a:((b (a5 h)).gen==8388607)=false:=a;have o:(b (a5 h)).gen≠8388607:=b8 a
   have j:=f _ e;have d:=((ug f g).1 c).2.2.1;have n:IntKind.u32.wrap ((b (a5 h)).gen+1)=(b (a5 h)).gen+1:=l5 (k:=.u32) (iL (by simp only[eU];omega) (λ_=>a3) (by simp only[eU];omega));refine a4 ⟨a3,a3⟩ (b2 (x:=(b (a5 h)).gen+1) (a4 ⟨a3,a3⟩ ?_));conv=>whnf
   refine⟨.d (rB (a7 b (a5 h) ⟨(b (a5 h)).gen+1,false,false⟩) (a7 b (a5 h) ⟨0,false,false⟩)),dE SV.d (RX b (a7 b (a5 h) ⟨0,false,false⟩) (a5 h) ⟨(b (a5 h)).gen+1,false,false⟩).symm,?_⟩;refine b7 ?_;rw[e8,c,a,n,d];show _=T2 (.d (rB (a7 b (a5 h) ⟨(b (a5 h)).gen+1,false,false⟩) (a7 b (a5 h) ⟨(b (a5 h)).gen+1,false,false⟩))) (B true);rw[Fb _ b (a5 h) ⟨(b (a5 h)).gen+1,false,false⟩];show _=T2 (.d (.H _ (.H (.ar 32 .c (a7 (λi=>.z .i64 (B5 (b i))) (a5 h) (.z .i64 (B5 ⟨0,false,false⟩)))) .un))) (B true);rw[iU (λs:Slot=>D.z .i64 (B5 s)) b];rfl
end Sx
end Go.Proofs.YtfbhkfhbnkncoaaGreatDoor
