import Derived.Test.YtfbhkfhbnkncoaaGreatDoorV28
set_option linter.all false
set_option maxRecDepth 100000
namespace Go.Proofs.YtfbhkfhbnkncoaaGreatDoor
open Go.RowKit
namespace Sx
variable{E a h x y:Int}{l:List Int}{b:List Rn}{W:St}{t:Tb}
inductive KS:Toks->Toks->Prop
 |refl (k:Toks):KS k k
 |E1 {k:Toks} {x:Tk} (h:iM k x=0) (hu:di x.A):KS k (lI k x)
 |ret (k:Toks) (y:Int):KS k (gI k y)
 |S (k:Toks) (y:Int):KS k (kD k (eg k (gq y) (dI k.b)))
 |trans {a b c:Toks} (h:KS a b) (g:KS b c):KS a c
def KS.gone:∀(l:List Int) (k:Toks),KS k (ke k l)
 |[],k=>.refl k
 |y::l,k=>by have g:=KS.trans (.S k y) (KS.gone l (kD k (eg k (gq y) (dI k.b))));unfold ke at g ⊢;rw[uN];exact g
def KS.F0:∀(l:List Int) (k:Toks),KS k (l.foldl gI k)
 |[],k=>.refl k
 |y::l,k=>.trans (.ret k y) (KS.F0 l (gI k y))
def l7(l:List Rn):Prop:=∀y∈l,0<y.n
def l7.nil:l7 []:=λ_ h=>by cases h
def l7.app{a:List Rn}(f:l7 a)(j:l7 b):l7 (a++b):=λy u=>(eP.1 u).elim (f y) (j y)
structure CS0 (s s':St) (b:List Rn):Prop where
 k:KS s.k s'.k
 r:∀i,(s'.t.r i).rs=(s.t.r i).rs\/(s'.t.r i).rs=[]
 b:(∀i,i<32->l7 (s.t.r i).rs)->l7 b
def CS0.pos{s:St}(h:CS0 s W b)(j:∀i,i<32->l7 (s.t.r i).rs)(i:Nat)(f:i<32):l7 (W.t.r i).rs:=by
 rcases h.r i with e|e<;>rw[e]
 .exact j i f
 .exact l7.nil
def CS0.still{s:St}(f:W.k=s.k)(j:∀i,(W.t.r i).rs=(s.t.r i).rs):CS0 s W []:=⟨f▸.refl _,λi=>.inl (j i),λ_=>l7.nil⟩
def CS0.trans{s f:St}{j:List Rn}(h:CS0 s W b)(g:CS0 W f j):CS0 s f (b++j):=
 ⟨h.k.trans g.k,λi=>(g.r i).elim (λe=>e▸h.r i) .inr,λu=>(h.b u).app (g.b (h.pos u))⟩
def Pa(h:∀i,i<32->l7 (t.r i).rs)(x:Int):l7 (b1 t x).rs:=by
 unfold b1;cases bk t.b x with
 |true=>exact h _ (iq x)
 |false=>exact l7.nil
def OB:∀(l:List Int) (t:Tb) (i:Nat),((gT t l).r i).rs=(t.r i).rs\/((gT t l).r i).rs=[]
 |[],_,_=>.inl rfl
 |x::l,t,i=>by
  rcases OB l (jZ t x) i with e|e
  .show((gT (jZ t x) l).r i).rs=_\/((gT (jZ t x) l).r i).rs=_;rw[e];unfold jZ;cases bk t.b x with
   |false=>exact .inl rfl
   |true=>
    show(a7 t.r (a5 x) iY i).rs=_\/(a7 t.r (a5 x) iY i).rs=_;by_cases c:i=a5 x
    .rw[c,dN];exact .inr rfl
    .rw[dP c];exact .inl rfl
  .exact .inr e
def Ec(s:St)(h:Int):CS0 s (jG s h) (j3 s h):=⟨KS.gone _ _,OB _ _,λb y a=>by
 obtain⟨x,_,a⟩:=om.1 a;exact Pa b x y a⟩
def OA(s:St)(h M:Int):CS0 s (iv s h M).1 (iv s h M).2:=by
 unfold iv;cases(kY (jH s.o s.t h M false).toNat==0)with
 |true=>
  have:=Ec {s with o:=gL s.o s.t h M false} h;exact⟨this.k,this.r,this.b⟩
 |false=>exact .still rfl λ_=>rfl
def Il{α:Type}{f:St->α->Except Int (St×List Rn)}(k:∀s x W b,f s x=.ok (W,b)->CS0 s W b):∀(l:List α) (d s:St) (b:List Rn) {W:St} {a:List Rn},CS0 d s b->gQ f l s b=.ok (W,a)->CS0 d W a
 |[],_,s,b,W,a,g,h=>by cases h;exact g
 |x::l,d,s,b,W,a,g,h=>by
  unfold gQ at h;cases i:f s x with
  |error e=>rw[i]at h;cases h
  |ok p=>
   obtain⟨E,j⟩:=p;rw[i]at h;exact Il k l d E (b++j) (g.trans (k s x E j i)) h
def Of:∀(l:List Int) (a s:St) (b:List Rn),CS0 a s b->CS0 a (jP s l b).1 (jP s l b).2
 |[],_,s,b,h=>h
 |x::l,a,s,b,h=>Of l a (jG s x) (b++j3 s x) (h.trans (Ec s x))
def Ol{s:St}{M:Int}(hd:lh s M=.ok (W,b)):CS0 s W b:=by
 unfold lh at hd;cases i:gQ iP (j4 (s.box M.toNat) (s.box M.toNat).n.toNat) (mb s M) []with
 |error e=>rw[i]at hd;cases hd
 |ok p=>
  obtain⟨E,S⟩:=p;rw[i]at hd;have h:=Il (f:=iP) (λs x W b d=>by
   unfold iP at d;cases l:((x.D==0)||x.sh)with
   |true=>rw[l]at d;cases d;exact .still rfl λ_=>rfl
   |false=>
    rw[l]at d;cases g:s.alive x.J.toNat with
    |true=>
     rw[g]at d;obtain⟨_,d⟩:=jd (show dV _ _=_ from d);cases d;exact .still rfl λ_=>rfl
    |false=>
     rw[g]at d;cases d;exact Ec s x.D) _ s _ _ (CS0.still (W:=mb s M) rfl λ_=>rfl) i
  have j:CS0 s (fZ E M) S:=by have:=h.k.trans (KS.F0 (eg E.k (jk M) (dI E.k.b)) E.k);unfold fZ;generalize(eg E.k (jk M) (dI E.k.b)).foldl gI E.k=k2 at this ⊢;exact⟨this,h.r,h.b⟩
  have hd:(let a:=fZ E M;let p:=jP a (fj a.o a.t (gf M) (dW a.t.b)) S;gQ (jY M) (fj p.1.o p.1.t (gA M) (dW p.1.t.b)) p.1 p.2)=.ok (W,b):=hd;generalize fZ E M=a at hd j;have hd:(let p:=jP a (fj a.o a.t (gf M) (dW a.t.b)) S;gQ (jY M) (fj p.1.o p.1.t (gA M) (dW p.1.t.b)) p.1 p.2)=.ok (W,b):=hd;have k:=Of (fj a.o a.t (gf M) (dW a.t.b)) s a S j;generalize jP a (fj a.o a.t (gf M) (dW a.t.b)) S=p at hd k;have hd:gQ (jY M) (fj p.1.o p.1.t (gA M) (dW p.1.t.b)) p.1 p.2=.ok (W,b):=hd;refine Il (f:=jY M) (λs x W b d=>?_) _ s _ _ k hd;unfold jY at d;obtain⟨_,d⟩:=jd d;have:=OA s x M;rw[show iv s x M=(W,b) from yg d]at this;exact this
structure CS (c:Call) (run:Rn) (s s':St) (r0:Rs) (b:List Rn):Prop where
 e:r0.e=0
 k:KS s.k s'.k
 r:∀i,(s'.t.r i).rs=(s.t.r i).rs\/(s'.t.r i).rs=[]\/i=a5 c.r/\(s'.t.r i).rs=(s.t.r i).rs++[run]/\0<run.n
 b:(∀i,i<32->l7 (s.t.r i).rs)->l7 b
def CS0.c{c:Call}{G:Rn}{s W:St}{f:Rs}{b:List Rn}(h:CS0 s W b)(j:f.e=0):CS c G s W f b:=⟨j,h.k,λi=>(h.r i).elim .inl λe=>.inr (.inl e),h.b⟩
def Al(Q:St->Rs->List Rn->Prop)(R:Ex):Prop:=∀W r b,R=.ok (W,r,b)->Q W r b
section
variable {Q:St->Rs->List Rn->Prop} {s:St} {M:Int} {c:Call} {G:Rn}
def dQ{e:Int}{R:Ex}(h:e=0->Al Q R):Al Q (dV e R):=λW r b a=>h (jd a).1 W r b (jd a).2
def rp{r:Rs}(h:Q W r b):Al Q (.ok (W,r,b)):=λ_ _ _ a=>by cases a;exact h
def gz{x:Bool}{R a:Ex}(h:x=true->Al Q R)(g:x=false->Al Q a):Al Q (bif x then R else a):=by
 cases x with
 |true=>exact h rfl
 |false=>exact g rfl
def CW{X:Except Int (St×List Rn)}(h:∀W b,X=.ok (W,b)->Q W ⟨0,0,0⟩ b):Al Q (te X):=λW r b a=>by
 cases X with
 |error e=>cases a
 |ok p=>obtain⟨E,S⟩:=p;cases a;exact h _ _ rfl
def SE{r:Rg}(i:Nat):((hZ t x r).r i).rs=(t.r i).rs\/i=a5 x/\((hZ t x r).r i).rs=r.rs:=by
 unfold hZ;cases(hQ t x r==0)with
 |false=>exact .inl rfl
 |true=>
  show(a7 t.r (a5 x) _ i).rs=_\/i=a5 x/\(a7 t.r (a5 x) _ i).rs=_;by_cases e:i=a5 x
  .rw[e,dN];exact .inr ⟨rfl,rfl⟩
  .rw[dP e];exact .inl rfl
def RQ(i:Nat):((iW t h E).r i).rs=(t.r i).rs:=by
 unfold iW;cases(lx t h E==0)with
 |false=>rfl
 |true=>
  show(a7 t.r (a5 h) _ i).rs=_;by_cases e:i=a5 h
  .rw[e,dN]
  .rw[dP e]
def Hx{u:Int}{b:Nat->Int}(i:Nat):((hZ t x {b1 t x with cells:=b,up:=u}).r i).rs=(t.r i).rs:=by
 unfold hZ;cases a:(hQ t x {b1 t x with cells:=b,up:=u}==0)with
 |false=>rfl
 |true=>
  show(a7 t.r (a5 x) _ i).rs=_;by_cases e:i=a5 x
  .rw[e,dN];show(b1 t x).rs=_;unfold b1;cases d:bk t.b x with
   |true=>rfl
   |false=>unfold hQ at a;rw[d]at a;cases a
  .rw[dP e]
def N8(t:Tb)(h:Int)(i:Nat):∀(l:List Int) (n:Tb),((l.foldl (tY t h) n).r i).rs=(n.r i).rs
 |[],_=>rfl
 |x::l,n=>(N8 t h i l (tY t h n x)).trans (Hx i)
def DE(t:Tb)(h:Int)(i:Nat):((fC t h).r i).rs=(t.r i).rs:=by
 unfold fC;cases bk t.b h with
 |false=>rfl
 |true=>
  rw[dZ,RQ];unfold qz;exact N8 t h i _ t
def Pj(t:Tb)(h E:Int)(i:Nat):((ln t h E).r i).rs=(t.r i).rs:=by
 unfold ln;cases(!bk t.b h||!bk t.b E)with
 |true=>rfl
 |false=>
  cases((fl t h != h)||kz t h E)with
  |true=>rfl
  |false=>
   cases(decide (fk t E+nB t h>6))with
   |true=>rfl
   |false=>exact RQ i
def Qu(t:Tb)(E n:Int)(i:Nat):((ik t E n).r i).rs=(t.r i).rs\/((ik t E n).r i).rs=[]:=by
 unfold ik oC;cases pc t E n with
 |true=>exact .inl rfl
 |false=>
  cases(jR t E n==0)with
  |false=>exact .inl rfl
  |true=>
   show(a7 t.r (a5 (dY t.b)) _ i).rs=_\/(a7 t.r (a5 (dY t.b)) _ i).rs=_;by_cases e:i=a5 (dY t.b)
   .rw[e,dN];exact .inr rfl
   .rw[dP e];exact .inl rfl
def Rd{r:Rg}(a:r.rs=(b1 s.t c.r).rs\/r.rs=(b1 s.t c.r).rs++[G]/\0<G.n)(f:bk s.t.b c.r=true):Al (CS c G s) (lu s c r):=
 dQ λ_=>rp ⟨rfl,.refl _,λi=>by
  have b:=(su f).1;rw[b]at a;rcases SE (t:=s.t) (x:=c.r) (r:={r with len:=mZ r.rs r.len (dn c.a 129) (dn c.b 9)}) i with e|⟨rfl,e⟩
  .exact .inl e
  .rcases a with g|⟨g,d⟩
   .exact .inl (e.trans g)
   .exact .inr (.inr ⟨rfl,e.trans g,d⟩),λ_=>l7.nil⟩
def Hu(m:di c.s):Al (CS c G s) (fr s M c G):=by
 have k:∀{W:St} {r:Rs},W.k=s.k->(∀i,(W.t.r i).rs=(s.t.r i).rs)->r.e=0->Al (CS c G s) (.ok (W,r,[])):=λf g j=>rp ((CS0.still f g).c j);have a:∀{W:St} {r:Rs},W.k=s.k->W.t=s.t->r.e=0->Al (CS c G s) (.ok (W,r,[])):=λf g=>k f λ_=>by rw[g]
 have b:∀w,Al (CS c G s) (lJ s M c w):=λw=>dQ λ_=>dQ λ_=>dQ λ_=>dQ λ_=>a rfl rfl rfl;have d:Al (CS c G s) (pJ s M):=dQ λ_=>gz (λ_=>dQ λ_=>a rfl rfl rfl) λ_=>a rfl rfl rfl;refine dQ λ_=>gz (λ_=>dQ λ_=>dQ λ_=>gz (λ_=>dQ λ_=>?_) λ_=>?_) λ_=>gz (λ_=>dQ λf=>dQ λ_=>dQ λg=>gz (λ_=>Rd (.inl rfl) (mX a8 g)) λ_=>dQ λ_=>dQ λj=>Rd (.inr ⟨rfl,?_⟩) (mX a8 g)) λ_=>
  gz (λ_=>b 0) λ_=>gz (λ_=>b 1) λ_=>gz (λ_=>dQ λ_=>dQ λ_=>dQ λ_=>?_) λ_=>gz (λ_=>dQ λ_=>rp ((Ec s c.r).c rfl)) λ_=>
  gz (λ_=>dQ λ_=>dQ λ_=>dQ λ_=>dQ λ_=>k rfl (DE _ _) rfl) λ_=>gz (λ_=>dQ λ_=>dQ λ_=>dQ λ_=>k rfl (Pj _ _ _) rfl) λ_=>
  gz (λ_=>dQ λ_=>dQ λ_=>dQ λ_=>k rfl (DE _ _) rfl) λ_=>gz (λ_=>dQ λ_=>dQ λ_=>dQ λ_=>a rfl rfl rfl) λ_=>gz (λ_=>dQ λ_=>dQ λ_=>rp ((OA s c.r M).c rfl)) λ_=>
  gz (λ_=>dQ λ_=>dQ λ_=>dQ λ_=>dQ λ_=>dQ λh=>rp ⟨rfl,.E1 h m,λ_=>.inl rfl,λ_=>l7.nil⟩) λ_=>gz (λ_=>dQ λ_=>dQ λ_=>rp ⟨rfl,.ret _ _,λ_=>.inl rfl,λ_=>l7.nil⟩) λ_=>
  gz (λ_=>dQ λ_=>dQ λ_=>gz (λ_=>dQ λ_=>dQ λ_=>?_) λ_=>gz (λ_=>dQ λ_=>dQ λ_=>dQ λ_=>dQ λ_=>k rfl (DE _ _) rfl) λ_=>dQ λ_=>a rfl rfl rfl) λ_=>
  gz (λ_=>d) λ_=>gz (λ_=>d) λ_=>gz (λ_=>dQ λ_=>a rfl rfl rfl) λ_=>gz (λ_=>dQ λ_=>dQ λ_=>dQ λ_=>k rfl (λi=>Hx (u:=(b1 s.t c.r).up) i) rfl) λ_=>gz (λ_=>dQ λ_=>dQ λ_=>a rfl rfl rfl) λ_=>
  gz (λ_=>CW λ_ _ h=>(Ol h).c rfl) λ_=>gz (λ_=>dQ λ_=>CW λ_ _ h=>(Ol h).c rfl) λ_=>gz (λ_=>dQ λ_=>a rfl rfl rfl) λ_ _ _ _ h=>by cases h
 .exact rp (CS0.c ⟨.refl _,Qu _ _ _,λ_=>l7.nil⟩ rfl)
 .exact rp (CS0.c ⟨.refl _,Qu _ _ _,λ_=>l7.nil⟩ rfl)
 .have f:=mX a8 f;have j:=mX a8 j;rw[dH,gG]at j;rw[j.1];have:=Bc f;omega
 .refine rp ⟨rfl,.refl _,λi=>?_,λl=>Pa l _⟩;rcases SE (t:=s.t) (x:=c.r) (r:={iY with E:=(b1 s.t c.r).E}) i with e|⟨_,e⟩
  .exact .inl e
  .exact .inr (.inl e)
 .cases(iw s.o s.t c.r c.a true==0)<;>exact a rfl rfl rfl
end
def EM:∀{l:List Rn},l7 l->l.length<=(dm l).length
 |[],_=>dG _
 |y::l,h=>by
  have b:=h y (fQ ..);have d:=EM (l:=l) λz a=>h z (fA _ a);have e:(pg y).length=y.n.toNat:=by simp[pg]
  show l.length+1<=(pg y++dm l).length;rw[ew];omega
def Nl{s:St}{d:Int->Nat}(h:TInv s.t d){M:Int}{c:Call}{G:Rn}(g:di c.s):(dz s M c G).2.2.length<=(dm (dz s M c G).2.2).length:=by
 refine EM ?_;unfold dz;cases a:fr s M c G with
 |error e=>exact l7.nil
 |ok x=>
  obtain⟨W,r,b⟩:=x;refine(Hu g _ _ _ a).b λi f y j=>?_;have:=(h.rg i f).ok y j;unfold dw at this;omega
def zaP:gE λ_=>⟨0,0,λ_=>0⟩:=λ_ _=>⟨(a8:(0:Int)<=0),(a8:(0:Int)<=8),wV,λx a=>by cases a⟩
def Qn{n:Int}{a:Nat->List Ins}(h:∀i,i<8->(a i).length<=64/\∀x∈a i,InsOk x):MX2 0 0 (fo n a):=
 ⟨zaP,λi b=>⟨(h i b).1,(h i b).2,i6 0,(a8:(0:Int)<=65536)⟩,λ_ _=>zD,i6 0,⟨i6 0,i6 0⟩⟩
def FT(i:Nat):List Ins:=match i with
 |0=>[⟨1,6,0,0,1⟩,⟨17,3,0,0,0⟩]
 |_=>[]
noncomputable def oe:Nat->Mc
 |0=>fo 2 FT
 |n+1=>jo (oe n) 0
noncomputable def kN:Mc:=jo (oe 3) 16
def zeQ:∀i,i<8->(FT i).length<=64/\∀x∈FT i,InsOk x:=λi _=>match i with
  |0=>⟨a8,λx a=>by
   rcases iB.1 a with rfl|a
   .exact⟨a8,a8,a8,a8,a8⟩
   .rw[nZ.1 a];exact⟨a8,a8,a8,a8,a8⟩⟩
  |_+1=>⟨dG _,λx a=>by cases a⟩
def FU:∀n,MI 2 (oe n)/\tL (oe n)/\MX2 n n (oe n)
 |0=>⟨(Jl ⟨a8,a8⟩ _).1,(Jl ⟨a8,a8⟩ _).2,Qn zeQ⟩
 |n+1=>by obtain⟨a,e,f⟩:=FU n;obtain⟨c,d⟩:=EI a e (b:=0) a8;exact⟨c,d,by have:=EJ a f (k:=0) a8;rw[Int.natCast_succ];exact this⟩
def zeN:MI 2 kN/\tL kN/\MX2 4 4 kN:=by obtain⟨a,e,f⟩:=FU 3;obtain⟨c,d⟩:=EI a e (b:=16) a8;exact⟨c,d,EJ a f (k:=16) a8⟩
def zeU:∀i,i<3->lM (oe i) 0=0:=by decide+kernel
def zeV:lM (oe 3) 16=0:=by decide+kernel
def zeW:bk (oe 3).x.s.t.b 1=true:=by decide+kernel
def zeX:bk kN.x.s.t.b 1=false:=by decide+kernel
def Lu:kN.x.q=[]:=by decide+kernel
def Ls:∀i,i<8->kN.x.s.alive i=false:=by decide+kernel
def Lt:kN.M.length=2:=by decide+kernel
def zeP:dW kN.x.s.t.b=[]:=by decide+kernel
def ze1:∀e∈kN.M, -1000000<=e.W - e.J/\e.W - e.J<=1000000:=by decide+kernel
def zeS:∀e∈kN.M,0<=e.c.C/\e.c.C<256:=by decide+kernel
structure TkD (k:Toks):Prop where
 up:∀y,y∈dI k.b->(dr k y).A=0\/(dr k y).A∈dI k.b/\(dr k (dr k y).A).D=(dr k y).D/\((dr k y).mu=true->(dr k (dr k y).A).mu=true)
 one:∀y z,y∈dI k.b->z∈dI k.b->(dr k y).D=(dr k z).D->(dr k y).A=(dr k z).A->(dr k y).mu=true->y=z
def wm{k:Toks}:y∈nC k x↔y∈dI k.b/\(dr k y).A=x:=by unfold nC eg;rw[jM,gG]
def Sh{k:Toks}{r:Int}:y∈qV k r a↔y∈dI k.b/\(dr k y).D=r/\(dr k y).A=a:=by unfold qV eg iN;rw[jM,dH,gG,gG]
def Ly{k:Toks}{r:Int}(h:og k r a=true)(d:y∈dI k.b)(b:(dr k y).D=r):(dr k y).A≠a:=λc=>by unfold og at h;rw[dH,gG]at h;have:=Sh.2 ⟨d,b,c⟩;rw[vN h.2]at this;cases this
def zcJ{k:Toks}{r:Int}(h:qi k r a=true)(d:y∈dI k.b)(b:(dr k y).D=r)(c:(dr k y).A=a):(dr k y).mu=false:=by unfold qi wI vl at h;rw[dH,jL,vL]at h;have:=h.2 y d;unfold iN at this;rw[b,c]at this;simpa using this
section
variable {k:Toks} (hk:TkT k) (hd:TkD k)
include hk hd
def Lb(b:a∈dI k.b):∃r,r∈dI k.b/\(dr k r).D=(dr k a).D/\(dr k r).A=0/\((dr k a).mu=true->(dr k r).mu=true)/\TRe k r a:=by
 obtain⟨s,_,_,l⟩:=hk.ex;obtain⟨n,t⟩:∃n,s a<n:=⟨_,mL _⟩;induction n generalizing a with
 |zero=>omega
 |succ n q=>
  rcases hd.up a b with h|⟨m,o,p⟩
  .exact⟨a,b,rfl,h,id,.refl⟩
  .by_cases c:(dr k a).A=0
   .exact⟨a,b,rfl,c,id,.refl⟩
   have d:a∈nC k (dr k a).A:=wm.2 ⟨b,rfl⟩;obtain⟨r,e,f,g,i,j⟩:=q m (by have:=l _ a c d;omega);exact⟨r,e,f.trans o,g,λh=>i (p h),j.step d⟩
def zet{b:Int}(x:a∈dI k.b)(y:og k (dr k a).D a=true)(F:(dr k a).mu=true)(d:b∈dI k.b)(h:(dr k b).D=(dr k a).D)(c:(dr k b).mu=true):TRe k b a:=by
 obtain⟨E,_,_,t⟩:=hk.ex;obtain⟨n,G⟩:∃n,E b<n:=⟨_,mL _⟩;induction n generalizing b with
 |zero=>omega
 |succ n C=>
  by_cases f:(dr k b).A=0
  .obtain⟨r,o,p,q,_,s⟩:=Lb hk hd x;rw[hd.one b r d o (h.trans p.symm) (f.trans q.symm) c];exact s
  obtain⟨u,j,v⟩:=(hd.up b d).resolve_left f;have w:=C u (j.trans h) (v c) (by have:=t _ b f (wm.2 ⟨d,rfl⟩);omega);rcases Lg.1 w with e|⟨z,A,g⟩
  .exact b3 e.symm (Ly y d h)
  obtain⟨l,i⟩:=wm.1 A;obtain⟨_,m,_⟩:=(hd.up z l).resolve_left (by rw[i];exact f);rw[i,j]at m;rw[hd.one b z d l m i.symm c];exact g
def zes{b:Int}(m:a∈dI k.b)(n:og k (dr k a).D a=true)(o:(dr k a).mu=true)(i:b∈dI k.b)(p:(dr k b).D=(dr k a).D)(d:(dr k b).mu=true)(f:og k (dr k b).D b=true):a=b:=by
 rcases Lg.1 (zet hk hd m n o i p d)with e|⟨z,q,g⟩
 .exact e
 .exfalso;obtain⟨j,h⟩:=wm.1 q;have c:b≠0:=λe=>hk.z _ b (wm.2 ⟨i,rfl⟩) e;obtain⟨_,l,_⟩:=(hd.up z j).resolve_left (by rw[h];exact c);rw[h]at l;exact Ly f j l.symm h
end
def QL{s:St}(hk:TkT s.k)(hd:TkD s.k){t:Int}(O:j5 s t h 1=true):
 (dy s.o s.t h).kind=1/\¬((∃y,y∈dI s.k.b/\(dr s.k y).D=h)/\qi s.k h 0=true)/\∀u,j5 s u h 1=true->u=t:=by
 have A:∀u,j5 s u h 1=true->(dy s.o s.t h).kind=1/\(((dy s.o s.t h).task=u/\og s.k h 0=true)\/∃a,a∈dI s.k.b/\(dr s.k a).D=h/\(dr s.k a).W=u/\(dr s.k a).mu=true/\og s.k h a=true):=λu c=>by
  unfold j5 at c;cases f:((dy s.o s.t h).kind==3)with
  |true=>rw[f]at c;simp at c
  |false=>
   rw[f]at c;cases n:((dy s.o s.t h).kind==1)with
   |false=>rw[n]at c;cases c
   |true=>
    rw[n]at c;refine⟨b8 n,?_⟩;have c:(((dy s.o s.t h).task==u)&&vr s h 1||xz s u h 1)=true:=c;rw[pP]at c;rcases c with c|c
    .rw[dH]at c;exact .inl ⟨b8 c.1,c.2⟩
    .unfold xz at c;obtain⟨a,i,p⟩:=qo.1 c;unfold eg gq at i;rw[jM,gG]at i;unfold uo at p;simp only[dH,pP,gG]at p;rcases p.2 with g|g
     .exact b3 g.1 a8
     .exact .inr ⟨a,i.1,i.2,p.1,g.1.2,g.2⟩
 have d:og s.k h 0=true->∀a,a∈dI s.k.b->(dr s.k a).D=h->False:=λM a i N=>by obtain⟨r,v,l,m,_⟩:=Lb hk hd i;exact Ly M v (l.trans N) m
 obtain⟨n,z⟩:=A t O;refine⟨n,λ⟨⟨y,P,x⟩,w⟩=>?_,λu c=>?_⟩
 .rcases z with⟨_,f⟩|⟨a,o,j,_,q,_⟩
  .exact d f y P x
  .obtain⟨r,v,l,m,L,_⟩:=Lb hk hd o;have:=zcJ w v (l.trans j) m;rw[L q]at this;cases this
 .obtain⟨_,l⟩:=A u c;rcases z with⟨e,f⟩|⟨a,o,j,C,q,E⟩<;>rcases l with⟨K,m⟩|⟨b,S,Q,F,G,J⟩
  .exact K.symm.trans e
  .exact(d f b S Q).elim
  .exact(d m a o j).elim
  .rw[<-C,<-F,zes hk hd o (by rw[j];exact E) q S (Q.trans j.symm) G (by rw[Q];exact J)]
def FV{b:fG}(c:j8 b)(e:m8 b):∀{l:List Int},(∀x∈l,di x)->(j8 (l.foldl e8 b)/\m8 (l.foldl e8 b))/\∀x,di x->(bk (l.foldl e8 b) x=true↔bk b x=true/\x∉l):=by
 intro l;induction l generalizing b with
 |nil=>intro _;exact⟨⟨c,e⟩,λx _=>eA⟩
 |cons y r k=>
  intro d;obtain⟨f,g,h⟩:=BZ c e (d y fQ);obtain⟨i,j⟩:=k f g λx a=>d x (fA _ a);refine⟨i,λx a=>?_⟩;rw[uN,j x a,h x a,iB,not_or,and_assoc]
def Lv{k:Toks}(h:TkI k)(g:∀x∈l,di x):y∈dI (kD k l).b↔y∈dI k.b/\y∉l:=by obtain⟨⟨e,f⟩,d⟩:=FV h.Q h.rt g;show y∈dW (l.foldl e8 k.b)↔y∈dW k.b/\y∉l;rw[mM e f,mM h.Q h.rt];exact⟨λ⟨a,b⟩=>⟨⟨a,((d y a).1 b).1⟩,((d y a).1 b).2⟩,λ⟨⟨a,b⟩,c⟩=>⟨a,(d y a).2 ⟨b,c⟩⟩⟩
def Es{k:Toks}(h:TkI k)(a:y∈dI k.b):di y/\bk k.b y=true:=(mM h.Q h.rt).1 a
def ze2{k:Toks}(h:TkI k)(a:∀x∈l,di x)(b:y∈dI (kD k l).b):dr (kD k l) y=dr k y:=by have c:=(Es (TkI.wo l a h) b).2;have d:=(Es h ((Lv h a).1 b).1).2;unfold dr;rw[c,d];rfl
def TkD.wo{k:Toks}(h:TkI k)(hd:TkD k)(C:∀x∈l,di x)(P:∀y,y∈dI k.b->y∉l->(dr k y).A≠0->(dr k y).A∉l):TkD (kD k l):=by
 have f:∀y,y∈dI (kD k l).b->(y∈dI k.b/\y∉l)/\dr (kD k l) y=dr k y:=λy j=>⟨(Lv h C).1 j,ze2 h C j⟩;refine⟨λy j=>?_,λy z j Q G J K=>?_⟩
 .obtain⟨⟨u,M⟩,A⟩:=f y j;rw[A];rcases hd.up y u with e|⟨N,O⟩
  .exact .inl e
  .by_cases E:(dr k y).A=0
   .exact .inl E
   have L:=(Lv h C).2 ⟨N,P y u M E⟩;rw[(f _ L).2];exact .inr ⟨L,O⟩
 .obtain⟨⟨u,_⟩,A⟩:=f y j;obtain⟨⟨S,_⟩,F⟩:=f z Q;rw[A,F]at G J;rw[A]at K;exact hd.one y z u S G J K
open Classical in
def TkD.ret{k:Toks}(h:TkI k)(hd:TkD k)(x:Int):TkD (gI k x):=by
 unfold gI;cases bk k.b x with
 |false=>exact hd
 |true=>
  refine hd.wo h (λy C=>wk h.Q h.rt (jM.1 C).1) λy f u E A=>u ?_;obtain⟨_,j⟩:=jM.1 A;exact jM.2 ⟨f,eI ((gM j).step (wm.2 ⟨f,rfl⟩))⟩
def TkD.S{k:Toks}(h:TkI k)(hd:TkD k)(x:Int):TkD (kD k (eg k (gq x) (dI k.b))):=by
 have f:∀y,y∈eg k (gq x) (dI k.b)↔y∈dI k.b/\(dr k y).D=x:=λy=>by unfold eg gq;rw[jM,gG]
 refine hd.wo h (λy E=>wk h.Q h.rt ((f y).1 E).1) λy j A u C=>A ((f y).2 ⟨j,?_⟩);obtain⟨_,g,_⟩:=(hd.up y j).resolve_left u;rw[<-g];exact((f _).1 C).2
def PX{k:Toks}(h:TkI k){x:Tk}(m:iM k x=0):lI k x=⟨fK k.b,a7 k.s (a5 (dY k.b)) x⟩/\(ll k x.A=true/\uD x=false/\qZ k x=false/\pj k x=false)/\(di (dY k.b)/\bk k.b (dY k.b)=false)/\
 (∀z,z∈dI (lI k x).b↔z∈dI k.b\/z=dY k.b)/\dr (lI k x) (dY k.b)=x/\∀z,z∈dI k.b->dr (lI k x) z=dr k z/\z≠dY k.b:=by
 have C:lI k x=⟨fK k.b,a7 k.s (a5 (dY k.b)) x⟩:=by unfold lI;rw[m];rfl
 unfold iM at m;cases q:(mK k x != 0)with
 |true=>rw[q]at m;simp at q;exact b3 m q
 |false=>
 cases g:nN k with
 |true=>rw[q,g]at m;cases m
 |false=>
 have E:ll k x.A=true/\uD x=false/\qZ k x=false/\pj k x=false:=by
  have d:mK k x=0:=b8 q
  unfold mK at d;cases r:ll k x.A with
  |false=>rw[r]at d;cases d
  |true=>
  cases v:uD x with
  |true=>rw[r,v]at d;cases d
  |false=>
  cases A:qZ k x with
  |true=>rw[r,v,A]at d;cases d
  |false=>
  cases K:pj k x with
  |true=>rw[r,v,A,K]at d;cases d
  |false=>exact⟨rfl,rfl,rfl,rfl⟩
 have l:(kH k.b).isSome=true:=by
  cases F:kH k.b with
  |some i=>rfl
  |none=>
   exfalso;have:dY k.b=0:=by unfold dY;rw[F]
   unfold nN at g;rw[this]at g;exact b3 g a8
 obtain⟨i,L,M,N,O,P,t,w,u,y,s,j⟩:=AN h.Q h.rt l;rw[C];have o:∀z,z∈dI (fK k.b)↔z∈dI k.b\/z=dY k.b:=λz=>by
  show z∈dW (fK k.b)↔z∈dW k.b\/z=dY k.b;rw[mM y s,mM h.Q h.rt];refine⟨λ⟨a,b⟩=>((j z a).1 b).elim (λc=>.inl ⟨a,c⟩) .inr,λc=>?_⟩;rcases c with⟨a,b⟩|rfl
  .exact⟨a,(j z a).2 (.inl b)⟩
  .exact⟨t,u⟩
 refine⟨rfl,E,⟨t,w⟩,o,by unfold dr;simp only[u,dZ,dN],λz J=>?_⟩;have f:=Es h J;have p:z≠dY k.b:=λe=>by have:=f.2;rw[e,w]at this;cases this
 have n:bk (fK k.b) z=true:=(j z f.1).2 (.inl f.2);have G:a5 z≠a5 (dY k.b):=λe=>p (rH y f.1 t n u e);refine⟨?_,p⟩;unfold dr;simp only[n,f.2,dZ,dP G]
def TkD.E1{k:Toks}(h:TkI k)(hd:TkD k){x:Tk}(T:iM k x=0)(U:di x.A):TkD (lI k x):=by
 obtain⟨_,⟨P,_,t2,M⟩,_,L,N,F⟩:=PX h T;have O:x.A=0\/x.A∈dI k.b:=by unfold ll at P;rw[pP,gG]at P;exact P.imp_right λg=>(mM h.Q h.rt).2 ⟨U,g⟩
 have S:x.A≠0->(dr k x.A).D=x.D/\(x.mu=true->(dr k x.A).mu=true):=λC=>by unfold qZ at t2;rw[oX.2 C,po,gX,gX]at t2;refine⟨b8 t2.1.1,λA=>?_⟩;have:=t2.2;rw[A]at this;simpa using this
 have E:∀y,y∈dI k.b->(dr k y).D=x.D->(dr k y).A=x.A->(dr k y).mu=false/\x.mu=false:=λy f j u=>by have A:=Sh.2 ⟨f,j,u⟩;unfold pj at M;rw[gX]at M;have G:=M.1;unfold wI vl at G;rw[vL]at G;have G:=G y f;unfold iN at G;rw[j,u]at G;refine⟨b8 G,?_⟩;have Q:=M.2;rw[eI (by have:=List.length_pos_of_mem A;omega),tD]at Q;exact Q
 refine⟨λy f=>?_,λy z f J j u A=>?_⟩
 .rcases(L y).1 f with f|rfl
  .rw[(F y f).1];by_cases C:(dr k y).A=0
   .exact .inl C
   obtain⟨K,R⟩:=(hd.up y f).resolve_left C;rw[(F _ K).1];exact .inr ⟨(L _).2 (.inl K),R⟩
  .rw[N];by_cases C:x.A=0
   .exact .inl C
   have K:=O.resolve_left C;rw[(F _ K).1];exact .inr ⟨(L _).2 (.inl K),S C⟩
 .rcases(L y).1 f with f|rfl<;>rcases(L z).1 J with J|rfl
  .rw[(F y f).1]at j u A;rw[(F z J).1]at j u;exact hd.one y z f J j u A
  .rw[(F y f).1]at j u A;rw[N]at j u;rw[(E y f j u).1]at A;cases A
  .rw[(F z J).1]at j u;rw[N]at j u A;rw[(E z J j.symm u.symm).2]at A;cases A
  .rfl
def KS.d{k u:Toks}(h:KS k u):TkI k->TkD k->TkI u/\TkD u:=by
 induction h with
 |refl=>exact λa b=>⟨a,b⟩
 |E1 A C=>exact λa b=>⟨a.E1 A,b.E1 a A C⟩
 |ret k y=>exact λa b=>⟨a.ret y,b.ret a y⟩
 |S k y=>exact λa b=>⟨TkI.wo _ (λz E=>wk a.Q a.rt (jM.1 E).1) a,b.S a y⟩
 |trans _ _ f j=>exact λa b=>j (f a b).1 (f a b).2
def vZ(t:Tb)(h:Int)(c a:Nat->Int)(k:Nat):Nat->Int:=λi=>bif Nat.blt i k&&pA t h (c i)then 0 else a i
def oH(t:Tb)(h:Int)(R:Nat->Rg)(k:Nat)(n:Nat):Nat->Rg:=a7 R k {R k with cells:=vZ t h (t.r k).cells (R k).cells n}
def qT(t:Tb)(h:Int)(l:List Int):Nat->Rg:=l.foldl (λR x=>oH t h R (a5 x) 8) t.r
def N7{t:Tb}{d:Int->Nat}(h:TInv t d)(a:Int):∀(l:List Int) (n:Tb),l.Nodup->(∀x∈l,eW t x)->n.b=t.b->(∀x∈l,n.r (a5 x)=t.r (a5 x))->(l.foldl (tY t a) n).r=l.foldl (λR x=>oH t a R (a5 x) 8) n.r
 |[],n,_,_,_,_=>rfl
 |x::l,n,i,j,k,o=>by
  have p:=j x (fQ ..);have m:bk n.b x=true:=by rw[k];exact p.2
  have f:=o x (fQ ..);have b:b1 n x={t.r (a5 x)with up:=A0 n x}:=by unfold b1;rw[m,f];rfl
  have r:hQ n x (DD t a (b1 n x))=0:=BJ m (by rw[b];exact RgI.cells (h.rg _ (iq x)) _ _);have e:(tY t a n x).r=oH t a n.r (a5 x) 8:=by unfold tY;rw[(BK r).1,b];unfold oH;rw[f];rfl
  have q:(tY t a n x).b=n.b:=(wK n _).b;rw[uN,uN,<-e];have i:=pW.1 i;refine N7 h a l _ i.2 (λy g=>j y (fA _ g)) (q.trans k) λy g=>?_;rw[e];unfold oH;rw[dP λc=>i.1 (sI h.ok (j y (fA _ g)) p c▸g)];exact o y (fA _ g)
def XM{d:Int->Nat}(h:TInv t d)(c:eW t a):fC t a=⟨t.b,a7 (qT t a (eT t a)) (a5 a) {qT t a (eT t a) (a5 a)with up:=0}⟩:=by obtain⟨f,b,_⟩:=v5 h c;have e:(qz t a (eT t a)).r=qT t a (eT t a):=N7 h a _ t (wG h.ok h.rk (g8 c.2)) (λx g=>((oM h c).1 g).1) rfl λ_ _=>rfl;unfold rz at f;unfold fC at b ⊢;rw[c.2]at f b ⊢;have:=(xU f).2;rw[e]at this;rw[dZ]at b ⊢;rw[<-b,<-this]
def nq(R:Nat->Rg)(h:Int)(i:Nat):Nat->Rg:=λk=>bif Nat.blt k i&&(R k).up==h then{R k with up:=0}else R k
def xi(R:Nat->Rg)(h:Int):Nat->Rg:=nq (a7 R (a5 h) iY) h 32
def xo(b:fG)(l:List Int):fG:=l.foldl e8 b
def uZ(R:Nat->Rg)(l:List Int):Nat->Rg:=l.foldl xi R
def OK{U:List Int}:∀(l:List Int) (n:Tb) (R:Nat->Rg),j8 n.b->m8 n.b->l.Nodup->(∀x∈l,eW n x/\x∈U)->(∀k,k∉l.map a5->R k=n.r k/\(k<32->(n.r k).up∉U))->0∉U->xo n.b l=(gT n l).b/\uZ R l=(gT n l).r
 |[],n,R,_,_,_,_,m,_=>⟨rfl,funext λk=>(m k eA).1⟩
 |x::l,n,R,p,w,f,h,m,j=>by
  obtain⟨i,g⟩:=h x (fQ ..);have f:=pW.1 f;obtain⟨t,u,v⟩:=BZ p w i.1;have e:jZ n x=⟨e8 n.b x,a7 n.r (a5 x) iY⟩:=by unfold jZ;rw[i.2];rfl
  have E:∀y∈l,a5 y≠a5 x:=λy d c=>f.1 (rH p (h y (fA _ d)).1.1 i.1 (h y (fA _ d)).1.2 i.2 c▸d);have q:=OK (U:=U) l (jZ n x) (xi R x) (by rw[e];exact t) (by rw[e];exact u) f.2 (λy d=>by
   obtain⟨a,b⟩:=h y (fA _ d);refine⟨⟨a.1,?_⟩,b⟩;rw[e];exact(v y a.1).2 ⟨a.2,λc=>f.1 (c▸d)⟩) (λk A=>?_) j
  .rw[e]at q;have s:gT n (x::l)=gT ⟨e8 n.b x,a7 n.r (a5 x) iY⟩ l:=by unfold gT;rw[uN,e]
   rw[s];exact q
  rw[e];show nq (a7 R (a5 x) iY) x 32 k=a7 n.r (a5 x) iY k/\_;by_cases c:k=a5 x
  .subst c;unfold nq;rw[dN,dN];have:(iY.up==x)=false:=fc.2 λe=>j (by rw[show(0:Int)=x from e];exact g);rw[this,lO];refine⟨rfl,λ_=>?_⟩;show(a7 n.r (a5 x) iY (a5 x)).up∉U;rw[dN];exact j
  .obtain⟨C,r⟩:=m k (by rw[oT,iB,not_or];exact⟨c,A⟩);unfold nq;rw[dP c,dP c,C];refine⟨?_,λz=>?_⟩
   .cases o:(Nat.blt k 32&&(n.r k).up==x)with
    |false=>rfl
    |true=>
     rw[dH,gG]at o;exact b3 (o.2▸g) (r (dF o.1))
   .show(a7 n.r (a5 x) iY k).up∉U;rw[dP c];exact r z
def Ia{d:Int->Nat}(h:TInv t d)(f:eW t a):xo t.b (eT t a)=(gT t (dJ t a)).b/\uZ t.r (eT t a)=(gT t (dJ t a)).r:=by
 rw[wN f.2];have b:∀{x},x∈eT t a↔eW t x/\Anc t a x:=oM h f;have e:0∉eT t a:=λe=>g8 (b.1 e).1.2 rfl;refine OK (U:=eT t a) _ t t.r h.ok.Q h.ok.ret (wG h.ok h.rk (g8 f.2)) (λx m=>⟨(b.1 m).1,m⟩) (λk o=>⟨rfl,λj c=>o ?_⟩) e;cases l:(t.b k).L with
 |false=>rw[h.K k j l]at c;exact b3 c e
 |true=>
  obtain⟨n,g⟩:=AJ h.ok j l;have i:=FO h (fT k (t.b k).gen);rw[g]at i;rw[<-i]at c;exact l6.2 ⟨_,b.2 ⟨n,.up (g8 (b.1 c).1.2) (b.1 c).2⟩,g⟩
structure TbR (t:Tb):Prop extends TbOk t where
 J3:∀i,i<32->(t.r i).up=0\/bk t.b (t.r i).up=true
def TInv.r{d:Int->Nat}(h:TInv t d):TbR t:=⟨h.ok,h.up⟩
def QP{t:Tb}{c:Int->Nat}(b:Rk t c){a:Int}:∀{k:Nat} {x:Int},c x<k->lr t a (k+1) x=lr t a k x
 |0,_,h=>b3 h (jm _)
 |k+1,x,h=>by
  show(bif A0 t x==0 then false else(A0 t x==a)||lr t a (k+1) (A0 t x))=bif A0 t x==0 then false else(A0 t x==a)||lr t a k (A0 t x)
  cases d:A0 t x==0
  .rw[QP b (by have:=b.lt x (b8 d);omega)]
  .rfl
def QI{t:Tb}{h:Int}:∀{k:Nat} {x:Int},xL t h (k+1) x=((x != 0)&&((x==h)||lr t h k x))
 |0,_=>rfl
 |k+1,x=>by show((x != 0)&&((x==h)||xL t h (k+1) (A0 t x)))=((x != 0)&&((x==h)||bif A0 t x==0 then false else(A0 t x==h)||lr t h k (A0 t x)));rw[QI];unfold bne;cases A0 t x==0<;>rfl
def QJ{a:Int->Nat}(c:Rk t a)(b:∀x,a x<39)(h E:Int):xM t h E=((E != 0)&&((E==h)||lr t h 40 E)):=by rw[QP c (b E)];exact QI
def S4{t:Tb}{a:Int}:∀{l:List Int} {n:Int},oL t a n l=n\/∃x∈l,oL t a n l=fk t x - fk t a+1
 |[],n=>.inl rfl
 |y::l,n=>by
  have e:oL t a n (y::l)=oL t a (bif decide (fk t y - fk t a+1>n)then fk t y - fk t a+1 else n) l:=rfl;rw[e];rcases S4 (t:=t) (a:=a) (l:=l) (n:=bif decide (fk t y - fk t a+1>n)then fk t y - fk t a+1 else n)with h|⟨x,b,h⟩
  .rw[h];cases decide (fk t y - fk t a+1>n)
   .exact .inl rfl
   .exact .inr ⟨y,fQ ..,rfl⟩
  .exact .inr ⟨x,fA _ b,h⟩
def YS{d:Int->Nat}(h:TInv t d)(ha:gi t a)(hp:eW t E)(ho:kz t a E=false):
 lx t a E=0/\TbR (iW t a E)/\∃d',Rk (iW t a E) d'/\(fk t E+nB t a>6->∃x∈eT (iW t a E) a,fk (iW t a E) x>6):=by
 have he:lx t a E=0:=by
  have:xM t a E=false:=by rw[QJ h.rk (λx=>by have:=h.d5 x;omega)];unfold kz at ho;rw[ha.1.2,hp.2,Bool.and_self,po,gX]at ho;rw[ho.2,fc.2 λe=>(fc.1 ho.1) e.symm];simp
  unfold lx;rw[ha.1.2,hp.2,this];simp
 have hup:=RR hp.2 he;have hnA:¬Anc t a E:=QR h ha.1 hp ho;obtain⟨d',k1,k2,k3,k4⟩:=RP h ha hp hnA hup;have h11:∀x,d' x<=11:=λx=>by
  have h1:=h.d5 x;have h2:=h.d5 E;rcases k4 x with e|⟨y,_,_,e⟩
  .omega
  .have:=h.d5 y;omega
 obtain⟨e1,e2⟩:=xU he;have hok:TbR (iW t a E):=by
  refine⟨⟨by rw[e1];exact h.ok.Q,by rw[e1];exact h.ok.ret,λi hi=>?_⟩,λi hi=>?_⟩
  .rw[e2];by_cases c:i=a5 a
   .subst c;rw[dN];exact hp.1
   .rw[dP c];exact h.ok.up i hi
  .rw[e1,e2];by_cases c:i=a5 a
   .subst c;rw[dN];exact .inr hp.2
   .rw[dP c];exact h.up i hi
 have hrk:Rk (iW t a E) d':=⟨λx=>by have:=h11 x;omega,λx hx=>by rw[k1 x hx];exact mL _⟩;refine⟨he,hok,d',hrk,λhd=>?_⟩;have hU:∀{x},Anc t a x->eW t x->x∈eT (iW t a E) a:=λ{x} hA=>by
  induction hA with
  |refl=>intro _;rw[zP hok.toTbOk hrk (g8 ha.1.2)];exact fQ ..
  | @up z hz hA ih=>
   intro hx;have h1:=ih (yd h hz);refine Ll hok.toTbOk hrk 40 (by omega) (g8 ha.1.2) h1 ((vc hok.toTbOk).2 ⟨⟨hx.1,by rw[e1];exact hx.2⟩,?_⟩);rw[hup];refine if_neg λc=>hz ?_;rw[BV c];exact ha.2
 have hdep:∀x,eW t x->fk (iW t a E) x=d' x+1:=λx hx=>by unfold fk;rw[e1,hx.2,dZ,HO k1 k2 (by have:=h11 x;omega)]
 have hUt:∀{x},x∈eT t a->eW t x/\Anc t a x:=λhx=>(oM h ha.1).1 hx;have d0:=h.d0 a ha.2;rw[uU h hp.2]at hd;unfold nB at hd;have key:∀x,eW t x->Anc t a x->oL t a 0 (eT t a)=fk t x - fk t a+1->∃x∈eT (iW t a E) a,fk (iW t a E) x>6:=λx hx hA e=>by rw[e,uU h hx.2,uU h ha.1.2]at hd;refine⟨x,hU hA hx,?_⟩;rw[hdep x hx,k3 x hA];omega
 rcases S4 (t:=t) (a:=a) (l:=eT t a) (n:=0)with e|⟨x,hx,e⟩
 .have h1:=(KY (t:=t) (a:=a) (l:=eT t a) (n:=0)).2 a ((oM h ha.1).2 ⟨ha.1,.refl _⟩);rw[uU h ha.1.2]at h1;omega
 .exact key x (hUt hx).1 (hUt hx).2 e
end Sx
end Go.Proofs.YtfbhkfhbnkncoaaGreatDoor
