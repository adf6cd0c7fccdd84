import Derived.Test.YtfbhkfhbnkncoaaGreatDoorV20
set_option linter.all false
namespace Go.Proofs.YtfbhkfhbnkncoaaGreatDoor
open Go.RowKit
namespace Sx
variable{b:fG}{E a h x y z:Int}{d:Int->Nat}{i j:Nat}{r:Rg}{t t':Tb}{α:Type}
def dN(f:Nat->α)(i:Nat)(x:α):a7 f i x i=x:=if_pos rfl
def dP{f:Nat->α}{x:α}(h:j≠i):a7 f i x j=f j:=if_neg h
def ug(l:j8 b)(m:di x):bk b x=true↔a5 x<32/\(b (a5 x)).L=true/\(b (a5 x)).ret=false/\x=fT (a5 x) (b (a5 x)).gen:=by
 constructor
 .intro h;obtain⟨a,d⟩:=p7 h;obtain⟨e,c⟩:=Pg m h;exact⟨a,d,c,e⟩
 .rintro⟨a,d,e,c⟩;obtain⟨i,j,k⟩:=tw a (l _ a);unfold bk;rw[d,e];have f:mv x=false:=by rw[c];exact j
  have g:dU .u32 x 8=(b (a5 x)).gen:=by rw[c,k,i]
  rw[f,g];simp
def rH(a:j8 b)(e:di x)(f:di y)(c:bk b x=true)(d:bk b y=true)(h:a5 x=a5 y):x=y:=by rw[((ug a e).1 c).2.2.2,((ug a f).1 d).2.2.2,h]
def IB{s:Slot}(h:a5 x≠i):bk (a7 b i s) x=bk b x:=by unfold bk;rw[dP h]
def iq(x:Int):a5 x<32:=by have:=nR x;unfold a5;omega
def OZ{b:fG}:∀{k i j:Nat},uf b i k=some j->i<=j/\j<i+k/\(b j).L=false/\(b j).ret=false
 |0,_,_,h=>by cases h
 |k+1,i,j,h=>by
  simp only[uf]at h;split at h
  .obtain⟨d,e,c⟩:=OZ h;exact⟨a3,a3,c⟩
  .rename_i a;cases h;simp only[gX]at a;exact⟨a9 _,a3,a⟩
def Iq(h:kH b=some j):j<32/\(b j).L=false/\(b j).ret=false:=by obtain⟨c,d,a⟩:=OZ h;exact⟨a3,a⟩
def AN(l:j8 b)(u:m8 b)(h:(kH b).isSome=true):∃i,kH b=some i/\dY b=fT i (b i).gen/\a5 (dY b)=i/\i<32/\(b i).L=false/\di (dY b)/\bk b (dY b)=false/\bk (fK b) (dY b)=true/\j8 (fK b)/\m8 (fK b)/\∀x,di x->(bk (fK b) x=true↔bk b x=true\/x=dY b):=by
 obtain⟨i,m⟩:=GF.1 h;obtain⟨a,o,s⟩:=Iq m;have k:dY b=fT i (b i).gen:=by unfold dY;rw[m]
 have g:fK b=a7 b i ⟨(b i).gen,true,(b i).ret⟩:=by unfold fK;rw[m]
 have f:a5 (dY b)=i:=by rw[k];exact(tw a (l i a)).1
 have q:di (dY b):=by rw[k];exact wh ⟨a3,a3⟩ (l i a)
 have r:j8 (fK b):=λj n=>by
  rw[g];by_cases c:j=i
  .subst c;rw[dN];exact l j n
  .rw[dP c];exact l j n
 have w:m8 (fK b):=λj n e=>by
  rw[g]at e ⊢;by_cases c:j=i
  .subst c;rw[dN];exact s
  .rw[dP c]at e ⊢;exact u j n e
 have t:bk b (dY b)=false:=by
  cases e:bk b (dY b)with
  |false=>rfl
  |true=>have:=(p7 e).2;rw[f,o]at this;cases this
 have p:bk (fK b) (dY b)=true:=by rw[ug r q,f,g,dN];exact⟨a,rfl,s,k⟩
 refine⟨i,m,k,f,a,o,q,t,p,r,w,λx v=>?_⟩;by_cases c:a5 x=i
 .constructor
  .intro d
   right
   exact rH r v q d p (by rw[c,f])
  .rintro(d|rfl)
   .have:=(p7 d).2;rw[c,o]at this;cases this
   .exact p
 .rw[g,IB c];constructor
  .exact .inl
  .rintro(d|rfl)
   .exact d
   .exact b3 f c
def BZ(f:j8 b)(n:m8 b)(o:di h):j8 (e8 b h)/\m8 (e8 b h)/\∀x,di x->(bk (e8 b h) x=true↔bk b x=true/\x≠h):=by
 cases g:bk b h with
 |false=>
  have e:e8 b h=b:=by unfold e8;rw[g];rfl
  rw[e];refine⟨f,n,λx _=>⟨λd=>⟨d,λe=>?_⟩,λd=>d.1⟩⟩;subst e;rw[g]at d;cases d
 |true=>
  obtain⟨p,r,t,u⟩:=(ug f o).1 g;have i:=f _ p;have e:∃s:Slot,e8 b h=a7 b (a5 h) s/\s.L=false/\(0<=s.gen/\s.gen<=8388607):=by
   unfold e8;rw[g];cases a:((b (a5 h)).gen==8388607)with
   |true=>exact⟨_,rfl,rfl,i⟩
   |false=>
    have:(b (a5 h)).gen≠8388607:=b8 a
    refine⟨_,rfl,rfl,?_⟩;have:IntKind.u32.wrap ((b (a5 h)).gen+1)=(b (a5 h)).gen+1:=l5 (iL (by simp[eU];omega) (λ_=>a3) (by simp[eU];omega));show 0<=IntKind.u32.wrap ((b (a5 h)).gen+1)/\IntKind.u32.wrap ((b (a5 h)).gen+1)<=8388607;rw[this];omega
  obtain⟨s,e,m,q⟩:=e;rw[e];refine⟨λj k=>?_,λj k a=>?_,λx d=>?_⟩
  .by_cases c:j=a5 h
   .subst c;rw[dN];exact q
   .rw[dP c];exact f j k
  .by_cases c:j=a5 h
   .subst c;rw[dN,m]at a;cases a
   .rw[dP c]at a ⊢;exact n j k a
  .by_cases c:a5 x=a5 h
   .constructor
    .intro a;have:=(p7 a).2;rw[c,dN,m]at this;cases this
    .rintro⟨a,l⟩;exact b3 (rH f d o a g c) l
   .rw[IB c];exact⟨λa=>⟨a,λe=>c (by rw[e])⟩,λa=>a.1⟩
structure RgI (r:Rg):Prop where
 q0:0<=r.E
 q1:r.E<=64
 ok:∀y∈r.rs,dw y
 pg:dK r.rs<=r.E
 mx:mV r.rs r.len=true
structure TInv (t:Tb) (d:Int->Nat):Prop where
 ok:TbOk t
 K:∀i,i<32->(t.b i).L=false->t.r i=iY
 up:∀i,i<32->(t.r i).up=0\/bk t.b (t.r i).up=true
 d5:∀x,d x<=5
 ds:∀x,A0 t x≠0->d x=d (A0 t x)+1
 d0:∀x,A0 t x=0->d x=0
 rg:∀i,i<32->RgI (t.r i)
def eW(t:Tb)(h:Int):Prop:=di h/\bk t.b h=true
def gi(t:Tb)(h:Int):Prop:=eW t h/\A0 t h=0
def TInv.rk(h:TInv t d):Rk t d:=⟨λx=>by have:=h.d5 x;omega,λx f=>by rw[h.ds x f];exact mL _⟩
def wg(b:fG):bk b 0=false:=by
 cases h:bk b 0 with
 |false=>rfl
 |true=>exact b3 rfl (g8 h)
def BV(h:a5 x=a5 y):A0 t x=A0 t y:=by unfold A0;rw[h]
def Te(a:TbOk t)(x:Int):di (A0 t x):=by
 unfold A0;cases bk t.b (t.r (a5 x)).up with
 |true=>exact a.up _ (iq x)
 |false=>exact(show di 0 from⟨a8,a8⟩)
def zeH(h:TInv t d)(a:(t.b (a5 x)).L=false):A0 t x=0:=by unfold A0;rw[h.K _ (iq x) a];show(bif bk t.b 0 then(0:Int)else 0)=0;rw[wg];rfl
def yd(h:TInv t d)(a:A0 t x≠0):eW t (A0 t x):=⟨Te h.ok x,BW a⟩
def FO(h:TInv t d)(x:Int):A0 t x=(t.r (a5 x)).up:=by
 unfold A0;rcases h.up _ (iq x)with a|a
 .rw[a,wg];rfl
 .rw[a];rfl
def AJ(b:TbOk t)(a:i<32)(c:(t.b i).L=true):eW t (fT i (t.b i).gen)/\a5 (fT i (t.b i).gen)=i:=by have d:=(tw a (b.Q i a)).1;refine⟨⟨wh ⟨a3,a3⟩ (b.Q i a),?_⟩,d⟩;rw[ug b.Q (wh ⟨a3,a3⟩ (b.Q i a)),d];exact⟨a,c,b.ret i a c,rfl⟩
def HO{t:Tb}{d:Int->Nat}(b:∀x,A0 t x≠0->d x=d (A0 t x)+1)(c:∀x,A0 t x=0->d x=0):∀{k:Nat} {x:Int},d x<k->qC t k x=d x
 |0,_,e=>a3
 |k+1,x,e=>by
  rw[qC];cases a:(A0 t x==0)with
  |true=>rw[c x (b8 a)];rfl
  |false=>
   have a:A0 t x≠0:=b8 a
   rw[eQ,HO b c (by have:=b x a;omega),b x a]
def uU(h:TInv t d)(a:bk t.b x=true):fk t x=d x+1:=by unfold fk;rw[a,dZ,HO h.ds h.d0 (by have:=h.d5 x;omega)]
def Sj{t:Tb}{d:Int->Nat}(h:TInv t d):∀{k:Nat} {x:Int},d x<k->eW t x->gi t (sH t k x)/\Anc t (sH t k x) x
 |0,_,b,_=>a3
 |k+1,x,b,c=>by
  rw[sH];cases a:(A0 t x==0)with
  |true=>exact⟨⟨c,b8 a⟩,.refl _⟩
  |false=>
   have a:A0 t x≠0:=b8 a
   have:=Sj h (k:=k) (x:=A0 t x) (by have:=h.ds x a;omega) (yd h a);exact⟨this.1,.up a this.2⟩
def Kz(h:TInv t d)(a:eW t x):gi t (fl t x)/\Anc t (fl t x) x:=by unfold fl;rw[a.2,dZ];exact Sj h (by have:=h.d5 x;omega) a
def rW(h:TInv t d)(a:eW t x):fl t x=x↔A0 t x=0:=by
 constructor
 .intro e;have:=(Kz h a).1.2
  rwa [e]at this
 .intro e;unfold fl;rw[a.2,dZ,sH,e];rfl
def Ae(h:Anc t x z):z=x\/A0 t z≠0/\Anc t x (A0 t z):=by
 cases h with
 |refl=>exact .inl rfl
 |up a b=>exact .inr ⟨a,b⟩
def GX(h:Anc t x z)(a:A0 t z=0):z=x:=by
 rcases Ae h with h|h
 .exact h
 .exact b3 a h.1
def Be(h:TInv t d){n:Int}(N:di E)(u:mW t E n=0):
 ∃P,TInv (ik t E n) P/\eW (ik t E n) (jg t E n)/\bk t.b (jg t E n)=false/\A0 (ik t E n) (jg t E n)=E/\(E=0\/eW t E)/\
  (∀x,di x->(bk (ik t E n).b x=true↔bk t.b x=true\/x=jg t E n))/\(∀x,a5 x≠a5 (jg t E n)->A0 (ik t E n) x=A0 t x)/\(∀i,i<32->((ik t E n).r i).rs=(t.r i).rs):=by
 have q:pc t E n=false:=by
  cases a:pc t E n with
  |false=>rfl
  |true=>unfold mW at u;rw[a]at u;cases u
 have o:jR t E n=0:=by unfold mW at u;rwa [q]at u
 have K:fk t E<6:=by unfold pc at q;rw[o]at q;simpa using q
 have s:=o;unfold jR at o;have r:((E != 0)&&!bk t.b E)=false:=by
  cases a:((E != 0)&&!bk t.b E)with
  |false=>rfl
  |true=>rw[a]at o;cases o
 have J:(decide (n>=0)&&decide (n<=64))=true:=by
  cases a:(decide (n>=0)&&decide (n<=64))with
  |true=>rfl
  |false=>rw[r,a]at o;cases o
 have O:(kH t.b).isSome=true:=by
  cases a:(kH t.b).isSome with
  |true=>rfl
  |false=>rw[r,J,a]at o;cases o
 have A:0<=n/\n<=64:=b8 J
 obtain⟨i,L,U,C,M,p,F,z,w,S,T,f⟩:=AN h.ok.Q h.ok.ret O;have R:ik t E n=⟨fK t.b,a7 t.r i ⟨E,n,[],0,λ_=>0⟩⟩:=by unfold ik oC;rw[q,s,C];rfl
 have Q:jg t E n=dY t.b:=by unfold jg qd;rw[q,s];rfl
 rw[R,Q];have g:E=0\/eW t E:=by
  by_cases c:E=0
  .exact .inl c
  .have:bk t.b E=true:=by
    cases a:bk t.b E with
    |true=>rfl
    |false=>rw[a]at r;simp at r;exact b3 r c
   exact .inr ⟨N,this⟩
 have k:∀x,a5 x≠i->A0 ⟨fK t.b,a7 t.r i ⟨E,n,[],0,λ_=>0⟩⟩ x=A0 t x:=λx b=>by
  rw[FO h x];unfold A0;simp only[dP b];rcases h.up _ (iq x)with a|a
  .rw[a,wg];rfl
  .rw[(f _ (h.ok.up _ (iq x))).2 (.inl a)];rfl
 have l:∀x,a5 x=i->A0 ⟨fK t.b,a7 t.r i ⟨E,n,[],0,λ_=>0⟩⟩ x=E:=λx b=>by
  unfold A0;simp only[b,dN];rcases g with a|a
  .rw[a,wg];rfl
  .rw[(f _ a.1).2 (.inl a.2)];rfl
 have v:∀y,eW t y->a5 y≠i:=λy G e=>by have:=(p7 G.2).2;rw[e,p]at this;cases this
 refine⟨λx=>if a5 x=i then(if E=0 then 0 else d E+1)else d x,⟨⟨S,T,λj m=>?_⟩,λj m a=>?_,λj m=>?_,λx=>?_,λx b=>?_,λx b=>?_,λj m=>?_⟩,⟨F,w⟩,z,l _ C,g,f,λx b=>k x (by rw[C]at b;exact b),λj m=>?_⟩
 .by_cases c:j=i
  .subst c;simp only[dN];exact N
  .simp only[dP c];exact h.ok.up j m
 .by_cases c:j=i
  .subst c;have:fK t.b=a7 t.b j ⟨(t.b j).gen,true,(t.b j).ret⟩:=by unfold fK;rw[L]
   simp only[this,dN]at a;cases a
  .have:fK t.b=a7 t.b i ⟨(t.b i).gen,true,(t.b i).ret⟩:=by unfold fK;rw[L]
   simp only[this,dP c]at a;simp only[dP c];exact h.K j m a
 .by_cases c:j=i
  .subst c;simp only[dN];rcases g with a|a
   .exact .inl a
   .exact .inr ((f _ a.1).2 (.inl a.2))
  .simp only[dP c];rcases h.up j m with a|a
   .exact .inl a
   .exact .inr ((f _ (h.ok.up j m)).2 (.inl a))
 .show(if a5 x=i then(if E=0 then 0 else d E+1)else d x)<=5;split
  .split
   .omega
   .rcases g with a|a
    .contradiction
    .have:=uU h a.2;omega
  .exact h.d5 x
 .by_cases c:a5 x=i
  .rw[l x c]at b ⊢;rcases g with a|a
   .exact b3 a b
   .simp only[if_pos c,if_neg b,if_neg (v E a)]
  .rw[k x c]at b ⊢;simp only[if_neg c,if_neg (v _ (yd h b))];exact h.ds x b
 .by_cases c:a5 x=i
  .rw[l x c]at b;simp only[if_pos c,if_pos b]
  .rw[k x c]at b;simp only[if_neg c];exact h.d0 x b
 .by_cases c:j=i
  .subst c;simp only[dN];exact⟨A.1,A.2,(λy G=>by cases G),A.1,rfl⟩
  .simp only[dP c];exact h.rg j m
 .by_cases c:j=i
  .subst c;show(a7 t.r j (⟨E,n,[],0,λ_=>0⟩:Rg) j).rs=(t.r j).rs;rw[dN,h.K j m p];rfl
  .show(a7 t.r i (⟨E,n,[],0,λ_=>0⟩:Rg) j).rs=(t.r j).rs;rw[dP c]
def Ou(a:bk t.b x=true):∃s:Slot,jZ t x=⟨a7 t.b (a5 x) s,a7 t.r (a5 x) iY⟩/\s.L=false:=by
 unfold jZ e8;rw[a];cases((t.b (a5 x)).gen==8388607)with
 |true=>exact⟨_,rfl,rfl⟩
 |false=>exact⟨_,rfl,rfl⟩
structure Drops (t t':Tb) (l:List Int):Prop where
 Q:j8 t'.b
 ret:m8 t'.b
 D2:∀x,di x->(bk t'.b x=true↔bk t.b x=true/\x∉l)
 H5:∀j,j∈l.map a5->t'.r j=iY/\(t'.b j).L=false
 E3:∀j,j∉l.map a5->t'.r j=t.r j/\t'.b j=t.b j
def HU:∀{l:List Int} {t:Tb},j8 t.b->m8 t.b->l.Nodup->(∀x∈l,eW t x)->Drops t (gT t l) l
 |[],t,p,q,_,_=>⟨p,q,(λx _=>by simp[gT]),(λj f=>by cases f),λj _=>⟨rfl,rfl⟩⟩
 |x::l,t,p,q,k,i=>by
  have m:=i x (fQ ..);have k:=pW.1 k;obtain⟨A,C,u⟩:=BZ p q m.1;have o:(jZ t x).b=e8 t.b x:=by unfold jZ;rw[m.2];rfl
  obtain⟨s,r,z⟩:=Ou m.2;have g:=HU (l:=l) (t:=jZ t x) (o▸A) (o▸C) k.2 λy d=>⟨(i y (fA _ d)).1,by
   rw[o];exact(u y (i y (fA _ d)).1).2 ⟨(i y (fA _ d)).2,λe=>k.1 (e▸d)⟩⟩
  have w:a5 x∉l.map a5:=λv=>by obtain⟨y,d,e⟩:=l6.1 v;have n:=i y (fA _ d);have:=rH p n.1 m.1 n.2 m.2 e;exact k.1 (this▸d)
  refine⟨g.Q,g.ret,λy d=>?_,λj f=>?_,λj f=>?_⟩
  .show bk (gT (jZ t x) l).b y=true↔_;rw[g.D2 y d,o,u y d,iB];constructor
   .rintro⟨⟨a,b⟩,c⟩;exact⟨a,λh=>h.elim b c⟩
   .rintro⟨a,b⟩;exact⟨⟨a,λh=>b (.inl h)⟩,λh=>b (.inr h)⟩
  .show(gT (jZ t x) l).r j=iY/\((gT (jZ t x) l).b j).L=false;by_cases c:j∈l.map a5
   .exact g.H5 j c
   .have:j=a5 x:=by
     rcases iB.1 f with h|h
     .exact h
     .exact b3 h c
    subst this;rw[(g.E3 _ c).1,(g.E3 _ c).2,r];simp only[dN];exact⟨trivial,z⟩
  .show(gT (jZ t x) l).r j=t.r j/\(gT (jZ t x) l).b j=t.b j;rw[oT,iB,not_or]at f;rw[(g.E3 j f.2).1,(g.E3 j f.2).2,r];exact⟨dP f.1,dP f.1⟩
def Ll{t:Tb}(a:TbOk t){h:Int->Nat}(b:Rk t h):∀(n:Nat) {x y z:Int},40<=n+h x->x≠0->y∈eT t x->z∈iG t y->z∈eT t x
 |0,x,_,_,i,_,_,_=>by have:=b.le x;omega
 |n+1,x,y,z,i,g,c,f=>by
  rw[zP a b g]at c ⊢;refine fA _ (om.2 ?_);rcases iB.1 c with rfl|c
  .exact⟨z,f,by rw[zP a b (vd a f)];exact fQ ..⟩
  .obtain⟨k,d,e⟩:=om.1 c;exact⟨k,d,Ll a b n (by have:=zh a b g d;omega) (vd a d) e f⟩
def zeF(h:TInv t d)(b:eW t a)(g:eW t z)(f:Anc t a z):z∈eT t a:=by
 induction f with
 |refl=>rw[zP h.ok h.rk (g8 b.2)];exact fQ ..
 |up c j i=>
  have e:=yd h c;exact Ll h.ok h.rk 40 a3 (g8 b.2) (i e) ((vc h.ok).2 ⟨g,rfl⟩)
def oM(h:TInv t d)(b:eW t a):z∈eT t a↔eW t z/\Anc t a z:=by
 constructor
 .intro c;refine⟨?_,Bt h.ok (g8 b.2) c⟩;rcases xQ h.ok c with rfl|f
  .exact b
  .exact f
 .exact λe=>zeF h b e.1 e.2
def wN(a:bk t.b h=true):dJ t h=eT t h:=by unfold dJ;rw[a];rfl
def tf(h:TInv t d)(m:eW t a):Drops t (gT t (dJ t a)) (eT t a)/\∃C,TInv (gT t (dJ t a)) C/\∀x,eW (gT t (dJ t a)) x->A0 (gT t (dJ t a)) x=A0 t x:=by
 rw[wN m.2];have hD:Drops t (gT t (eT t a)) (eT t a):=HU h.ok.Q h.ok.ret (wG h.ok h.rk (g8 m.2)) λx b=>((oM h m).1 b).1;generalize gT t (eT t a)=t' at hD ⊢;refine⟨hD,?_⟩;have n:∀x,a5 x∈(eT t a).map a5->eW t x->x∈eT t a:=λx l b=>by obtain⟨y,v,e⟩:=l6.1 l;have q:=((oM h m).1 v).1;rw[rH h.ok.Q b.1 q.1 b.2 q.2 e.symm];exact v
 have s:∀j,j<32->di (t'.r j).up/\((t'.r j).up=0\/bk t'.b (t'.r j).up=true)/\(j∉(eT t a).map a5->(t'.r j).up=(t.r j).up):=λj g=>by
  by_cases c:j∈(eT t a).map a5
  .rw[(hD.H5 j c).1];exact⟨⟨a8,a8⟩,.inl rfl,λh=>b3 c h⟩
  .rw[(hD.E3 j c).1];refine⟨h.ok.up j g,?_,λ_=>rfl⟩;rcases h.up j g with i|i
   .exact .inl i
   .refine .inr ((hD.D2 _ (h.ok.up j g)).2 ⟨i,λl=>c ?_⟩);have o:(t.b j).L=true:=by
     cases u:(t.b j).L with
     |true=>rfl
     |false=>rw[h.K j g u]at i;rw[show iY.up=0 from rfl,wg]at i;cases i
    obtain⟨E,w⟩:=AJ h.ok g o;have p:A0 t (fT j (t.b j).gen)=(t.r j).up:=by rw[FO h,w]
    have:fT j (t.b j).gen∈eT t a:=(oM h m).2 ⟨E,.up (by rw[p];exact g8 i) (by rw[p];exact((oM h m).1 l).2)⟩;rw[<-w];exact l6.2 ⟨_,this,rfl⟩
 have k:∀x,A0 t' x=(t'.r (a5 x)).up:=λx=>by
  unfold A0;rcases(s _ (iq x)).2.1 with i|i
  .rw[i,wg];rfl
  .rw[i];rfl
 have f:∀x,a5 x∉(eT t a).map a5->A0 t' x=A0 t x:=λx b=>by rw[k,FO h,(s _ (iq x)).2.2 b]
 have G:∀x,a5 x∈(eT t a).map a5->A0 t' x=0:=λx b=>by rw[k,(hD.H5 _ b).1];rfl
 refine⟨λx=>if a5 x∈(eT t a).map a5 then 0 else d x,⟨⟨hD.Q,hD.ret,λj g=>(s j g).1⟩,λj g u=>?_,λj g=>(s j g).2.1,λx=>?_,λx b=>?_,λx b=>?_,λj g=>?_⟩,λx b=>f x λl=>?_⟩
 .by_cases c:j∈(eT t a).map a5
  .exact(hD.H5 j c).1
  .rw[(hD.E3 j c).1];rw[(hD.E3 j c).2]at u;exact h.K j g u
 .show(if _ then _ else _)<=5;split
  .omega
  .exact h.d5 x
 .by_cases c:a5 x∈(eT t a).map a5
  .exact b3 (G x c) b
  .rw[f x c]at b ⊢;have A:a5 (A0 t x)∉(eT t a).map a5:=λl=>by
    have r:=n _ l (yd h b);have z:=(f x c).symm;have F:bk t'.b (A0 t x)=true:=by rw[z];exact BW (by rw[<-z];exact b)
    exact((hD.D2 _ (Te h.ok x)).1 F).2 r
   simp only[if_neg c,if_neg A];exact h.ds x b
 .by_cases c:a5 x∈(eT t a).map a5
  .simp only[if_pos c]
  .rw[f x c]at b;simp only[if_neg c];exact h.d0 x b
 .by_cases c:j∈(eT t a).map a5
  .rw[(hD.H5 j c).1];exact⟨a8,a8,(λy v=>by cases v),a8,a8⟩
  .rw[(hD.E3 j c).1];exact h.rg j g
 .have r:=(hD.D2 x b.1).1 b.2;exact r.2 (n x l ⟨b.1,r.1⟩)
structure Alike (t t':Tb):Prop where
 b:t'.b=t.b
 up:∀i,i<32->(t'.r i).up=(t.r i).up
 K:∀i,i<32->(t.b i).L=false->t'.r i=t.r i
def Alike.refl(t:Tb):Alike t t:=⟨rfl,λ_ _=>rfl,λ_ _ _=>rfl⟩
def Alike.trans{j:Tb}(h:Alike t t')(k:Alike t' j):Alike t j:=⟨k.b.trans h.b,λi f=>(k.up i f).trans (h.up i f),λi f u=>(k.K i f (by rw[h.b];exact u)).trans (h.K i f u)⟩
def Alike.A0{t t':Tb}(h:Alike t t')(x:Int):A0 t' x=A0 t x:=by unfold Sx.A0;rw[h.b,h.up _ (iq x)]
def Alike.B5(h:Alike t t'):eW t' x↔eW t x:=by unfold eW;rw[h.b]
def Alike.I4(h:Alike t t'):gi t' x↔gi t x:=by unfold gi;rw[h.B5,h.A0]
def Alike.inv(h:Alike t t')(k:TInv t d)(A:∀i,i<32->RgI (t'.r i)):TInv t' d:=by
 refine⟨⟨h.b▸k.ok.Q,h.b▸k.ok.ret,λi f=>by rw[h.up i f];exact k.ok.up i f⟩,λi f u=>?_,λi f=>by rw[h.up i f,h.b];exact k.up i f,k.d5,λx j=>?_,λx j=>?_,A⟩
 .rw[h.b]at u;rw[h.K i f u];exact k.K i f u
 .rw[h.A0]at j ⊢;exact k.ds x j
 .rw[h.A0]at j;exact k.d0 x j
def wK(t:Tb)(r:Rg):Alike t (hZ t x r):=by
 unfold hZ;cases b:(hQ t x r==0)with
 |false=>exact .refl t
 |true=>
  have a:bk t.b x=true:=by
   unfold hQ at b;cases a:bk t.b x with
   |true=>rfl
   |false=>rw[a]at b;cases b
  refine⟨rfl,λi e=>?_,λi e d=>?_⟩
  .show(a7 t.r (a5 x) _ i).up=_;by_cases c:i=a5 x
   .subst c;rw[dN]
   .rw[dP c]
  .show a7 t.r (a5 x) _ i=_;by_cases c:i=a5 x
   .subst c;have:=(p7 a).2;rw[d]at this;cases this
   .rw[dP c]
def BK(a:hQ t x r=0):(hZ t x r).r=a7 t.r (a5 x) {r with up:=(t.r (a5 x)).up}/\mV r.rs r.len=true/\0<=r.E/\r.E<=64:=by
 refine⟨by unfold hZ;rw[a];rfl,?_⟩;unfold hQ at a;cases c:bk t.b x with
 |false=>rw[c]at a;cases a
 |true=>
  rw[c]at a;cases b:(!(decide (r.E>=0)&&decide (r.E<=64))||!mV r.rs r.len)with
  |true=>rw[b]at a;cases a
  |false=>
   simp only[gX,lD,dH,fY]at b;exact⟨b.2,b.1⟩
def BJ(b:bk t.b x=true)(a:RgI r):hQ t x r=0:=by unfold hQ;rw[b,a.mx,eI a.q0,eI a.q1];rfl
def RgI.cells{r:Rg}(h:RgI r)(u:Int)(c:Nat->Int):RgI {r with up:=u,cells:=c}:=⟨h.q0,h.q1,h.ok,h.pg,h.mx⟩
def SA(h:TInv t d)(f:hQ t x r=0->RgI r):TInv (hZ t x r) d:=by
 refine(wK t r).inv h λi b=>?_;by_cases a:hQ t x r=0
 .rw[(BK a).1];by_cases c:i=a5 x
  .subst c;rw[dN];have:=f a;exact⟨this.q0,this.q1,this.ok,this.pg,this.mx⟩
  .rw[dP c];exact h.rg i b
 .have:hZ t x r=t:=by
   unfold hZ;cases e:(hQ t x r==0)with
   |false=>rfl
   |true=>exact b3 (b8 e) a
  rw[this];exact h.rg i b
structure Cells (t t':Tb):Prop extends Alike t t' where
 r:∀i,i<32->∃c u,t'.r i={t.r i with cells:=c,up:=u}
def Cells.refl(t:Tb):Cells t t:=⟨.refl t,λi _=>⟨(t.r i).cells,(t.r i).up,rfl⟩⟩
def Cells.trans{f:Tb}(h:Cells t t')(k:Cells t' f):Cells t f:=⟨h.toAlike.trans k.toAlike,λi j=>by
 obtain⟨c,u,e⟩:=h.r i j;obtain⟨Z,Y,A⟩:=k.r i j;exact⟨Z,Y,by rw[A,e]⟩⟩
def Cells.inv(h:Cells t t')(k:TInv t d):TInv t' d:=h.toAlike.inv k λi f=>by obtain⟨c,u,e⟩:=h.r i f;have:=k.rg i f;rw[e];exact⟨this.q0,this.q1,this.ok,this.pg,this.mx⟩
def Cells.rs(h:Cells t t')(f:i<32):(t'.r i).rs=(t.r i).rs:=by obtain⟨c,u,e⟩:=h.r i f;rw[e]
def Sz(t:Tb)(x:Int)(c:Nat->Int)(u:Int):Cells t (hZ t x {b1 t x with cells:=c,up:=u}):=by
 refine⟨wK t _,λi d=>?_⟩;unfold hZ;cases b:(hQ t x {b1 t x with cells:=c,up:=u}==0)with
 |false=>exact⟨(t.r i).cells,(t.r i).up,rfl⟩
 |true=>
  have a:bk t.b x=true:=by
   unfold hQ at b;cases a:bk t.b x with
   |true=>rfl
   |false=>rw[a]at b;cases b
  show∃Z Y,a7 t.r (a5 x) _ i=_;by_cases e:i=a5 x
  .subst e;rw[dN];unfold b1;rw[a];exact⟨c,_,rfl⟩
  .rw[dP e];exact⟨(t.r i).cells,(t.r i).up,rfl⟩
def DC(t:Tb)(h:Int):∀(l:List Int) (n:Tb),Cells n (l.foldl (tY t h) n)
 |[],n=>.refl n
 |x::l,n=>(Sz n x _ _).trans (DC t h l (tY t h n x))
def xU(a:lx t h E=0):(iW t h E).b=t.b/\(iW t h E).r=a7 t.r (a5 h) {t.r (a5 h)with up:=E}:=by unfold iW;rw[a];exact⟨rfl,rfl⟩
open Classical in
def X6(h:TInv t d)(n:eW t a):lx t a 0=0/\∃w,TInv (iW t a 0) w/\(∀x,A0 (iW t a 0) x=if a5 x=a5 a then 0 else A0 t x)/\∀i,i<32->((iW t a 0).r i).rs=(t.r i).rs:=by
 have v:lx t a 0=0:=by unfold lx;rw[n.2];have:xM t a 0=false:=rfl;rw[this];rfl
 obtain⟨m,k⟩:=xU v;have j:∀x,A0 (iW t a 0) x=if a5 x=a5 a then 0 else A0 t x:=λx=>by
  unfold A0;rw[m,k];by_cases c:a5 x=a5 a
  .rw[c,dN,if_pos rfl];show(bif bk t.b 0 then(0:Int)else 0)=0;rw[wg];rfl
  .rw[dP c,if_neg c]
 refine⟨v,λx=>if a5 x=a5 a then 0 else if Anc t a x then d x - d a else d x,⟨⟨by rw[m];exact h.ok.Q,by rw[m];exact h.ok.ret,λi f=>?_⟩,λi f o=>?_,λi f=>?_,λx=>?_,λx b=>?_,λx b=>?_,λi f=>?_⟩,j,λi f=>?_⟩
 .rw[k];by_cases c:i=a5 a
  .subst c;rw[dN];exact(show di 0 from⟨a8,a8⟩)
  .rw[dP c];exact h.ok.up i f
 .rw[m]at o;rw[k];by_cases c:i=a5 a
  .subst c;rw[(p7 n.2).2]at o;cases o
  .rw[dP c];exact h.K i f o
 .rw[m,k];by_cases c:i=a5 a
  .subst c;rw[dN];exact .inl rfl
  .rw[dP c];exact h.up i f
 .have y:=h.d5 x;show(if a5 x=a5 a then 0 else if Anc t a x then d x - d a else d x)<=5;split
  .omega
  .split<;>omega
 .rw[j]at b ⊢;by_cases c:a5 x=a5 a
  .rw[if_pos c]at b;exact b3 rfl b
  .rw[if_neg c]at b ⊢;have u:=yd h b;have s:=h.ds x b;have g:Anc t a x↔Anc t a (A0 t x):=⟨λg=>by
    rcases Ae g with e|e
    .exact b3 (by rw[e]) c
    .exact e.2,λg=>.up b g⟩
   show(if _ then _ else _)=(if _ then _ else _)+1;rw[if_neg c];by_cases p:a5 (A0 t x)=a5 a
   .have e:=rH h.ok.Q u.1 n.1 u.2 n.2 p;rw[if_pos p,if_pos (g.2 (by rw[e];exact .refl _)),s,e];omega
   .rw[if_neg p];by_cases l:Anc t a x
    .have:=(g.1 l).rk h.rk;rw[if_pos l,if_pos (g.1 l)];omega
    .rw[if_neg l,if_neg λq=>l (g.2 q)];exact s
 .rw[j]at b;show(if _ then _ else _)=0;by_cases c:a5 x=a5 a
  .rw[if_pos c]
  .rw[if_neg c]at b ⊢;have r:=h.d0 x b;split
   .rw[r];exact Nat.zero_sub _
   .exact r
 .rw[k];by_cases c:i=a5 a
  .subst c;rw[dN];have:=h.rg _ f;exact⟨this.q0,this.q1,this.ok,this.pg,this.mx⟩
  .rw[dP c];exact h.rg i f
 .rw[k];by_cases c:i=a5 a
  .subst c;rw[dN]
  .rw[dP c]
def v5(h:TInv t d)(f:eW t a):rz t a=0/\(fC t a).b=t.b/\∃c,TInv (fC t a) c/\(∀x,A0 (fC t a) x=if a5 x=a5 a then 0 else A0 t x)/\∀i,i<32->((fC t a).r i).rs=(t.r i).rs:=by unfold rz fC;rw[f.2,dZ,dZ];have b:Cells t (qz t a (eT t a)):=DC t a _ t;generalize qz t a (eT t a)=t1 at b ⊢;have m:=b.inv h;obtain⟨e,c,j,k,l⟩:=X6 m (b.toAlike.B5.2 f);refine⟨e,(xU e).1.trans b.b,c,j,λx=>by rw[k,b.toAlike.A0],λi g=>by rw[l i g,b.rs g]⟩
def QQ{t:Tb}{d:Int->Nat}(h:TInv t d){a:Int}:∀{k:Nat} {x:Int},d x<k->Anc t a x->a=x\/lr t a k x=true
 |0,_,g,_=>a3
 |k+1,x,g,f=>by
  rcases Ae f with e|⟨b,c⟩
  .exact .inl e.symm
  .refine .inr ?_;rw[lr,fc.2 b,eQ];rcases QQ h (k:=k) (by have:=h.ds x b;omega) c with e|e
   .rw[e];simp
   .rw[e];simp
def zaG(v n:Int):n<=(bif decide (v>n)then v else n)/\v<=(bif decide (v>n)then v else n):=by
 cases a:decide (v>n)with
 |true=>simp only[fY]at a;simp only[dZ];omega
 |false=>simp only[kq]at a;simp only[eQ];omega
def KY{t:Tb}{a:Int}:∀{l:List Int} {n:Int},n<=oL t a n l/\∀x∈l,fk t x - fk t a+1<=oL t a n l
 |[],n=>⟨i6 _,λ_ h=>by cases h⟩
 |y::l,n=>by
  have b:=zaG (fk t y - fk t a+1) n;have e:oL t a n (y::l)=oL t a (bif decide (fk t y - fk t a+1>n)then fk t y - fk t a+1 else n) l:=rfl;rw[e];generalize(bif decide (fk t y - fk t a+1>n)then fk t y - fk t a+1 else n)=v at b;obtain⟨d,f⟩:=KY (t:=t) (a:=a) (l:=l) (n:=v);refine⟨Cs b.1 d,λx c=>?_⟩;rcases iB.1 c with rfl|c
  .exact Cs b.2 d
  .exact f x c
def QR(h:TInv t d)(f:eW t a)(g:eW t E)(b:kz t a E=false)(c:Anc t a E):False:=by
 unfold kz at b;rw[f.2,g.2]at b;rcases QQ h (k:=40) (by have:=h.d5 E;omega) c with e|e
 .rw[e]at b;simp at b
 .rw[e]at b;simp at b
open Classical in
def RP(h:TInv t d)(f:gi t a)(v:eW t E)(k:¬Anc t a E){n:Tb}(m:∀x,A0 n x=if a5 x=a5 a then E else A0 t x):
 ∃i:Int->Nat,(∀x,A0 n x≠0->i x=i (A0 n x)+1)/\(∀x,A0 n x=0->i x=0)/\(∀x,Anc t a x->i x=d x+d E+1)/\∀x,i x=d x\/∃y,eW t y/\Anc t a y/\i x=d y+d E+1:=by
 obtain⟨f,g⟩:=f;have s:=h.d0 a g;refine⟨λx=>if a5 x=a5 a\/Anc t a x then d x+d E+1 else d x,λx b=>?_,λx b=>?_,λx r=>if_pos (.inr r),λx=>?_⟩
 .rw[m]at b ⊢;show(if _ then _ else _)=(if _ then _ else _)+1;by_cases c:a5 x=a5 a
  .have u:¬(a5 E=a5 a\/Anc t a E):=λq=>by
    rcases q with q|q
    .exact k (by rw[rH h.ok.Q v.1 f.1 v.2 f.2 q];exact .refl _)
    .exact k q
   rw[if_pos (.inl c),if_pos c,if_neg u,h.d0 x ((BV c).trans g)];omega
  .rw[if_neg c]at b ⊢;have w:=yd h b;have F:=h.ds x b;have r:(a5 x=a5 a\/Anc t a x)↔(a5 (A0 t x)=a5 a\/Anc t a (A0 t x)):=by
    constructor
    .rintro(q|q)
     .exact b3 q c
     .rcases Ae q with e|e
      .exact b3 (by rw[e]) c
      .exact .inr e.2
    .rintro(q|q)
     .refine .inr (.up b ?_);rw[rH h.ok.Q w.1 f.1 w.2 f.2 q];exact .refl _
     .exact .inr (.up b q)
   by_cases o:a5 x=a5 a\/Anc t a x
   .rw[if_pos o,if_pos (r.1 o)];omega
   .rw[if_neg o,if_neg λq=>o (r.2 q)];exact F
 .rw[m]at b;show(if _ then _ else _)=0;by_cases c:a5 x=a5 a
  .rw[if_pos c]at b;exact b3 b (g8 v.2)
  .rw[if_neg c]at b;have C:=h.d0 x b;rw[if_neg λq=>by
    rcases q with q|q
    .exact c q
    .exact c (by rw[GX q b])]
   exact C
 .show(if a5 x=a5 a\/Anc t a x then d x+d E+1 else d x)=d x\/∃y,eW t y/\Anc t a y/\(if a5 x=a5 a\/Anc t a x then d x+d E+1 else d x)=d y+d E+1;split
  .rename_i l;refine .inr ?_;rcases l with l|l
   .exact⟨a,f,.refl _,by rw[h.d0 x ((BV l).trans g),s]⟩
   .rcases Ae l with e|e
    .exact⟨a,f,.refl _,by rw[e]⟩
    .have j:(t.b (a5 x)).L=true:=by
      cases J:(t.b (a5 x)).L with
      |true=>rfl
      |false=>exact b3 (zeH h J) e.1
     obtain⟨z,A⟩:=AJ h.ok (iq x) j;have p:=BV (t:=t) A;refine⟨_,z,.up (by rw[p];exact e.1) (by rw[p];exact e.2),?_⟩;have K:=h.ds x e.1;have G:=h.ds _ (by rw[p];exact e.1);rw[p]at G;omega
  .exact .inl rfl
def RR(f:bk t.b E=true)(e:lx t a E=0)(x:Int):A0 (iW t a E) x=if a5 x=a5 a then E else A0 t x:=by
 obtain⟨b,d⟩:=xU e;unfold A0;rw[b,d];by_cases c:a5 x=a5 a
 .rw[c,dN,if_pos rfl];show(bif bk t.b E then E else 0)=E;rw[f];rfl
 .rw[dP c,if_neg c]
def Ed(h:TInv t d)(K:di a)(u:di E)(b:nL t a E=0):gi t a/\eW t E/\(ln t a E).b=t.b/\∃w,TInv (ln t a E) w/\(∀x,A0 (ln t a E) x=if a5 x=a5 a then E else A0 t x)/\∀i,i<32->((ln t a E).r i).rs=(t.r i).rs:=by
 have Q:=b;unfold nL at b;have o:(!bk t.b a||!bk t.b E)=false:=by
  cases f:(!bk t.b a||!bk t.b E)with
  |false=>rfl
  |true=>rw[f]at b;cases b
 rw[o,eQ]at b;have p:((fl t a != a)||kz t a E)=false:=by
  cases f:((fl t a != a)||kz t a E)with
  |false=>rfl
  |true=>rw[f]at b;cases b
 rw[p,eQ]at b;have q:decide (fk t E+nB t a>6)=false:=by
  cases f:decide (fk t E+nB t a>6)with
  |false=>rfl
  |true=>rw[f]at b;cases b
 rw[q,eQ]at b;have G:ln t a E=iW t a E:=by unfold ln;rw[o,p,q];rfl
 rw[G];simp only[gX,lD]at o;have j:eW t a:=⟨K,o.1⟩;have m:eW t E:=⟨u,o.2⟩;simp only[gX]at p;have k:A0 t a=0:=(rW h j).1 (b8 p.1);have A:¬Anc t a E:=λz=>QR h j m p.2 z;have C:∀x,eW t x->Anc t a x->d x+d E+1<=5:=λx F z=>by have J:=(KY (t:=t) (a:=a) (l:=eT t a) (n:=0)).2 x ((oM h j).2 ⟨F,z⟩);rw[uU h F.2,uU h j.2]at J;rw[uU h m.2]at q;unfold nB at q;simp only[kq]at q;have:=h.d0 a k;omega
 obtain⟨r,s⟩:=xU b;have v:=RR m.2 b;obtain⟨w,L,M,_,N⟩:=RP h ⟨j,k⟩ m A v;refine⟨⟨j,k⟩,m,r,w,⟨⟨by rw[r];exact h.ok.Q,by rw[r];exact h.ok.ret,λi g=>?_⟩,λi g f=>?_,λi g=>?_,λx=>?_,L,M,λi g=>?_⟩,v,λi g=>?_⟩
 .rw[s];by_cases c:i=a5 a
  .subst c;rw[dN];exact u
  .rw[dP c];exact h.ok.up i g
 .rw[r]at f;rw[s];by_cases c:i=a5 a
  .subst c;rw[(p7 j.2).2]at f;cases f
  .rw[dP c];exact h.K i g f
 .rw[r,s];by_cases c:i=a5 a
  .subst c;rw[dN];exact .inr m.2
  .rw[dP c];exact h.up i g
 .rcases N x with e|⟨y,O,P,e⟩
  .rw[e];exact h.d5 x
  .rw[e];exact C y O P
 .rw[s];by_cases c:i=a5 a
  .subst c;rw[dN];have:=h.rg _ g;exact⟨this.q0,this.q1,this.ok,this.pg,this.mx⟩
  .rw[dP c];exact h.rg i g
 .rw[s];by_cases c:i=a5 a
  .subst c;rw[dN]
  .rw[dP c]
def eG(t:Tb):List Int:=(List.range 32).flatMap λi=>dm (t.r i).rs
def DS{α:Type}{f:Nat->List α}{i:Nat}{y:List α}:∀{n:Nat},i<n->((List.range n).flatMap (a7 f i y)++f i).Perm ((List.range n).flatMap f++y)
 |0,h=>a3
 |n+1,h=>by
  rw[mC,mA,mA,Ml,Ml];by_cases c:i<n
  .have b:=DS (f:=f) (y:=y) c;rw[dP (show n≠i by omega)];refine(iJ _ _ _▸(Gs _ sW).trans ?_);rw[<-iJ];refine(b.append_right _).trans ?_;rw[iJ,iJ];exact Gs _ sW
  .obtain rfl:i=n:=a3
   rw[dN];have:(List.range i).flatMap (a7 f i y)=(List.range i).flatMap f:=by
    rw[uM,uM]
    congr 1
    exact tK λj a=>dP (by have:=gZ.1 a;omega)
   rw[this,iJ,iJ];exact Gs _ sW
def wb{f g:Nat->List α}:∀{n:Nat},(∀i,i<n->f i=g i)->(List.range n).flatMap f=(List.range n).flatMap g:=λ{n} h=>by
 rw[uM,uM]
 congr 1
 exact tK λj a=>h j (gZ.1 a)
def xX(h:∀i,i<32->(t'.r i).rs=(t.r i).rs):eG t'=eG t:=wb λi a=>by rw[h i a]
def R7(a:i<32)(h:t'.r=a7 t.r i r):(eG t'++dm (t.r i).rs).Perm (eG t++dm r.rs):=by
 have e:eG t'=(List.range 32).flatMap (a7 (λi=>dm (t.r i).rs) i (dm r.rs)):=wb λj b=>by
  rw[h];by_cases c:j=i
  .subst c;rw[dN,dN]
  .rw[dP c,dP c]
 rw[e];exact DS a
def SD(a:hQ t x r=0):(eG (hZ t x r)++dm (t.r (a5 x)).rs).Perm (eG t++dm r.rs):=R7 (r:={r with up:=(t.r (a5 x)).up}) (iq x) (BK a).1
def su(a:bk t.b x=true):(b1 t x).rs=(t.r (a5 x)).rs/\(b1 t x).E=(t.r (a5 x)).E/\(b1 t x).len=(t.r (a5 x)).len:=by unfold b1;rw[a];exact⟨rfl,rfl,rfl⟩
def pF(h:TInv t d)(x:Int):RgI (b1 t x):=by
 unfold b1;cases b:bk t.b x with
 |true=>have:=h.rg _ (iq x);exact⟨this.q0,this.q1,this.ok,this.pg,this.mx⟩
 |false=>exact(show RgI iY from⟨a8,a8,(λy a=>by cases a),a8,rfl⟩)
def we(t:Tb)(l:List Int):List Rn:=l.flatMap λy=>(t.r (a5 y)).rs
def Pe{l:List Int}(h:∀x∈l,bk t.b x=true):g7 t l=we t l:=by
 unfold g7 we;rw[uM,uM]
 congr 1
 exact tK λy a=>(su (h y a)).1
def HV:∀{l:List Int} {t:Tb},j8 t.b->m8 t.b->l.Nodup->(∀x∈l,eW t x)->(eG t).Perm (eG (gT t l)++dm (we t l))
 |[],t,_,_,_,_=>by simp[gT,we,dm]
 |x::l,t,j,o,c,b=>by
  have d:=b x (fQ ..);have c:=pW.1 c;obtain⟨p,q,r⟩:=BZ j o d.1;have g:(jZ t x).b=e8 t.b x:=by unfold jZ;rw[d.2];rfl
  obtain⟨s,n,u⟩:=Ou d.2;have i:(jZ t x).r=a7 t.r (a5 x) iY:=by rw[n]
  have k:=HV (l:=l) (t:=jZ t x) (g▸p) (g▸q) c.2 λy a=>⟨(b y (fA _ a)).1,by
   rw[g];exact(r y (b y (fA _ a)).1).2 ⟨(b y (fA _ a)).2,λe=>c.1 (e▸a)⟩⟩
  have m:we (jZ t x) l=we t l:=by
   unfold we;rw[uM,uM]
   congr 1
   refine tK λy a=>?_;have f:=b y (fA _ a);rw[i,dP λe=>c.1 (by rw[<-rH j f.1 d.1 f.2 d.2 e];exact a)]
  have h:=R7 (t:=t) (t':=jZ t x) (iq x) i;show(eG t).Perm (eG (gT (jZ t x) l)++dm ((t.r (a5 x)).rs++we t l));rw[m]at k;rw[oE];have h:(eG (jZ t x)++dm (t.r (a5 x)).rs).Perm (eG t):=by simpa[dm,iY]using h
  refine h.symm.trans ((k.append_right _).trans ?_);rw[iJ];exact Gs _ sW
def AE(h:TInv t d)(b:eW t a):(eG t).Perm (eG (gT t (dJ t a))++dm (g7 t (dJ t a))):=by rw[wN b.2,Pe λx c=>((oM h b).1 c).1.2];exact HV h.ok.Q h.ok.ret (wG h.ok h.rk (g8 b.2)) λx c=>((oM h b).1 c).1
end Sx
end Go.Proofs.YtfbhkfhbnkncoaaGreatDoor
