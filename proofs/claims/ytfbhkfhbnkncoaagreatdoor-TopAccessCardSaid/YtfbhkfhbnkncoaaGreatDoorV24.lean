import Derived.Test.YtfbhkfhbnkncoaaGreatDoorV23
set_option linter.all false
set_option maxRecDepth 100000
set_option maxHeartbeats 8000000
namespace Go.Proofs.YtfbhkfhbnkncoaaGreatDoor
open Go.RowKit Tryz
open Tryz renaming prog→a6
namespace Sx
attribute [local irreducible] b6 eF fR ez eH eB eM fx dC ec dU dx
section
variable {s:St} {M:Int} {c:Call} {G:Rn} {n:Int} {a:Bool} {v:Nat} {d:Int->Nat}
def XT(h:StOk s d)(f:CallOk s M c):b6 a6 308 [.B 0 []] ⟨[eE (dp s M c G n a) v],[v],[]⟩ (MX (yP s M c)):=by
 refine fm func308 ?_;refine qy (x:=dp s M c G n a) h f.t0 f.r 0 (.inl rfl) (λb=>?_) λb=>?_
 .refine fg (List.range 24) [(18,0)] (a4 ⟨wj f.a,rfl⟩ (Ai rfl (UP s.t c.r (dn c.a 8)) ?_));rintro o ⟨y,rfl,g⟩;refine kv (kr s.t c.r (dn c.a 8)) _ (λe=>?_) λe=>?_
  .have g:=g e;exact a4 rfl (kL (r:=⟨0,0,y⟩) (x':=dp s M c G n a) (by rw[g];exact(b9 b).trans (b9 e)))
  .exact a4 rfl (fL (x':=dp s M c G n a) ((b9 b).trans (eR e)))
 .exact a4 rfl (fL (x':=dp s M c G n a) (eR b))
def zcM(l:StOk s d)(k:CallOk s M c):b6 a6 307 [.B 0 []] ⟨[eE (dp s M c G n a) v],[v],[]⟩ (MX (xW s M c)):=by
 have p:vO {b1 s.t c.r with cells:=a7 (b1 s.t c.r).cells (dn c.a 8).toNat c.s}:=((pF l.t c.r).cells (b1 s.t c.r).up _).I6;have f:=VJ s.t c.r (dn c.a 8) c.s ((dy s.o s.t c.s).kind==3) l.t.rk p;have o:xW s M c=dV (eh s M c.r 1) (dV (bif c.s != 0 then eh s M c.s 0 else 0) (dV (iX s.t c.r (dn c.a 8) c.s ((dy s.o s.t c.s).kind==3)) (nw {s with t:=oI s.t c.r (dn c.a 8) c.s}))):=rfl;rw[o];generalize iX s.t c.r (dn c.a 8) c.s ((dy s.o s.t c.s).kind==3)=e at f;refine fm func307 ?_;refine qy (x:=dp s M c G n a) l k.t0 k.r 1 (.inr (.inl rfl)) (λi=>?_) λi=>?_
 .apply a4<;>intro j
  .have j:(c.s != 0)=true:=j;refine qy (x:=dp s M c G n a) l k.t0 k.s' 0 (.inl rfl) (λm=>?_) λm=>?_
   .have b:(bif c.s != 0 then eh s M c.s 0 else 0)=0:=by rw[j];exact m
    refine fg (List.range 50) [(47,140737488355327),(48,70368744177664)] (a4 ⟨wj k.a,rfl⟩ (c9 (tN s.o s.t c.s l.t.rk) (λ_ h=>h) (c9 f (λ_ h=>h) (fy ?_))))
    refine kv e _ (λg=>?_) λg=>?_
    .refine a4 rfl (kL (r:=⟨0,0,0⟩) (x':=my (dp s M c G n a) (bif e==0 then oI s.t c.r (dn c.a 8) c.s else s.t)) ?_);rw[b9 i,b9 b,b9 g,g];rfl
    .exact a4 rfl (fL (x':=dp s M c G n a) ((b9 i).trans ((b9 b).trans (eR g))))
   .exact a4 rfl (fL (x':=dp s M c G n a) ((b9 i).trans (by rw[j];exact eR m)))
  .have j:(c.s != 0)=false:=j;have b:(bif c.s != 0 then eh s M c.s 0 else 0)=0:=by rw[j];rfl
   refine fg (List.range 50) [(47,140737488355327),(48,70368744177664)] (a4 ⟨wj k.a,rfl⟩ (c9 (tN s.o s.t c.s l.t.rk) (λ_ h=>h) (c9 f (λ_ h=>h) (fy ?_))))
   refine kv e _ (λg=>?_) λg=>?_
   .refine a4 rfl (kL (r:=⟨0,0,0⟩) (x':=my (dp s M c G n a) (bif e==0 then oI s.t c.r (dn c.a 8) c.s else s.t)) ?_);rw[b9 i,b9 b,b9 g,g];rfl
   .exact a4 rfl (fL (x':=dp s M c G n a) ((b9 i).trans ((b9 b).trans (eR g))))
 .exact a4 rfl (fL (x':=dp s M c G n a) (eR i))
end
section
variable {s:St} {M:Int} {c:Call} {G:Rn} {n:Int} {a:Bool} {v:Nat} {d:Int->Nat}
def PY{s:St}{a:Int}(h:ki s a=0):a<8/\s.alive a.toNat=true:=by
 unfold ki no at h;cases b:(decide (a<8)&&s.alive a.toNat)with
 |true=>simpa using b
 |false=>rw[b]at h;cases h
def zdm(o:StOk s d)(q:∀a,a<8->BoxOk (s.box a))(l:CallOk s M c):b6 a6 304 [.B 0 []] ⟨[eE (dp s M c G n a) v],[v],[]⟩ (MX (pK s M c)):=by
 refine fm func304 ?_;refine Dw (x:=dp s M c G n a) l.a (λe=>?_) λe=>?_
 .have y:=PY e;have i:0<=c.a/\c.a<8:=⟨l.a.1,y.1⟩;refine nv (decide (c.b<=1)) 2 _ (λt=>?_) λt=>?_
  .have k:no (decide (c.b<=1)) 2=0:=by rw[t];rfl
   refine fg (List.range 32) [(30,1073741823),(31,0)] (fy ?_)
   apply a4<;>intro f
   .have f:(jz M c).sh=true:=f;refine qv (IJ (x:=dp s M c G n a) o.t l.t0 (h:=c.r)) rfl (λb u=>?_) λb A u=>?_
    .refine fg (List.range 30) [(27,134217727),(28,67108864)] (c9 (L8 s.o s.t c.r c.a o.t.rk) (λ_ h=>h) (fy ?_))
     apply a4<;>intro g
     .have g:(iw s.o s.t c.r c.a true==0)=true:=g;refine fg (List.range 19) [(16,65535),(17,32768)] (a4 i (c9 (CN (s.box c.a.toNat) (jz M c) (q _ a3)) (λ_ h=>h) (iF (by first|exact(show _/\_ from⟨rfl,rfl⟩)|exact(show _/\_ from⟨i,rfl,rfl⟩)) (kT ?_ ?_))));rotate_left
      .repeat' (first|exact trivial|refine iF (by first|exact(show _/\_ from⟨rfl,rfl⟩)|exact(show _/\_ from⟨i,rfl,rfl⟩)) ?_)
      refine kv (j6 (s.box c.a.toNat)) _ (λj=>?_) λj=>?_
      .refine dL 11 (a4 i ?_);conv=>whnf
       refine⟨eE (nD (nU (dp s M c G n a) (gL s.o s.t c.r c.a true)) c.a.toNat (jq (s.box c.a.toNat) (jz M c))) _,vV (nU (dp s M c G n a) (gL s.o s.t c.r c.a true)) _ _ _,?_⟩;refine a4 rfl (kL (r:=⟨0,0,0⟩) (x':=nD (nU (dp s M c G n a) (gL s.o s.t c.r c.a true)) c.a.toNat (jq (s.box c.a.toNat) (jz M c))) ?_);rw[pK,b9 e,b9 k,f,dZ,b9 b,g,dZ];exact b9 j
      .refine a4 rfl (fL (x':=nU (dp s M c G n a) (gL s.o s.t c.r c.a true)) ?_);rw[pK,b9 e,b9 k,f,dZ,b9 b,g,dZ];exact eR j
     .have g:(iw s.o s.t c.r c.a true==0)=false:=g;refine fg (List.range 19) [(16,65535),(17,32768)] (a4 i (c9 (CN (s.box c.a.toNat) (jz M c) (q _ a3)) (λ_ h=>h) (iF (by first|exact(show _/\_ from⟨rfl,rfl⟩)|exact(show _/\_ from⟨i,rfl,rfl⟩)) (kT ?_ ?_))));rotate_left
      .repeat' (first|exact trivial|refine iF (by first|exact(show _/\_ from⟨rfl,rfl⟩)|exact(show _/\_ from⟨i,rfl,rfl⟩)) ?_)
      refine kv (j6 (s.box c.a.toNat)) _ (λj=>?_) λj=>?_
      .refine dL 11 (a4 i ?_);conv=>whnf
       refine⟨eE (nD (dp s M c G n a) c.a.toNat (jq (s.box c.a.toNat) (jz M c))) _,vV (dp s M c G n a) _ _ _,?_⟩;refine a4 rfl (kL (r:=⟨0,0,0⟩) (x':=nD (dp s M c G n a) c.a.toNat (jq (s.box c.a.toNat) (jz M c))) ?_);rw[pK,b9 e,b9 k,f,dZ,b9 b,g,eQ];exact b9 j
      .refine a4 rfl (fL (x':=dp s M c G n a) ?_);rw[pK,b9 e,b9 k,f,dZ,b9 b,g,eQ];exact eR j
    .exact a4 rfl (fL ((b9 e).trans ((b9 k).trans (by rw[f];exact eR b))))
   .have f:(jz M c).sh=false:=f;apply a4<;>intro b
    .have b:(c.r != 0)=true:=b;refine qy (x:=dp s M c G n a) o l.t0 l.r 2 (.inr (.inr rfl)) (λg=>?_) λg=>?_
     .refine qv (Ky (x:=dp s M c G n a) o.t l.r) rfl (λm u=>?_) λm A u=>?_
      .have z:=(qc g).1;obtain⟨_,_,C,w,_⟩:=v5 o.t ⟨l.r,z⟩;refine fg (List.range 24) [(21,2097151),(22,1048576)] (c9 (UX s.o (fC s.t c.r) c.r w.rk) (λ_ h=>h) (fy ?_))
       refine kv (gR (fC s.t c.r) c.r 0) _ (λp=>?_) λp=>?_
       .refine fg (List.range 19) [(16,65535),(17,32768)] (a4 i (c9 (CN (s.box c.a.toNat) (jz M c) (q _ a3)) (λ_ h=>h) (iF (by first|exact(show _/\_ from⟨rfl,rfl⟩)|exact(show _/\_ from⟨i,rfl,rfl⟩)) (kT ?_ ?_))));rotate_left
        .repeat' (first|exact trivial|refine iF (by first|exact(show _/\_ from⟨rfl,rfl⟩)|exact(show _/\_ from⟨i,rfl,rfl⟩)) ?_)
        refine kv (j6 (s.box c.a.toNat)) _ (λj=>?_) λj=>?_
        .refine dL 11 (a4 i ?_);conv=>whnf
         refine⟨eE (nD (nU (my (dp s M c G n a) (fC s.t c.r)) (iI s.o (fC s.t c.r) c.r 0 ⟨2,0,0⟩)) c.a.toNat (jq (s.box c.a.toNat) (jz M c))) _,vV (nU (my (dp s M c G n a) (fC s.t c.r)) (iI s.o (fC s.t c.r) c.r 0 ⟨2,0,0⟩)) _ _ _,?_⟩;refine a4 rfl (kL (r:=⟨0,0,0⟩) (x':=nD (nU (my (dp s M c G n a) (fC s.t c.r)) (iI s.o (fC s.t c.r) c.r 0 ⟨2,0,0⟩)) c.a.toNat (jq (s.box c.a.toNat) (jz M c))) ?_);rw[pK,b9 e,b9 k,f,eQ,b,dZ,b9 g,b9 m,b9 p];exact b9 j
        .refine a4 rfl (fL (x':=nU (my (dp s M c G n a) (fC s.t c.r)) (iI s.o (fC s.t c.r) c.r 0 ⟨2,0,0⟩)) ?_);rw[pK,b9 e,b9 k,f,eQ,b,dZ,b9 g,b9 m,b9 p];exact eR j
       .exact a4 rfl (fL (x':=my (dp s M c G n a) (fC s.t c.r)) ((b9 e).trans ((b9 k).trans (by rw[f,b,eQ,dZ];exact(b9 g).trans ((b9 m).trans (eR p))))))
      .exact a4 rfl (fL ((b9 e).trans ((b9 k).trans (by rw[f,b,eQ,dZ];exact(b9 g).trans (eR m)))))
     .exact a4 rfl (fL (x':=dp s M c G n a) ((b9 e).trans ((b9 k).trans (by rw[f,b,eQ,dZ];exact eR g))))
    .have b:(c.r != 0)=false:=b;refine fg (List.range 19) [(16,65535),(17,32768)] (a4 i (c9 (CN (s.box c.a.toNat) (jz M c) (q _ a3)) (λ_ h=>h) (iF (by first|exact(show _/\_ from⟨rfl,rfl⟩)|exact(show _/\_ from⟨i,rfl,rfl⟩)) (kT ?_ ?_))));rotate_left
     .repeat' (first|exact trivial|refine iF (by first|exact(show _/\_ from⟨rfl,rfl⟩)|exact(show _/\_ from⟨i,rfl,rfl⟩)) ?_)
     refine kv (j6 (s.box c.a.toNat)) _ (λj=>?_) λj=>?_
     .refine dL 11 (a4 i ?_);conv=>whnf
      refine⟨eE (nD (dp s M c G n a) c.a.toNat (jq (s.box c.a.toNat) (jz M c))) _,vV (dp s M c G n a) _ _ _,?_⟩;refine a4 rfl (kL (r:=⟨0,0,0⟩) (x':=nD (dp s M c G n a) c.a.toNat (jq (s.box c.a.toNat) (jz M c))) ?_);rw[pK,b9 e,b9 k,f,eQ,b,eQ];exact b9 j
     .refine a4 rfl (fL (x':=dp s M c G n a) ?_);rw[pK,b9 e,b9 k,f,eQ,b,eQ];exact eR j
  .exact a4 rfl (fL (x':=dp s M c G n a) ((b9 e).trans (by rw[t];rfl)))
 .exact a4 rfl (fL (x':=dp s M c G n a) (eR e))
end
end Sx
namespace Sx
variable{b:fG}{e h y:Int}{k:Toks}
def VO{a b c:SV}(h:∀O J x,fJ O J b x->fJ O J c x):(T2 a b).le (T2 a c):=λO J x ⟨n,g,i⟩=>by obtain⟨j,l,rfl,d,k,m,rfl,e,f⟩:=g;exact⟨_,⟨j,_,rfl,d,k,_,rfl,h _ _ _ e,f⟩,i⟩
def Ph(a:bk (e8 b h) y=true):bk b y=true/\(b (a5 y)).gen=((e8 b h) (a5 y)).gen:=by
 unfold e8 at a ⊢;cases d:bk b h with
 |false=>rw[d]at a;exact⟨a,rfl⟩
 |true=>
  rw[d,dZ]at a;rw[dZ];by_cases c:a5 y=a5 h
  .have:=(p7 a).2;rw[c,dN]at this;cases e:((b (a5 h)).gen==8388607)<;>rw[e]at this<;>cases this
  .rw[IB c]at a;rw[dP c];exact⟨a,rfl⟩
def IW(l:y∈dI (e8 b h)):y∈dI b:=by
 have j:=(Ad (b:=e8 b h)).1 l;refine(Ad (b:=b)).2 ?_;obtain⟨i,e,d,rfl⟩:=j;have a:((e8 b h) i).L=true:=by rw[vm e]at d;simpa using d
 have g:(e8 b h) i=b i:=by
  unfold e8 at a ⊢;cases k:bk b h with
  |false=>rfl
  |true=>
   rw[k,dZ]at a;rw[dZ];by_cases c:i=a5 h
   .subst c;rw[dN]at a;cases f:((b (a5 h)).gen==8388607)<;>rw[f]at a<;>cases a
   .rw[dP c]
 exact⟨i,e,by rw[vm e]at d ⊢;rw[<-g];exact d,by rw[g]⟩
def WF{x:Int}(d:x≠0)(b:y∈nC ⟨e8 k.b h,k.s⟩ x):y∈nC k x:=by
 unfold nC eg at b ⊢;rw[jM]at b ⊢;refine⟨IW b.1,?_⟩;have a:=b.2;unfold dr at a ⊢;cases c:bk (e8 k.b h) y with
 |true=>rw[c]at a;rw[(Ph c).1];exact a
 |false=>
  rw[c]at a;have:(0:Int)=x:=by simpa[sM]using a
  exact b3 this.symm d
def TkT.void(h:TkT k)(y:Int):TkT ⟨e8 k.b y,k.s⟩:=by obtain⟨F,u,A,C⟩:=h.ex;refine⟨⟨F,u,A,λx z j f=>C x z j (WF j f)⟩,λx z f=>?_⟩;have E:z∈dI k.b:=IW (jM.1 f).1;exact h.z (dr k z).A z (jM.2 ⟨E,eA⟩)
def TkT.wo:∀(l:List Int) {k:Toks},TkT k->TkT (kD k l)
 |[],_,h=>h
 |y::l,k,h=>TkT.wo l (k:=⟨e8 k.b y,k.s⟩) (h.void y)
def TkT.gone:∀(l:List Int) {k:Toks},TkT k->TkT (ke k l)
 |[],_,h=>h
 |y::l,k,h=>TkT.gone l (TkT.wo _ h)
def TkT.ret(h:TkT k)(y:Int):TkT (gI k y):=by
 unfold gI;cases bk k.b y with
 |true=>exact TkT.wo _ h
 |false=>exact h
def zeq(h:l8 k)(y:Int):l8 (gI k y):=by
 unfold gI;cases bk k.b y with
 |true=>exact La _ h
 |false=>exact h
structure StD (s:St):Prop where
 t:∃d,TInv s.t d
 k:l8 s.k
 r:TkT s.k
def StD.ok{s:St}(h:StD s):∃d,StOk s d:=by obtain⟨d,f⟩:=h.t;exact⟨d,f,h.k⟩
def YL{t:Tb}{d:Int->Nat}(c:TInv t d)(f:di h):∃a,TInv (gT t (dJ t h)) a:=by
 cases b:bk t.b h with
 |true=>obtain⟨_,a,e,_⟩:=tf c ⟨f,b⟩;exact⟨a,e⟩
 |false=>
  have:dJ t h=[]:=by unfold dJ;rw[b];rfl
  rw[this];exact⟨d,c⟩
def StD.gone{s:St}(h:StD s)(j:di y):StD (jG s y):=by obtain⟨d,f⟩:=h.t;exact⟨YL f j,K8 _ h.k,TkT.gone _ h.r⟩
def StD.own{s:St}(h:StD s)(y t:Int):StD (rP s y t):=⟨h.t,h.k,h.r⟩
def StD.ret{s:St}(h:StD s)(y:Int):StD {s with k:=gI s.k y}:=⟨h.t,zeq h.k y,h.r.ret y⟩
def StD.F6{s:St}(h:StD s)(f:di y)(t:Int):StD (iv s y t).1:=by
 unfold iv;cases kY (jH s.o s.t y t false).toNat==0 with
 |true=>exact StD.gone (s:={s with o:=gL s.o s.t y t false}) ⟨h.t,h.k,h.r⟩ f
 |false=>exact⟨h.t,h.k,h.r⟩
def Iw{s:St}(h:StD s)(b:di y):(j3 s y).length<=2112:=by obtain⟨d,a⟩:=h.t;have c:=Ix a (dJ s.t y);have e:=Lk a b;unfold j3;omega
def Ye{s:St}(h:StD s)(a:di y)(t:Int):(iv s y t).2.length<=2112:=by
 unfold iv;cases kY (jH s.o s.t y t false).toNat==0 with
 |true=>exact Iw h a
 |false=>exact dG _
def AA{α:Type}(f:St->α->Except Int (St×List Rn)):∀(l m:List α) (s:St) (b:List Rn),gQ f (l++m) s b=match gQ f l s b with
  | .ok (W,a)=>gQ f m W a
  | .error e=>.error e
 |[],m,s,b=>rfl
 |x::l,m,s,b=>by
  show(match f s x with
   | .ok (W,a)=>gQ f (l++m) W (b++a)
   | .error e=>.error e)=_
  simp only[gQ];cases f s x with
  |ok p=>obtain⟨W,a⟩:=p;exact AA f l m W (b++a)
  |error e=>rfl
abbrev si(s:St)(M:Int)(c:Call)(G:Rn)(n:Int)(a:Bool)(b:List Rn):Cl:=⟨s,M,c,G,n,a,b⟩
noncomputable def yQ(s:St)(t:Int)(M:Int)(c:Call)(G:Rn)(n:Int)(a:Bool):Except Int Cl:=match lh s t with
 | .ok (W,b)=>.ok (si W M c G n a b)
 | .error e=>.error e
def XW{s:St}{t:Int}{i:Nat}(h:gQ iP ((j4 (s.box t.toNat) (s.box t.toNat).n.toNat).take i) (mb s t) []=.error e):lh s t=.error e:=by unfold lh;rw[<-nF i (j4 (s.box t.toNat) (s.box t.toNat).n.toNat),AA,h]
def XX{s E:St}{t:Int}{S:List Rn}(h:gQ iP (j4 (s.box t.toNat) (s.box t.toNat).n.toNat) (mb s t) []=.ok (E,S)):lh s t=gQ (jY t) (fj (jP (fZ E t) (fj (fZ E t).o (fZ E t).t (gf t) (dW (fZ E t).t.b)) S).1.o (jP (fZ E t) (fj (fZ E t).o (fZ E t).t (gf t) (dW (fZ E t).t.b)) S).1.t (gA t) (dW (jP (fZ E t) (fj (fZ E t).o (fZ E t).t (gf t) (dW (fZ E t).t.b)) S).1.t.b)) (jP (fZ E t) (fj (fZ E t).o (fZ E t).t (gf t) (dW (fZ E t).t.b)) S).1 (jP (fZ E t) (fj (fZ E t).o (fZ E t).t (gf t) (dW (fZ E t).t.b)) S).2:=by unfold lh;rw[h]
def KM:∀(l:List Int) {s:St},StD s->StD {s with k:=l.foldl gI s.k}
 |[],_,h=>h
 |y::l,s,h=>KM l (s:={s with k:=gI s.k y}) (h.ret y)
attribute [local irreducible] b6 eF fR ez eH eB eM fx dC ec dU dx
section
variable {s:St} {M:Int} {c:Call} {G:Rn} {n:Int} {a:Bool} {v:Nat} {t:Int}
def Oj(hs:StD s)(hB:BoxOk (s.box t.toNat))(ht:0<=t/\t<8)(hM:∀m∈j4 (s.box t.toNat) (s.box t.toNat).n.toNat,di m.D/\0<=m.J/\m.J<8):b6 a6 289 [.B 0 [],I t] ⟨[eE (dp s M c G n a) v],[v],[]⟩ (MR (dp s M c G n a) (yQ s t M c G n a) (.tu (.d .un))):=by
 have hD:=(UQ hB).out (VO (a:=.d (lT ⟨λ_=>mz,0,0,true⟩)) (iE uC uV mz (j4 (s.box t.toNat) (s.box t.toNat).n.toNat)));have o:=λi e=>XW (s:=s) (t:=t) (e:=e) (i:=i);have j:=λE S=>XX (s:=s) (E:=E) (t:=t) (S:=S);have ah:(j4 (s.box t.toNat) (s.box t.toNat).n.toNat).length<=4:=by have:=hB.n1;unfold j4;simp;omega
 unfold yQ;generalize lh s t=DX at o j ⊢;generalize j4 (s.box t.toNat) (s.box t.toNat).n.toNat=L at hD hM o j ah;refine fm func289 ?_;conv=>whnf
 refine⟨ht,?_⟩;conv=>whnf
 refine bo (hD) ?_;conv=>whnf
 refine dL 7 ?_;conv=>whnf
 refine⟨ht,?_⟩;conv=>whnf
 refine⟨eE (nD (dp s M c G n a) t.toNat ⟨λ_=>mz,0,0,true⟩) v,vV _ _ _ _,?_⟩;conv=>whnf
 refine⟨ht,?_⟩;conv=>whnf
 refine⟨eE (si (mb s t) M c G n a []) v,MO (nD (dp s M c G n a) t.toNat ⟨λ_=>mz,0,0,true⟩) _ _ _,?_⟩;conv=>whnf
 refine b2 (x:=(L.length:Int)) ?_;conv=>whnf
 refine dX c6 (λ(q:Nat×St×List Rn×Nat)=>(q.1<=L.length/\gQ iP (L.take q.1) (mb s t) []=.ok (q.2.1,q.2.2.1))/\StD q.2.1/\q.2.2.1.length<=2112*q.1) (λq=>L.length - q.1) (λq=>[(40,I q.1)]) (λq=>⟨[eE (si q.2.1 M c G n a q.2.2.1) q.2.2.2,.d (lT ⟨λ_=>mz,0,0,true⟩)],[q.2.2.2],[]⟩) (0,mb s t,[],v) ⟨⟨dG _,rfl⟩,⟨hs.t,hs.k,hs.r⟩,a9 _⟩ ⟨rfl,trivial⟩ rfl (λi=>⟨a9 _,a9 _,a9 _⟩) ?_;rintro⟨i,E,S,v1⟩ ⟨⟨hi,hf⟩,w,C⟩;obtain⟨d,hd⟩:=w.ok;conv=>whnf
 apply a4<;>intro K
 .have f:i<L.length:=by
   have:(i:Int)<L.length:=b8 K
   omega
  have Z:L[i]?=some (L.getD i mz):=by rw[eu,ed f];rfl
  obtain⟨T,ai⟩:=hM _ (oU Z);have z:L.take (i+1)=L.take i++[L.getD i mz]:=by rw[js,Z];rfl
  have p:gQ iP (L.take (i+1)) (mb s t) []=match iP E (L.getD i mz)with
   | .ok (W,b')=>.ok (W,S++b')
   | .error e=>.error e:=by
   rw[z,AA,hf];simp only[gQ];cases iP E (L.getD i mz)<;>rfl
  have o:=o (i+1);rw[p]at o;obtain⟨m,J⟩:∃m,m=L.getD i mz:=⟨_,rfl⟩;rw[<-J]at T ai p o;conv=>whnf
  refine fS (i:=i) (n:=L.length) ?_;conv=>whnf
  apply a4<;>intro Y
  .have Y:(m.D==0||m.sh)=true:=by rw[J];exact Y
   have P:iP E m=.ok (E,[]):=by unfold iP;rw[Y];rfl
   conv=>whnf
   refine b2 (x:=(i:Int)+1) ?_;conv=>whnf
   refine⟨(i+1,E,S,v1),⟨⟨f,?_⟩,w,?_⟩,?_,⟨rfl,trivial⟩,⟨rfl,rfl⟩,rfl⟩
   .rw[p,P];exact dE (λb=>Except.ok (E,b)) (gk S)
   .show S.length<=2112*(i+1);have:S.length<=2112*i:=C;omega
   .show L.length -(i+1)<L.length - i;omega
  .have Y:(m.D==0||m.sh)=false:=by rw[J];exact Y
   conv=>whnf
   refine dL 9 ?_;conv=>whnf
   have aj:0<=(L.getD i mz).J/\(L.getD i mz).J<8:=by rw[<-J];exact ai
   refine⟨aj,?_⟩;conv=>whnf
   apply a4<;>intro h2
   .have h2:E.alive m.J.toNat=true:=by rw[J];exact h2
    conv=>whnf
    refine qv (Bo (x:=si E M c G n a S) (v:=v1) hd.t (h:=(L.getD i mz).D) (M:=(L.getD i mz).J)) rfl (λr O=>?_) (λr x' O=>?_)
    .have r:gR E.t m.D m.J=0:=by rw[J];exact r
     have P:iP E m=.ok (rP E m.D m.J,[]):=by unfold iP;rw[Y,h2];exact b9 r
     conv=>whnf
     refine b2 (x:=(i:Int)+1) ?_;conv=>whnf
     refine⟨(i+1,rP E m.D m.J,S,O),⟨⟨f,?_⟩,w.own _ _,?_⟩,?_,⟨rfl,trivial⟩,⟨?_,rfl⟩,rfl⟩
     .rw[p,P];exact dE (λb=>Except.ok (rP E m.D m.J,b)) (gk S)
     .show S.length<=2112*(i+1);have:S.length<=2112*i:=C;omega
     .show L.length -(i+1)<L.length - i;omega
     .rw[J];rfl
    .have r:gR E.t m.D m.J≠0:=by rw[J];exact r
     have P:iP E m=.error (gR E.t m.D m.J):=by unfold iP;rw[Y,h2];exact eR r
     conv=>whnf
     exact⟨rfl,vj (x':=x') (e:=gR E.t (L.getD i mz).D (L.getD i mz).J) (by rw[o _ (by rw[P]),J])⟩
   .have h2:E.alive m.J.toNat=false:=by rw[J];exact h2
    have P:iP E m=.ok (jG E m.D,j3 E m.D):=by unfold iP;rw[Y,h2];rfl
    conv=>whnf
    refine w6 (Eb (x:=si E M c G n a S) (v:=v1) hd (h:=(L.getD i mz).D) (J▸T) (by show S.length<=_;have:S.length<=2112*i:=C;omega)) rfl (λx' O hx=>?_) (λe x' O hx=>by cases hx);cases hx;conv=>whnf
    refine b2 (x:=(i:Int)+1) ?_;conv=>whnf
    refine⟨(i+1,jG E m.D,S++j3 E m.D,O),⟨⟨f,?_⟩,w.gone T,?_⟩,?_,⟨rfl,trivial⟩,⟨?_,rfl⟩,rfl⟩
    .rw[p,P]
    .show(S++j3 E m.D).length<=2112*(i+1);have:S.length<=2112*i:=C;have:=Iw (s:=E) w T;rw[ew];omega
    .show L.length -(i+1)<L.length - i;omega
    .rw[J];rfl
 .have f:i=L.length:=by
   have:¬((i:Int)<L.length):=b8 K
   omega
  subst f;rw[gv]at hf;have j:=j E S hf;conv=>whnf
  have hT:=(MG hd.k t).out (wR (l:=eg E.k (jk t) (dI E.k.b)));have an:(eg E.k (jk t) (dI E.k.b)).length<=32:=eY (qY _ _ _) (qb _);have P:fZ E t={E with k:=(eg E.k (jk t) (dI E.k.b)).foldl gI E.k}:=rfl;rw[P]at j;clear P o hM;generalize eg E.k (jk t) (dI E.k.b)=l2 at hT an j;refine bo (hT) ?_;conv=>whnf
  refine b2 (x:=(l2.length:Int)) ?_;conv=>whnf
  have C:S.length<=2112*L.length:=C;refine dX c6 (λi=>i<=l2.length) (λi=>l2.length - i) (λi=>[(82,I i)]) (λi=>⟨[eE (si {E with k:=(l2.take i).foldl gI E.k} M c G n a S) v1,.d (lT ⟨λ_=>mz,0,0,true⟩)],[v1],[]⟩) 0 (dG _) ⟨rfl,trivial⟩ rfl (λi=>⟨a9 _,a9 _,a9 _⟩) ?_;intro i hi;conv=>whnf
  apply a4<;>intro K
  .have f:i<l2.length:=by
    have:(i:Int)<l2.length:=b8 K
    omega
   have ae:=KM (s:=E) (l2.take i) w;have z:l2.take (i+1)=l2.take i++[l2.getD i 0]:=by rw[js,ed f,eu,ed f];rfl
   have ek:(l2.take (i+1)).foldl gI E.k=gI ((l2.take i).foldl gI E.k) (l2.getD i 0):=by rw[z,pq];rfl
   obtain⟨tr,Bd,k1,k2⟩:=ae.r.ex;obtain⟨u,hu,hR⟩:=MH ae.k k1 k2 ae.r.z (l2.getD i 0);conv=>whnf
   refine fS (i:=i) (n:=l2.length) ?_;conv=>whnf
   refine bo (hR) ?_;conv=>whnf
   refine b2 (x:=(i:Int)+1) ?_;conv=>whnf
   refine⟨i+1,f,a3,⟨rfl,trivial⟩,⟨?_,rfl⟩,rfl⟩;exact g9 (ce (dE (λk=>eE (si {E with k:=k} M c G n a S) v1) ek.symm) rfl) rfl rfl
  .have f:i=l2.length:=by
    have:¬((i:Int)<l2.length):=b8 K
    omega
   subst f;rw[gv];have ac:=KM (s:=E) l2 w;generalize({E with k:=l2.foldl gI E.k}:St)=s2 at ac j;obtain⟨d2,aa⟩:=ac.ok;have hR:=(ME s2.o s2.t t aa.t.rk).out (wR (l:=fj s2.o s2.t (gf t) (dW s2.t.b)));have ao:(fj s2.o s2.t (gf t) (dW s2.t.b)).length<=32:=eY (x9 _ _ _ _) (oV _);have ak:∀y∈fj s2.o s2.t (gf t) (dW s2.t.b),di y:=λy N=>((mM aa.t.ok.Q aa.t.ok.ret).1 (jM.1 N).1).1;generalize fj s2.o s2.t (gf t) (dW s2.t.b)=l3 at hR ao ak j;conv=>whnf
   refine dL 16 ?_;conv=>whnf
   refine c9 hR (λ_ h=>h) ?_;conv=>whnf
   refine b2 (x:=(l3.length:Int)) ?_;conv=>whnf
   refine dX c6 (λ(q:Nat×St×List Rn×Nat)=>(q.1<=l3.length/\jP s2 (l3.take q.1) S=(q.2.1,q.2.2.1))/\StD q.2.1/\q.2.2.1.length<=8448+2112*q.1) (λq=>l3.length - q.1) (λq=>[(119,I q.1)]) (λq=>⟨[eE (si q.2.1 M c G n a q.2.2.1) q.2.2.2,.d (lT ⟨λ_=>mz,0,0,true⟩)],[q.2.2.2],[]⟩) (0,s2,S,v1) ⟨⟨dG _,rfl⟩,ac,(by show S.length<=8448+2112*0;omega)⟩ ⟨rfl,trivial⟩ rfl (λi=>⟨a9 _,a9 _,a9 _⟩) ?_;rintro⟨i,g,F,v3⟩ ⟨⟨hi,R⟩,U,af⟩;obtain⟨d3,Q⟩:=U.ok;have af:F.length<=8448+2112*i:=af;conv=>whnf
   apply a4<;>intro K
   .have f:i<l3.length:=by
     have:(i:Int)<l3.length:=b8 K
     omega
    have Z:l3[i]?=some (l3.getD i 0):=by rw[eu,ed f];rfl
    have N:=ak _ (oU Z);have z:l3.take (i+1)=l3.take i++[l3.getD i 0]:=by rw[js,Z];rfl
    have V:jP s2 (l3.take (i+1)) S=(jG g (l3.getD i 0),F++j3 g (l3.getD i 0)):=by rw[z];unfold jP at R ⊢;rw[pq,R];rfl
    conv=>whnf
    refine fS (i:=i) (n:=l3.length) ?_;conv=>whnf
    refine w6 (Eb (x:=si g M c G n a F) (v:=v3) Q (h:=l3.getD i 0) N (by show F.length<=_;omega)) rfl (λx' O hx=>?_) (λe x' O hx=>by cases hx);cases hx;conv=>whnf
    refine b2 (x:=(i:Int)+1) ?_;conv=>whnf
    refine⟨(i+1,jG g (l3.getD i 0),F++j3 g (l3.getD i 0),O),⟨⟨f,V⟩,U.gone N,?_⟩,?_,⟨rfl,trivial⟩,⟨rfl,rfl⟩,rfl⟩
    .show(F++j3 g (l3.getD i 0)).length<=8448+2112*(i+1);have hg:=Iw (s:=g) U N;rw[ew];omega
    .show l3.length -(i+1)<l3.length - i;omega
   .have f:i=l3.length:=by
     have:¬((i:Int)<l3.length):=b8 K
     omega
    subst f;rw[gv]at R;have j:DX=gQ (jY t) (fj g.o g.t (gA t) (dW g.t.b)) g F:=by rw[j,R]
    have hH:=(L7 g.o g.t t Q.t.rk).out (wR (l:=fj g.o g.t (gA t) (dW g.t.b)));have ap:(fj g.o g.t (gA t) (dW g.t.b)).length<=32:=eY (x9 _ _ _ _) (oV _);have al:∀y∈fj g.o g.t (gA t) (dW g.t.b),di y:=λy N=>((mM Q.t.ok.Q Q.t.ok.ret).1 (jM.1 N).1).1;generalize fj g.o g.t (gA t) (dW g.t.b)=l4 at hH ap al j;conv=>whnf
    refine dL 16 ?_;conv=>whnf
    refine c9 hH (λ_ h=>h) ?_;conv=>whnf
    refine b2 (x:=(l4.length:Int)) ?_;conv=>whnf
    refine dX c6 (λ(q:Nat×St×List Rn×Nat)=>(q.1<=l4.length/\gQ (jY t) (l4.take q.1) g F=.ok (q.2.1,q.2.2.1))/\StD q.2.1/\q.2.2.1.length<=80000+2112*q.1) (λq=>l4.length - q.1) (λq=>[(142,I q.1)]) (λq=>⟨[eE (si q.2.1 M c G n a q.2.2.1) q.2.2.2,.d (lT ⟨λ_=>mz,0,0,true⟩)],[q.2.2.2],[]⟩) (0,g,F,v3) ⟨⟨dG _,rfl⟩,U,(by show F.length<=80000+2112*0;omega)⟩ ⟨rfl,trivial⟩ rfl (λi=>⟨a9 _,a9 _,a9 _⟩) ?_;rintro⟨i,A,b4,v4⟩ ⟨⟨hi,ab⟩,ad,ag⟩;obtain⟨d4,am⟩:=ad.ok;have ag:b4.length<=80000+2112*i:=ag;conv=>whnf
    apply a4<;>intro K
    .have f:i<l4.length:=by
      have:(i:Int)<l4.length:=b8 K
      omega
     have Z:l4[i]?=some (l4.getD i 0):=by rw[eu,ed f];rfl
     have N:=al _ (oU Z);have z:l4.take (i+1)=l4.take i++[l4.getD i 0]:=by rw[js,Z];rfl
     have V:gQ (jY t) (l4.take (i+1)) g F=match jY t A (l4.getD i 0)with
      | .ok (W,b')=>.ok (W,b4++b')
      | .error e=>.error e:=by
      rw[z,AA,ab];simp only[gQ];cases jY t A (l4.getD i 0)<;>rfl
     conv=>whnf
     refine fS (i:=i) (n:=l4.length) ?_;conv=>whnf
     refine qv (Oz (x:=si A M c G n a b4) (v:=v4) am (h:=l4.getD i 0) N t (by show b4.length<=_;omega)) rfl (λr O=>?_) (λr x' O=>?_)
     .have r:iw A.o A.t (l4.getD i 0) t false=0:=r;conv=>whnf
      refine b2 (x:=(i:Int)+1) ?_;conv=>whnf
      refine⟨(i+1,(iv A (l4.getD i 0) t).1,b4++(iv A (l4.getD i 0) t).2,O),⟨⟨f,?_⟩,ad.F6 N t,?_⟩,?_,⟨rfl,trivial⟩,⟨rfl,rfl⟩,rfl⟩
      .rw[V,jY,b9 r]
      .show(b4++(iv A (l4.getD i 0) t).2).length<=80000+2112*(i+1);have hg:=Ye (s:=A) ad N t;rw[ew];omega
      .show l4.length -(i+1)<l4.length - i;omega
     .have r:iw A.o A.t (l4.getD i 0) t false≠0:=r;conv=>whnf
      refine⟨rfl,vj (x':=x') (e:=iw A.o A.t (l4.getD i 0) t false) ?_⟩;have hE:=AA (jY t) (l4.take (i+1)) (l4.drop (i+1)) g F;rw[nF,V,jY,eR r]at hE;rw[j,hE]
    .have f:i=l4.length:=by
      have:¬((i:Int)<l4.length):=b8 K
      omega
     subst f;rw[gv]at ab;conv=>whnf
     exact⟨rfl,wy (x':=si A M c G n a b4) (by rw[j,ab])⟩
end
section
variable {s:St} {M:Int} {c:Call} {G:Rn} {n:Int} {a:Bool} {v:Nat}
def wY(s:St):Prop:=∀a:Nat,a<8->BoxOk (s.box a)/\∀m∈j4 (s.box a) (s.box a).n.toNat,di m.D/\0<=m.J/\m.J<8
def Oi{t:Int}{x':Cl}(h:yQ s t M c G n a=.ok x'):lh s t=.ok (x'.s,x'.back):=by
 unfold yQ at h;cases b:lh s t with
 |ok p=>rw[b]at h;cases h;rfl
 |error e=>rw[b]at h;cases h
def Oh{t:Int}(h:yQ s t M c G n a=.error e):lh s t=.error e:=by
 unfold yQ at h;cases b:lh s t with
 |ok p=>rw[b]at h;cases h
 |error e=>rw[b]at h;cases h;rfl
def Yj(h:StD s)(g:wY s)(d:CallOk s M c):b6 a6 309 [.B 0 []] ⟨[eE (dp s M c G n a) v],[v],[]⟩ (MX (te (lh s M))):=by
 have i:0<=M/\M<8:=⟨d.t0,d.t1⟩;have f:=g M.toNat a3;refine fm func309 ?_;refine w6 (Oj h f.1 i f.2) rfl (λk j b=>?_) λe k j b=>?_
 .exact a4 rfl (kL (r:=⟨0,0,0⟩) (by rw[Oi b];rfl))
 .exact a4 rfl (fL (by rw[Oh b];rfl))
def WP(k:StD s)(h:wY s)(f:CallOk s M c):b6 a6 310 [.B 0 []] ⟨[eE (dp s M c G n a) v],[v],[]⟩ (MX (uj s c)):=by
 refine fm func310 ?_;refine Dw (x:=dp s M c G n a) f.a (λb=>?_) λb=>?_
 .have j:=PY b;have i:0<=c.a/\c.a<8:=⟨f.a.1,j.1⟩;have g:=h c.a.toNat a3;refine w6 (Oj k g.1 i g.2) rfl (λm l d=>?_) λe m l d=>?_
  .exact a4 rfl (kL (r:=⟨0,0,0⟩) (by rw[uj,b9 b,Oi d];rfl))
  .exact a4 rfl (fL (by rw[uj,b9 b,Oh d];rfl))
 .exact a4 rfl (fL (x':=dp s M c G n a) (eR b))
end
end Sx
end Go.Proofs.YtfbhkfhbnkncoaaGreatDoor
