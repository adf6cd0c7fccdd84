import Derived.Test.YtfbhkfhbnkncoaaGreatDoorV18
import Derived.RecoverIn
import Derived.BigFrame
set_option linter.all false
namespace Go.Proofs.YtfbhkfhbnkncoaaGreatDoor
open Go.RowKit Tryz
open Tryz renaming prog→a6
namespace Sx
variable{a:Act}{b:Array Oper}{tmps:Array Value}{J:Bl}{F:Bool}{C:Code}{R:Ending->World->Prop}{Q:Exit->Act->List Frame->World->Prop}{u:FrameMode}{fn:Func}{g:FuncId}{c:Go.Call}{V:List Ent}{W l:List Nat}{args:List SV}{m:MS}{N e i t:Nat}{o:Oper}{O:Ro}{cap v:SV}{α:Type}{w:World}{K:X->List Ent->MS->Prop}
def pA(t:Tb)(h c:Int):Bool:=(c != h)&&kz t c h
def DD(t:Tb)(h:Int)(r:Rg):Rg:={r with cells:=λi=>bif Nat.blt i 8&&pA t h (r.cells i)then 0 else r.cells i}
def tY(t:Tb)(h:Int)(n:Tb)(x:Int):Tb:=hZ n x (DD t h (b1 n x))
def qz(t:Tb)(h:Int)(l:List Int):Tb:=l.foldl (tY t h) t
def fC(t:Tb)(h:Int):Tb:=bif bk t.b h then iW (qz t h (eT t h)) h 0 else t
def rz(t:Tb)(h:Int):Int:=bif bk t.b h then lx (qz t h (eT t h)) h 0 else 4
def FP(s:St)(h:Int):Bool:=!(dJ s.t h).any λx=>decide (((hL (eg s.k (gq x) (dI s.k.b))).length:Int)>0)
def vr(s:St)(h a:Int):Bool:=bif a==0 then qi s.k h 0 else bif a==1 then og s.k h 0 else bif a==2 then FP s h else false
def uo(s:St)(M h a t:Int):Bool:=((dr s.k t).W==M)&&(((a==0)&&qi s.k h t)||(((a==1)&&(dr s.k t).mu)&&og s.k h t))
def xz(s:St)(M h a:Int):Bool:=(eg s.k (gq h) (dI s.k.b)).any (uo s M h a)
def va(x:Ow)(M:Int):Bool:=dC .and .u8 (dU .u8 x.hold M) 1==1
def j5(s:St)(M h a:Int):Bool:=
 bif (dy s.o s.t h).kind==3 then(((a==0)&&decide (M>=0))&&decide (M<8))&&va (dy s.o s.t h) M
 else bif (dy s.o s.t h).kind==1 then(((dy s.o s.t h).task==M)&&vr s h a)||xz s M h a
 else false
def eh(s:St)(M h a:Int):Int:=bif bk s.t.b h then(bif j5 s M h a then 0 else 5)else 4
structure Rs where
 e:Int
 v:Int
 w:Int
def fu(r:Rs):D:=.H (.z .i64 r.e) (.H (.z .u64 r.v) (.H (.z .u32 r.w) .un))
abbrev Ex:=Except Int (St×Rs×List Rn)
def dV(e:Int)(k:Except Int α):Except Int α:=bif e==0 then k else .error e
def nw(s:St):Ex:=.ok (s,⟨0,0,0⟩,[])
def no(b:Bool)(e:Int):Int:=bif b then 0 else e
def dn(a b:Int):Int:=bif decide (b<a)then b else a
def ki(s:St)(a:Int):Int:=no (decide (a<8)&&s.alive a.toNat) 2
def g7(t:Tb)(l:List Int):List Rn:=l.flatMap λy=>(b1 t y).rs
def ke(k:Toks)(l:List Int):Toks:=l.foldl (λk y=>kD k (eg k (gq y) (dI k.b))) k
def jG(s:St)(h:Int):St:={s with t:=gT s.t (dJ s.t h),k:=ke s.k (dJ s.t h)}
def j3(s:St)(h:Int):List Rn:=g7 s.t (dJ s.t h)
def rP(s:St)(h M:Int):St:={s with o:=iI s.o s.t h M ⟨1,iz M,0⟩}
def sC(s:St)(M:Int)(c:Call):Ex:=
 dV (bif c.r != 0 then eh s M c.r 1 else 0) <| dV (mW s.t c.r (dn c.a 65)) <|
 bif c.r==0 then dV (gR (ik s.t c.r (dn c.a 65)) (jg s.t c.r (dn c.a 65)) M) <| .ok (rP {s with t:=ik s.t c.r (dn c.a 65)} (jg s.t c.r (dn c.a 65)) M,⟨0,0,jg s.t c.r (dn c.a 65)⟩,[])
 else .ok ({s with t:=ik s.t c.r (dn c.a 65)},⟨0,0,jg s.t c.r (dn c.a 65)⟩,[])
def lu(s:St)(c:Call)(r:Rg):Ex:=
 dV (hQ s.t c.r {r with len:=mZ r.rs r.len (dn c.a 129) (dn c.b 9)}) <|
 .ok ({s with t:=hZ s.t c.r {r with len:=mZ r.rs r.len (dn c.a 129) (dn c.b 9)}},⟨0,IntKind.u64.wrap (rD r.rs r.len (dn c.a 129) (dn c.b 9)),0⟩,[])
def iR(r:Rg)(G:Rn):Rg:={r with rs:=r.rs++[G],len:=dK r.rs*32}
def mN(s:St)(M:Int)(c:Call)(G:Rn):Ex:=
 dV (no (lq (dn c.a 129) (dn c.b 9)) 2) <| dV (eh s M c.r 1) <| dV (no (bk s.t.b c.r) 4) <|
 bif jv (b1 s.t c.r).rs (b1 s.t c.r).len (dn c.a 129) (dn c.b 9)then lu s c (b1 s.t c.r)
 else dV (no (decide (dK (b1 s.t c.r).rs+jb (dn c.a 129) (dn c.b 9)<=(b1 s.t c.r).E)) 6) <|
  dV (no ((G.n==jb (dn c.a 129) (dn c.b 9))&&mV (iR (b1 s.t c.r) G).rs (iR (b1 s.t c.r) G).len) 2) <| lu s c (iR (b1 s.t c.r) G)
def jX(s:St)(M:Int)(c:Call):Except Int Int:=
 dV (no (lq (dn c.a 129) (dn c.b 9)) 2) <| dV (eh s M c.r 1) <| dV (no (bk s.t.b c.r) 4) <|
 bif jv (b1 s.t c.r).rs (b1 s.t c.r).len (dn c.a 129) (dn c.b 9)then(match lu s c (b1 s.t c.r)with
  | .ok _=>.ok 0
  | .error e=>.error e)
 else dV (no (decide (dK (b1 s.t c.r).rs+jb (dn c.a 129) (dn c.b 9)<=(b1 s.t c.r).E)) 6) <| .ok (jb (dn c.a 129) (dn c.b 9))
def dv(s:St)(M:Int)(c:Call):Int:=bif c.C==2 then(match jX s M c with
 | .ok n=>n
 | .error _=>0)else 0
def qh(s:St)(c:Call):Int:=no (decide (c.a<=(b1 s.t c.r).len - c.b)) 9
def lJ(s:St)(M:Int)(c:Call)(a:Int):Ex:=dV (no (pl c) 2) <| dV (eh s M c.r a) <| dV (no (bk s.t.b c.r) 4) <| dV (qh s c) <| nw s
def zB(s:St)(M:Int)(c:Call):Ex:=
 dV (eh s M c.r 1) <| dV (no (bk s.t.b c.r) 4) <| dV (hQ s.t c.r {iY with E:=(b1 s.t c.r).E}) <|
 .ok ({s with t:=hZ s.t c.r {iY with E:=(b1 s.t c.r).E}},⟨0,0,0⟩,(b1 s.t c.r).rs)
def yO(s:St)(M:Int)(c:Call):Ex:=dV (eh s M c.r 2) <| .ok (jG s c.r,⟨0,0,0⟩,j3 s c.r)
def yN(s:St)(M:Int)(c:Call):Ex:=
 dV (eh s M c.r 2) <| dV (no (fl s.t c.r != c.r) 12) <| dV (rz s.t c.r) <| dV (gR (fC s.t c.r) c.r M) <| nw (rP {s with t:=fC s.t c.r} c.r M)
def za(s:St)(M:Int)(c:Call):Ex:=
 dV (eh s M c.r 2) <| dV (eh s M c.s 1) <| dV (nL s.t c.r c.s) <| nw {s with t:=ln s.t c.r c.s}
def y8(s:St)(M:Int)(c:Call):Ex:=
 dV (eh s M c.r 2) <| dV (rz s.t c.r) <| dV (gR (fC s.t c.r) c.r M) <| nw {s with t:=fC s.t c.r,o:=iI s.o (fC s.t c.r) c.r M ⟨3,0,jC M⟩}
def jw(s:St)(M h:Int):Int:=
 bif bk s.t.b h then(bif (fl s.t h==h)&&((dy s.o s.t h).kind==3)then no (va (dy s.o s.t h) M) 5 else 12)else 4
def vz(s:St)(M:Int)(c:Call):Ex:=
 dV (ki s c.a) <| dV (jw s M c.r) <| dV (iw s.o s.t c.r c.a true) <| nw {s with o:=gL s.o s.t c.r c.a true}
def iv(s:St)(h M:Int):St×List Rn:=
 bif kY (jH s.o s.t h M false).toNat==0 then(jG {s with o:=gL s.o s.t h M false} h,j3 s h)else({s with o:=gL s.o s.t h M false},[])
def xj(s:St)(M:Int)(c:Call):Ex:=
 dV (jw s M c.r) <| dV (iw s.o s.t c.r M false) <| .ok ((iv s c.r M).1,⟨0,0,0⟩,(iv s c.r M).2)
def wt(s:St)(M:Int)(c:Call):Ex:=
 dV (ki s c.a) <| dV (no (decide (c.b<=1)) 2) <| dV (no (bk s.t.b c.r) 4) <|
 dV (bif c.s==0 then no (((dy s.o s.t c.r).kind==1)&&((dy s.o s.t c.r).task==M)) 5 else bif bk s.k.b c.s then no (((dr s.k c.s).W==M)&&((dr s.k c.s).D==c.r)) 5 else 4) <|
 dV (iM s.k ⟨c.r,iz M,iz c.a,c.b==1,c.s⟩) <| .ok ({s with k:=lI s.k ⟨c.r,iz M,iz c.a,c.b==1,c.s⟩},⟨0,0,qO s.k ⟨c.r,iz M,iz c.a,c.b==1,c.s⟩⟩,[])
def nC(k:Toks)(h:Int):List Int:=eg k (λx=>x.A==h) (dI k.b)
inductive TRe (k:Toks) (h:Int):Int->Prop
 |refl:TRe k h h
 |step {y x:Int}:TRe k h y->x∈nC k y->TRe k h x
open Classical in
noncomputable def vv(k:Toks)(h:Int):List Int:=(dI k.b).filter λx=>decide (TRe k h x)
noncomputable def gI(k:Toks)(h:Int):Toks:=bif bk k.b h then kD k (vv k h)else k
noncomputable def w9(s:St)(M:Int)(c:Call):Ex:=
 dV (no (bk s.k.b c.s) 4) <| dV (no ((dr s.k c.s).W==M) 5) <| nw {s with k:=gI s.k c.s}
def jz(M:Int)(c:Call):Msg:=⟨iz M,c.v,c.r,(c.r != 0)&&(c.b==1)⟩
def xR(s:St)(a:Int)(b:MBox):St:={s with box:=a7 s.box a.toNat b}
def uz(s:St)(c:Call)(m:Msg):Ex:=dV (j6 (s.box c.a.toNat)) <| nw (xR s c.a (jq (s.box c.a.toNat) m))
def pK(s:St)(M:Int)(c:Call):Ex:=
 dV (ki s c.a) <| dV (no (decide (c.b<=1)) 2) <|
 bif (jz M c).sh then dV (jw s M c.r) <| uz (bif iw s.o s.t c.r c.a true==0 then{s with o:=gL s.o s.t c.r c.a true}else s) c (jz M c)
 else bif c.r != 0 then dV (eh s M c.r 2) <| dV (rz s.t c.r) <| dV (gR (fC s.t c.r) c.r 0) <| uz {s with t:=fC s.t c.r,o:=iI s.o (fC s.t c.r) c.r 0 ⟨2,0,0⟩} c (jz M c)
 else uz s c (jz M c)
def pJ(s:St)(M:Int):Ex:=
 dV (lA (s.box M.toNat)) <|
 bif ((gJ (s.box M.toNat)).D != 0)&&!(gJ (s.box M.toNat)).sh then
  dV (gR s.t (gJ (s.box M.toNat)).D M) <| .ok (rP (xR s M (ia (s.box M.toNat))) (gJ (s.box M.toNat)).D M,⟨0,(gJ (s.box M.toNat)).word,(gJ (s.box M.toNat)).D⟩,[])
 else .ok (xR s M (ia (s.box M.toNat)),⟨0,(gJ (s.box M.toNat)).word,(gJ (s.box M.toNat)).D⟩,[])
def yG(s:St)(M:Int):Ex:=dV (bif (s.box M.toNat).cl then 11 else 0) <| nw (xR s M {s.box M.toNat with cl:=true})
def iX(t:Tb)(r a A:Int)(b:Bool):Int:=
 bif bk t.b r&&((A==0)||bk t.b A)then(bif decide (a>=0)&&decide (a<8)then(bif ((A==0)||b)||kz t A r then hQ t r {b1 t r with cells:=a7 (b1 t r).cells a.toNat A}else 5)else 2)else 4
def oI(t:Tb)(r a A:Int):Tb:=hZ t r {b1 t r with cells:=a7 (b1 t r).cells a.toNat A}
def xW(s:St)(M:Int)(c:Call):Ex:=
 dV (eh s M c.r 1) <| dV (bif c.s != 0 then eh s M c.s 0 else 0) <| dV (iX s.t c.r (dn c.a 8) c.s ((dy s.o s.t c.s).kind==3)) <| nw {s with t:=oI s.t c.r (dn c.a 8) c.s}
def kr(t:Tb)(r a:Int):Int:=
 bif bk t.b r then(bif decide (a>=0)&&decide (a<8)then(bif (b1 t r).cells a.toNat != 0 then no (bk t.b ((b1 t r).cells a.toNat)) 4 else 10)else 2)else 4
def yP(s:St)(M:Int)(c:Call):Ex:=
 dV (eh s M c.r 0) <| dV (kr s.t c.r (dn c.a 8)) <| .ok (s,⟨0,0,(b1 s.t c.r).cells (dn c.a 8).toNat⟩,[])
def iP(s:St)(m:Msg):Except Int (St×List Rn):=
 bif (m.D==0)||m.sh then .ok (s,[])else bif s.alive m.J.toNat then dV (gR s.t m.D m.J) <| .ok (rP s m.D m.J,[])else .ok (jG s m.D,j3 s m.D)
def gQ{α:Type}(f:St->α->Except Int (St×List Rn)):List α->St->List Rn->Except Int (St×List Rn)
 |[],s,b=>.ok (s,b)
 |x::l,s,b=>match f s x with
  | .ok (W,a)=>gQ f l W (b++a)
  | .error e=>.error e
def mb(s:St)(M:Int):St:={s with box:=a7 s.box M.toNat ⟨λ_=>mz,0,0,true⟩,alive:=a7 s.alive M.toNat false}
noncomputable def fZ(s:St)(M:Int):St:={s with k:=(eg s.k (jk M) (dI s.k.b)).foldl gI s.k}
def jP(s:St)(l:List Int)(b:List Rn):St×List Rn:=l.foldl (λp h=>(jG p.1 h,p.2++j3 p.1 h)) (s,b)
def jY(M:Int)(s:St)(h:Int):Except Int (St×List Rn):=dV (iw s.o s.t h M false) <| .ok (iv s h M)
noncomputable def lh(s:St)(M:Int):Except Int (St×List Rn):=
 match gQ iP (j4 (s.box M.toNat) (s.box M.toNat).n.toNat) (mb s M) []with
 | .error e=>.error e
 | .ok (E,S)=>
  let a:=fZ E M
  let p:=jP a (fj a.o a.t (gf M) (dW a.t.b)) S
  gQ (jY M) (fj p.1.o p.1.t (gA M) (dW p.1.t.b)) p.1 p.2
def te:Except Int (St×List Rn)->Ex
 | .ok (s,b)=>.ok (s,⟨0,0,0⟩,b)
 | .error e=>.error e
noncomputable def uj(s:St)(c:Call):Ex:=dV (ki s c.a) <| te (lh s c.a)
def x6(s:St)(c:Call):Ex:=dV (no (decide (c.a<8)&&!s.born (c.a.tmod 8).toNat) 2) <| nw {s with alive:=a7 s.alive c.a.toNat true,born:=a7 s.born c.a.toNat true}
noncomputable def fr(s:St)(M:Int)(c:Call)(G:Rn):Ex:=
 dV (no ((decide (M>=0)&&decide (M<8))&&s.alive M.toNat) 12) <|
 bif c.C==1 then sC s M c else bif c.C==2 then mN s M c G else bif c.C==3 then lJ s M c 0 else bif c.C==4 then lJ s M c 1 else
 bif c.C==5 then zB s M c else bif c.C==6 then yO s M c else bif c.C==7 then yN s M c else bif c.C==8 then za s M c else
 bif c.C==9 then y8 s M c else bif c.C==10 then vz s M c else bif c.C==11 then xj s M c else bif c.C==12 then wt s M c else
 bif c.C==13 then w9 s M c else bif c.C==14 then pK s M c else bif c.C==15 then pJ s M else bif c.C==16 then pJ s M else
 bif c.C==17 then yG s M else bif c.C==18 then xW s M c else bif c.C==19 then yP s M c else bif c.C==20 then te (lh s M)else
 bif c.C==21 then uj s c else bif c.C==22 then x6 s c else .error 2
noncomputable def dz(s:St)(M:Int)(c:Call)(G:Rn):St×Rs×List Rn:=match fr s M c G with
 | .ok x=>x
 | .error e=>(s,⟨e,0,0⟩,[])
variable {P:Program} {tb:TT}
def zm(W:List Nat)(V:List Ent):List Ent:=.kill W::V
def zau(h:look (zm W V) t=some v):t∉W/\look V t=some v:=by
 simp only[zm,look]at h;split at h
 .cases h
 .rename_i a;refine⟨λb=>?_,h⟩;have:W.any (Nat.beq t)=true:=qo.2 ⟨t,b,eA⟩;rw[this]at a;cases a
def SG{T:Act}(h:SimL O J [] V N a)(l:gN W a T)(j:T.tmps.size=N):SimL O J [] (zm W V) N T:=by
 refine⟨j,λt c v b _=>?_,λt c v b k=>?_⟩
 .simp only[fP,fB]at b;obtain⟨u,f,e⟩:=b;obtain⟨g,i⟩:=zau f;cases e;rw[l t g];exact h.yes t [] _ (by simp[fP,i]) λ_ d=>by cases d
 .simp only[fP,fB]at b;obtain⟨u,_,e⟩:=b;cases e;exact b3 (λ_ d=>by cases d) k
def s0(P:Program)(N:Nat)(F:Bool)(c:Code)(W:List Nat)(V:List Ent)(m:MS)(K:X->List Ent->MS->Prop):Prop:=
 ∀E r d O J a w,(F=false->r=none)->Sim E O J V m N a w->c.wpIn (FR r) d P (λe T M=>QK E O J N F (jK c) a w K e T M/\∀b,e=.panic b->gN W a T) a w
def Bj{c:Code}(h:Ok P N F c V m K)(f:(jK c).all (λt=>W.contains t)=true):s0 P N F c W V m K:=λE r k O J a w g d=>
 wpIn_mono (h E r k O J a w g d) λe T M b=>⟨b,λl _=>by
  obtain⟨_,_,_,_,_,_,_,_,_,_,_,_,_,_,j⟩:=b;exact j.sub λt i=>by simpa using pQ.1 f t i⟩
def zba{c:Code}(h:Ok P N F c V m λx A U=>match x with
  | .P _=>False
  |x=>K x A U):s0 P N F c W V m K:=λE r p O J a w n k=>
 wpIn_mono (h E r p O J a w n k) λe T M l=>by
  obtain⟨x,A,U,g,b,L,f,i,j⟩:=l;have o:∀d,x≠.P d:=λd e=>by subst e;exact f
  refine⟨⟨x,A,U,g,b,L,by cases x<;>first|exact f|exact(f:False).elim,i,j⟩,λq e=>?_⟩;subst e;cases x<;>first|exact(i:False).elim|exact b3 rfl (o _)
def JF{x y:Code}(h:s0 P N F x W V m λe A U=>match e with
  | .U=>s0 P N F y W A U K
  |e=>K e A U)(S:(jK x).all (λt=>W.contains t)=true):s0 P N F (.seq x y) W V m K:=λE r v O J a w s R=>by
 have n:∀t∈jK x,t∈jK (.seq x y):=λt j=>eP.2 (.inl j);refine wpIn_seq (wpIn_mono (h E r v O J a w s R) ?_);rintro e T M ⟨f,Y⟩;cases e with
 |normal=>
  obtain⟨u,A,U,d,c,L,g,b,p,z,h5,C,G,Q,q⟩:=f;cases vn b;refine wpIn_mono (g E r v d c T M s ⟨z eA,p⟩) λe Z w2 ⟨f,o⟩=>⟨?_,λk i=>?_⟩
  .exact f.next p C G Q (q.sub n) (λt j=>eP.2 (.inr j)) λ_ _ _ h=>h
  .exact(q.sub λt j=>by simpa using pQ.1 S t j).trans (o k i)
 |exit id=>exact⟨f.of n λx V m d c b g=>by cases ud b;exact⟨_,g,b,λh=>h⟩,λk i=>by cases i⟩
 |ret=>exact⟨f.of n λx V m d c b g=>by cases x<;>first|exact b.elim|exact⟨_,g,b,λh=>h⟩,λk i=>by cases i⟩
 |goto l=>obtain⟨u,_,_,_,_,_,_,b,_⟩:=f;cases u<;>cases b
 |panic k=>exact⟨f.of n λx V m d c b g=>by cases x<;>first|exact b.elim|exact⟨_,g,b,λh=>h⟩,Y⟩
 |outgrown=>obtain⟨u,_,_,_,_,_,_,b,_⟩:=f;cases u<;>cases b
def uI(P:Program)(g:FuncId)(args:List SV)(m:MS)(K:MS->Prop):Prop:=
 ∀E O J w G,Mem E O J m w->jf O J args G->CallsDIn Fence.wide 0 P g G.toArray .returning w λe Y M=>∃v b a U,e=.returned v/\settle Y=.returning/\Mem E b a U M/\Gr O J w b a M/\K U
def vH(P:Program)(g:FuncId)(args:List SV)(d:D)(m:MS)(K:MS->Prop):Prop:=
 ∀E O J w G y,Mem E O J m w->jf O J args G->du O J (.d d) y->CallsDIn Fence.wide 0 P g G.toArray (.panicking [{v:=y,recovered:=false}]) w λe Y M=>∃v b a U,e=.returned v/\settle Y=.returning/\Mem E b a U M/\Gr O J w b a M/\K U
def vG(P:Program)(N:Nat)(c:Array Oper)(g:FuncId)(V:List Ent)(cap:SV)(d:List Ent):Prop:=
 ∀O J a w (Q:Exit->Act->World->Prop),SimL O J [] V N a->(∀T e mP b G,T.defers={target:=.fn e mP,args:=b}::a.defers->(∀w,(invoke (.fn e mP) b).run P w=(callFunc g G.toArray).run P w)->jf O J [cap] G->SimL O J [] d N T->Q .normal T w)->
  wpOpsIn Fence.wide 0 P c Q (List.range c.size) a w
def Jc{F:Fence}{n:Nat}{fn:Func}{tmps:Array Value}{R:Ending->World->Prop}{u:FrameMode}{g:List Deferred}(k:u≠.run):∀{L:List Nat} {w:World},L.Nodup->(∀D∈L,w.heap[D]?=some (.deferred (some [])))->(∀f,Shut L w f->LeavesInM F n P fn tmps R g u f)->LeavesInM F n P fn tmps R (L.map ur++g) u w
 |[],w,_,_,h=>h w ⟨rfl,rfl,rfl,rfl,λ_ _=>rfl⟩
 |D::L,w,d,j,h=>by
  have d:=pW.1 d;have hD:=j D (fQ ..);refine⟨k,.inl ⟨D,w.putObj D (.deferred none),rfl,run_takeDeferred hD,Jc k d.2 (λl a=>?_) λf c=>h f ⟨c.os,c.tape,c.output,by rw[c.size];simp,λb i=>?_⟩⟩⟩
  .rw[World.putObj_heap_other λe=>d.1 (by subst e;exact a)];exact j l (fA _ a)
  .rw[c.same b λh=>i (fA _ h),World.putObj_heap_other λe=>i (by subst e;exact fQ ..)]
def Kq{O c:Ro}{J b:Bl}(d:Le O J c b):∀{a:List SV} {G:List Value},jf O J a G->jf c b a G
 |[],[],_=>trivial
 |_::_,_::_,h=>⟨h.1.mono d,Kq d h.2⟩
 |[],_::_,h|_::_,[],h=>h
def PV{F:Fence}{c:Fn}{mP a:Array Value}{G:Array Value}(h:F=Fence.wide)(k:u≠.run)(b:(invoke (.fn c mP) a).run P w=.ok (.enter g G) w)(i:CallsDIn Fence.wide 0 P g G u w λe Y M=>∃v,e=.returned v/\settle Y=.returning/\∃y,(results fn tmps).run P M=.ok y M/\R (.returned y) M):LeavesInM F 0 P fn tmps R [{target:=.fn c mP,args:=a}] u w:=by
 subst h;refine⟨k,.inr ⟨ef,c,mP,g,G,rfl,b,λ_ _=>trivial,i.mono ?_⟩⟩;rintro e Y M ⟨v,rfl,j,y,d,f⟩;show LeavesInM Fence.wide 0 P fn tmps R [] (settle Y) M;rw[j];exact⟨y,d,f⟩
def XE(hP:tb.ok P){f:FuncId}{R0:Code}{id:Nat}{ak:Array Oper}(hf:P.funcs[f]?=some fn)(hb:fn.body=some (.seq R0 (.seq (.region id ak false) C)))(hE:uJ P f)(hl:fn.results.toList.length<=3)(ha:args.length<=fn.ntmps)(hg:uJ P g){K:Out->MS->Prop}(h:ji P tb fn.ntmps true R0 (kc 0 args) m λx V m1=>∃cap t,x=.U/\vG P fn.ntmps ak g V cap t/\s0 P fn.ntmps false C W t m1 λx aa m2=>match x with
  | .exit _=>False
  | .P d=>vH P g [cap] d m2 λN=>∃v,rT tb (zm W t) N fn.results.toList=some v/\K (.ret v) N
  |_=>uI P g [cap] m2 λN=>∃v,rT tb aa N fn.results.toList=some v/\K (.ret v) N):b6 P f args m K:=by
 refine⟨hE,λE O J w G hM hA=>callsIn_wide (n:=0) |>.1 (callsIn_of_wp_marks hf hb trivial ?_)⟩;refine wpIn_seq (wpIn_mono (eJ hP h E none 0 O J _ w ef (Hh hM hA ha)) ?_);rintro e a1 w1 ⟨x,V,m1,u,Z,L,⟨cap,t,hx,hD,hW⟩,h2,h3,h4,h5,h6,⟨h7,h8,al⟩,h9,an⟩;subst hx;have hL:L=[]:=al rfl;subst hL;have h7:Z.k=J.k:=h7;have h6:Gr O J w u Z w1:=by rw[<-h7]at h6;exact h6
 have h9:a1.defers=[]:=by rw[h9];rfl
 cases e with
 |normal=>
  show Code.wpIn Fence.wide 0 P _ _ a1 w1;refine wpIn_seq (wpIn_region (hD u Z a1 w1 _ (h4 eA) λa2 fv mP S ys hd F ae ag=>?_));show Code.wpIn Fence.wide 0 P C _ a2 w1;rw[h9]at hd;refine wpIn_mono (hW E none 0 u Z a2 w1 (λ_=>rfl) ⟨ag,h3⟩) ?_;rintro e R w3 ⟨⟨x,aa,m2,k,j,L,k1,k2,k3,k4,k5,q,⟨k7,k8,_⟩,k9,_⟩,hp⟩;have ah:R.defers=L.map ur++[{target:=.fn fv mP,args:=S}]:=by rw[k9,hd]
  have aj:∀D∈L,w3.heap[D]?=some (.deferred (some [])):=λD hD=>k3.marks D (by rw[k7];exact eP.2 (.inl hD));have z:∀D∈Z.k,D∉L:=λD hD hL=>by have:=k8.ge D hL;have:=(nX.1 (h3.marks D hD)).1;omega
  have af:∀p,Shut L w3 p->Gr O J w k (j.A5 Z.k) p:=λp o=>h6.trans ⟨o.os.trans q.os,o.tape.trans q.tape,o.output.trans q.output,by rw[o.size];exact q.size,λb hb hn=>by
   obtain⟨g1,g2⟩:=q.old b hb hn;exact⟨(o.same b λhL=>by have:=k8.ge b hL;omega).trans g1,g2⟩,q.le,q.new,rfl⟩
  have ai:Le k j k (j.A5 Z.k):=⟨Ro.le_refl _,λ_ _ h=>h,(Le.refl k j).t,(Le.refl k j).o,rfl⟩;have r:Le u Z k (j.A5 Z.k):=⟨q.le.r,q.le.b,q.le.t,q.le.o,q.le.g⟩;have ad:∀{A:List Ent} {p:World},SimL k (j.A5 Z.k) [] A fn.ntmps R->Gr O J w k (j.A5 Z.k) p->∀(T:Ending) (Y:FrameMode) (M:World),(∃v c a U,T=.returned v/\settle Y=.returning/\Mem E c a U M/\Gr k (j.A5 Z.k) p c a M/\∃v,rT tb A U fn.results.toList=some v/\K (.ret v) U)->
   ∃v,T=.returned v/\settle Y=.returning/\∃y,(results fn R.tmps).run P M=.ok y M/\(∃c a U s,Mem E c a U M/\Gr O J w c a M/\CL c a s (.returned y)/\K s U):=by
   rintro A p hS hG T Y M ⟨v,c,a,U,rfl,o,q1,q2,v2,q3,q4⟩;obtain⟨y,hy,hr⟩:=RW hP (hS.le q2.le) q1 hl q3;exact⟨v,rfl,o,y,hy,c,a,U,.ret v2,q1,hG.trans q2,⟨y,rfl,hr⟩,q4⟩
  have Q:∀(hx:x=.U\/x=.ret),LeavesInM Fence.wide 0 P fn R.tmps (λe M=>∃c a U s,Mem E c a U M/\Gr O J w c a M/\CL c a s e/\K s U) R.defers .returning w3:=λhx=>by
   rw[ah];refine Jc eA k8.nd aj λp o=>?_;have am:uI P g [cap] m2 λN=>∃v,rT tb aa N fn.results.toList=some v/\K (.ret v) N:=by rcases hx with rfl|rfl<;>exact k1
   have ab:=k3.shut k7 o z;have ac:=(k4 λd=>by rcases hx with rfl|rfl<;>simp).le ai;refine PV rfl eA ?_ ((am E k (j.A5 Z.k) p ys ab (Kq r ae)).mono λT Y M hq=>ad ac (af p o) T Y M hq);rw[F];exact hg _ _
  cases e with
  |normal=>cases vn k2;exact Q (.inl rfl)
  |ret=>cases x<;>first|exact k2.elim|exact Q (.inr rfl)
  |exit i=>cases ud k2;cases k1
  |goto l=>cases x<;>cases k2
  |panic ch=>
   cases x with
   |P d=>
    obtain⟨y,rfl,hy⟩:=k2;show LeavesInM Fence.wide 0 P fn R.tmps _ R.defers (.panicking _) w3;rw[ah];refine Jc eA k8.nd aj λp o=>?_;have ab:=k3.shut k7 o z;have ac:=SG (ag.le r) (hp _ rfl) k5;refine PV rfl eA ?_ ((k1 E k (j.A5 Z.k) p ys y ab (Kq r ae) (hy.mono ai)).mono λT Y M hq=>ad ac (af p o) T Y M hq);rw[F];exact hg _ _
   |_=>cases k2
  |outgrown=>cases x<;>cases k2
 |exit i=>exact(h2:False).elim
 |ret=>exact(h2:False).elim
 |goto l=>exact(h2:False).elim
 |panic ch=>exact(h2:False).elim
 |outgrown=>exact(h2:False).elim
def SF(h:SimL O J [] V N a){d:Nat}{x:Value}(hd:d<N)(m:du O J v x):SimL O J [] (.put d v::V) N (a.put (some d) x):=by
 have g:a.tmps.size=N:=h.size;refine⟨by simp[Act.put,g],λt c u f _=>?_,λt c u f l=>?_⟩
 .simp only[fP,fB]at f;obtain⟨Y,b,e⟩:=f;cases e;simp only[look]at b;split at b
  .rename_i i;have:=fp i;subst this;cases b;simp[Act.put,oO,uH,g,hd];exact m
  .rename_i i;have j:d≠t:=λe=>by rw[e]at i;simp at i
   have:=h.yes t [] u (by simp[fP,b]) λ_ k=>by cases k
   simp only[Act.put,oO,uH]at this ⊢;rw[if_neg j];exact this
 .simp only[fP,fB]at f;obtain⟨u,_,e⟩:=f;cases e;exact b3 (λ_ k=>by cases k) l
def Ks(h:SimL O J [] V N a)(b:look V t=some v):du O J v (a.tmps.getD t undef):=h.yes t [] v (by simp[fP,b]) λ_ c=>by cases c
def Lp(h:o.guard=none)(a:Array Oper)(t:Array Value):Region.wanted o (yielded a t)=true:=by unfold Region.wanted;rw[h]
def JJ{Q:Exit->Act->World->Prop}(d:b[i]?=some o)(c:o.guard=none)(h:o.uponIn Fence.wide 0 P a (wpOpsIn Fence.wide 0 P b Q l) Q ((execOp a.eval o).run P w)):wpOpsIn Fence.wide 0 P b Q (i::l) a w:=by simp only[wpOpsIn,d];rw[if_pos (Lp c _ _)];exact⟨λ_ _=>trivial,h⟩
def zbj{c S:List Frame}{v:Value}(g:b[i]?=some o)(f:o.guard=none)(e:(execOp a.eval o).run P w=.ok .recover w)(d:recoverD c=some (v,S)\/(recoverD c=none/\v=.nilIface/\S=c))(h:wpOpsSIn Fence.wide 0 P b Q l (a.put o.dst v) S w):wpOpsSIn Fence.wide 0 P b Q (i::l) a c w:=by simp only[wpOpsSIn,g];refine⟨λ_ _=>trivial,?_⟩;rw[if_pos (Lp f _ _),e];rcases d with d|⟨d,rfl,rfl⟩<;>simp only[d]<;>exact h
def zbk{c:List Frame}{v:Value}(f:b[i]?=some o)(e:o.guard=none)(d:(execOp a.eval o).run P w=.ok (.value v) w)(h:wpOpsSIn Fence.wide 0 P b Q l (a.put o.dst v) c w):wpOpsSIn Fence.wide 0 P b Q (i::l) a c w:=by simp only[wpOpsSIn,f];refine⟨λ_ _=>trivial,?_⟩;rw[if_pos (Lp e _ _),d];exact h
def Od(h:o.op=.defer c)(i:o.dst=none)(j:o.guard=none)(k:c.callee=.value (.func g))(l:c.args= #[.tmp t])(b:look V t=some cap):vG P N #[o] g V cap V:=by
 intro O J a w Q d m;have e:(execOp a.eval o).run P w=.ok (.defer {target:=.fn (.func g) #[],args:= #[a.tmps.getD t undef]}) w:=by simp[execOp,h,resolve,k,l,Act.eval,Deferred.ofValue]
 show wpOpsIn Fence.wide 0 P #[o] Q [0] a w;refine JJ (o:=o) rfl j ?_;rw[e,Oper.uponIn_defer,i];exact m _ (.func g) #[] #[a.tmps.getD t undef] [a.tmps.getD t undef] rfl (λw=>by simp[invoke]) ⟨Ks d b,trivial⟩ ⟨d.size,λt c v b f=>d.yes t c v b f,λt c v b f=>d.no t c v b f⟩
def XQ{d:Oper}{u:Nat}(q:o.op=.makeFunc (.func g) #[] #[.tmp t])(r:o.dst=some u)(s:o.guard=none)(C:u<N)(E:d.op=.defer c)(F:d.dst=none)(G:d.guard=none)(x:c.callee=.value (.tmp u))(y:c.args= #[])(h:look V t=some cap):vG P N #[o,d] g V cap (zm [u] V):=by
 intro O J a w Q l z;have e:(execOp a.eval o).run P w=.ok (.value (.func (.func g) #[] #[a.tmps.getD t undef])) w:=by simp[execOp,q,Instr.makeFunc,Act.eval]
 show wpOpsIn Fence.wide 0 P #[o,d] Q [0,1] a w;refine JJ (o:=o) rfl s ?_;rw[e,Oper.uponIn_value,r];generalize k:a.put (some u) (.func (.func g) #[] #[a.tmps.getD t undef])=a1;have i:a.tmps.size=N:=l.size;have f:a1.tmps.getD u undef=.func (.func g) #[] #[a.tmps.getD t undef]:=by rw[<-k];simp[Act.put,oO,uH,i,C]
 have A:gN [u] a a1:=by rw[<-k];exact gN.put (nZ.2 rfl)
 have n:a1.defers=a.defers:=by rw[<-k];rfl
 have j:a1.tmps.size=N:=by rw[<-k];simp[Act.put,i]
 have p:(execOp a1.eval d).run P w=.ok (.defer {target:=.fn (.func g) #[a.tmps.getD t undef],args:= #[]}) w:=by simp[execOp,E,resolve,x,y,Act.eval,f,Deferred.ofValue]
 refine JJ (o:=d) rfl G ?_;rw[p,Oper.uponIn_defer,F];have b:=SG l A j;exact z _ (.func g) #[a.tmps.getD t undef] #[] [a.tmps.getD t undef] (by rw[<-n];rfl) (λw=>by simp[invoke]) ⟨Ks l h,trivial⟩ ⟨b.size,λt c v h m=>b.yes t c v h m,λt c v h m=>b.no t c v h m⟩
def Oc(hP:tb.ok P){id:Nat}{n:Oper}{p t1:Nat}(hf:P.funcs[g]?=some fn)(hb:fn.body=some (.seq (.region id #[o,n] false) C))(h1:o.op=.call c)(h2:o.dst=some p)(h3:o.guard=none)(h4:c.callee=.builtin .recover)(h5:c.args= #[])(k1:n.op=.assign (.tmp p))(k2:n.dst=some t1)(k3:n.guard=none)(hr:fn.results= #[])(ha:args.length<=fn.ntmps)(l4:p<fn.ntmps)(l1:t1<fn.ntmps){d:D}{K:MS->Prop}{E:Gh}{G:List Value}{y:Value}{Y:FrameMode}(hM:Mem E O J m w)(hA:jf O J args G)(hy:du O J (.d d) y)(hu:∀b:Frame,∀k,b.mode=u->(recoverD (b::k)=some (y,{b with mode:=Y}::k))\/(recoverD (b::k)=none/\y=.nilIface/\Y=u))(hs:settle Y=.returning)(h:ji P tb fn.ntmps true C (.put t1 (.d d)::.put p (.d d)::kc 0 args) m λx _ U=>(x=.U\/x=.ret)/\K U):
 CallsDIn Fence.wide 0 P g G.toArray u w λe Y M=>∃v j f U,e=.returned v/\settle Y=.returning/\Mem E j f U M/\Gr O J w j f M/\K U:=by
 refine callsDIn_of_wpSIn hf hb trivial λb k hc=>wpSIn_seq (wpSIn_region ?_);have hS:=(Hh hM hA ha (N:=fn.ntmps)).l;have F:({tmps:=G.toArray++Array.replicate (fn.ntmps - G.toArray.size) undef,defers:=[]}:Act).defers=[]:=rfl;generalize({tmps:=G.toArray++Array.replicate (fn.ntmps - G.toArray.size) undef,defers:=[]}:Act)=a at hS F;have e1:(execOp a.eval o).run P w=.ok .recover w:=by simp[execOp,h1,resolve,h4,h5,invoke];rfl
 have r:=SF hS l4 hy;have Q:(a.put (some p) y).defers=[]:=F;have Z:∀S,S={b with mode:=Y}::k->wpOpsSIn Fence.wide 0 P #[o,n] (Exit.thenS (C.wpSIn Fence.wide 0 P (bodyPostS P fn b k λe Y M=>∃v j f U,e=.returned v/\settle Y=.returning/\Mem E j f U M/\Gr O J w j f M/\K U)) (bodyPostS P fn b k λe Y M=>∃v j f U,e=.returned v/\settle Y=.returning/\Mem E j f U M/\Gr O J w j f M/\K U)) [1] (a.put (some p) y) S w:=by
  intro S aa;generalize a.put (some p) y=a1 at r Q;have W:=Ks r (t:=p) (v:=.d d) (by simp[look]);have e2:∃z,(execOp a1.eval n).run P w=.ok (.value z) w/\du O J (.d d) z:=⟨a1.eval (.tmp p),by simp[execOp,k1],W⟩;obtain⟨z,e2,hz⟩:=e2;have s:=SF r l1 hz;refine zbk (o:=n) rfl k3 e2 ?_;show C.wpSIn Fence.wide 0 P _ (a1.put n.dst z) S w;rw[k2,aa];have R:(a1.put (some t1) z).defers=[]:=Q;generalize a1.put (some t1) z=a2 at s R;refine wpSIn_of_wpIn rfl (wpIn_mono (eJ hP h E none 0 O J a2 w ef ⟨s,hM⟩) ?_);rintro e T M ⟨x,A,U,j,f,L,⟨hx,hK⟩,q2,q3,q4,q5,q6,⟨q7,q8,ad⟩,q9,_⟩;have hL:L=[]:=ad rfl;subst hL;have q7:f.k=J.k:=q7;have q6:Gr O J w j f M:=by rw[<-q7]at q6;exact q6
  have V:T.defers=[]:=by rw[q9,R];rfl
  have q:(results fn T.tmps).run P M=.ok (.tuple #[]) M:=by unfold results;rw[hr];simp
  cases e with
  |normal=>exact⟨V,Y,rfl,_,q,_,j,f,U,rfl,hs,q3,q6,hK⟩
  |ret=>exact⟨V,Y,rfl,_,q,_,j,f,U,rfl,hs,q3,q6,hK⟩
  |exit i=>rcases hx with rfl|rfl<;>exact(q2:False).elim
  |goto l=>rcases hx with rfl|rfl<;>exact(q2:False).elim
  |panic ch=>rcases hx with rfl|rfl<;>exact(q2:False).elim
  |outgrown=>rcases hx with rfl|rfl<;>exact(q2:False).elim
 show wpOpsSIn Fence.wide 0 P #[o,n] _ [0,1] a (b::k) w;refine zbj (o:=o) (v:=y) (S:={b with mode:=Y}::k) rfl h3 e1 ?_ (by rw[h2];exact Z _ rfl);rcases hu b k hc with hR|⟨hR,ac,ab⟩
 .exact .inl hR
 .exact .inr ⟨hR,ac,by rw[ab,<-hc]⟩
def xf(r:tb.ok P){id:Nat}{a:Oper}{b:Nat}(z:P.funcs[g]?=some fn)(t:fn.body=some (.seq (.region id #[o,a] false) C))(i:o.op=.call c)(j:o.dst=some b)(k:o.guard=none)(l:c.callee=.builtin .recover)(n:c.args= #[])(L:a.op=.assign (.tmp b))(M:a.dst=some e)(N:a.guard=none)(A:fn.results= #[])(s:args.length<=fn.ntmps)(R:b<fn.ntmps)(Q:e<fn.ntmps){d:D}{K:MS->Prop}(h:ji P tb fn.ntmps true C (.put e (.d d)::.put b (.d d)::kc 0 args) m λx _ U=>(x=.U\/x=.ret)/\K U):vH P g args d m K:=λE O J w G y q p F=>
 Oc r z t i j k l n L M N A s R Q (Y:=.panicking [{v:=y,recovered:=true}]) q p F (λf S u=>.inl (by simp[recoverD,u])) rfl h
def HM(r:tb.ok P){id:Nat}{a:Oper}{b:Nat}(v:P.funcs[g]?=some fn)(t:fn.body=some (.seq (.region id #[o,a] false) C))(i:o.op=.call c)(j:o.dst=some b)(k:o.guard=none)(l:c.callee=.builtin .recover)(n:c.args= #[])(A:a.op=.assign (.tmp b))(F:a.dst=some e)(L:a.guard=none)(z:fn.results= #[])(s:args.length<=fn.ntmps)(N:b<fn.ntmps)(M:e<fn.ntmps){K:MS->Prop}(h:ji P tb fn.ntmps true C (.put e (.d .ni)::.put b (.d .ni)::kc 0 args) m λx _ U=>(x=.U\/x=.ret)/\K U):uI P g args m K:=λE O J w G q p=>
 Oc r v t i j k l n A F L z s N M (d:=.ni) (y:=.nilIface) (Y:=.returning) q p ⟨ef,λ_=>rfl⟩ (λf Q u=>.inr ⟨by simp[recoverD,u],rfl,rfl⟩) rfl h
end Sx
namespace Sx
attribute [local irreducible] b6 eF fR ez eH eB eM fx dC ec dU dx
def m4(t:Tb)(r a:Int):Int:=bif bk t.b r then(bif decide (a>=0)&&decide (a<8)then 0 else 2)else 4
def N3(t:Tb)(r a:Int){m:MS}{K:Out->MS->Prop}(f:m4 t r a=0->K (.ret (.d (lU (b1 t r)))) m)(g:m4 t r a≠0->K (lZ (m4 t r a)) m):b6 a6 366 [.d (eN t),H r,I a] m K:=by
 refine Ai (Q:=λo=>(m4 t r a=0/\o=.ret (.d (lU (b1 t r))))\/(m4 t r a≠0/\o=lZ (m4 t r a))) rfl ?_ λo h=>?_
 .refine fm func366 ?_;refine bo (uK t r) ?_;conv=>whnf
  cases d:bk t.b r with
  |false=>
   have e:m4 t r a=4:=by rw[m4,d];rfl
   refine xc false 4 _ ef λ_=>?_;conv=>whnf
   rw[e];exact⟨rfl,.inr ⟨a8,rfl⟩,rfl⟩
  |true=>
   refine xc true 0 _ (λ_=>?_) ef;refine xc (decide (a>=0)&&decide (a<8)) 2 _ (λc=>?_) λc=>?_
   .have e:m4 t r a=0:=by rw[m4,d,c];rfl
    exact a4 rfl (a4 (.inl ⟨e,rfl⟩) rfl)
   .have e:m4 t r a=2:=by rw[m4,d,c];rfl
    conv=>whnf
    rw[e];exact⟨rfl,.inr ⟨a8,rfl⟩,rfl⟩
 .rcases h with⟨b,rfl⟩|⟨b,rfl⟩
  .exact f b
  .exact g b
end Sx
namespace Sx
variable{f:FuncId}{args:List SV}
def HN{fn:Func}{i C:Code}{id:Nat}{a:Array Oper}(k:a6.funcs[f]?=some fn)(j:fn.body=some (.seq i (.seq (.region id a false) C)))(p:(fn.name== "runtime.NumGoroutine")=false)(o:Nat.ble fn.results.toList.length 3=true)(l:Nat.ble args.length fn.ntmps=true){g:FuncId}{b:Func}(n:a6.funcs[g]?=some b)(e:(b.name== "runtime.NumGoroutine")=false)(c:b.body.isNone=false)(W:List Nat){m:MS}{K:Out->MS->Prop}(h:ji a6 ff fn.ntmps true i (kc 0 args) m λx V m1=>∃cap fr1,x=.U/\vG a6 fn.ntmps a g V cap fr1/\s0 a6 fn.ntmps false C W fr1 m1 λx fr2 m2=>match x with
  | .exit _=>False
  | .P d=>vH a6 g [cap] d m2 λm3=>∃v,rT ff (zm W fr1) m3 fn.results.toList=some v/\K (.ret v) m3
  |_=>uI a6 g [cap] m2 λm3=>∃v,rT ff fr2 m3 fn.results.toList=some v/\K (.ret v) m3):b6 a6 f args m K:=
 XE c6 k j (v8 k p (by rw[j];rfl)) (dF o) (dF l) (v8 n e c) (W:=W) h
attribute [local irreducible] b6 eF fR ez eH eB eM fx dC ec dU dx s0 vH uI vG
def Oq{P:Program}{Q:Out->Prop}(h:b6 P f args ⟨[],[],[]⟩ λo _=>(match o with
  | .ret v=>v.ids 0 0 0=true
  | .P _=>True)/\Q o):b6 P f args ⟨[],[],[]⟩ λo m=>Q o/\m=⟨[],[],[]⟩:=Dz (fa h λo U h=>by
 cases o with
 |P d=>exact⟨rfl,h.2,rfl⟩
 |ret v=>exact⟨v,λ_ _ _ h=>h,by
  show(v.ids 0 0 0&&(eV 0 0 0 (U.c.take 0)&&gV 0 0 0 (U.o.take 0)))=true;rw[h.1];rfl,h.2,rfl⟩)
set_option maxHeartbeats 1000000 in
def zbL(t:Tb)(r a A:Int)(b:Bool){u:Int->Nat}(s:Rk t u)(q:vO {b1 t r with cells:=a7 (b1 t r).cells a.toNat A}):b6 a6 364 [.d (eN t),H r,I a,H A,B b] ⟨[],[],[]⟩ λo m=>(∃X:D,o=.ret (T2 (.d X) (I (iX t r a A b)))/\(X=ZT.d uG\/∃t',X=eN t')/\(iX t r a A b=0->X=eN (oI t r a A)))/\m=⟨[],[],[]⟩:=by
 refine Oq ?_;refine HN func364 rfl ey rfl rfl (g:=365) func365 ey rfl (List.range' 12 60) ?_;conv=>whnf
 refine⟨_,_,rfl,Od (t:=11) rfl rfl rfl rfl rfl rfl,?_⟩;refine Bj (eJ c6 ?_) ey;conv=>whnf
 refine bo (jA t.b r) ?_;conv=>whnf
 refine c9 (jA t.b A) (λ_ h _ _=>h) ?_;conv=>whnf
 refine xc (bk t.b r&&((A==0)||bk t.b A)) 4 _ (λl=>?_) (λl=>?_)
 .conv=>
   whnf
  refine N3 t r a (λc=>?_) (λc=>?_)
  .conv=>
    whnf
   refine c9 (GH t A r s) (λ_ h _=>h) ?_;conv=>whnf
   refine xc (((A==0)||b)||kz t A r) 5 _ (λn=>?_) (λn=>?_)
   .have k:0<=a/\a<8:=by
     cases j:(decide (a>=0)&&decide (a<8))with
     |true=>simpa using j
     |false=>
      unfold m4 at c;rw[j]at c;cases p:bk t.b r<;>rw[p]at c<;>cases c
    conv=>whnf
    refine⟨k,?_⟩;conv=>whnf
    refine⟨.d (lU {b1 t r with cells:=a7 (b1 t r).cells a.toNat A}),dE (λf=>SV.d (.H (.z .u32 (b1 t r).up) (.H (.z .i64 (b1 t r).E) (.H (rA (b1 t r).rs (b1 t r).len) (.H (.ar 8 .c f) .un))))) (iU (λx=>D.z .u32 x) (b1 t r).cells a.toNat A),?_⟩;conv=>whnf
    refine bo (CO t r {b1 t r with cells:=a7 (b1 t r).cells a.toNat A} q) ?_;conv=>whnf
    refine HM c6 func365 rfl rfl rfl rfl rfl rfl rfl rfl rfl rfl (dF rfl) (dF rfl) (dF rfl) ?_;conv=>whnf
    refine b0 ?_;conv=>whnf
    refine⟨.inl rfl,_,rfl,rfl,eN (oI t r a A),?_,.inr ⟨_,rfl⟩,λ_=>rfl⟩;have e:iX t r a A b=hQ t r {b1 t r with cells:=a7 (b1 t r).cells a.toNat A}:=by unfold iX;have d:=iZ.1 l;rw[d.1,d.2,n,eI k.1,eI k.2];rfl
    rw[e];rfl
   .conv=>whnf
    refine xf c6 func365 rfl rfl rfl rfl rfl rfl rfl rfl rfl rfl (dF rfl) (dF rfl) (dF rfl) ?_;conv=>whnf
    refine⟨λ_=>?_,ef⟩;conv=>whnf
    refine b0 ?_;conv=>whnf
    have e:iX t r a A b=5:=by
     unfold iX;have d:=iZ.1 l;have k:0<=a/\a<8:=by
      cases j:(decide (a>=0)&&decide (a<8))with
      |true=>simpa using j
      |false=>
       unfold m4 at c;rw[j]at c;cases p:bk t.b r<;>rw[p]at c<;>cases c
     rw[d.1,d.2,n,eI k.1,eI k.2];rfl
    rw[e];exact⟨.inl rfl,_,rfl,rfl,ZT.d uG,rfl,.inl rfl,ef⟩
  .conv=>whnf
   refine xf c6 func365 rfl rfl rfl rfl rfl rfl rfl rfl rfl rfl (dF rfl) (dF rfl) (dF rfl) ?_;conv=>whnf
   refine ej ?_;conv=>whnf
   refine b0 ?_;conv=>whnf
   have e:iX t r a A b=m4 t r a:=by
    have d:=iZ.1 l;have i:m4 t r a≠0:=c;unfold iX;unfold m4 at i ⊢;rw[d.1,d.2];rw[d.1]at i;cases j:(decide (a>=0)&&decide (a<8))with
    |true=>rw[j]at i;exact b3 rfl i
    |false=>rfl
   rw[e];exact⟨.inl rfl,_,rfl,rfl,ZT.d uG,rfl,.inl rfl,(λh=>b3 h c)⟩
 .conv=>whnf
  refine xf c6 func365 rfl rfl rfl rfl rfl rfl rfl rfl rfl rfl (dF rfl) (dF rfl) (dF rfl) ?_;conv=>whnf
  refine ej ?_;conv=>whnf
  refine b0 ?_;conv=>whnf
  have e:iX t r a A b=4:=by unfold iX;rw[l];rfl
  rw[e];exact⟨.inl rfl,_,rfl,rfl,ZT.d uG,rfl,.inl rfl,ef⟩
end Sx
end Go.Proofs.YtfbhkfhbnkncoaaGreatDoor
