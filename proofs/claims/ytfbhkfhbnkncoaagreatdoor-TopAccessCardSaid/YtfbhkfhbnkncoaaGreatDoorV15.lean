import Derived.Test.YtfbhkfhbnkncoaaGreatDoorV14
set_option linter.all false
namespace Go.Proofs.YtfbhkfhbnkncoaaGreatDoor
open Go.RowKit Tryz
open Tryz renaming prog→a6
namespace Sx
attribute [local irreducible] b6 eF ez eH eB eM dC ec dU dx
structure Rn where
 at_:Int
 n:Int
def fi:Ty:=.p .c (.p .c .u)
def dR(r:Rn):D:=.H (.z .i64 r.at_) (.H (.z .i64 r.n) .un)
def pD(r:Rn)(h:dx (r.at_+r.n)):c5 a6 191 [.d (dR r)] (I (r.at_+r.n)):=by
 refine dq func191 ?_;exact a4 h b7
def sA(r:Rn):Bool:=(decide (r.n>=1)&&decide (r.at_>=0))&&decide (r.at_<=64 - r.n)
def Jk(r:Rn)(h:dx r.n):c5 a6 190 [.d (dR r)] (B (sA r)):=by
 refine dq func190 ?_;refine a4 ?_ ?_
 .intro a;conv=>whnf
  have:(decide (r.n>=1)&&decide (r.at_>=0))=true:=a;simp at this;unfold dx at h;exact eD (x:=64 - r.n) a3 a3
 exact b7
structure Rg where
 up:Int
 E:Int
 rs:List Rn
 len:Int
 cells:Nat->Int
def BR:Ty:=.p .c (.p .c (.p (.p .c (.p .c .u)) (.p (.ar 8 .c) .u)))
def rA(l:List Rn)(F:Int):D:=.H (fq fi (l.map dR)) (.H (.z .i64 F) .un)
def lU(r:Rg):D:=.H (.z .u32 r.up) (.H (.z .i64 r.E) (.H (rA r.rs r.len) (.H (.ar 8 .c λi=>.z .u32 (r.cells i)) .un)))
structure Tb where
 b:fG
 r:Nat->Rg
def eN(t:Tb):D:=.H (.H (kR t.b) .un) (.H (.ar 32 BR λi=>lU (t.r i)) .un)
def A0(t:Tb)(h:Int):Int:=bif bk t.b (t.r (a5 h)).up then(t.r (a5 h)).up else 0
def Ta(t:Tb)(h:Int):c5 a6 90 [.d (eN t),H h] (H (A0 t h)):=by
 refine dq func90 ?_;refine bo (rm h) (a4 (nR h) (bo (jA t.b _) ?_));apply a4<;>intro b
 .have a:bk t.b (t.r (a5 h)).up=true:=b;refine b7 ?_;rw[A0,a];rfl
 .have a:bk t.b (t.r (a5 h)).up=false:=b;refine b7 ?_;rw[A0,a];rfl
def iY:Rg:=⟨0,0,[],0,λ_=>0⟩
def b1(t:Tb)(h:Int):Rg:=bif bk t.b h then{t.r (a5 h)with up:=A0 t h}else iY
def uK(t:Tb)(h:Int):c5 a6 43 [.d (eN t),H h] (T2 (.d (lU (b1 t h))) (I (bif bk t.b h then 0 else 4))):=by
 refine dq func43 ?_;refine bo (jA t.b h) ?_;apply a4<;>intro b
 .have a:bk t.b h=false:=b8 b
  refine b7 ?_;rw[b1,a];rfl
 .have a:bk t.b h=true:=b8 b
  refine bo (rm h) (a4 (nR h) (bo (Ta t h) (b7 ?_)));rw[b1,a];rfl
def Rp(n:Int):c5 a6 369 [I n] (B (decide (n>=0)&&decide (n<=64))):=by
 refine dq func369 ?_;exact b7
def jZ(t:Tb)(h:Int):Tb:=bif bk t.b h then⟨e8 t.b h,a7 t.r (a5 h) iY⟩else t
def UR(t:Tb)(h:Int):c5 a6 371 [.d (eN t),H h] (T2 (.d (eN (jZ t h))) (I (bif bk t.b h then 0 else 4))):=by
 refine dq func371 ?_;refine bo (ML t.b h) ?_;apply a4<;>intro b
 .have a:bk t.b h=false:=b8 b
  refine b7 ?_;rw[jZ,a];rfl
 .have a:bk t.b h=true:=b8 b
  refine bo (rm h) (a4 (nR h) ?_);conv=>whnf
  refine⟨.d (eN ⟨e8 t.b h,a7 t.r (a5 h) iY⟩),dE (λf=>SV.d (.H (.H (kR (e8 t.b h)) .un) (.H (.ar 32 BR f) .un))) (iU lU t.r (a5 h) iY),?_⟩;refine b7 ?_;rw[jZ,a];rfl
def jR(t:Tb)(E n:Int):Int:=bif (E != 0)&&!bk t.b E then 4 else bif !(decide (n>=0)&&decide (n<=64))then 2 else bif (kH t.b).isSome then 0 else 7
def oC(t:Tb)(E n:Int):Tb:=bif jR t E n==0 then⟨fK t.b,a7 t.r (a5 (dY t.b)) ⟨E,n,[],0,λ_=>0⟩⟩else t
def qd(t:Tb)(E n:Int):Int:=bif jR t E n==0 then dY t.b else 0
def Vz(t:Tb)(E n:Int):c5 a6 342 [.d (eN t),H E,I n] (T3 (.d (eN (oC t E n))) (H (qd t E n)) (I (jR t E n))):=by
 refine dq func342 ?_;refine c9 (jA t.b E) (λ_ h _=>h) ?_;apply a4<;>intro d
 .have b:jR t E n=4:=by have:((E != 0)&&!bk t.b E)=true:=d;rw[jR,this];rfl
  refine b7 ?_;rw[oC,qd,b];rfl
 .have d:((E != 0)&&!bk t.b E)=false:=d;refine bo (Rp n) ?_;apply a4<;>intro c
  .have b:jR t E n=2:=by have c:(!(decide (n>=0)&&decide (n<=64)))=true:=c;rw[jR,d,c];rfl
   refine b7 ?_;rw[oC,qd,b];rfl
  .have c:(!(decide (n>=0)&&decide (n<=64)))=false:=c;refine bo (Mb t.b) ?_;apply a4<;>intro a
   .have b:jR t E n=7:=by
     have a:(!(kH t.b).isSome)=true:=a;have a:(kH t.b).isSome=false:=b8 a
     rw[jR,d,c,a];rfl
    refine b7 ?_;rw[oC,qd,b];rfl
   .have b:jR t E n=0:=by
     have a:(!(kH t.b).isSome)=false:=a;have a:(kH t.b).isSome=true:=b8 a
     rw[jR,d,c,a];rfl
    refine bo (rm (dY t.b)) (a4 (nR _) ?_);conv=>whnf
    refine⟨.d (eN ⟨fK t.b,a7 t.r (a5 (dY t.b)) ⟨E,n,[],0,λ_=>0⟩⟩),dE (λf=>SV.d (.H (.H (kR (fK t.b)) .un) (.H (.ar 32 BR f) .un))) (iU lU t.r (a5 (dY t.b)) ⟨E,n,[],0,λ_=>0⟩),?_⟩;refine b7 ?_;rw[oC,qd,b];rfl
structure Rk (t:Tb) (rk:Int->Nat):Prop where
 le:∀x,rk x<40
 lt:∀x,A0 t x≠0->rk (A0 t x)<rk x
def xL(t:Tb)(h:Int):Nat->Int->Bool
 |0,_=>false
 |k+1,x=>(x != 0)&&((x==h)||xL t h k (A0 t x))
def xM(t:Tb)(h x:Int):Bool:=xL t h 40 x
def lx(t:Tb)(h E:Int):Int:=bif !bk t.b h||((E != 0)&&!bk t.b E)then 4 else bif xM t h E then 12 else 0
def iW(t:Tb)(h E:Int):Tb:=bif lx t h E==0 then⟨t.b,a7 t.r (a5 h) {t.r (a5 h)with up:=E}⟩else t
def MD(t:Tb)(h E:Int){l:Int->Nat}(m:Rk t l):c5 a6 354 [.d (eN t),H h,H E] (T2 (.d (eN (iW t h E))) (I (lx t h E))):=by
 refine dq func354 ?_;refine bo (jA t.b h) (c9 (jA t.b E) (λp o _ _=>o) ?_);apply a4<;>intro e
 .have d:lx t h E=4:=by have:(!bk t.b h||((E != 0)&&!bk t.b E))=true:=e;rw[lx,this];rfl
  refine b7 ?_;rw[iW,d];rfl
 .have e:(!bk t.b h||((E != 0)&&!bk t.b E))=false:=e;refine dX c6 (λ(i:Nat×Int)=>xM t h E=xL t h i.1 i.2/\(i.2=0\/l i.2<i.1)) (λi=>i.1) (λi=>[(8,H i.2)]) (λ_=>⟨[.d (eN t),.d (ZT.d uG)],[],[]⟩) (40,E) ⟨rfl,.inr (m.le E)⟩ ⟨rfl,trivial⟩ rfl (λi=>⟨a9 _,a9 _,a9 _⟩) ?_;rintro⟨k,x⟩ ⟨g,a⟩;apply a4<;>intro b
  .have b:(x != 0)=true:=b;have q:x≠0:=b8 b
   obtain⟨j,rfl⟩:∃j,k=j+1:=⟨k - 1,by rcases a with a|a<;>simp at a<;>omega⟩;simp only[xL,b,po]at g;apply a4<;>intro c
   .have c:(x==h)=true:=c;have d:lx t h E=12:=by rw[lx,e,g,c];rfl
    refine b7 ?_;rw[iW,d];rfl
   .have c:(x==h)=false:=c;rw[c,tE]at g;refine bo (Ta t x) ?_;conv=>whnf
    refine⟨(j,A0 t x),⟨g,?_⟩,mL j,⟨rfl,trivial⟩,⟨rfl,rfl⟩,rfl⟩;by_cases n:A0 t x=0
    .exact .inl n
    .have:=m.lt x n;rcases a with a|a
     .exact b3 a q
     .simp at a;exact .inr (by show l (A0 t x)<j;omega)
  .have b:(x != 0)=false:=b;have d:lx t h E=0:=by
    rw[lx,e,g];cases k with
    |zero=>rfl
    |succ k=>simp only[xL,b];rfl
   refine bo (rm h) (a4 (nR h) ?_);conv=>whnf
   refine⟨.d (eN ⟨t.b,a7 t.r (a5 h) {t.r (a5 h)with up:=E}⟩),dE (λf=>SV.d (.H (.H (kR t.b) .un) (.H (.ar 32 BR f) .un))) (iU lU t.r (a5 h) {t.r (a5 h)with up:=E}),?_⟩;refine b7 ?_;rw[iW,d];rfl
structure Msg where
 J:Int
 word:Int
 D:Int
 sh:Bool
def uV(m:Msg):D:=.H (.z .u8 m.J) (.H (.z .u64 m.word) (.H (.z .u32 m.D) (.H (.I m.sh) .un)))
def uC:Ty:=.p .c (.p .c (.p .c (.p .c .u)))
structure MBox where
 ring:Nat->Msg
 J:Int
 n:Int
 cl:Bool
def lT(b:MBox):D:=.H (.ar 4 uC λi=>uV (b.ring i)) (.H (.z .i64 b.J) (.H (.z .i64 b.n) (.H (.I b.cl) .un)))
structure BoxOk (b:MBox):Prop where
 f0:0<=b.J
 f1:b.J<4
 n0:0<=b.n
 n1:b.n<=4
def kE(b:MBox)(i:Int):Int:=(b.J+i).tmod 4
def Hj{b:MBox}(h:BoxOk b){i:Int}(a:0<=i)(c:i<=4):0<=kE b i/\kE b i<4:=by unfold kE;have:=h.f0;have:=h.f1;rw[vI a3];omega
def Hk(b:MBox)(i:Int)(h:BoxOk b)(a:0<=i)(c:i<=4):c5 a6 363 [.d (lT b),I i] (I (kE b i)):=by
 have:=h.f0;have:=h.f1;refine dq func363 ?_;exact b2 (x:=b.J+i) (a4 ⟨a8,nM (by have:=Hj h a c;unfold kE at this;exact eD a3 a3)⟩ b7)
def j6(b:MBox):Int:=bif b.cl then 11 else bif b.n==4 then 7 else 0
def jq(b:MBox)(m:Msg):MBox:=bif j6 b==0 then{b with ring:=a7 b.ring (kE b b.n).toNat m,n:=b.n+1}else b
def CN(b:MBox)(m:Msg)(h:BoxOk b):c5 a6 336 [.d (lT b),.d (uV m)] (T2 (.d (lT (jq b m))) (I (j6 b))):=by
 have:=h.n0;have:=h.n1;refine dq func336 ?_;apply a4<;>intro a
 .have a:b.cl=true:=a;have d:j6 b=11:=by rw[j6,a];rfl
  refine b7 ?_;rw[jq,d];rfl
 .have a:b.cl=false:=a;apply a4<;>intro c
  .have c:(b.n==4)=true:=c;have d:j6 b=7:=by rw[j6,a,c];rfl
   refine b7 ?_;rw[jq,d];rfl
  .have c:(b.n==4)=false:=c;have d:j6 b=0:=by rw[j6,a,c];rfl
   refine dL 6 (c9 (Hk b b.n h h.n0 h.n1) (λ_ h=>h) (a4 (Hj h h.n0 h.n1) ?_));conv=>whnf
   refine⟨.d (lT {b with ring:=a7 b.ring (kE b b.n).toNat m}),dE (λf=>SV.d (.H (.ar 4 uC f) (.H (.z .i64 b.J) (.H (.z .i64 b.n) (.H (.I b.cl) .un))))) (iU uV b.ring (kE b b.n).toNat m),?_⟩;refine b2 (x:=b.n+1) (b7 ?_);rw[jq,d];rfl
def mz:Msg:=⟨0,0,0,false⟩
def lA(b:MBox):Int:=bif (b.n==0)&&b.cl then 11 else bif b.n==0 then 10 else 0
def ia(b:MBox):MBox:=bif lA b==0 then{b with J:=kE b 1,n:=b.n - 1}else b
def gJ(b:MBox):Msg:=bif lA b==0 then b.ring b.J.toNat else mz
def MJ(b:MBox)(h:BoxOk b):c5 a6 337 [.d (lT b)] (T3 (.d (lT (ia b))) (.d (uV (gJ b))) (I (lA b))):=by
 have:=h.n0;have:=h.n1;refine dq func337 ?_;apply a4<;>intro a
 .have a:((b.n==0)&&b.cl)=true:=a;have d:lA b=11:=by rw[lA,a];rfl
  refine b7 ?_;rw[ia,gJ,d];rfl
 .have a:((b.n==0)&&b.cl)=false:=a;apply a4<;>intro c
  .have c:(b.n==0)=true:=c;have d:lA b=10:=by rw[lA,a,c];rfl
   refine b7 ?_;rw[ia,gJ,d];rfl
  .have c:(b.n==0)=false:=c;have d:lA b=0:=by rw[lA,a,c];rfl
   have e:b.n≠0:=b8 c
   refine a4 ⟨h.f0,h.f1⟩ (fg (List.range 9) [(6,16),(8,0)] (c9 (Hk b 1 h a3 a3) (λ_ h=>h) (b2 (x:=b.n - 1) ?_)));conv=>whnf
   repeat' (first|(refine⟨(show _/\_ from⟨rfl,rfl⟩),?_⟩;conv=>whnf))
   refine fg (List.range 5) [(2,2),(3,0)] ?_;conv=>whnf
   repeat' (first|(refine⟨(show _/\_ from⟨rfl,rfl⟩),?_⟩;conv=>whnf))
   refine b7 ?_;rw[ia,gJ,d];rfl
def dW(b:fG):List Int:=dI b
def LL(b:fG):CE a6 19 [.d (.H (kR b) .un)] .c (hL (dW b)):=by
 have h:=Md b;unfold dW;generalize hL (dI b)=L at h ⊢;cases L with
 |nil=>
  refine dq func19 ?_;exact bo (h) b7
 |cons x r=>
  refine uT 0 0 1 ⟨a9 _,a9 _,dG _⟩ (zy func19 rfl ey rfl rfl ?_);refine Ir rfl h _ _ λv=>?_;conv=>whnf
  exact⟨_,SV.le_refl _,rfl,v,rfl,rfl⟩
def Cg(b:fG):c5 a6 19 [.d (.H (kR b) .un)] (HS (dW b)):=Qe rfl (LL b)
def pa(s t:Int):Bool:=((decide (s>=0)&&decide (s<32))&&decide (t>=0))&&decide (t<8)
def Ji(s t:Int):c5 a6 199 [I s,I t] (B (pa s t)):=by
 refine dq func199 ?_;exact b7
def jC(t:Int):Int:=ec .u8 1 (dC .and .i64 t 7)
def GY(t:Int):0<=dC .and .i64 t 7/\dC .and .i64 t 7<=7:=by
 unfold dC;have a:(BitVec.ofInt IntKind.i64.bits t&&& BitVec.ofInt IntKind.i64.bits 7).toNat<=7:=by rw[Gg];exact eY Nat.and_le_right a8
 have:=l5 (k:=.i64) (x:=((BitVec.ofInt IntKind.i64.bits t&&& BitVec.ofInt IntKind.i64.bits 7).toNat:Int)) (iL (by simp only[eU];omega) (λ_=>a3) (by simp only[eU];omega));show 0<=IntKind.i64.wrap _/\IntKind.i64.wrap _<=7;rw[this];omega
def Ds(t:Int):c5 a6 180 [I t] (.d (.z .u8 (jC t))):=by
 refine dq func180 ?_;exact a4 ((GY t).1) b7
def n8(l:List Rn):D:=.H (fq fi (l.map dR)) .un
def wz(n:Int):List Rn:=bif decide ((bif decide (64<n)then 64 else n)<1)then[]else[⟨0,bif decide (64<n)then 64 else n⟩]
def Mv(n:Int)(h:dx n):c5 a6 188 [I n] (.d (n8 (wz n))):=by
 refine dq func188 ?_;refine a4 ⟨h,eD a8 a8⟩ ?_;apply a4<;>intro a
 .have a:decide ((bif decide (64<n)then 64 else n)<1)=true:=a;refine b7 ?_;rw[wz,a];rfl
 .have a:decide ((bif decide (64<n)then 64 else n)<1)=false:=a;refine Or.inl (b7 ?_);rw[wz,a];rfl
structure Tk where
 D:Int
 V:Int
 W:Int
 mu:Bool
 A:Int
def td(k:Tk):D:=.H (.z .u32 k.D) (.H (.z .u8 k.V) (.H (.z .u8 k.W) (.H (.I k.mu) (.H (.z .u32 k.A) .un))))
def KU:Ty:=.p .c (.p .c (.p .c (.p .c (.p .c .u))))
structure Toks where
 b:fG
 s:Nat->Tk
def j2(k:Toks):D:=.H (kR k.b) (.H (.ar 16 KU λi=>td (k.s i)) .un)
def l8(k:Toks):Prop:=∀i,16<=i->(k.b i).L=false
def l8.lt{k:Toks}(h:l8 k){x:Int}(j:bk k.b x=true):0<=ny x/\ny x<16:=by
 refine⟨(nR x).1,?_⟩;rcases jB (a5 x) 16 with f|f
 .have:=(nR x).1;unfold a5 at f;omega
 .have:=h _ f;unfold bk at j;rw[this]at j;simp at j
def sM:Tk:=⟨0,0,0,false,0⟩
def dr(k:Toks)(x:Int):Tk:=bif bk k.b x then k.s (a5 x)else sM
def uQ(k:Toks)(x:Int)(h:l8 k):c5 a6 168 [.d (j2 k),H x] (T2 (.d (td (dr k x))) (I (bif bk k.b x then 0 else 4))):=by
 refine dq func168 ?_;refine bo (jA k.b x) ?_;apply a4<;>intro b
 .have a:bk k.b x=false:=b8 b
  refine b7 ?_;rw[dr,a];rfl
 .have a:bk k.b x=true:=b8 b
  refine bo (rm x) (a4 (h.lt a) (b7 ?_));rw[dr,a];rfl
def ll(k:Toks)(x:Int):Bool:=(x==0)||bk k.b x
def Iz(k:Toks)(x:Int):c5 a6 88 [.d (j2 k),H x] (B (ll k x)):=by
 refine dq func88 ?_;exact c9 (jA k.b x) (λ_ h _=>h) b7
def Uz(b:MBox):c5 a6 338 [.d (lT b)] (T2 (.d (lT {b with cl:=true})) (I (bif b.cl then 11 else 0))):=by
 refine dq func338 ?_;apply a4<;>intro a
 .have a:b.cl=true:=a;refine b7 ?_;obtain⟨r,f,n,c⟩:=b;subst a;rfl
 .have a:b.cl=false:=a;refine b7 ?_;rw[a];rfl
structure Line where
 has:Int
 n:Int
 wait:Nat->Int
def zM:Ty:=.p .c (.p .c (.p (.ar 8 .c) .u))
def kS(l:Line):D:=.H (.z .u8 l.has) (.H (.z .i64 l.n) (.H (.ar 8 .c λi=>.z .u8 (l.wait i)) .un))
def lG(m:Nat->Line):D:=.H (.ar 32 zM λi=>kS (m i)) .un
def Jj{s t:Int}(h:pa s t=true):(0<=s/\s<32)/\0<=t/\t<8:=by unfold pa at h;simp at h;omega
def zd(m:Nat->Line)(s t:Int):Bool:=pa s t&&((m s.toNat).has==t+1)
def ue(m:Nat->Line)(s t:Int):Nat->Line:=bif zd m s t then a7 m s.toNat {m s.toNat with has:=0}else m
def UY(m:Nat->Line)(s t:Int):c5 a6 198 [.d (lG m),I s,I t] (.d (lG (ue m s t))):=by
 refine dq func198 ?_;conv=>whnf
 refine bo (Ji s t) ?_;conv=>whnf
 refine⟨?_,?_⟩
 .conv=>whnf
  intro h;exact(Jj h).1
 conv=>whnf
 refine⟨?_,?_⟩
 .conv=>whnf
  intro h;have:=(Jj h).2;exact eD (x:=t+1) a3 a3
 conv=>whnf
 apply a4<;>intro a
 .have a:zd m s t=true:=a;conv=>whnf
  refine⟨(Jj (by unfold zd at a;simp at a;exact a.1)).1,?_⟩;conv=>whnf
  refine⟨.d (lG (a7 m s.toNat {m s.toNat with has:=0})),dE (λf=>SV.d (.H (.ar 32 zM f) .un)) (iU kS m s.toNat {m s.toNat with has:=0}),?_⟩;conv=>whnf
  refine b7 ?_;rw[ue,a];rfl
 .have a:zd m s t=false:=a;conv=>whnf
  refine b7 ?_;rw[ue,a];rfl
def n9(x:Nat->Int)(v:Int)(i:Nat):Nat->Int
 |0=> -1
 |k+1=>bif v==x i then i else n9 x v (i+1) k
def oz(x:Nat->Int)(v:Int)(n:Nat):Int:=n9 x v 0 n
def Ve(n:Nat)(x:Nat->Int)(v:Int)(f:n<=2147483648):c5 a6 377 [.d (.X n .c λi=>.z .i64 (x i)),I v] (I (oz x v n)):=by
 refine dq func377 ?_;refine b2 (x:=(n:Int)) (dX c6 (λi=>i<=n/\oz x v n=n9 x v i (n - i)) (λi=>n - i) (λi=>[(8,I i)]) (λ_=>⟨[],[],[]⟩) 0 ⟨a3,rfl⟩ ⟨rfl,trivial⟩ rfl (λi=>⟨a9 _,a9 _,a9 _⟩) ?_);rintro i ⟨e,a⟩;apply a4<;>intro d
 .have b:i<n:=eZ d
  rw[show n - i=(n -(i+1))+1 by omega]at a;refine a4 ⟨a3,a3⟩ ?_;apply a4<;>intro c
  .have c:(v==x i)=true:=c;simp only[n9,c]at a;refine b7 ?_;rw[a];rfl
  .have c:(v==x i)=false:=c;simp only[n9,c]at a;refine b2 (x:=(i:Int)+1) ?_;conv=>whnf
   exact⟨i+1,⟨b,a⟩,a3,⟨rfl,trivial⟩,⟨rfl,rfl⟩,rfl⟩
 .have b:i=n:=e9 d
  subst b;rw[tM]at a;refine b7 ?_;rw[a];rfl
def UK(n:Nat)(x:Nat->Int)(v:Int)(a:n<=2147483648):c5 a6 370 [.d (.X n .c λi=>.z .i64 (x i)),I v] (B (decide (oz x v n>=0))):=by
 refine dq func370 ?_;exact bo (Ve n x v a) b7
def vR(a:Int):Bool:=decide (oz (λi=>[1,2,4,8].getD i 0) a 4>=0)
def lq(s a:Int):Bool:=(decide (s>=1)&&decide (s<=128))&&vR a
def Yx:(SV.ow 0 0 4 .c (c7 [.z .i64 1,.z .i64 2,.z .i64 4,.z .i64 8])).le (.d (.X 4 .c λi=>.z .i64 (([1,2,4,8]:List Int).getD i 0))):=λO J y h=>by
 refine b0 ?_;exact((h.B9 (d:=.X 4 .c (c7 [.z .i64 1,.z .i64 2,.z .i64 4,.z .i64 8])) rfl).X).congr λi a=>by
  match i,a with
  |0,_=>rfl
  |1,_=>rfl
  |2,_=>rfl
  |3,_=>rfl
def Qy(s a:Int):c5 a6 345 [I s,I a] (B (lq s a)):=by
 refine dq func345 ?_;exact c9 ((UK 4 _ a a8).le ⟨Yx,SV.le_refl _,trivial⟩) (λ_ h _=>h) b7
def jb(s a:Int):Int:=bif lq s a then IntKind.i64.wrap ((s+32 - 1).tdiv 32)else 0
def Vw(s a:Int):c5 a6 316 [I s,I a] (T2 (I (jb s a)) (B (lq s a))):=by
 refine dq func316 ?_;refine bo (Qy s a) ?_;apply a4<;>intro b
 .have b:lq s a=false:=b8 b
  refine b7 ?_;rw[jb,b];rfl
 .have b:lq s a=true:=b8 b
  have c:s>=1/\s<=128:=by unfold lq at b;simp at b;exact b.1
  refine b2 (x:=s+32) (b2 (x:=s+32 - 1) (a4 (a8:(32:Int)≠0) (b7 ?_)));rw[jb,b];rfl
end Sx
namespace Sx
attribute [local irreducible] b6 eF fR ez eH eB eM fx dC ec dU dx
def sH(t:Tb):Nat->Int->Int
 |0,x=>x
 |k+1,x=>bif A0 t x==0 then x else sH t k (A0 t x)
def fl(t:Tb)(h:Int):Int:=bif bk t.b h then sH t 40 h else 0
def Gn(t:Tb)(h:Int)(a:bk t.b h=true):c5 a6 43 [.d (eN t),H h] (T2 (.d (lU {t.r (a5 h)with up:=A0 t h})) (I 0)):=by
 have:=uK t h
 rwa [b1,a]at this
def BW{t:Tb}{x:Int}(h:A0 t x≠0):bk t.b (A0 t x)=true:=by
 unfold A0 at h ⊢;cases a:bk t.b (t.r (a5 x)).up with
 |true=>exact a
 |false=>rw[a]at h;exact b3 rfl h
def vP(t:Tb)(h:Int){l:Int->Nat}(g:Rk t l):c5 a6 84 [.d (eN t),H h] (H (fl t h)):=by
 refine dq func84 ?_;refine bo (jA t.b h) ?_;apply a4<;>intro j
 .have c:bk t.b h=false:=b8 j
  refine b7 ?_;rw[fl,c];rfl
 .have c:bk t.b h=true:=b8 j
  refine ev func169 ?_;refine rS rfl rfl ?_;refine ev func222 ?_;refine dX c6 (λ(i:Nat×Int)=>fl t h=sH t i.1 i.2/\l i.2<i.1/\bk t.b i.2=true) (λi=>i.1) (λ_=>[]) (λi=>⟨[.d (eN t),H i.2,.d (eN t),H i.2],[],_⟩) (40,h) ⟨by rw[fl,c];rfl,g.le h,c⟩ trivial rfl (λi=>⟨a9 _,a9 _,a9 _⟩) ?_;rintro⟨k,x⟩ ⟨d,f,e⟩;refine bo (Gn t x e) ?_;conv=>whnf
  obtain⟨k,rfl⟩:∃n,k=n+1:=⟨k - 1,by simp at f;omega⟩;refine⟨λa=>?_,λa=>⟨B false,?_⟩⟩
  .have b:A0 t x≠0:=b8 a
   refine rX c6 rfl a8 ?_;refine a4 (λa=>b3 (show((0:Int) != 0||A0 t x==0||!true)=true from a) (by simp[b])) λ_=>?_;conv=>whnf
   have m:=g.lt x b;refine⟨(k,A0 t x),⟨?_,by simp at f ⊢;omega,BW b⟩,mL k,trivial,⟨rfl,rfl⟩,rfl⟩;simp only[sH]at d;rw[d,show(A0 t x==0)=false by simpa using b];rfl
  .have b:A0 t x=0:=b8 a
   refine a4 (λ_=>?_) λa=>b3 (show((0:Int) != 0||A0 t x==0||!false)=false from a) eA;refine b7 ?_;simp only[sH]at d;rw[d,show(A0 t x==0)=true by simpa using b];rfl
def qC(t:Tb):Nat->Int->Nat
 |0,_=>0
 |k+1,x=>bif A0 t x==0 then 0 else qC t k (A0 t x)+1
def fk(t:Tb)(h:Int):Int:=bif bk t.b h then(qC t 40 h:Int)+1 else 0
def Cm(t:Tb)(h:Int){j:Int->Nat}(f:Rk t j):c5 a6 343 [.d (eN t),H h] (I (fk t h)):=by
 refine dq func343 ?_;refine bo (jA t.b h) ?_;apply a4<;>intro g
 .have e:bk t.b h=false:=b8 g
  refine b7 ?_;rw[fk,e];rfl
 .have e:bk t.b h=true:=b8 g
  refine ev func169 ?_;refine rS rfl rfl ?_;refine ev func222 ?_;refine dX c6 (λ(i:Nat×Int×Nat)=>fk t h=(i.2.2:Int)+qC t i.1 i.2.1/\(j i.2.1<i.1/\bk t.b i.2.1=true)/\i.2.2+i.1<=41) (λi=>i.1) (λ_=>[]) (λi=>⟨[.d (eN t),I i.2.2,.d (eN t),H i.2.1],[],_⟩) (40,h,1) ⟨by rw[fk,e];simp only[dZ];omega,⟨f.le h,e⟩,a9 41⟩ trivial rfl (λi=>⟨a9 _,a9 _,a9 _⟩) ?_;rintro⟨k,x,n⟩ ⟨a,⟨l,d⟩,o⟩;simp only at a l d o;refine bo (Gn t x d) ?_;conv=>whnf
  obtain⟨k,rfl⟩:∃p,k=p+1:=⟨k - 1,a3⟩;simp only[qC]at a;refine⟨λb=>?_,λb=>⟨B false,?_⟩⟩
  .have c:A0 t x≠0:=b8 b
   rw[show(A0 t x==0)=false by simpa using c]at a;simp only[eQ]at a;refine rX c6 rfl a8 ?_;refine b2 (x:=(n:Int)+1) (a4 (λb=>b3 (show((0:Int) != 0||A0 t x==0||!true)=true from b) (by simp[c])) λ_=>?_);conv=>whnf
   have m:=f.lt x c;exact⟨(k,A0 t x,n+1),⟨by simp only;omega,⟨by simp only;omega,BW c⟩,by simp only;omega⟩,mL k,trivial,⟨rfl,rfl⟩,rfl⟩
  .have c:A0 t x=0:=b8 b
   rw[show(A0 t x==0)=true by simpa using c]at a;simp only[dZ]at a;refine a4 (λ_=>?_) λb=>b3 (show((0:Int) != 0||A0 t x==0||!false)=false from b) eA;refine b7 ?_;rw[a];simp;rfl
def lr(t:Tb)(a:Int):Nat->Int->Bool
 |0,_=>false
 |k+1,x=>bif A0 t x==0 then false else(A0 t x==a)||lr t a k (A0 t x)
def kz(t:Tb)(a b:Int):Bool:=(bk t.b a&&bk t.b b)&&((a==b)||lr t a 40 b)
def GH(t:Tb)(a h:Int){m:Int->Nat}(j:Rk t m):c5 a6 352 [.d (eN t),H a,H h] (B (kz t a h)):=by
 refine dq func352 ?_;refine bo (jA t.b a) (c9 (jA t.b h) (λ_ h _=>h) ?_);apply a4<;>intro l
 .have f:(bk t.b a&&bk t.b h)=false:=by
   have:(!bk t.b a||!bk t.b h)=true:=l
   revert this;cases bk t.b a<;>cases bk t.b h<;>simp
  refine b7 ?_;rw[kz,f];rfl
 .have f:(bk t.b a&&bk t.b h)=true:=by
   have:(!bk t.b a||!bk t.b h)=false:=l
   revert this;cases bk t.b a<;>cases bk t.b h<;>simp
  have g:bk t.b h=true:=by cases bk t.b a<;>simp_all
  refine ev func169 ?_;refine rS rfl rfl ?_;refine ev func222 ?_;refine dX c6 (λ(i:Nat×Int×Bool)=>kz t a h=(i.2.2||lr t a i.1 i.2.1)/\(m i.2.1<i.1/\bk t.b i.2.1=true)) (λi=>i.1) (λ_=>[]) (λi=>⟨[.d (eN t),H a,B i.2.2,.d (eN t),H i.2.1],[],_⟩) (40,h,a==h) ⟨by rw[kz,f];rfl,j.le h,g⟩ trivial rfl (λi=>⟨a9 _,a9 _,a9 _⟩) ?_;rintro⟨k,x,v⟩ ⟨b,n,e⟩;simp only at b n e;refine bo (Gn t x e) ?_;conv=>whnf
  obtain⟨k,rfl⟩:∃p,k=p+1:=⟨k - 1,a3⟩;simp only[lr]at b;refine⟨λc=>?_,λc=>⟨B false,?_⟩⟩
  .have d:A0 t x≠0:=b8 c
   rw[show(A0 t x==0)=false by simpa using d]at b;simp only[eQ]at b;refine rX c6 rfl a8 ?_;refine a4 (λc=>b3 (show((0:Int) != 0||A0 t x==0||!true)=true from c) (by simp[d])) λ_=>?_;conv=>whnf
   have o:=j.lt x d;exact⟨(k,A0 t x,v||A0 t x==a),⟨by rw[b,Gj],by simp only;omega,BW d⟩,mL k,trivial,⟨rfl,rfl⟩,rfl⟩
  .have d:A0 t x=0:=b8 c
   rw[show(A0 t x==0)=true by simpa using d]at b;simp only[dZ]at b;refine a4 (λ_=>?_) λc=>b3 (show((0:Int) != 0||A0 t x==0||!false)=false from c) eA;refine b7 ?_;rw[b];simp;rfl
def rU(x:Nat->Int)(n k:Nat):Nat->Int:=λi=>if(i<k\/n - k<=i)/\i<n then x (n - 1 - i)else x i
def zcY{x:Nat->Int}{n k:Nat}(h:k+1<n - k):a7 (a7 (λi=>hD (rU x n k i)) k (hD (x (n - 1 - k)))) (n - 1 - k) (hD (x k))=λi=>hD (rU x n (k+1) i):=by
 funext i
 unfold a7 rU;by_cases a:i=n - 1 - k
 .subst a;rw[if_pos rfl,if_pos a3,show n - 1 -(n - 1 - k)=k by omega]
 .rw[if_neg a];by_cases b:i=k
  .subst b;rw[if_pos rfl,if_pos a3]
  .rw[if_neg b];by_cases c:(i<k\/n - k<=i)/\i<n
   .show hD (ite _ _ _)=_;rw[if_pos c,if_pos a3]
   .show hD (ite _ _ _)=_;rw[if_neg c,if_neg a3]
def VL(c:List SV)(t:List Nat)(d e:Ob)(v n:Nat)(x:Nat->Int)(o:n<=2147483648):b6 a6 227 [.ob (.mr 2 v)] ⟨c,t,[d,e,.row v n .c λi=>hD (x i)]⟩ λout U=>out=.ret (.tu (.d .un))/\U=⟨c,t,[d,e,.row v n .c λi=>hD (if i<n then x (n - 1 - i)else x i)]⟩:=by
 refine ev func227 ?_;conv=>whnf
 refine⟨⟨rfl,eD (x:=(n:Int)) a3 a3⟩,?_⟩;conv=>whnf
 refine b2 (x:=(n:Int) - 1) ?_;conv=>whnf
 refine wu c6 (λk=>k=0\/k<=n - k) (λk=>n - k) (λk=>[(2,I k),(3,I ((n:Int) - 1 - k))]) (λk=>⟨c,t,[d,e,.row v n .c λi=>hD (rU x n k i)]⟩) 0 (.inl rfl) ⟨rfl,by show some (I ((n:Int) - 1))=some (I ((n:Int) - 1 -(0:Nat)));simp,trivial⟩ (by
  show(⟨c,t,_⟩:MS)=_
  congr;funext i;unfold rU;rw[if_neg a3]) (λk=>⟨a9 _,a9 _,a9 _⟩) ?_
 intro k m;conv=>whnf
 apply a4<;>intro f
 .have b:k+1<n - k:=by
   have:(k:Int)<(n:Int) - 1 - k:=b8 f
   omega
  have g:((n:Int) - 1 - k).toNat=n - 1 - k:=a3
  have h:rU x n k k=x k:=by unfold rU;rw[if_neg a3]
  have j:rU x n k (n - 1 - k)=x (n - 1 - k):=by unfold rU;rw[if_neg a3]
  conv=>whnf
  refine fg (List.range 16) [(13,12),(15,0)] ?_;conv=>whnf
  refine⟨⟨rfl,a3,a3⟩,?_⟩;conv=>whnf
  refine⟨⟨rfl,a3⟩,?_⟩;conv=>whnf
  refine⟨⟨rfl,a3,a3⟩,?_⟩;conv=>whnf
  refine⟨⟨rfl,a3⟩,?_⟩;conv=>whnf
  refine⟨⟨rfl,a3,a3⟩,?_⟩;conv=>whnf
  refine⟨⟨rfl,a3⟩,_,rfl,?_⟩;conv=>whnf
  refine⟨⟨rfl,a3,a3⟩,?_⟩;conv=>whnf
  refine⟨⟨rfl,a3⟩,λi=>hD (rU x n (k+1) i),?_,?_⟩
  .rw[<-zcY b,g];show a7 (a7 _ k (hD (rU x n k (n - 1 - k)))) (n - 1 - k) (hD (rU x n k k))=_;rw[h,j]
  conv=>whnf
  refine b2 (x:=(k:Int)+1) ?_;conv=>whnf
  refine b2 (x:=(n:Int) - 1 - k - 1) ?_;conv=>whnf
  refine⟨k+1,.inr a3,a3,⟨rfl,?_,trivial⟩,.inl rfl⟩;show some (I ((n:Int) - 1 - k - 1))=some (I ((n:Int) - 1 -(k+1:Nat)));rw[show(n:Int) - 1 - k - 1=(n:Int) - 1 -(k+1:Nat) by omega]
 .have l:n<=2*k+1:=by
   have:¬((k:Int)<(n:Int) - 1 - k):=b8 f
   omega
  conv=>whnf
  refine⟨rfl,?_⟩;show(⟨c,t,_⟩:MS)=_
  congr;funext i
  unfold rU;by_cases a:(i<k\/n - k<=i)/\i<n
  .rw[if_pos a,if_pos a.2]
  .rw[if_neg a];split
   .congr;omega
   .rfl
end Sx
namespace Sx
variable{b:fG}{f:FuncId}{h:Int}{p:Int->Bool}{args:List SV}{i n:Nat}{F:Nat->D}{x:Nat->Int}{P:Program}
def O0{t:Ty}(h:b6 P f args ⟨[],[],[]⟩ λo m=>∃v f',(o=.ret (.ob (.mr 0 v))/\m=⟨[],[],[.row v n t f']⟩)/\∀i,i<n->f' i=F i):sR P f args n t F:=by
 refine⟨h.1,λE O J w G K A=>(h.2 E O J w G K A).mono ?_⟩;rintro e M ⟨l,j,U,R,p,y,z,v,f',⟨rfl,rfl⟩,N⟩;obtain⟨b,c,g⟩:=p.A8 (id:=0) (v:=v) (n:=n) (t:=t) (f:=f') rfl;obtain⟨d,a⟩:=p.B6 (y':=.row v b n c t.size) (x':=.row v n t F) (M:=M) g.I (BO.le_refl _) (λb L=>.inl L) rfl rfl rfl (a9 _) (λ_ _ _=>rfl) (λT=>qf g.nc g.nil λk Q=>by
  obtain⟨x,C,S,r,s,u⟩:=g.N k Q;exact⟨x,C,S,r,s,λi q=>by rw[<-N i q];exact u i q⟩)
 rw[Bn g.I]at d a;exact⟨l,j,_,_,d,y.trans a,z,v,rfl,rfl⟩
def sR.fn{t:Ty}{F':Nat->D}(h:sR P f args n t F)(A:∀i,i<n->F i=F' i):sR P f args n t F':=
 O0 (fa h λ_ _ ⟨v,j,u⟩=>⟨v,F,⟨j,u⟩,A⟩)
attribute [local irreducible] b6 eF fR ez eH eB eM fx dC ec dU dx
def kW(t:Tb)(h x:Int):Bool:=(b1 t x).up != h
abbrev PR:SV:=.H (.B 0 []) (.H (.B 1 []) (.d .un))
def Me(t:Tb)(h x:Int)(v n:Nat)(f:Nat->D):b6 a6 250 [H x,.B 0 [],.B 1 []] ⟨[.d (eN t),H h],[],[.row v n .c f]⟩ λo U=>o=.ret (B (kW t h x))/\U=⟨[.d (eN t),H h],[],[.row v n .c f]⟩:=by
 refine fm func250 ?_;exact bo (uK t x) (a4 rfl (a4 rfl rfl))
def sq(p:Int->Bool)(x:Nat->Int)(i:Nat):Nat->Int
 |0=> -1
 |k+1=>bif p (x i)then i else sq p x (i+1) k
def Vi(t:Tb)(h:Int)(v n:Nat)(x:Nat->Int)(f:n<=2147483648):b6 a6 221 [.ob (.mr 0 v),.fn (.func 250) PR] ⟨[.d (eN t),H h],[],[.row v n .c λi=>hD (x i)]⟩ λo U=>o=.ret (I (sq (kW t h) x 0 n))/\U=⟨[.d (eN t),H h],[],[.row v n .c λi=>hD (x i)]⟩:=by
 refine fm func221 ?_;refine a4 ⟨rfl,eD (x:=(n:Int)) a3 a3⟩ (dX c6 (λi=>i<=n/\sq (kW t h) x 0 n=sq (kW t h) x i (n - i)) (λi=>n - i) (λi=>[(8,I i)]) (λ_=>⟨[.d (eN t),H h],[],[.row v n .c λi=>hD (x i)]⟩) 0 ⟨a3,rfl⟩ ⟨rfl,trivial⟩ rfl (λi=>⟨a9 _,a9 _,a9 _⟩) ?_);rintro i ⟨e,a⟩;apply a4<;>intro d
 .have b:i<n:=eZ d
  rw[show n - i=(n -(i+1))+1 by omega]at a;simp only[sq]at a;refine a4 ⟨rfl,a3,a3⟩ (a4 ⟨rfl,a3⟩ (mD (Me t h (x i) v n _) ?_));apply a4<;>intro c
  .have c:kW t h (x i)=true:=c;rw[c]at a;exact a4 rfl (a4 (by rw[a];rfl) rfl)
  .have c:kW t h (x i)=false:=c;rw[c]at a;refine b2 (x:=(i:Int)+1) ?_;conv=>whnf
   exact⟨i+1,⟨b,a⟩,a3,⟨rfl,trivial⟩,⟨rfl,rfl⟩,rfl⟩
 .have b:i=n:=e9 d
  subst b;rw[tM]at a;exact a4 rfl (a4 (by rw[a];rfl) rfl)
def OM{p:Int->Bool}{x:Nat->Int}:∀{k i:Nat},sq p x i k= -1->∀j,i<=j->j<i+k->p (x j)=false
 |0,i,_,j,c,d=>a3
 |k+1,i,h,j,c,d=>by
  unfold sq at h;cases a:p (x i)with
  |true=>rw[a]at h;simp only[dZ]at h;omega
  |false=>
   rw[a]at h;rcases jB i j with b|b
   .exact OM (k:=k) (i:=i+1) h j b a3
   .rw[show j=i by omega];exact a
def ON{p:Int->Bool}{x:Nat->Int}:∀{k i:Nat},sq p x i k≠ -1->∃r:Nat,sq p x i k=r/\i<=r/\r<i+k/\p (x r)=true/\∀j,i<=j->j<r->p (x j)=false
 |0,i,h=>b3 rfl h
 |k+1,i,h=>by
  unfold sq at h ⊢;cases a:p (x i)with
  |true=>exact⟨i,rfl,a9 _,a3,a,λj b d=>a3⟩
  |false=>
   rw[a]at h;obtain⟨r,b,d,l,e,f⟩:=ON (k:=k) (i:=i+1) h;refine⟨r,b,a3,a3,e,λj m g=>?_⟩;rcases jB i j with c|c
   .exact f j c g
   .rw[show j=i by omega];exact a
def Ig{p:Int->Bool}{x:Nat->Int}:∀{n:Nat},(∀j,j<n->p (x j)=false)->((List.range n).map x).filter (λy=>!p y)=(List.range n).map x
 |0,_=>rfl
 |n+1,h=>by rw[mC,je,r9,Ig (n:=n) λj a=>h j a3];simp[h n a3]
def Qx{y:Nat->Int}{L:List Int}{k:Nat}(h:(List.range k).map y=L)(a:i<k):c7 (hL L) i=hD (y i):=by subst h;rw[qe hD 0 (b8 a)];simp[eu,a]
def rK(t:Tb)(h:Int)(x:Nat->Int)(n:Nat):List Int:=((List.range n).map x).filter λy=>!kW t h y
def Vh(t:Tb)(h:Int)(v n:Nat)(x:Nat->Int)(E:n<=2147483648):b6 a6 249 [.ob (.mr 0 v),.fn (.func 250) PR] ⟨[.d (eN t),H h],[],[.row v n .c λi=>hD (x i)]⟩ λo U=>∃v' f',o=.ret (.ob (.mr 0 v'))/\U=⟨[.d (eN t),H h],[],[.row v' (rK t h x n).length .c f']⟩/\∀i,i<(rK t h x n).length->f' i=c7 (hL (rK t h x n)) i:=by
 refine fm func249 ?_;conv=>whnf
 refine mD (Vi t h v n x E) ?_;conv=>whnf
 apply a4<;>intro m
 .have z:sq (kW t h) x 0 n= -1:=b8 m
  have f:rK t h x n=(List.range n).map x:=Ig λj p=>OM z j (dG _) a3;conv=>whnf
  refine⟨rfl,v,λi=>hD (x i),rfl,?_,λi A=>?_⟩
  .rw[f,dD,tJ];rfl
  .rw[f]at A ⊢;exact(Qx rfl (b8 A)).symm
 .have z:sq (kW t h) x 0 n≠ -1:=b8 m
  obtain⟨r,e,_,F,d,C⟩:=ON z;rw[e];conv=>whnf
  refine b2 (x:=(r:Int)+1) ?_;conv=>whnf
  refine dX c6 (λ(s:Nat×Nat×(Nat->Int))=>(s.2.1<s.1/\s.1<=n)/\(List.range s.2.1).map s.2.2=rK t h x s.1/\∀k,s.1<=k->s.2.2 k=x k) (λs=>n - s.1) (λs=>[(5,I s.2.1),(6,I s.1)]) (λs=>⟨[.d (eN t),H h],[],[.row v n .c λi=>hD (s.2.2 i)]⟩) (r+1,r,x) ⟨⟨mL _,by simp only;omega⟩,?_,λ_ _=>rfl⟩ ⟨rfl,rfl,trivial⟩ rfl (λi=>⟨a9 _,a9 _,a9 _⟩) ?_
  .show(List.range r).map x=rK t h x (r+1);unfold rK;rw[mC,je,r9,Ig (λj p=>C j (dG _) p)];simp[d]
  rintro⟨j,i,y⟩ ⟨⟨w,p⟩,f,q⟩;simp only at w p f q;conv=>whnf
  refine⟨⟨rfl,eD (x:=(n:Int)) a3 a3⟩,?_⟩;conv=>whnf
  apply a4<;>intro m
  .have c:j<n:=by
    have:(j:Int)<n:=b8 m
    omega
   have b:rK t h x (j+1)=rK t h x j++(if kW t h (x j)then[]else[x j]):=by unfold rK;rw[mC,je,r9];cases u:kW t h (x j)<;>simp[u]
   have l:y j=x j:=q j (a9 _);conv=>whnf
   refine⟨⟨rfl,a3,a3⟩,?_⟩;conv=>whnf
   refine⟨⟨rfl,a3⟩,?_⟩;conv=>whnf
   refine mD (Me t h (y j) v n _) ?_;conv=>whnf
   apply a4<;>intro d
   .have d:kW t h (x j)=false:=by have:(!kW t h (y j))=true:=d;rw[l]at this;simpa using this
    conv=>whnf
    refine⟨⟨rfl,(a3:(0:Int)<=(i:Int)),(a3:(i:Int)<(n:Int))⟩,?_⟩;conv=>whnf
    refine⟨⟨rfl,(a3:(i:Int).toNat<n)⟩,λk=>hD (a7 y i (x j) k),?_,?_⟩
    .show a7 (λi=>hD (y i)) i (hD (y j))=_;rw[l];exact iU hD y i (x j)
    conv=>whnf
    refine b2 (x:=(i:Int)+1) ?_;conv=>whnf
    refine b2 (x:=(j:Int)+1) ?_;conv=>whnf
    refine⟨(j+1,i+1,a7 y i (x j)),⟨⟨by simp only;omega,c⟩,?_,λk a=>?_⟩,by simp only;omega,⟨rfl,rfl,trivial⟩,⟨rfl,rfl⟩,rfl⟩
    .simp only;rw[b,d,<-f,mC,je]
     congr 1
     .refine tK λk a=>?_;have:=gZ.1 a;unfold a7;rw[if_neg a3]
     .simp[a7]
    .simp only at a ⊢;unfold a7;rw[if_neg a3];exact q k a3
   .have d:kW t h (x j)=true:=by have:(!kW t h (y j))=false:=d;rw[l]at this;simpa using this
    conv=>whnf
    refine b2 (x:=(j:Int)+1) ?_;conv=>whnf
    refine⟨(j+1,i,y),⟨⟨by simp only;omega,c⟩,?_,λk a=>q k (by simp only at a;omega)⟩,by simp only;omega,⟨rfl,rfl,trivial⟩,⟨rfl,rfl⟩,rfl⟩;simp only;rw[b,d,f];simp
  .have c:j=n:=by
    have:¬((j:Int)<n):=b8 m
    omega
   subst c;have g:(rK t h x j).length=i:=by rw[<-f];simp
   conv=>whnf
   refine⟨⟨rfl,(a3:(0:Int)<=(i:Int)),(a3:(i:Int)<=(j:Int))⟩,?_⟩;conv=>whnf
   refine⟨rfl,?_⟩;conv=>whnf
   refine⟨⟨rfl,(a3:(0:Int)<=(i:Int)),(a3:(i:Int)<=(j:Int))⟩,?_⟩;conv=>whnf
   refine⟨rfl,v+1,mQ i (j - i) (λ_=>.z .u32 0) (λi=>hD (y i)),rfl,?_,λk a=>?_⟩
   .rw[g];rfl
   .rw[g]at a;rw[Qx f a];unfold mQ;rw[show Nat.ble i k=false from by cases u:Nat.ble i k with
     |false=>rfl
     |true=>have:=dF u;omega]
    rfl
def iG(t:Tb)(h:Int):List Int:=(dW t.b).filter λy=>!kW t h y
def p7(a:bk b h=true):a5 h<32/\(b (a5 h)).L=true:=by have c:=nR h;refine⟨by unfold a5;omega,?_⟩;unfold bk at a;simp at a;exact a.2.2.1
def YP(c:bk b h=true):mj b (a5 h:Int)=false:=by obtain⟨d,a⟩:=p7 c;unfold mj;simp only[nE,a];simp;omega
def PN{b:fG}{i:Nat}(h:mj b i=false):∀{n:Nat},i<n->ga b n≠[]
 |n+1,c,e=>by
  simp only[ga,List.append_eq_nil_iff]at e;rcases jB i n with a|a
  .exact PN h a e.1
  .have:i=n:=a3
   subst this;rw[h]at e;simp at e
def V6(a:bk b h=true):dW b≠[]:=by unfold dW;rw[vb];exact PN (YP a) (p7 a).1
def oV(b:fG):(dW b).length<=32:=by have:=AK b 32;unfold dW;rw[vb];simpa using this
def Un(b:fG)(a:dW b≠[]):sR a6 19 [.d (.H (kR b) .un)] (dW b).length .c λi=>hD ((dW b).getD i 0):=by
 have h:=LL b;cases c:dW b with
 |nil=>exact b3 c a
 |cons x r=>
  rw[c]at h;have d:sR a6 19 [.d (.H (kR b) .un)] (x::r).length .c (c7 (hL (x::r))):=by
   have:(hL (x::r)).length=(x::r).length:=eA
   rw[<-this];exact h
  exact d.fn λi e=>qe hD 0 e
def zaB(l:List Int):(List.range l.length).map (λi=>l.getD i 0)=l:=by
 apply List.ext_getElem
 .simp
 .intro i b a;simp[eu,a]
def Vj(t:Tb)(h:Int)(b:bk t.b h=true):sR a6 226 [.d (eN t),H h] (iG t h).length .c (c7 (hL (iG t h))):=by
 have e:rK t h (λi=>(dW t.b).getD i 0) (dW t.b).length=iG t h:=by unfold rK iG;rw[zaB]
 have f:(dW t.b).length<=2147483648:=eY (oV t.b) a8;have a:=λv=>Vh t h v (dW t.b).length (λi=>(dW t.b).getD i 0) f;rw[e]at a;refine O0 ?_;refine uT 0 0 1 ⟨a9 _,a9 _,dG _⟩ (zy func226 rfl ey rfl rfl ?_);refine bo (jA t.b h) (a4 (λg=>b3 (show(!bk t.b h)=true from g) (by simp[b])) λ_=>?_);refine Ir rfl (Un t.b (V6 b)) _ _ λv=>?_;refine fa (a v) ?_;rintro o U ⟨j,c,rfl,rfl,d⟩;conv=>whnf
 exact⟨_,SV.le_refl _,rfl,j,c,⟨rfl,rfl⟩,d⟩
end Sx
end Go.Proofs.YtfbhkfhbnkncoaaGreatDoor
