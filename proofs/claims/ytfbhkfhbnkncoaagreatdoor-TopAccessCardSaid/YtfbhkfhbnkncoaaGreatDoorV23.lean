import Derived.Test.YtfbhkfhbnkncoaaGreatDoorV22
set_option linter.all false
set_option maxRecDepth 100000
namespace Go.Proofs.YtfbhkfhbnkncoaaGreatDoor
open Go.RowKit Tryz
open Tryz renaming prog→a6
namespace Sx
variable{f:FuncId}{e h:Int}{d:Int->Nat}{t2:List Nat}{g:List Ob}{args b:List SV}{v:Nat}{K:Out->MS->Prop}{X:Prop}{u:SV}{α:Type}
structure Cl where
 s:St
 task:Int
 c:Call
 run:Rn
 C7:Int
 asks:Bool
 back:List Rn
def eE(x:Cl)(v:Nat):SV:=.H (.d (fw x.s)) (.H (I x.task) (.H (.d (iC x.c)) (.H (.d (dR x.run)) (.H (I x.C7) (.H (B x.asks) (.H (gx 1 v fi (fX x.back)) (.d .un)))))))
def yA{P:Program}{C:SV}{c:List Ob}{Q:Out->MS->Prop}(h:b6 P f args ⟨[C],[v],[]⟩ Q)(j:eV 1 1 0 args=true)(k:eV 1 1 0 [C]=true)(e:∀o m,Q o m->∃a v',m=⟨[a],[v'],[]⟩)(i:∀o a v',Q o ⟨[a],[v'],[]⟩->K o ⟨a::b,v'::t2,c⟩):b6 P f args ⟨C::b,v::t2,c⟩ K:=
 fa (ry b t2 c h j (by rw[show[C].length=1 from rfl,show[v].length=1 from rfl,show([]:List Ob).length=0 from rfl,k];rfl) λo m l=>by
  obtain⟨a,v',rfl⟩:=e o m l;exact⟨rfl,rfl,rfl⟩) λo m ⟨U,d,g⟩=>by
  obtain⟨a,v',rfl⟩:=e o U d;subst g;exact i o a v' d
def zg(x:Cl)(v:Nat):eV 1 1 0 [eE x v]=true:=rfl
def AQ(a:Nat)(m:MS):List (Nat×(MS->Prop))->Prop
 |[]=>True
 |(k,p)::r=>match a.testBit k with
  |true=>p m/\AQ a m r
  |false=>AQ a m r
def kT{b:Nat}{m:MS}{X:Prop}(a:X):∀{S:List (Nat×(MS->Prop))},AQ b m S->uk b m X S
 |[],_=>a
 |(k,p)::r,h=>by
  unfold AQ at h;unfold uk;cases c:b.testBit k with
  |true=>
   rw[c]at h;exact⟨h.1,kT a h.2⟩
  |false=>
   rw[c]at h;exact kT a h
def fy{A:Prop}{a:Nat}{m:MS}{S:List (Nat×(MS->Prop))}(d:X)(b:A:=by exact⟨rfl,rfl⟩)(c:AQ a m S:=by repeat' first|exact trivial|refine iF ⟨rfl,rfl⟩ ?_):A/\uk a m X S:=⟨b,kT d c⟩
abbrev l0:Out:=.ret (.tu (.d .un))
attribute [local irreducible] b6 eF fR ez eH eB eM fx dC ec dU dx
def qy{x:Cl}{e:List Ob}(i:StOk x.s d)(j:0<=x.task)(k:di h)(a:Int)(l:a=0\/a=1\/a=2)(f:eh x.s x.task h a=0->K l0 ⟨eE x v::b,v::t2,e⟩)(g:eh x.s x.task h a≠0->K (lZ (eh x.s x.task h a)) ⟨eE x v::b,v::t2,e⟩):b6 a6 312 [.B 0 [],H h,.d (.z .u8 a)] ⟨eE x v::b,v::t2,e⟩ K:=by
 refine ev func312 ?_;refine dL 12 (c9 (GC i x.task j k a l) (λ_ h=>h) (kv (eh x.s x.task h a) _ (λc=>?_) λc=>?_))
 .exact f c
 .exact g c
def Dw{x:Cl}{d:List Ob}{a:Int}(i:di a)(g:ki x.s a=0->K l0 ⟨eE x v::b,v::t2,d⟩)(f:ki x.s a≠0->K (lZ (ki x.s a)) ⟨eE x v::b,v::t2,d⟩):b6 a6 329 [.B 0 [],H a] ⟨eE x v::b,v::t2,d⟩ K:=by
 refine ev func329 ?_;refine a4 (λh=>⟨i.1,b8 h⟩) (nv (decide (a<8)&&x.s.alive a.toNat) 2 _ (λc=>?_) λc=>?_)
 .have e:ki x.s a=0:=by rw[ki,c];rfl
  exact g e
 .have e:ki x.s a=2:=by rw[ki,c];rfl
  rw[e]at f;exact f a8
def zcQ{x:Cl}:b6 a6 317 [.B 0 [],H h] ⟨[eE x v],[v],[]⟩ λo m=>((bk x.s.t.b h=true/\o=.ret (.d (lU (b1 x.s.t h))))\/(bk x.s.t.b h=false/\o=lZ 4))/\m=⟨[eE x v],[v],[]⟩:=by
 refine fm func317 ?_;refine bo (uK x.s.t h) ?_;conv=>whnf
 cases b:bk x.s.t.b h with
 |true=>
  refine kv 0 _ (λ_=>?_) λa=>b3 rfl a;exact a4 rfl (a4 (.inl ⟨rfl,rfl⟩) rfl)
 |false=>
  refine kv 4 _ ef λ_=>?_;exact a4 rfl (a4 (.inr ⟨rfl,rfl⟩) rfl)
def DB{x:Cl}(c:bk x.s.t.b h=true->K (.ret (.d (lU (b1 x.s.t h)))) ⟨eE x v::b,v::t2,g⟩)(d:bk x.s.t.b h=false->K (lZ 4) ⟨eE x v::b,v::t2,g⟩):b6 a6 317 [.B 0 [],H h] ⟨eE x v::b,v::t2,g⟩ K:=
 yA zcQ rfl (zg x v) (λo m a=>⟨_,_,a.2⟩) λo i k ⟨j,a⟩=>by
  have e:i=eE x v/\k=v:=by have c:=dE MS.c a;have d:=dE MS.t a;exact⟨b8 c,b8 d⟩
  rw[e.1,e.2];rcases j with⟨f,rfl⟩|⟨f,rfl⟩
  .exact c f
  .exact d f
def MR(x:Cl)(R:Except Int Cl)(u:SV)(o:Out)(m:MS):Prop:=∃a,match R with
 | .ok b=>o=.ret u/\m=⟨[eE b a],[a],[]⟩
 | .error e=>o=lZ e/\∃b,m=⟨[eE b a],[a],[]⟩
def w6{x:Cl}{d:List SV}{R:Except Int Cl}(h:b6 a6 f args ⟨[eE x v],[v],[]⟩ (MR x R u))(l:eV 1 1 0 args=true)(j:∀x' v',R=.ok x'->K (.ret u) ⟨eE x' v'::d,v'::t2,g⟩)(k:∀e x' v',R=.error e->K (lZ e) ⟨eE x' v'::d,v'::t2,g⟩):b6 a6 f args ⟨eE x v::d,v::t2,g⟩ K:=
 yA h l (zg x v) (λo m ⟨v',a⟩=>by
  cases R with
  |ok x'=>exact⟨_,_,a.2⟩
  |error e=>obtain⟨_,x',a⟩:=a;exact⟨_,_,a⟩) λo n v' ⟨i,a⟩=>by
  cases R with
  |ok x'=>
   obtain⟨rfl,a⟩:=a;have b:=dE MS.c a;have c:=dE MS.t a;simp only[oP,px]at b c;rw[b,c];exact j x' i rfl
  |error e=>
   obtain⟨rfl,x',a⟩:=a;have b:=dE MS.c a;have c:=dE MS.t a;simp only[oP,px]at b c;rw[b,c];exact k e x' i rfl
def b9{k:Except Int α}(h:e=0):dV e k=k:=by rw[h];rfl
def eR{k:Except Int α}(h:e≠0):dV e k=.error e:=by unfold dV;rw[fc.2 h];rfl
def wy{x x':Cl}{R:Except Int Cl}(h:R=.ok x'):MR x R u (.ret u) ⟨[eE x' v],[v],[]⟩:=⟨v,by rw[h];exact⟨rfl,rfl⟩⟩
def vj{x x':Cl}{R:Except Int Cl}(h:R=.error e):MR x R u (lZ e) ⟨[eE x' v],[v],[]⟩:=⟨v,by rw[h];exact⟨rfl,x',rfl⟩⟩
def my(x:Cl)(t:Tb):Cl:={x with s:={x.s with t:=t}}
def nU(x:Cl)(o:Nat->Sd):Cl:={x with s:={x.s with o:=o}}
def Lr(x:Cl)(k:Toks):Cl:={x with s:={x.s with k:=k}}
def zdo{x:Cl}{r:Rg}(b:vO r):b6 a6 322 [.B 0 [],H h,.d (lU r)] ⟨[eE x v],[v],[]⟩ (MR x (dV (hQ x.s.t h r) (.ok (my x (hZ x.s.t h r)))) (.tu (.d .un))):=by
 refine fm func322 ?_;refine fg (List.range 15) [(12,4095),(13,2048)] (c9 (CO x.s.t h r b) (λ_ h=>h) (fy ?_))
 refine kv (hQ x.s.t h r) _ (λa=>?_) λa=>?_
 .exact a4 rfl (wy (x':=my x (hZ x.s.t h r)) (b9 a))
 .exact a4 rfl (vj (x':=x) (eR a))
def Ky{x:Cl}(b:TInv x.s.t d)(c:di h):b6 a6 326 [.B 0 [],H h] ⟨[eE x v],[v],[]⟩ (MR x (dV (rz x.s.t h) (.ok (my x (fC x.s.t h)))) (.tu (.d .un))):=by
 refine fm func326 ?_;refine bo (UN b c) (kv (rz x.s.t h) _ (λa=>?_) λa=>?_)
 .exact a4 rfl (wy (x':=my x (fC x.s.t h)) (b9 a))
 .exact a4 rfl (vj (x':=x) (eR a))
def Bo{x:Cl}(b:TInv x.s.t d){M:Int}:b6 a6 315 [.B 0 [],H h,I M] ⟨[eE x v],[v],[]⟩ (MR x (dV (gR x.s.t h M) (.ok (nU x (iI x.s.o x.s.t h M ⟨1,iz M,0⟩)))) (.tu (.d .un))):=by
 refine fm func315 ?_;refine fg (List.range 21) [(18,262143),(19,131072)] (c9 (U1 x.s.o x.s.t h M b.rk) (λ_ h=>h) (fy ?_))
 refine kv (gR x.s.t h M) _ (λa=>?_) λa=>?_
 .exact a4 rfl (wy (x':=nU x (iI x.s.o x.s.t h M ⟨1,iz M,0⟩)) (b9 a))
 .exact a4 rfl (vj (x':=x) (eR a))
def IJ{x:Cl}(f:TInv x.s.t d)(g:0<=x.task):b6 a6 330 [.B 0 [],H h] ⟨[eE x v],[v],[]⟩ (MR x (dV (jw x.s x.task h) (.ok x)) (.tu (.d .un))):=by
 refine fm func330 ?_;refine bo (jA x.s.t.b h) (nv (bk x.s.t.b h) 4 _ (λa=>?_) λa=>?_)
 .refine fg (List.range 16) [(14,16383),(15,0)] (c9 (tN x.s.o x.s.t h f.rk) (λ_ h=>h) (fy ?_))
  refine bo (vP x.s.t h f.rk) (nv ((fl x.s.t h==h)&&((dy x.s.o x.s.t h).kind==3)) 12 _ (λb=>?_) λb=>?_)
  .refine dL 9 (a4 g (nv (va (dy x.s.o x.s.t h) x.task) 5 _ (λc=>?_) λc=>?_))
   .have e:jw x.s x.task h=0:=by rw[jw,a,b,c];rfl
    exact a4 rfl (wy (x':=x) (b9 e))
   .have e:jw x.s x.task h=5:=by rw[jw,a,b,c];rfl
    rw[e];exact a4 rfl (vj (x':=x) rfl)
  .have e:jw x.s x.task h=12:=by rw[jw,a,b];rfl
   rw[e];exact a4 rfl (vj (x':=x) rfl)
 .have e:jw x.s x.task h=4:=by rw[jw,a];rfl
  rw[e];exact a4 rfl (vj (x':=x) rfl)
end Sx
namespace Sx
variable{h:Int}{d:Int->Nat}{v:Nat}
def S5{k:Toks}(h:l8 k)(y:Int):∀i,16<=i->(e8 k.b y i).L=false:=λi a=>by
 unfold e8;cases bk k.b y with
 |false=>exact h i a
 |true=>
  rw[dZ];unfold a7;split
  .cases((k.b (a5 y)).gen==8388607)<;>rfl
  .exact h i a
def La:∀(l:List Int) {k:Toks},l8 k->l8 (kD k l)
 |[],_,h=>h
 |y::l,k,h=>La l (k:=⟨e8 k.b y,k.s⟩) (S5 h y)
def YK(k:Toks)(l:List Int)(y:Int):ke k (l++[y])=kD (ke k l) (eg (ke k l) (gq y) (dI (ke k l).b)):=by unfold ke;rw[pq];rfl
def K8:∀(l:List Int) {k:Toks},l8 k->l8 (ke k l)
 |[],_,h=>h
 |y::l,k,h=>K8 l (La _ h)
def Ea(x:Cl)(h:Int):Cl:={x with s:=jG x.s h,back:=x.back++j3 x.s h}
def xr(x:Cl)(l:List Int):Cl:={x with s:={x.s with k:=ke x.s.k l},back:=x.back++g7 x.s.t l}
def YJ(t:Tb)(l:List Int)(y:Int):g7 t (l++[y])=g7 t l++(b1 t y).rs:=by unfold g7;simp
def Ix{t:Tb}{d:Int->Nat}(b:TInv t d):∀l:List Int,(g7 t l).length<=64*l.length
 |[]=>a9 _
 |y::l=>by have c:=Ix b l;have a:=pF b y;have e:=wq a.ok;have f:=a.pg;have g:=a.q1;show((b1 t y).rs++g7 t l).length<=_;rw[ew,jV];omega
abbrev yF(x:Cl)(q:SV):SV:=.H (.d (fw x.s)) (.H (I x.task) (.H (.d (iC x.c)) (.H (.d (dR x.run)) (.H (I x.C7) (.H (B x.asks) (.H q (.d .un)))))))
attribute [local irreducible] b6 eF fR ez eH eB eM fx dC ec dU dx
def Eb{x:Cl}(c:StOk x.s d)(j:di h)(K:x.back.length<=2000000000):b6 a6 325 [.B 0 [],H h] ⟨[eE x v],[v],[]⟩ (MR x (.ok (Ea x h)) (.tu (.d .un))):=by
 have E:=Lk c.t j;have p:=(yu c.t.ok c.t.rk j).out (wR (l:=dJ x.s.t h));have o:=UU c.t.ok c.t.rk j;have w:Ea x h={xr x (dJ x.s.t h)with s:={(xr x (dJ x.s.t h)).s with t:=gT x.s.t (dJ x.s.t h)}}:=rfl;rw[w];generalize dJ x.s.t h=l at E p o;refine fm func325 ?_;refine bo (p) (b2 (x:=(l.length:Int)) (dX c6 (λi=>i<=l.length) (λi=>l.length - i) (λi=>[(17,I i)]) (λi=>⟨[eE (xr x (l.take i)) (v+i)],[v+i],[]⟩) 0 (dG _) ⟨rfl,trivial⟩ ?_ (λi=>⟨a9 _,a9 _,a9 _⟩) ?_))
 .exact g9 (ce (dE (λb=>yF x (gx 1 v fi (fX b))) (gk x.back).symm) rfl) rfl rfl
 intro i L;apply a4<;>intro q
 .have a:i<l.length:=eZ q
  have z:=K8 (l.take i) c.k;have g:=pF c.t (l.getD i 0);have y:=Ix c.t (l.take i);have A:(l.take i).length<=33:=by simp;omega
  have F:=wq g.ok;have G:=g.pg;have J:=g.q1;refine fS (i:=i) (n:=l.length) (bo (uK x.s.t (l.getD i 0)) (fg (List.range 12) [(8,1),(11,0)] ?_));conv=>whnf
  refine⟨⟨rfl,(by
   rw[dD,dD];show(x.back++g7 x.s.t (l.take i)).length+_<=_;rw[ew];omega:(fX (xr x (l.take i)).back).length+((b1 x.s.t (l.getD i 0)).rs.map dR).length<=2147483648)⟩,?_⟩
  refine bo (Uu z (l.getD i 0)) (b2 (x:=(i:Int)+1) ?_);conv=>whnf
  have e:l.take (i+1)=l.take i++[l.getD i 0]:=by rw[js,ed a,eu,ed a];rfl
  have u:kD (ke x.s.k (l.take i)) (eg (ke x.s.k (l.take i)) (gq (l.getD i 0)) (dI (ke x.s.k (l.take i)).b))=ke x.s.k (l.take (i+1)):=by rw[e,YK]
  have r:fX (xr x (l.take i)).back++fX (b1 x.s.t (l.getD i 0)).rs=fX (x.back++g7 x.s.t (l.take (i+1))):=by rw[e,YJ,<-iJ];exact je.symm
  have f:∀C m,C=ke x.s.k (l.take (i+1))->m=fX (x.back++g7 x.s.t (l.take (i+1)))->yF {x with s:={x.s with k:=C}} (gx 1 (v+i+1) fi m)=eE (xr x (l.take (i+1))) (v+(i+1)):=by rintro _ _ rfl rfl;rfl
  refine⟨i+1,a,a3,⟨rfl,trivial⟩,⟨?_,rfl⟩,rfl⟩;exact g9 (ce ((dE (yF {x with s:={x.s with k:=kD (ke x.s.k (l.take i)) (eg (ke x.s.k (l.take i)) (gq (l.getD i 0)) (dI (ke x.s.k (l.take i)).b))}}) (kA 1 (v+i+1) fi (fX (xr x (l.take i)).back) (fX (b1 x.s.t (l.getD i 0)).rs))).trans (f _ _ u r)) rfl) rfl rfl
 .have a:i=l.length:=e9 q
  subst a;rw[gv];exact bo (o) (a4 rfl (wy (v:=v+l.length) rfl))
def yV(x:Cl)(h M:Int):Cl:={x with s:=(iv x.s h M).1,back:=x.back++(iv x.s h M).2}
def Oz{x:Cl}(f:StOk x.s d)(j:di h)(M:Int)(i:x.back.length<=2000000000):b6 a6 332 [.B 0 [],H h,I M] ⟨[eE x v],[v],[]⟩ (MR x (dV (iw x.s.o x.s.t h M false) (.ok (yV x h M))) (.tu (.d .un))):=by
 refine fm func332 ?_;refine fg (List.range 23) [(19,524287),(20,393216)] (c9 (VB x.s.o x.s.t h M f.t.rk) (λ_ h=>h) (fy ?_))
 refine kv (iw x.s.o x.s.t h M false) _ (λb=>?_) λb=>?_
 .apply a4<;>intro a
  .have a:(((kY (jH x.s.o x.s.t h M false).toNat:Nat):Int)==0)=true:=a;have c:(kY (jH x.s.o x.s.t h M false).toNat==0)=true:=b8 a
   have e:yV x h M=Ea (nU x (gL x.s.o x.s.t h M false)) h:=by unfold yV iv;rw[c];rfl
   refine w6 (Eb (x:=nU x (gL x.s.o x.s.t h M false)) ⟨f.t,f.k⟩ j i) rfl (λl k g=>?_) (λe l k g=>by cases g);cases g;exact a4 rfl (wy (by rw[b9 b,e]))
  .have a:(((kY (jH x.s.o x.s.t h M false).toNat:Nat):Int)==0)=false:=a;have c:(kY (jH x.s.o x.s.t h M false).toNat==0)=false:=b8 a
   have e:yV x h M={nU x (gL x.s.o x.s.t h M false)with back:=x.back++[]}:=by unfold yV iv;rw[c];rfl
   rw[gk]at e;exact a4 rfl (wy (x':=nU x (gL x.s.o x.s.t h M false)) (by rw[b9 b,e];rfl))
 .exact a4 rfl (vj (x':=x) (eR b))
end Sx
namespace Sx
variable{x':Cl}{e:Int}
def MX(R:Ex)(o:Out)(m:MS):Prop:=∃g f,m=⟨[eE f g],[g],[]⟩/\match R with
 | .ok (W,r,b)=>o=.ret (.d (fu r))/\f.s=W/\f.back=b
 | .error e=>o=lZ e
def kL{R:Ex}{v:Nat}{r:Rs}(h:R=.ok (x'.s,r,x'.back)):MX R (.ret (.d (fu r))) ⟨[eE x' v],[v],[]⟩:=⟨v,x',rfl,by rw[h];exact⟨rfl,rfl,rfl⟩⟩
def fL{R:Ex}{v:Nat}(h:R=.error e):MX R (lZ e) ⟨[eE x' v],[v],[]⟩:=⟨v,x',rfl,by rw[h]⟩
def qv{f:FuncId}{args:List SV}{x y:Cl}{v:Nat}{i:List SV}{t2:List Nat}{j:List Ob}{u:SV}(h:b6 a6 f args ⟨[eE x v],[v],[]⟩ (MR x (dV e (.ok y)) u))(m:eV 1 1 0 args=true){K:Out->MS->Prop}(k:e=0->∀v',K (.ret u) ⟨eE y v'::i,v'::t2,j⟩)(l:e≠0->∀x' v',K (lZ e) ⟨eE x' v'::i,v'::t2,j⟩):b6 a6 f args ⟨eE x v::i,v::t2,j⟩ K:=
 w6 h m (λx' v' b=>by
  by_cases g:e=0
  .rw[b9 g]at b;cases b;exact k g v'
  .rw[eR g]at b;cases b) λo x' v' b=>by
  by_cases g:e=0
  .rw[b9 g]at b;cases b
  .rw[eR g]at b;cases b;exact l g x' v'
structure CallOk (s:St) (task:Int) (c:Call):Prop where
 t0:0<=task
 t1:task<8
 r:di c.r
 s':di c.s
 a:di c.a
 b:di c.b
abbrev dp(s:St)(M:Int)(c:Call)(G:Rn)(n:Int)(a:Bool):Cl:=⟨s,M,c,G,n,a,[]⟩
attribute [local irreducible] b6 eF fR ez eH eB eM fx dC ec dU dx
section
variable {s:St} {M:Int} {c:Call} {G:Rn} {n:Int} {a:Bool} {v:Nat} {d:Int->Nat}
def XR(h:StOk s d)(f:CallOk s M c):b6 a6 296 [.B 0 []] ⟨[eE (dp s M c G n a) v],[v],[]⟩ (MX (yO s M c)):=by
 refine fm func296 ?_;refine qy (x:=dp s M c G n a) h f.t0 f.r 2 (.inr (.inr rfl)) (λb=>?_) λb=>?_
 .refine w6 (Eb (x:=dp s M c G n a) h f.r (dG _)) rfl (λj i g=>?_) (λe j i g=>by cases g);cases g;exact a4 rfl (kL (r:=⟨0,0,0⟩) (x':=Ea (dp s M c G n a) c.r) (b9 b))
 .exact a4 rfl (fL (x':=dp s M c G n a) (eR b))
def Yc(i:StOk s d)(g:CallOk s M c):b6 a6 301 [.B 0 []] ⟨[eE (dp s M c G n a) v],[v],[]⟩ (MX (xj s M c)):=by
 refine fm func301 ?_;refine qv (IJ (x:=dp s M c G n a) i.t g.t0 (h:=c.r)) rfl (λb f=>?_) λb j f=>?_
 .refine dL 10 (qv (Oz (x:=dp s M c G n a) i g.r M (dG _)) rfl (λe f=>?_) λe j f=>?_)
  .exact a4 rfl (kL (r:=⟨0,0,0⟩) (x':=yV (dp s M c G n a) c.r M) ((b9 b).trans (b9 e)))
  .exact a4 rfl (fL ((b9 b).trans (eR e)))
 .exact a4 rfl (fL (eR b))
def XL(g:StOk s d)(f:CallOk s M c):b6 a6 297 [.B 0 []] ⟨[eE (dp s M c G n a) v],[v],[]⟩ (MX (yN s M c)):=by
 refine fm func297 ?_;refine qy (x:=dp s M c G n a) g f.t0 f.r 2 (.inr (.inr rfl)) (λb=>?_) λb=>?_
 .refine dL 18 (c9 (vP s.t c.r g.t.rk) (λ_ h=>h) (nv (fl s.t c.r != c.r) 12 _ (λj=>?_) λj=>?_))
  .have i:no (fl s.t c.r != c.r) 12=0:=by rw[j];rfl
   refine qv (Ky (x:=dp s M c G n a) g.t f.r) rfl (λe l=>?_) λe p l=>?_
   .have o:=(qc b).1;obtain⟨_,_,q,m,_⟩:=v5 g.t ⟨f.r,o⟩;refine dL 10 (qv (Bo (x:=my (dp s M c G n a) (fC s.t c.r)) m (h:=c.r) (M:=M)) rfl (λk l=>?_) λk p l=>?_)
    .exact a4 rfl (kL (r:=⟨0,0,0⟩) (x':=nU (my (dp s M c G n a) (fC s.t c.r)) (iI s.o (fC s.t c.r) c.r M ⟨1,iz M,0⟩)) ((b9 b).trans ((b9 i).trans ((b9 e).trans (b9 k)))))
    .exact a4 rfl (fL ((b9 b).trans ((b9 i).trans ((b9 e).trans (eR k)))))
   .exact a4 rfl (fL ((b9 b).trans ((b9 i).trans (eR e))))
  .exact a4 rfl (fL (x':=dp s M c G n a) ((b9 b).trans (by rw[j];rfl)))
 .exact a4 rfl (fL (x':=dp s M c G n a) (eR b))
def YQ(g:StOk s d)(e:CallOk s M c):b6 a6 298 [.B 0 []] ⟨[eE (dp s M c G n a) v],[v],[]⟩ (MX (za s M c)):=by
 refine fm func298 ?_;refine qy (x:=dp s M c G n a) g e.t0 e.r 2 (.inr (.inr rfl)) (λb=>?_) λb=>?_
 .refine qy (x:=dp s M c G n a) g e.t0 e.s' 1 (.inr (.inl rfl)) (λf=>?_) λf=>?_
  .refine fg (List.range 23) [(20,1048575),(21,524288)] (c9 (U3 g.t.ok g.t.rk e.r c.s) (λ_ h=>h) (fy ?_))
   refine kv (nL s.t c.r c.s) _ (λi=>?_) λi=>?_
   .exact a4 rfl (kL (r:=⟨0,0,0⟩) (x':=my (dp s M c G n a) (ln s.t c.r c.s)) ((b9 b).trans ((b9 f).trans (b9 i))))
   .exact a4 rfl (fL (x':=dp s M c G n a) ((b9 b).trans ((b9 f).trans (eR i))))
  .exact a4 rfl (fL (x':=dp s M c G n a) ((b9 b).trans (eR f)))
 .exact a4 rfl (fL (x':=dp s M c G n a) (eR b))
def Yy(i:StOk s d)(f:CallOk s M c):b6 a6 299 [.B 0 []] ⟨[eE (dp s M c G n a) v],[v],[]⟩ (MX (y8 s M c)):=by
 refine fm func299 ?_;refine qy (x:=dp s M c G n a) i f.t0 f.r 2 (.inr (.inr rfl)) (λb=>?_) λb=>?_
 .refine qv (Ky (x:=dp s M c G n a) i.t f.r) rfl (λe l=>?_) λe o l=>?_
  .have k:=(qc b).1;obtain⟨_,_,m,j,_⟩:=v5 i.t ⟨f.r,k⟩;refine fg (List.range 28) [(25,33554431),(26,16777216)] (c9 (UZ s.o (fC s.t c.r) c.r M j.rk) (λ_ h=>h) (fy ?_))
   refine kv (gR (fC s.t c.r) c.r M) _ (λg=>?_) λg=>?_
   .exact a4 rfl (kL (r:=⟨0,0,0⟩) (x':=nU (my (dp s M c G n a) (fC s.t c.r)) (iI s.o (fC s.t c.r) c.r M ⟨3,0,jC M⟩)) ((b9 b).trans ((b9 e).trans (b9 g))))
   .exact a4 rfl (fL (x':=my (dp s M c G n a) (fC s.t c.r)) ((b9 b).trans ((b9 e).trans (eR g))))
  .exact a4 rfl (fL ((b9 b).trans (eR e)))
 .exact a4 rfl (fL (x':=dp s M c G n a) (eR b))
def zds(i:StOk s d)(g:CallOk s M c):b6 a6 300 [.B 0 []] ⟨[eE (dp s M c G n a) v],[v],[]⟩ (MX (vz s M c)):=by
 refine fm func300 ?_;refine Dw (x:=dp s M c G n a) g.a (λb=>?_) λb=>?_
 .refine qv (IJ (x:=dp s M c G n a) i.t g.t0 (h:=c.r)) rfl (λe j=>?_) λe k j=>?_
  .refine fg (List.range 30) [(27,134217727),(28,67108864)] (c9 (L8 s.o s.t c.r c.a i.t.rk) (λ_ h=>h) (fy ?_))
   refine kv (iw s.o s.t c.r c.a true) _ (λf=>?_) λf=>?_
   .exact a4 rfl (kL (r:=⟨0,0,0⟩) (x':=nU (dp s M c G n a) (gL s.o s.t c.r c.a true)) ((b9 b).trans ((b9 e).trans (b9 f))))
   .exact a4 rfl (fL (x':=dp s M c G n a) ((b9 b).trans ((b9 e).trans (eR f))))
  .exact a4 rfl (fL ((b9 b).trans (eR e)))
 .exact a4 rfl (fL (x':=dp s M c G n a) (eR b))
end
end Sx
namespace Sx
variable{K:Out->MS->Prop}
def yK{P:Program}{f:FuncId}{args:List SV}{m U:MS}(e:m=U)(h:b6 P f args U K):b6 P f args m K:=e▸h
def nD(x:Cl)(k:Nat)(b:MBox):Cl:={x with s:={x.s with box:=a7 x.s.box k b}}
abbrev yE(x:Cl)(b:D)(v:Nat):SV:=.H (.d b) (.H (I x.task) (.H (.d (iC x.c)) (.H (.d (dR x.run)) (.H (I x.C7) (.H (B x.asks) (.H (gx 1 v fi (fX x.back)) (.d .un)))))))
def vV(x:Cl)(k:Nat)(b:MBox)(v:Nat):yE x ((fw x.s).set [1,k] (lT b)) v=eE (nD x k b) v:=
 dE (λf=>yE x (.H (uX x.s) (.H (.ar 8 zK f) (.H (.ar 8 .c λi=>.I (x.s.alive i)) (.H (.ar 8 .c λi=>.I (x.s.born i)) .un)))) v) (iU lT x.s.box k b)
def wj{x:Int}(h:di x):ja .u32 x=true:=iL (by have:=h.1;simp[eU];omega) (λ_=>h.1) (by have:=h.2;simp[eU];omega)
structure TkT (k:Toks):Prop where
 ex:∃tr:Int->Nat,∃Bd,(∀y,tr y<Bd)/\∀x y,x≠0->y∈nC k x->tr x<tr y
 z:∀x y,y∈nC k x->y≠0
attribute [local irreducible] b6 eF fR ez eH eB eM fx dC ec dU dx
def Ny(r:Rg)(c:Call)(i:dx r.len)(b:di c.b)(g: -1000000<=r.len/\r.len<=1000000){m:MS}(e:decide (c.a<=r.len - c.b)=true->K l0 m)(f:decide (c.a<=r.len - c.b)=false->K (lZ 9) m):b6 a6 324 [.d (lU r),.d (iC c)] m K:=by
 refine Ai (Q:=λo=>(decide (c.a<=r.len - c.b)=true/\o=l0)\/(decide (c.a<=r.len - c.b)=false/\o=lZ 9)) rfl ?_ λo h=>?_
 .refine fm func324 ?_;refine a4 (eD (x:=r.len - c.b) (by have:=b.1;have:=b.2;omega) (by have:=b.1;have:=b.2;omega)) (nv (decide (c.a<=r.len - c.b)) 9 _ (λb=>?_) λb=>?_)
  .exact a4 rfl (a4 (.inl ⟨b,rfl⟩) rfl)
  .exact a4 rfl (a4 (.inr ⟨b,rfl⟩) rfl)
 .rcases h with⟨b,rfl⟩|⟨b,rfl⟩
  .exact e b
  .exact f b
section
variable {s:St} {M:Int} {c:Call} {G:Rn} {n:Int} {a:Bool} {v:Nat} {d:Int->Nat}
def PW(f:StOk s d)(h:Int):0<=(b1 s.t h).len/\(b1 s.t h).len<=2048:=by have b:=pF f.t h;have e:=b.mx;unfold mV at e;simp only[dH,fY]at e;have:=b.pg;have:=b.q1;omega
def zap(k:StOk s d)(h:CallOk s M c):b6 a6 293 [.B 0 []] ⟨[eE (dp s M c G n a) v],[v],[]⟩ (MX (lJ s M c 0)):=by
 have m:=PW k c.r;refine fm func293 ?_;refine Tm c (λi=>?_) λi=>?_
 .have e:no (pl c) 2=0:=by rw[i];rfl
  refine qy (x:=dp s M c G n a) k h.t0 h.r 0 (.inl rfl) (λb=>?_) λb=>?_
  .refine fg [0,1,2,3,4,5,7,8,9,10,6,11] [(6,1920),(11,0)] (DB (x:=dp s M c G n a) (λf=>?_) λf=>?_)
   .have j:no (bk s.t.b c.r) 4=0:=by rw[f];rfl
    refine fy ?_
    refine Ny (b1 s.t c.r) c (eD a3 a3) h.b a3 (λg=>?_) λg=>?_
    .have l:qh s c=0:=by rw[qh,g];rfl
     exact a4 rfl (kL (r:=⟨0,0,0⟩) (x':=dp s M c G n a) ((b9 e).trans ((b9 b).trans ((b9 j).trans (b9 l)))))
    .exact a4 rfl (fL (x':=dp s M c G n a) ((b9 e).trans ((b9 b).trans ((b9 j).trans (by rw[qh,g];rfl)))))
   .exact a4 rfl (fL (x':=dp s M c G n a) ((b9 e).trans ((b9 b).trans (by rw[f];rfl))))
  .exact a4 rfl (fL (x':=dp s M c G n a) ((b9 e).trans (eR b)))
 .exact a4 rfl (fL (x':=dp s M c G n a) (by rw[lJ,i];rfl))
def zd7(k:StOk s d)(h:CallOk s M c):b6 a6 294 [.B 0 []] ⟨[eE (dp s M c G n a) v],[v],[]⟩ (MX (lJ s M c 1)):=by
 have m:=PW k c.r;refine fm func294 ?_;refine Tm c (λi=>?_) λi=>?_
 .have e:no (pl c) 2=0:=by rw[i];rfl
  refine qy (x:=dp s M c G n a) k h.t0 h.r 1 (.inr (.inl rfl)) (λb=>?_) λb=>?_
  .refine fg [0,1,2,3,4,5,7,8,9,10,6,11] [(6,1920),(11,0)] (DB (x:=dp s M c G n a) (λf=>?_) λf=>?_)
   .have j:no (bk s.t.b c.r) 4=0:=by rw[f];rfl
    refine fy ?_
    refine Ny (b1 s.t c.r) c (eD a3 a3) h.b a3 (λg=>?_) λg=>?_
    .have l:qh s c=0:=by rw[qh,g];rfl
     exact a4 rfl (kL (r:=⟨0,0,0⟩) (x':=dp s M c G n a) ((b9 e).trans ((b9 b).trans ((b9 j).trans (b9 l)))))
    .exact a4 rfl (fL (x':=dp s M c G n a) ((b9 e).trans ((b9 b).trans ((b9 j).trans (by rw[qh,g];rfl)))))
   .exact a4 rfl (fL (x':=dp s M c G n a) ((b9 e).trans ((b9 b).trans (by rw[f];rfl))))
  .exact a4 rfl (fL (x':=dp s M c G n a) ((b9 e).trans (eR b)))
 .exact a4 rfl (fL (x':=dp s M c G n a) (by rw[lJ,i];rfl))
def zcU(k:StOk s d)(j:CallOk s M c):b6 a6 295 [.B 0 []] ⟨[eE (dp s M c G n a) v],[v],[]⟩ (MX (zB s M c)):=by
 have g:=pF k.t c.r;have o:=wq g.ok;have p:=g.pg;have q:=g.q1;refine fm func295 ?_;refine qy (x:=dp s M c G n a) k j.t0 j.r 1 (.inr (.inl rfl)) (λb=>?_) λb=>?_
 .refine DB (x:=dp s M c G n a) (λe=>?_) λe=>?_
  .have i:no (bk s.t.b c.r) 4=0:=by rw[e];rfl
   refine fg (List.range 12) [(8,1),(11,0)] (a4 ⟨rfl,(by rw[dD,dD];show 0+_<=_;omega:(fX ([]:List Rn)).length+((b1 s.t c.r).rs.map dR).length<=2147483648)⟩ (dL 9 (yK (U:=⟨eE {dp s M c G n a with back:=(b1 s.t c.r).rs} (v+1)::_,_,_⟩) (g9 (ce (dE (yF (dp s M c G n a)) (kA 1 (v+1) fi [] (fX (b1 s.t c.r).rs))) rfl) rfl rfl) ?_)));refine qv (zdo (x:={dp s M c G n a with back:=(b1 s.t c.r).rs}) (h:=c.r) (r:={iY with E:=(b1 s.t c.r).E}) ⟨(λy l=>by cases l),dG _⟩) rfl (λf m=>?_) λf t m=>?_
   .exact a4 rfl (kL (r:=⟨0,0,0⟩) (x':=my {dp s M c G n a with back:=(b1 s.t c.r).rs} (hZ s.t c.r {iY with E:=(b1 s.t c.r).E})) ((b9 b).trans ((b9 i).trans (b9 f))))
   .exact a4 rfl (fL ((b9 b).trans ((b9 i).trans (eR f))))
  .exact a4 rfl (fL (x':=dp s M c G n a) ((b9 b).trans (by rw[e];rfl)))
 .exact a4 rfl (fL (x':=dp s M c G n a) (eR b))
def za0(j:StOk s d)(g:CallOk s M c):b6 a6 291 [.B 0 []] ⟨[eE (dp s M c G n a) v],[v],[]⟩ (MX (sC s M c)):=by
 refine fm func291 ?_;conv=>whnf
 apply a4<;>intro b
 .have b:(c.r != 0)=true:=b;conv=>whnf
  refine qy (x:=dp s M c G n a) j g.t0 g.r 1 (.inr (.inl rfl)) (λi=>?_) (λi=>?_)
  .conv=>whnf
   refine fg (List.range 27) [(23,8388607),(24,6291456)] ?_;conv=>whnf
   refine⟨⟨wj g.a,rfl⟩,?_⟩;conv=>whnf
   refine c9 (LX j.t.rk c.r (dn c.a 65)) (λ_ h=>h) ?_;conv=>whnf
   refine⟨(show _/\_ from⟨rfl,rfl⟩),kT ?_ ?_⟩;rotate_left
   .repeat' (first|exact trivial|refine iF (show _/\_ from⟨rfl,rfl⟩) ?_)
   conv=>whnf
   refine kv (mW s.t c.r (dn c.a 65)) _ (λe=>?_) (λe=>?_)
   .have f:(c.r==0)=false:=b8 b
    conv=>whnf
    refine⟨(λh=>by rw[f]at h;cases h),λ_=>?_⟩;conv=>whnf
    exact⟨rfl,kL (r:=⟨0,0,jg s.t c.r (dn c.a 65)⟩) (x':=my (dp s M c G n a) (ik s.t c.r (dn c.a 65))) (by rw[sC,b,dZ,b9 i,b9 e,f];rfl)⟩
   .conv=>whnf
    exact⟨rfl,fL (x':=dp s M c G n a) (by rw[sC,b,dZ,b9 i,eR e])⟩
  .conv=>whnf
   exact⟨rfl,fL (x':=dp s M c G n a) (by rw[sC,b,dZ,eR i])⟩
 .have b:(c.r != 0)=false:=b;have f:(c.r==0)=true:=b8 b
  conv=>whnf
  refine fg (List.range 27) [(23,8388607),(24,6291456)] ?_;conv=>whnf
  refine⟨⟨wj g.a,rfl⟩,?_⟩;conv=>whnf
  refine c9 (LX j.t.rk c.r (dn c.a 65)) (λ_ h=>h) ?_;conv=>whnf
  refine⟨(show _/\_ from⟨rfl,rfl⟩),kT ?_ ?_⟩;rotate_left
  .repeat' (first|exact trivial|refine iF (show _/\_ from⟨rfl,rfl⟩) ?_)
  conv=>whnf
  refine kv (mW s.t c.r (dn c.a 65)) _ (λe=>?_) (λe=>?_)
  .obtain⟨o,l,_⟩:=Be j.t g.r e;conv=>whnf
   refine⟨λ_=>?_,(λh=>by rw[f]at h;cases h)⟩;conv=>whnf
   refine qv (Bo (x:=my (dp s M c G n a) (ik s.t c.r (dn c.a 65))) l (h:=jg s.t c.r (dn c.a 65)) (M:=M)) rfl (λk m=>?_) (λk p m=>?_)
   .conv=>whnf
    exact⟨rfl,kL (r:=⟨0,0,jg s.t c.r (dn c.a 65)⟩) (x':=nU (my (dp s M c G n a) (ik s.t c.r (dn c.a 65))) (iI s.o (ik s.t c.r (dn c.a 65)) (jg s.t c.r (dn c.a 65)) M ⟨1,iz M,0⟩)) (by rw[sC,b,eQ,b9 rfl,b9 e,f,dZ];exact b9 k)⟩
   .conv=>whnf
    exact⟨rfl,fL (by rw[sC,b,eQ,b9 rfl,b9 e,f,dZ];exact eR k)⟩
  .conv=>whnf
   exact⟨rfl,fL (x':=dp s M c G n a) (by rw[sC,b,eQ,b9 rfl,eR e])⟩
def W7(f:CallOk s M c):b6 a6 306 [.B 0 []] ⟨[eE (dp s M c G n a) v],[v],[]⟩ (MX (yG s M)):=by
 have b:0<=M/\M<8:=⟨f.t0,f.t1⟩;refine fm func306 ?_;refine fg (List.range 17) [(14,16383),(15,8192)] (a4 b (c9 (Uz (s.box M.toNat)) (λ_ h=>h) (iF (by first|exact(show _/\_ from⟨rfl,rfl⟩)|exact(show _/\_ from⟨b,rfl,rfl⟩)) (kT ?_ ?_))));rotate_left
 .repeat' (first|exact trivial|refine iF (by first|exact(show _/\_ from⟨rfl,rfl⟩)|exact(show _/\_ from⟨b,rfl,rfl⟩)) ?_)
 refine kv (bif (s.box M.toNat).cl then 11 else 0) _ (λe=>?_) λe=>?_
 .refine dL 10 (a4 b ?_);conv=>whnf
  refine⟨eE (nD (dp s M c G n a) M.toNat {s.box M.toNat with cl:=true}) v,vV _ _ _ _,?_⟩;exact a4 rfl (kL (r:=⟨0,0,0⟩) (x':=nD (dp s M c G n a) M.toNat {s.box M.toNat with cl:=true}) (b9 e))
 .exact a4 rfl (fL (x':=dp s M c G n a) (eR e))
end
end Sx
namespace Sx
def Ca(x:Cl)(k:Nat)(b:Bool):Cl:={x with s:={x.s with alive:=a7 x.s.alive k b}}
def Lq(x:Cl)(k:Nat)(b:Bool):Cl:={x with s:={x.s with born:=a7 x.s.born k b}}
def MO(x:Cl)(k:Nat)(b:Bool)(v:Nat):yE x ((fw x.s).set [2,k] (.I b)) v=eE (Ca x k b) v:=
 dE (λf=>yE x (.H (uX x.s) (.H (.ar 8 zK λi=>lT (x.s.box i)) (.H (.ar 8 .c f) (.H (.ar 8 .c λi=>.I (x.s.born i)) .un)))) v) (iU (λb=>D.I b) x.s.alive k b)
def Wv(x:Cl)(k:Nat)(b:Bool)(v:Nat):yE x ((fw x.s).set [3,k] (.I b)) v=eE (Lq x k b) v:=
 dE (λf=>yE x (.H (uX x.s) (.H (.ar 8 zK λi=>lT (x.s.box i)) (.H (.ar 8 .c λi=>.I (x.s.alive i)) (.H (.ar 8 .c f) .un)))) v) (iU (λb=>D.I b) x.s.born k b)
attribute [local irreducible] b6 eF fR ez eH eB eM fx dC ec dU dx
section
variable {s:St} {M:Int} {c:Call} {G:Rn} {n:Int} {a:Bool} {v:Nat} {d:Int->Nat}
def YD(i:StOk s d)(g:TkT s.k)(p:CallOk s M c):b6 a6 303 [.B 0 []] ⟨[eE (dp s M c G n a) v],[v],[]⟩ (MX (w9 s M c)):=by
 obtain⟨t,o,l,m⟩:=g.ex;obtain⟨u,q,k⟩:=MH i.k l m g.z c.s;refine fm func303 ?_;refine fg (List.range 18) [(15,32767),(16,16384)] (c9 (uQ s.k c.s i.k) (λ_ h=>h) (fy ?_))
 conv=>whnf
 cases f:bk s.k.b c.s with
 |false=>
  have b:no (bk s.k.b c.s) 4=4:=by rw[f];rfl
  refine kv 4 _ ef λ_=>?_;exact a4 rfl (fL (x':=dp s M c G n a) (by rw[w9,f];rfl))
 |true=>
  have b:no (bk s.k.b c.s) 4=0:=by rw[f];rfl
  refine kv 0 _ (λ_=>?_) λh=>b3 rfl h;refine dL 8 (nv ((dr s.k c.s).W==M) 5 _ (λe=>?_) λe=>?_)
  .have j:no ((dr s.k c.s).W==M) 5=0:=by rw[e];rfl
   exact fg (List.range 22) [(21,98304)] (c9 k (λ_ h=>h) (a4 rfl (kL (r:=⟨0,0,0⟩) (x':=Lr (dp s M c G n a) (gI s.k c.s)) ((b9 b).trans (b9 j)))))
  .exact a4 rfl (fL (x':=dp s M c G n a) ((b9 b).trans (by rw[e];rfl)))
set_option maxHeartbeats 4000000 in
def zai(l:StOk s d)(q:CallOk s M c):b6 a6 302 [.B 0 []] ⟨[eE (dp s M c G n a) v],[v],[]⟩ (MX (wt s M c)):=by
 refine fm func302 ?_;refine Dw (x:=dp s M c G n a) q.a (λb=>?_) λb=>?_
 .conv=>
   whnf
  refine nv (decide (c.b<=1)) 2 _ (λm=>?_) λm=>?_
  .have f:no (decide (c.b<=1)) 2=0:=by rw[m];rfl
   refine dL 14 (c9 (jA s.t.b c.r) (λ_ h=>h) (nv (bk s.t.b c.r) 4 _ (λo=>?_) λo=>?_))
   .have g:no (bk s.t.b c.r) 4=0:=by rw[o];rfl
    apply a4<;>intro e
    .have e:(c.s==0)=true:=e;refine fg (List.range 20) [(18,262143),(19,0)] (c9 (tN s.o s.t c.r l.t.rk) (λ_ h=>h) (fy ?_))
     refine dL 13 (nv (((dy s.o s.t c.r).kind==1)&&((dy s.o s.t c.r).task==M)) 5 _ (λi=>?_) λi=>?_)
     .have k:(bif c.s==0 then no (((dy s.o s.t c.r).kind==1)&&((dy s.o s.t c.r).task==M)) 5 else bif bk s.k.b c.s then no (((dr s.k c.s).W==M)&&((dr s.k c.s).D==c.r)) 5 else 4)=0:=by rw[e,i];rfl
      refine fg (List.range 43) [(39,549755813887),(40,412316860416)] (c9 (Mf l.k ⟨c.r,iz M,iz c.a,c.b==1,c.s⟩) (λ_ h=>h) (fy ?_))
      refine kv (iM s.k ⟨c.r,iz M,iz c.a,c.b==1,c.s⟩) _ (λj=>?_) λj=>?_
      .exact a4 rfl (kL (r:=⟨0,0,qO s.k ⟨c.r,iz M,iz c.a,c.b==1,c.s⟩⟩) (x':=Lr (dp s M c G n a) (lI s.k ⟨c.r,iz M,iz c.a,c.b==1,c.s⟩)) ((b9 b).trans ((b9 f).trans ((b9 g).trans ((b9 k).trans (b9 j))))))
      .exact a4 rfl (fL (x':=dp s M c G n a) ((b9 b).trans ((b9 f).trans ((b9 g).trans ((b9 k).trans (eR j))))))
     .exact a4 rfl (fL (x':=dp s M c G n a) ((b9 b).trans ((b9 f).trans ((b9 g).trans (by rw[e,i];rfl)))))
    .have e:(c.s==0)=false:=e;refine fg (List.range 18) [(15,32767),(16,16384)] (c9 (uQ s.k c.s l.k) (λ_ h=>h) (fy ?_))
     conv=>whnf
     cases p:bk s.k.b c.s with
     |false=>
      refine kv 4 _ ef λ_=>?_;exact a4 rfl (fL (x':=dp s M c G n a) ((b9 b).trans ((b9 f).trans ((b9 g).trans (by rw[e,p];rfl)))))
     |true=>
      refine kv 0 _ (λ_=>?_) λh=>b3 rfl h;refine dL 18 (nv (((dr s.k c.s).W==M)&&((dr s.k c.s).D==c.r)) 5 _ (λi=>?_) λi=>?_)
      .have k:(bif c.s==0 then no (((dy s.o s.t c.r).kind==1)&&((dy s.o s.t c.r).task==M)) 5 else bif bk s.k.b c.s then no (((dr s.k c.s).W==M)&&((dr s.k c.s).D==c.r)) 5 else 4)=0:=by rw[e,p,i];rfl
       refine fg (List.range 43) [(39,549755813887),(40,412316860416)] (c9 (Mf l.k ⟨c.r,iz M,iz c.a,c.b==1,c.s⟩) (λ_ h=>h) (fy ?_))
       refine kv (iM s.k ⟨c.r,iz M,iz c.a,c.b==1,c.s⟩) _ (λj=>?_) λj=>?_
       .exact a4 rfl (kL (r:=⟨0,0,qO s.k ⟨c.r,iz M,iz c.a,c.b==1,c.s⟩⟩) (x':=Lr (dp s M c G n a) (lI s.k ⟨c.r,iz M,iz c.a,c.b==1,c.s⟩)) ((b9 b).trans ((b9 f).trans ((b9 g).trans ((b9 k).trans (b9 j))))))
       .exact a4 rfl (fL (x':=dp s M c G n a) ((b9 b).trans ((b9 f).trans ((b9 g).trans ((b9 k).trans (eR j))))))
      .exact a4 rfl (fL (x':=dp s M c G n a) ((b9 b).trans ((b9 f).trans ((b9 g).trans (by rw[e,p,i];rfl)))))
   .exact a4 rfl (fL (x':=dp s M c G n a) ((b9 b).trans ((b9 f).trans (by rw[o];rfl))))
  .exact a4 rfl (fL (x':=dp s M c G n a) ((b9 b).trans (by rw[m];rfl)))
 .exact a4 rfl (fL (x':=dp s M c G n a) (eR b))
def zdM(f:CallOk s M c):b6 a6 311 [.B 0 []] ⟨[eE (dp s M c G n a) v],[v],[]⟩ (MX (x6 s c)):=by
 refine fm func311 ?_;conv=>whnf
 refine dL 21 ?_;conv=>whnf
 have g:0<=c.a.tmod 8/\c.a.tmod 8<8:=⟨z0 _ f.a.1,zZ _ a8⟩;refine⟨λ_=>⟨a8,wj (x:=c.a.tmod 8) ⟨g.1,a3⟩⟩,?_⟩;conv=>whnf
 refine⟨λ_=>g,?_⟩;conv=>whnf
 refine nv (decide (c.a<8)&&!s.born (c.a.tmod 8).toNat) 2 _ (λb=>?_) (λb=>?_)
 .have h:no (decide (c.a<8)&&!s.born (c.a.tmod 8).toNat) 2=0:=by rw[b];rfl
  have e:0<=c.a/\c.a<8:=⟨f.a.1,by
   have:=(iZ.1 b).1;simpa using this⟩
  conv=>whnf
  refine fg [0,1,2,3,4,5,6,7,8,9,10,11,12,13,14,15,17,18,19,16,20,21] [(16,917568),(21,0)] ?_;conv=>whnf
  refine⟨e,?_⟩;conv=>whnf
  refine⟨eE (Ca (dp s M c G n a) c.a.toNat true) v,MO _ _ _ _,?_⟩;conv=>whnf
  refine iF (by first|exact(show _/\_ from⟨rfl,rfl⟩)|exact(show _/\_ from⟨e,rfl,rfl⟩)) (kT ?_ ?_);rotate_left
  .repeat' (first|exact trivial|refine iF (by first|exact(show _/\_ from⟨rfl,rfl⟩)|exact(show _/\_ from⟨e,rfl,rfl⟩)) ?_)
  conv=>whnf
  refine⟨e,?_⟩;conv=>whnf
  refine⟨eE (Lq (Ca (dp s M c G n a) c.a.toNat true) c.a.toNat true) v,Wv (Ca (dp s M c G n a) c.a.toNat true) _ _ _,?_⟩;conv=>whnf
  exact⟨rfl,kL (r:=⟨0,0,0⟩) (x':=Lq (Ca (dp s M c G n a) c.a.toNat true) c.a.toNat true) (b9 h)⟩
 .conv=>whnf
  exact⟨rfl,fL (x':=dp s M c G n a) (by rw[x6,b];rfl)⟩
end
end Sx
end Go.Proofs.YtfbhkfhbnkncoaaGreatDoor
