import Derived.Test.YtfbhkfhbnkncoaaGreatDoorV45
set_option linter.all false
set_option maxRecDepth 100000
set_option maxHeartbeats 4000000
namespace Go.Proofs.YtfbhkfhbnkncoaaGreatDoor
open Go.RowKit Tryz
open Tryz renaming prog→a6
namespace Sx
variable{a:Int}
def zeG{p b:Int}(a:b=1\/b=2\/b=4\/b=8):(32*p+b - 1) / b*b=32*p:=by rcases a with rfl|rfl|rfl|rfl<;>omega
section
variable {s:St} {M:Int} {c:Call} {G:Rn} {d:Int->Nat}
def Qt(hd:c.C=2)(h:jy c.a c.b=false\/eh s M c.r 1≠0):dv s M c=0/\mN s M c G=.error (bif jy c.a c.b then eh s M c.r 1 else 2):=by
 have b:dv s M c=(match jX s M c with
  | .ok n=>n
  | .error _=>0):=by unfold dv;rw[hd];rfl
 cases a:jy c.a c.b with
 |false=>
  have e:no (lq (dn c.a 129) (dn c.b 9)) 2=2:=by rw[vo,a];rfl
  refine⟨?_,by unfold mN;rw[e];rfl⟩;rw[b];unfold jX;rw[e];rfl
 |true=>
  have e:no (lq (dn c.a 129) (dn c.b 9)) 2=0:=by rw[vo,a];rfl
  have f:eh s M c.r 1≠0:=h.resolve_left (by rw[a];decide);refine⟨?_,by unfold mN;rw[b9 e,eR f];rfl⟩;rw[b];unfold jX;rw[b9 e,eR f]
def V9(hd:c.C=2)(ho:jy c.a c.b=true)(hm:eh s M c.r 1=0):
 dv s M c=(match(bif jv (b1 s.t c.r).rs (b1 s.t c.r).len (dn c.a 129) (dn c.b 9)then(match lu s c (b1 s.t c.r)with
  | .ok _=>.ok (0:Int)
  | .error e=>.error e)
 else dV (no (decide (dK (b1 s.t c.r).rs+gY c.a c.b<=(b1 s.t c.r).E)) 6) <| .ok (gY c.a c.b):Except Int Int)with
 | .ok n=>n
 | .error _=>0)/\
 mN s M c G=bif jv (b1 s.t c.r).rs (b1 s.t c.r).len (dn c.a 129) (dn c.b 9)then lu s c (b1 s.t c.r)
  else dV (no (decide (dK (b1 s.t c.r).rs+gY c.a c.b<=(b1 s.t c.r).E)) 6) <|
   dV (no ((G.n==gY c.a c.b)&&mV (iR (b1 s.t c.r) G).rs (iR (b1 s.t c.r) G).len) 2) <| lu s c (iR (b1 s.t c.r) G):=by
 have hB:dv s M c=(match jX s M c with
  | .ok n=>n
  | .error _=>0):=by unfold dv;rw[hd];rfl
 have e:no (lq (dn c.a 129) (dn c.b 9)) 2=0:=by rw[vo,ho];rfl
 have hg:=(qc hm).1;rw[hB];unfold jX mN;rw[b9 e,b9 hm,hg,b9 (show no true 4=0 from rfl),b9 e,b9 hm,b9 (show no true 4=0 from rfl),Ju];exact⟨rfl,rfl⟩
def Ri{r:Rg}(j:RgI r)(n:bk s.t.b c.r=true)(h:jy c.a c.b=true)(b:p6 r.len (32*dK r.rs) c.a c.b=a)(k:0<=a):jv r.rs r.len (dn c.a 129) (dn c.b 9)=true/\hQ s.t c.r {r with len:=a+c.a}=0/\lu s c r=.ok ({s with t:=hZ s.t c.r {r with len:=a+c.a}},⟨0,a,0⟩,[]):=by
 obtain⟨l,o⟩:=rV j;rw[OS l.1 a3]at b;have e:jv r.rs r.len (dn c.a 129) (dn c.b 9)=true:=by
  cases e:jv r.rs r.len (dn c.a 129) (dn c.b 9)with
  |true=>rfl
  |false=>rw[e,eQ]at b;omega
 rw[e,dZ]at b;have i:mZ r.rs r.len (dn c.a 129) (dn c.b 9)=a+c.a:=by unfold mZ;rw[e,dZ,b,(zl h).1]
 have m:rD r.rs r.len (dn c.a 129) (dn c.b 9)=a:=by unfold rD;rw[e,dZ,b]
 have g:=BJ (t:=s.t) (x:=c.r) n (Rh j c.a c.b);rw[i]at g;have p:a<100000:=by have f:=e;unfold jv at f;rw[dH,jL,kq,b,(zl h).1]at f;have:=pI h;omega
 refine⟨e,g,?_⟩;unfold lu;rw[i,b9 g,m,l5 (iL (by simp only[eU];omega) (λ_=>k) (by simp only[eU];omega))]
def YV{r:Rg}(i:RgI r)(a:jy c.a c.b=true)(h:G.n=gY c.a c.b):p6 (iR r G).len (32*dK (iR r G).rs) c.a c.b=32*dK r.rs:=by
 have b:=pI a;have g:gY c.a c.b=(c.a+31) / 32:=by unfold gY;rw[a];rfl
 have e:(iR r G).len=32*dK r.rs:=by show dK r.rs*32=_;omega
 have f:dK (iR r G).rs=dK r.rs+G.n:=by show dK (r.rs++[G])=_;rw[zq];simp[dK]
 unfold p6;rw[a,e,f,zeG b.2.2,eI a3];rfl
end
def JH{P:Program}{N:Nat}{F:Bool}{c:Code}{V:List Ent}{m:MS}{K:X->List Ent->MS->Prop}{s:Nat}{v v':SV}(k:look V s=some v)(o:v.le v')(h:Ok P N F c (.put s v'::V) m K):Ok P N F c V m K:=by
 intro E r p O J a w l f;refine h E r p O J a w l ⟨⟨f.l.size,λj Z u b i=>?_,λj Z u b i=>?_⟩,f.m⟩
 .simp only[fP,fB]at b;obtain⟨Y,g,e⟩:=b;cases e;simp only[look]at g;split at g
  .rename_i n;have:=fp n;subst this;cases g;exact o _ _ _ (f.l.yes _ [] _ (by simp[fP,k]) λ_ d=>by cases d)
  .exact f.l.yes j [] _ (by simp[fP,g]) λ_ d=>by cases d
 .simp only[fP,fB]at b;obtain⟨Y,_,e⟩:=b;cases e;exact b3 (λ_ d=>by cases d) i
def zc8{n:Nat}{t:Ty}{f g:Nat->D}(h:∀i,i<n->f i=g i):(SV.d (.X n t f)).le (.d (.X n t g)):=λO J y b=>⟨ef,λ_=>b.X.congr λi a=>(h i a).symm⟩
def EC(q:List Int)(i:Nat)(h:i<q.length):c7 (qU q) i=.z .u8 (q.getD i 0):=qe (λx=>D.z .u8 x) 0 h
def zbt(n:Nat)(q:List Int):(SV.d (.X n .c (mQ 0 (Nat.min (qU q).length n) (c7 (qU q)) λ_=>.z .u8 0))).le (.d (fq .c (qU (jh n q)))):=by
 have e:fq .c (qU (jh n q))=.X n .c (c7 (qU (jh n q))):=by unfold fq;rw[show(qU (jh n q)).length=n by unfold qU;rw[dD,QU]]
 rw[e];refine zc8 λi a=>?_;have b:(qU q).length=q.length:=dD _;rw[EC _ _ (by rw[QU];exact a),b];unfold mQ;rw[ld,Nat.sub_zero,show Nat.ble 0 i=true from rfl,po];by_cases c:i<q.length
 .rw[show Nat.blt i (Nat.min q.length n)=true by rw[Nat.blt_eq];exact Nat.lt_min.2 ⟨c,a⟩,dZ,EC _ _ c];unfold jh;rw[eu,eu,pV (by rw[kO];omega),tI a]
 .rw[show Nat.blt i (Nat.min q.length n)=false from vF.2 λe=>c (Nat.lt_min.1 (show i<Nat.min q.length n by rwa [Nat.blt_eq]at e)).1,eQ];unfold jh;rw[eu,oh (by rw[kO];omega),kO,List.getElem?_replicate_of_lt a3];rfl
def zde(s:St)(l:List (Int×Ow))(Z:Nat->Tk)(y:Nat->List Int)(C:List Rn)(k:Nat)(r:Rg):ei {s with t:=⟨s.t.b,a7 s.t.r k r⟩} l Z y C=Ay (.H (.H (p5 s.t.b) (.H (.ar 32 FG (a7 (λi=>sn (s.t.r i)) k (sn r))) .un)) (.H (mc l) (.H (jF s.k.b Z) .un))) s.box s.alive s.born y C:=by have e:gU ⟨s.t.b,a7 s.t.r k r⟩=.H (p5 s.t.b) (.H (.ar 32 FG (a7 (λi=>sn (s.t.r i)) k (sn r))) .un):=vx _ _ _ _;show Ay (qD {s with t:=⟨s.t.b,a7 s.t.r k r⟩} l Z) s.box s.alive s.born y C=_;unfold qD;rw[e]
attribute [local irreducible] b6 eF ez eH eB eM dC ec dU dx
abbrev AS(k:Nat)(a n:Int):List (Nat×SV):=[(4,.B 0 []),(6,.B 1 []),(7,.B 2 []),(8,.B 3 []),(9,.B 4 []),(13,.B 5 []),(14,I k),(15,.B 6 []),(16,I a),(17,I n)]
def MZ{Q:SV->Prop}{s:St}{l:List (Int×Ow)}{Z:Nat->Tk}{y:Nat->List Int}{c:Call}{G:Rn}{k:Nat}{n:Int}{A:List Rn}{j:List Nat}{C:List Rn}(N:k<32)(d:∀y∈A,dw y)(F:A.length<=1000)(J:dK A<=128)(q:0<=a/\a<=100000)(M:0<=c.a/\c.a<=1000)(O:(y k).length<=100000)(h:Q (T3 (.d (ei {s with t:=⟨s.t.b,a7 s.t.r k {s.t.r k with rs:=A,len:=a+c.a}⟩} l Z (a7 y k (jh (gj A).length (y k))) C)) (.d (sm ⟨0,a,0⟩)) (I n))):
 Ok a6 f72.ntmps false (gW 12 (gB f72)) (gy (AS k a n) []) ⟨[.d (ei s l Z y C),.d (jn c),.d (i7 G),.d (ZT.d pn),.d (ZT.d sP),.d (nJ A 0),.d (ei s l Z y C)],j,[]⟩ (gS ff 0 0 0 f72.results.toList λo m=>(∃u v,o=.ret u/\u.le v/\Q v)/\m=⟨[],[],[]⟩):=by
 have b:(0:Int)<=(k:Int)/\(k:Int)<32:=⟨a3,a3⟩;have r:=J7 d F (a+c.a);have z:=vW d;have w:=zde s l Z y C k {s.t.r k with rs:=A,len:=a+c.a};refine dB (b2 (x:=a+c.a) (dB (a4 b ?_)));conv=>whnf
 refine⟨.d (ei {s with t:=⟨s.t.b,a7 s.t.r k {s.t.r k with rs:=A,len:=a+c.a}⟩} l Z y C),(dE SV.d w).symm,?_⟩;conv=>whnf
 have i:=BF {s with t:=⟨s.t.b,a7 s.t.r k {s.t.r k with rs:=A,len:=a+c.a}⟩} l Z y C k (jh (gj A).length (y k));generalize({s with t:=⟨s.t.b,a7 s.t.r k {s.t.r k with rs:=A,len:=a+c.a}⟩}:St)=W at h i;refine dA (l:=AS k a n) (U:=⟨[.d (ei W l Z y C),.d (jn c),.d (i7 G),.d (ZT.d pn),.d (ZT.d sP),.d (nJ A (a+c.a)),.d (ei s l Z y C)],j,[]⟩) (by exact⟨rfl,rfl,rfl,rfl,rfl,rfl,rfl,rfl,rfl,rfl,trivial⟩) rfl ?_;have p:(qL (gj A)).length=(gj A).length:=dD _;refine dB (bo (r) (b2 (x:=((qL (gj A)).length:Int)) (a4 ⟨rfl,a3,a3,by show((qL (gj A)).length:Int)*((1:Nat):Int)<=65536;omega⟩ (dB (a4 b ?_)))));conv=>whnf
 have K:(qU (y k)).length=(y k).length:=dD _;have E:Nat.min (qU (y k)).length (qL (gj A)).length<=100000:=eY (Nat.min_le_left _ _) a3;refine⟨⟨rfl,eD (x:=((Nat.min (qU (y k)).length (qL (gj A)).length:Nat):Int)) a3 a3⟩,?_⟩;conv=>whnf
 have g:=zbt (gj A).length (y k);refine JG (s:=18) (id:=0) (v:=0) (n:=(gj A).length) (t:=.c) (f:=mQ 0 (Nat.min (qU (y k)).length (gj A).length) (c7 (qU (y k))) λ_=>.z .u8 0) rfl (by rw[<-p];rfl) ?_;refine JH (s:=18) rfl g ?_;refine eJ c6 (a4 b ?_);conv=>whnf
 refine⟨.d (ei W l Z (a7 y k (jh (gj A).length (y k))) C),(dE SV.d i).symm,?_⟩;conv=>whnf
 have L:IntKind.u64.wrap a=a:=l5 (iL (by simp only[eU];omega) (λ_=>q.1) (by simp only[eU];omega));have e:Q (T3 (.d (ei W l Z (a7 y k (jh (gj A).length (y k))) C)) (.d (sm ⟨0,IntKind.u64.wrap a,0⟩)) (I n)):=by rw[L];exact h
 exact⟨rfl,eC e⟩
end Sx
namespace Sx
variable{F a b:Int}{A:List Rn}
def zaU(a b:Int):(gY a b==0)=!jy a b:=by
 unfold gY;cases h:jy a b with
 |false=>rfl
 |true=>
  have:=pI h;rw[dZ];exact fc.2 a3
def We{l:List Rn}(h:(dm l).Nodup):Ci l:=λi j n o p ⟨d,f⟩=>by
 have e:dm (l.take j)++dm (l.drop j)=dm l:=by rw[<-oE,nF]
 rw[<-e,mB]at h;have a:∀{q:Rn} {m:List Rn},q∈m->qa q p=true->p∈dm m:=λ{q m} r b=>om.2 ⟨q,r,by
  unfold qa at b;simp only[dH,fY]at b;rw[iS];omega⟩
 have k:l.getD i c8∈l.take j:=by rw[eu,ed a3];exact List.mem_take_iff_getElem.2 ⟨i,a3,rfl⟩
 have g:l.getD j c8∈l.drop j:=by rw[DH c8 o];exact fQ
 exact h.2.2 p (a k d) p (a g f) rfl
def Yr{all:Int}(d:jy a b=true):p6 F all a b<=all\/p6 F all a b= -1:=by
 have:=pI d;unfold p6;cases h:(jy a b&&decide ((F+b - 1) / b*b+a<=all))with
 |false=>exact .inr rfl
 |true=>
  have:=gM (iZ.1 h).2;exact .inl (by rw[dZ];omega)
def Ys{r:Rg}(g:RgI r)(e:jy a b=true)(h:p6 r.len (32*dK r.rs) a b<0):jv r.rs r.len (dn a 129) (dn b 9)=false:=by
 obtain⟨S,Q⟩:=rV g;have f:=pI e;rw[OS S.1 a3]at h;cases i:jv r.rs r.len (dn a 129) (dn b 9)with
 |false=>rfl
 |true=>
  exfalso;rw[i,dZ,(zl e).2,Lm (by rw[CY];have d:=e;unfold jy at d;rw[dH]at d;exact d.2) S.1 a3]at h;have:=Tc f.2.2 S.1;omega
def zdp{s:St}{r:Int}(e:TbR s.t)(d:bk s.t.b r=true)(b:hQ s.t r {b1 s.t r with rs:=A,len:=F}=0):hZ s.t r {b1 s.t r with rs:=A,len:=F}=⟨s.t.b,a7 s.t.r (a5 r) {s.t.r (a5 r)with rs:=A,len:=F}⟩:=by
 have a:b1 s.t r=s.t.r (a5 r):=by unfold b1;rw[d,<-Bh e r];rfl
 unfold hZ;rw[b,a];rfl
attribute [local irreducible] b6 eF ez eH eB eM dC ec dU dx
def Gc(s:St)(l:List (Int×Ow))(y:Nat->List Int)(X:Ex)(n:Int)(v:SV):Prop:=∃A B,lP s l y X (T2 (.d A) (.d B))/\v=T3 (.d A) (.d B) (I n)
def Dd{s:St}{l:List (Int×Ow)}{Z:Nat->Tk}{y:Nat->List Int}{C:List Rn}(a:ExR s l Z)(b:ir s.t y y)(e n:Int):Gc s l y (.error e) n (T3 (.d (ei s l Z y C)) (.d (sm ⟨e,0,0⟩)) (I n)):=⟨_,_,iD a b e,rfl⟩
section
variable {s:St} {M:Int} {c:Call} {G:Rn} {l:List (Int×Ow)} {Z:Nat->Tk} {y:Nat->List Int} {C:List Rn}
def MV(b:ExR s l Z)(h:ir s.t y y){n:Int}(f:∀y∈A,dw y)(k:bk s.t.b c.r=true)(j:hQ s.t c.r {b1 s.t c.r with rs:=A,len:=a+c.a}=0):Gc s l y (.ok ({s with t:=hZ s.t c.r {b1 s.t c.r with rs:=A,len:=a+c.a}},⟨0,a,0⟩,[])) n
 (T3 (.d (ei {s with t:=⟨s.t.b,a7 s.t.r (a5 c.r) {s.t.r (a5 c.r)with rs:=A,len:=a+c.a}⟩} l Z (a7 y (a5 c.r) (jh (gj A).length (y (a5 c.r)))) C)) (.d (sm ⟨0,a,0⟩)) (I n)):=by
 obtain⟨d,o⟩:=b.t;have g:=zdp (s:=s) o.r k j;refine⟨_,_,⟨l,Z,a7 y (a5 c.r) (jh (gj A).length (y (a5 c.r))),C,?_,b.kt,oo _ _,?_,?_⟩,rfl⟩
 .exact JK (wK s.t _) b.own
 .show ir (hZ s.t c.r {b1 s.t c.r with rs:=A,len:=a+c.a}) y _;rw[g];intro i m;show a7 y (a5 c.r) _ i=jh (32*dK (a7 s.t.r (a5 c.r) _ i).rs).toNat (y i);by_cases e:i=a5 c.r
  .rw[e,dN,dN];have:=vW f;show jh _ _=jh (32*dK A).toNat _;rw[show(32*dK A).toNat=(gj A).length by omega]
  .rw[dP e,dP e];exact h i m
 .show _=T2 (.d (ei {s with t:=hZ s.t c.r {b1 s.t c.r with rs:=A,len:=a+c.a}} l Z _ C)) _;rw[g];rfl
def Rq(u:CallOk s M c)(hd:c.C=2)(o:ExR s l Z)(A:ir s.t y y)(hy:∀i,i<32->(y i).length<=100000)(P:G=c4\/dw G/\(dv s M c>0->G.n=dv s M c/\(eG s.t++pg G).Nodup)):jN a6 72 [.d (ei s l Z y C),I M,.d (jn c),.d (i7 G)] (Gc s l y (mN s M c G) (dv s M c)):=by
 obtain⟨d,ht⟩:=o.t;have hN:=zci c.a c.b;have hM:=qS o u.t0 u.t1 u.r 1 (.inr (.inl rfl));have R:=zaU c.a c.b;refine ER func72 rfl ey rfl rfl rfl ?_;refine dB (dB (bo (hN) (dB (bo (hM) ?_))));conv=>whnf
 cases g:jy c.a c.b with
 |false=>
  rw[g]at R;obtain⟨e,j⟩:=Qt (s:=s) (M:=M) (c:=c) (G:=G) hd (.inl g);rw[e,j,g,eQ];refine dB (a4 (λ_=>?_) λh=>b3 (R.symm.trans h) a8);exact eJ c6 (ej (a4 rfl (eC (Dd o A 2 0))))
 |true=>
  rw[g]at R;refine dB (a4 (λh=>b3 (R.symm.trans h) a8) λ_=>?_);conv=>whnf
  by_cases K:eh s M c.r 1=0
  case neg=>
   obtain⟨e,j⟩:=Qt (s:=s) (M:=M) (c:=c) (G:=G) hd (.inr K);rw[e,j,g,dZ];refine eJ c6 (a4 (λ_=>?_) λh=>b3 (by simpa using(show(eh s M c.r 1 != 0)=false from h)) K);exact a4 rfl (eC (Dd o A _ 0))
  case pos=>
   have E:=(qc K).1;have k:=pF ht c.r;obtain⟨q1,q2,q3⟩:=su E;obtain⟨S,Q⟩:=rV k;have ae:=BD k;obtain⟨e,j⟩:=V9 (G:=G) hd g K;have h3:=pI g;have hX:=EX (y:=y) (C:=C) o u.r E;rw[<-q1,<-q3]at hX;have U:=zb6 k.ok a3 (F:=(b1 s.t c.r).len) (a:=c.a) (b:=c.b) ⟨S.1,a3⟩ u.a;refine dB (a4 (λh=>b3 K (by simpa using(show(eh s M c.r 1 != 0)=true from h))) λ_=>?_);refine dB (bo (hX) (dB (dB (bo (U) (dB ?_)))));conv=>whnf
   generalize t:p6 (b1 s.t c.r).len (32*dK (b1 s.t c.r).rs) c.a c.b=at_;have n:=iq c.r;refine dA (l:=(16,I at_)::(17,I 0)::(11,I (gY c.a c.b))::AS (a5 c.r) at_ 0) (U:=⟨[.d (ei s l Z y C),.d (jn c),.d (i7 G),.d (ZT.d pn),.d (ZT.d sP),.d (nJ (b1 s.t c.r).rs (b1 s.t c.r).len),.d (ei s l Z y C)],[],[]⟩) (by exact⟨rfl,rfl,rfl,rfl,rfl,rfl,rfl,rfl,rfl,rfl,rfl,rfl,rfl,trivial⟩) rfl ?_;by_cases T:at_<0
   case neg=>
    have h0:0<=at_:=a3
    obtain⟨p1,p2,p3⟩:=Ri k E g t h0;rw[p1,dZ]at e j;rw[p3]at e j;rw[e,j];have hb:=Yr (F:=(b1 s.t c.r).len) (all:=32*dK (b1 s.t c.r).rs) g;rw[t]at hb;refine dB (a4 (λh=>b3 (gM h) T) λ_=>?_);refine dB (dB (a4 (λ_=>⟨a8,a8⟩) (EP (v:=B true) False (λh=>h.elim) (λp _ O J=>by first|exact b3 O a8|exact b3 J a8) ?_)));refine b0 (dA (l:=AS (a5 c.r) at_ 0) (U:=⟨[.d (ei s l Z y C),.d (jn c),.d (i7 G),.d (ZT.d pn),.d (ZT.d sP),.d (nJ (b1 s.t c.r).rs 0),.d (ei s l Z y C)],[],[]⟩) (by exact⟨rfl,rfl,rfl,rfl,rfl,rfl,rfl,rfl,rfl,rfl,trivial⟩) rfl ?_);exact MZ n k.ok a3 a3 a3 ⟨u.a.1,a3⟩ (hy _ n) (MV o A k.ok E p2)
   case pos=>
    have w:0<gY c.a c.b/\gY c.a c.b<=4:=by unfold gY;rw[g,dZ];omega
    have hf:=Ys k g (by rw[t];exact T);rw[hf,eQ]at e j;have L:=J7 k.ok a3 (b1 s.t c.r).len;have W:=vW k.ok;have el:(qL (gj (b1 s.t c.r).rs)).length=(gj (b1 s.t c.r).rs).length:=dD _;refine dB (a4 (λ_=>?_) λh=>b3 T (lK h));refine dL 14 (c9 L (λ_ h=>h) (b2 (x:=((qL (gj (b1 s.t c.r).rs)).length:Int)) (a4 (a8:(32:Int)≠0) ?_)));rw[show IntKind.i64.wrap (((qL (gj (b1 s.t c.r).rs)).length:Int).tdiv 32)=dK (b1 s.t c.r).rs by
     rw[el,W,Gq a3,l5 (iL (by simp only[eU];omega) ef (by simp only[eU];omega))];omega]
    refine b2 (x:=dK (b1 s.t c.r).rs+gY c.a c.b) (a4 ⟨(a3:(0:Int)<=(a5 c.r:Int)),(a3:(a5 c.r:Int)<32)⟩ ?_);apply a4<;>intro z
    .have z:dK (b1 s.t c.r).rs+gY c.a c.b>(s.t.r (a5 c.r)).E:=gM z;rw[<-q2]at z;rw[show decide (dK (b1 s.t c.r).rs+gY c.a c.b<=(b1 s.t c.r).E)=false from fe a3]at e j;rw[e,j];exact a4 rfl (eC (Dd o A 6 0))
    have z:¬dK (b1 s.t c.r).rs+gY c.a c.b>(s.t.r (a5 c.r)).E:=lK z;rw[<-q2]at z;rw[show decide (dK (b1 s.t c.r).rs+gY c.a c.b<=(b1 s.t c.r).E)=true from eI a3,b9 (show no true 6=0 from rfl)]at e j;have e:dv s M c=gY c.a c.b:=e;rw[e]at P;rw[e,j];have aa:((qL (gj (b1 s.t c.r).rs)).length:Int)=32*dK (b1 s.t c.r).rs:=a3
    refine bo (L) (b2 (x:=((qL (gj (b1 s.t c.r).rs)).length:Int)) ?_);rw[aa];conv=>whnf
    have e5:(SV.d (.H (.X (0+((b1 s.t c.r).rs.map i7).length+1) t2 (fE (0+((b1 s.t c.r).rs.map i7).length) (fE 0 (c7 []) (c7 ((b1 s.t c.r).rs.map i7))) (c7 [i7 G]))) (.H (.z .i64 0) .un)))=.d (nJ ((b1 s.t c.r).rs++[G]) 0):=by unfold nJ fq;rw[ld,je,ew,show fE 0 (c7 []) (c7 ((b1 s.t c.r).rs.map i7))=c7 ((b1 s.t c.r).rs.map i7) from rfl,rO];rfl
    have ac:((b1 s.t c.r).rs.map i7).length<=64:=by rw[dD];omega
    refine yU ey ?_;refine sg 2 4 a8 ?_ ?_
    case' refine_1=>
     refine oq c6 ey (λi=>[0,1,3,2,4,5,6,7].getD i 0) [0,1,3,2,4,5,6,7] [(2,8),(4,0),(5,0),(7,0)] (by repeat first|exact .refl|refine .add _ _ ?_ rfl) ey ?_;refine a4 a3 (Or.inl (fy ?_))
     refine Or.inl (a4 ⟨rfl,a3⟩ ?_);conv=>whnf
    case' refine_2=>
     refine oq c6 ey (λi=>[0,1,4,2,3,5,6,7].getD i 0) [0,1,3,4,2,5,6,7] [(2,8),(4,3),(5,0),(7,0)] (by repeat first|exact .refl|refine .add _ _ ?_ rfl) ey ?_;refine Or.inl (fy ?_)
     refine a4 a3 (Or.inl (fy ?_))
     refine a4 ⟨rfl,a3⟩ ?_;conv=>whnf
    all_goals
     refine dB (dA (l:=(11,I (gY c.a c.b))::AS (a5 c.r) (32*dK (b1 s.t c.r).rs) (gY c.a c.b)) (U:=⟨[.d (ei s l Z y C),.d (jn c),.d (i7 G),.d (ZT.d pn),.d (ZT.d sP),.d (nJ ((b1 s.t c.r).rs++[G]) 0),.d (ei s l Z y C)],[1],[]⟩) (by exact⟨rfl,rfl,rfl,rfl,rfl,rfl,rfl,rfl,rfl,rfl,rfl,trivial⟩) (g9 (ce rfl (ce rfl (ce rfl (ce rfl (ce rfl (ce e5 (ce rfl rfl))))))) rfl rfl) ?_);have ad:∀y∈(b1 s.t c.r).rs,dw y:=k.ok;rcases P with rfl|⟨ab,P⟩
     .have F:((c4.n:Int) != gY c.a c.b)=true:=by show((0:Int) != gY c.a c.b)=true;simp;omega
      rw[show no (((c4.n:Int)==gY c.a c.b)&&mV (iR (b1 s.t c.r) c4).rs (iR (b1 s.t c.r) c4).len) 2=2 by rw[show((c4.n:Int)==gY c.a c.b)=false from fc.2 (by show(0:Int)≠_;omega)];rfl];refine dB (a4 (λ_=>⟨a8,a8⟩) (EP (v:=B true) False (λh=>h.elim) (λp _ O J=>by first|exact b3 (F.symm.trans O) a8|exact b3 (F.symm.trans J) a8) ?_));refine a4 (λ_=>?_) λh=>?_
      .exact a4 rfl (eC (Dd o A 2 _))
      .have h:(decide (gY c.a c.b>0)&&(((c4.n:Int) != gY c.a c.b)||!true))=false:=h;rw[F,eI w.1]at h;cases h
     .obtain⟨m,Y⟩:=P w.1;have r:(dm (b1 s.t c.r).rs++pg G).Nodup:=by rw[q1];refine Y.sublist (List.Sublist.append_right ?_ _);unfold eG;exact y5 (f:=λi=>dm (s.t.r i).rs) n
      have q:=Pk k ab r a3;have N:=BD q;obtain⟨O,J⟩:=rV q;have V:=RB (l:=(b1 s.t c.r).rs++[G]) (F:=0) q.ok (by have:((b1 s.t c.r).rs++[G]).length<=64:=N;omega) (We (by rw[oE];simpa[dm]using r)) ⟨i6 0,by have:=(sF (l:=(b1 s.t c.r).rs++[G]) q.ok).1;omega⟩;obtain⟨p1,p2,p3⟩:=Ri (s:=s) (c:=c) q E g (YV k g m) a3;have F:(G.n != gY c.a c.b)=false:=by rw[m];simp
      rw[b9 (show no ((G.n==gY c.a c.b)&&mV (iR (b1 s.t c.r) G).rs (iR (b1 s.t c.r) G).len) 2=0 by rw[q.mx,gG.2 m];rfl),p3];refine dB (a4 (λ_=>⟨a8,a8⟩) (c9 V (λ_ h _ _=>h) (a4 (λh=>?_) λ_=>?_)))
      .have h:(decide (gY c.a c.b>0)&&((G.n != gY c.a c.b)||!true))=true:=h;rw[F,eI w.1]at h;cases h
      refine dA (l:=AS (a5 c.r) (32*dK (b1 s.t c.r).rs) (gY c.a c.b)) (U:=⟨[.d (ei s l Z y C),.d (jn c),.d (i7 G),.d (ZT.d pn),.d (ZT.d sP),.d (nJ ((b1 s.t c.r).rs++[G]) 0),.d (ei s l Z y C)],[1],[]⟩) (by exact⟨rfl,rfl,rfl,rfl,rfl,rfl,rfl,rfl,rfl,rfl,trivial⟩) rfl ?_;exact MZ n q.ok (by have:((b1 s.t c.r).rs++[G]).length<=64:=N;omega) (by have:dK ((b1 s.t c.r).rs++[G])<=64:=J;omega) ⟨a3,a3⟩ ⟨u.a.1,a3⟩ (hy _ n) (MV (A:=(b1 s.t c.r).rs++[G]) o A q.ok E p2)
end
end Sx
namespace Sx
def wQ(s:St)(M:Int)(c:Call)(G:Rn)(l:List (Int×Ow))(y:Nat->List Int)(v:SV):Prop:=∃d a e b,OwS (dz s M c G).1.t (dz s M c G).1.o d/\KtS (dz s M c G).1.k a/\d.length<=l.length+100/\(∀i,i<32->e i=qx s (dz s M c G).1 c (dz s M c G).2.1.e y i)/\v=T2 (.d (ei (dz s M c G).1 d a e b)) (.d (sm (pM c y (dz s M c G).2.1)))
def mE{s:St}{M:Int}{c:Call}{G:Rn}{l:List (Int×Ow)}{y:Nat->List Int}{v:SV}(h:lP s l y (fr s M c G) v)(n:((c.C==4)&&((dz s M c G).2.1.e==0))=false)(m:((c.C==3)&&((dz s M c G).2.1.e==0))=false):wQ s M c G l y v:=by
 obtain⟨p,b,q,a,d,f,k,g,j⟩:=h;have e:Ku s (fr s M c G)=dz s M c G:=rfl;rw[e]at d f g j;refine⟨p,b,q,a,d,f,k,λi o=>?_,?_⟩
 .unfold qx;rw[n,Bool.false_and,eQ];exact g i o
 .unfold pM;rw[m,eQ];exact j
attribute [local irreducible] b6 eF ez eH eB eM dC ec dU dx
section
variable {s:St} {M:Int} {c:Call} {G:Rn} {l:List (Int×Ow)} {Z:Nat->Tk} {y:Nat->List Int}
def zcz(g:CallOk s M c)(m:ExR s l Z)(C:ir s.t y y)(hB:∀i,i<32->tF (y i))(hy:∀i,i<32->(y i).length=(32*dK (s.t.r i).rs).toNat):jN a6 74 [.d (ei s l Z y []),I M,.d (jn {c with C:=4})] λv=>(lJ s M c 1≠nw s/\lP s l y (lJ s M c 1) v)\/(lJ s M c 1=nw s/\v=T2 (.d (ei s l Z (a7 y (a5 c.r) (nz c.v c.a.toNat c.b.toNat (y (a5 c.r)))) [])) (.d (sm ⟨0,0,0⟩))):=by
 obtain⟨d,ht⟩:=m.t;have A:=λe=>nO (s:=s) (l:=l) (Z:=Z) (y:=y) (C:=[]) e;have T:=qS m g.t0 g.t1 g.r 1 (.inr (.inl rfl));have k:∀e:Int,e≠0->(Except.error e:Ex)≠nw s:=λe h a=>by cases a
 unfold lJ;refine ER func74 rfl ey rfl rfl rfl ?_;refine dB (dB (dB (ej (dB ?_))));apply a4<;>intro b
 .have b:(decide (c.b<1)||decide (c.b>8))=true:=b;have e:no (pl c) 2=2:=by unfold pl;rw[show(decide (c.b>=1)&&decide (c.b<=8))=false by simp at b ⊢;omega];rfl
  rw[e];exact bo (A 2) (a4 rfl (eC (.inl ⟨k 2 a8,iD m C 2⟩)))
 have b:1<=c.b/\c.b<=8:=by have b:(decide (c.b<1)||decide (c.b>8))=false:=b;simp at b;omega
 rw[b9 (show no (pl c) 2=0 by unfold pl;rw[eI b.1,eI b.2];rfl)];refine dB (bo (T) (dB ?_));apply a4<;>intro a
 .have a:eh s M c.r 1≠0:=by have a:(eh s M c.r 1 != 0)=true:=a;simpa using a
  rw[eR a];exact bo (A (eh s M c.r 1)) (a4 rfl (eC (.inl ⟨k _ a,iD m C _⟩)))
 have a:eh s M c.r 1=0:=by have a:(eh s M c.r 1 != 0)=false:=a;simpa using a
 have E:=(qc a).1;have u:=iq c.r;have r:(0:Int)<=(a5 c.r:Int)/\(a5 c.r:Int)<32:=⟨a3,a3⟩;have R:=ht.rg _ u;obtain⟨S,Q⟩:=rV R;have O:=(su E).2.2;have L:=g.a;have V:=g.a.1;have W:=g.a.2;rw[b9 a,E,b9 (show no true 4=0 from rfl)];refine dB (bo (EX (y:=y) (C:=[]) m g.r E) (dB (a4 (eD (x:=c.a+c.b) (by have:=L.1;omega) (by have:=L.2;omega)) ?_)));apply a4<;>intro w
 .have w:c.a+c.b>(s.t.r (a5 c.r)).len:=gM w;rw[show qh s c=9 by unfold qh;rw[O,fe a3];rfl];exact bo (A 9) (a4 rfl (eC (.inl ⟨k 9 a8,iD m C 9⟩)))
 have w:¬c.a+c.b>(s.t.r (a5 c.r)).len:=lK w;rw[b9 (show qh s c=0 by unfold qh;rw[O,eI a3];rfl)];have K:=hy _ u;have p:(qU (y (a5 c.r))).length=(y (a5 c.r)).length:=dD _;refine dB (a4 r (a4 (by show(qU (y (a5 c.r))).length<=2147483648;omega) (Or.inr ⟨by show 0<(qU (y (a5 c.r))).length;omega,?_⟩)));conv=>whnf
 have P:Ob.row 1 (0+(qU (y (a5 c.r))).length) .c (fE 0 (c7 []) (c7 (qU (y (a5 c.r)))))=.row 1 (y (a5 c.r)).length .c (c7 (qU (y (a5 c.r)))):=by rw[ld,p];rfl
 have o:=BF s l Z y [] (a5 c.r) (nz c.v c.a.toNat c.b.toNat (y (a5 c.r)));refine dA (l:=[(3,.B 0 []),(5,.B 1 []),(6,.B 2 []),(7,.B 3 []),(11,I (a5 c.r)),(12,.ob (.mr 0 1))]) (U:=⟨[.d (ei s l Z y []),.d (jn {c with C:=4}),.d (ZT.d pn),.d (ZT.d sP),.d (nJ (s.t.r (a5 c.r)).rs (s.t.r (a5 c.r)).len)],[],[.row 1 (y (a5 c.r)).length .c (c7 (qU (y (a5 c.r))))]⟩) (by exact⟨rfl,rfl,rfl,rfl,rfl,rfl,trivial⟩) (g9 rfl rfl (ce P rfl)) ?_;generalize y (a5 c.r)=q at K p o;generalize nJ (s.t.r (a5 c.r)).rs (s.t.r (a5 c.r)).len=X;have Y:c.a.toNat+c.b.toNat<=q.length:=a3
 refine dB (dB (dX c6 (λi:Nat×Nat=>i.1<=c.b.toNat) (λi=>c.b.toNat - i.1) (λi=>[(14,I i.1),(13,.d (.z .u64 0)),(12,.ob (.mr 0 i.2))]) (λi=>⟨[.d (ei s l Z y []),.d (jn {c with C:=4}),.d (ZT.d pn),.d (ZT.d sP),.d X],[],[.row i.2 q.length .c (c7 (qU (nz c.v c.a.toNat i.1 q)))]⟩) (0,1) (dG _) ⟨rfl,rfl,rfl,trivial⟩ rfl (λi=>⟨a9 _,a9 _,a9 _⟩) ?_));rintro⟨i,v⟩ N;have N:i<=c.b.toNat:=N;apply a4<;>intro z
 .have j:i<c.b.toNat:=by have z:(i:Int)<c.b:=gM z;omega
  refine ej (dL 12 (b2 (x:=c.a+(i:Int)) (b2 (x:=8*(i:Int)) (a4 (a3:(0:Int)<=8*(i:Int)) (a4 ⟨rfl,(a3:(0:Int)<=c.a+(i:Int)),(a3:c.a+(i:Int)<(q.length:Int))⟩ ?_)))));conv=>whnf
  have U:a7 (c7 (qU (nz c.v c.a.toNat i q))) (c.a+(i:Int)).toNat (.z .u8 (IntKind.u8.wrap (dU .u64 c.v (8*(i:Int)))))=c7 (qU (nz c.v c.a.toNat (i+1) q)):=by rw[JA (by unfold qU;rw[dD,BN];omega),nz,show(c.a+(i:Int)).toNat=c.a.toNat+i by omega];unfold qU;rw[List.map_set]
  refine⟨⟨rfl,by show(c.a+(i:Int)).toNat<q.length;omega⟩,c7 (qU (nz c.v c.a.toNat (i+1) q)),U,?_⟩;refine b2 (x:=(i:Int)+1) ?_;conv=>whnf
  exact⟨(i+1,v),j,by show c.b.toNat -(i+1)<c.b.toNat - i;omega,⟨rfl,rfl,rfl,trivial⟩,⟨rfl,rfl⟩,rfl⟩
 .have j:i=c.b.toNat:=by have z:¬(i:Int)<c.b:=lK z;omega
  subst j;conv=>whnf
  have J:=BN c.v c.a.toNat q c.b.toNat;have F:(SV.d (.X q.length .c (c7 (qU (nz c.v c.a.toNat c.b.toNat q))))).le (.d (fq .c (qU (nz c.v c.a.toNat c.b.toNat q)))):=by unfold fq;rw[show(qU (nz c.v c.a.toNat c.b.toNat q)).length=q.length by unfold qU;rw[dD,J]];exact SV.le_refl _
  refine JG (s:=12) (id:=0) (v:=v) (n:=q.length) (t:=.c) (f:=c7 (qU (nz c.v c.a.toNat c.b.toNat q))) rfl rfl ?_;refine JH (s:=12) rfl F ?_;refine eJ c6 (a4 r ?_);conv=>whnf
  refine⟨_,(dE SV.d o).symm,?_⟩;exact a4 rfl (eC (.inr ⟨rfl,rfl⟩))
end
section
variable {s:St} {M:Int} {c:Call} {G:Rn} {l:List (Int×Ow)} {Z:Nat->Tk} {y:Nat->List Int}
def zcg(g:CallOk s M c)(p:ExR s l Z)(E:ir s.t y y)(R:∀i,i<32->tF (y i))(hy:∀i,i<32->(y i).length=(32*dK (s.t.r i).rs).toNat):jN a6 74 [.d (ei s l Z y []),I M,.d (jn {c with C:=3})] λv=>(lJ s M c 0≠nw s/\lP s l y (lJ s M c 0) v)\/(lJ s M c 0=nw s/\v=T2 (.d (ei s l Z (a7 y (a5 c.r) (y (a5 c.r))) [])) (.d (sm ⟨0,um (y (a5 c.r)) c.a.toNat c.b.toNat,0⟩))):=by
 obtain⟨d,ht⟩:=p.t;have C:=λe=>nO (s:=s) (l:=l) (Z:=Z) (y:=y) (C:=[]) e;have U:=qS p g.t0 g.t1 g.r 0 (.inl rfl);have k:∀e:Int,e≠0->(Except.error e:Ex)≠nw s:=λe h a=>by cases a
 unfold lJ;refine ER func74 rfl ey rfl rfl rfl ?_;refine dB (dB (dB (b0 (dB ?_))));apply a4<;>intro b
 .have b:(decide (c.b<1)||decide (c.b>8))=true:=b;have e:no (pl c) 2=2:=by unfold pl;rw[show(decide (c.b>=1)&&decide (c.b<=8))=false by simp at b ⊢;omega];rfl
  rw[e];exact bo (C 2) (a4 rfl (eC (.inl ⟨k 2 a8,iD p E 2⟩)))
 have b:1<=c.b/\c.b<=8:=by have b:(decide (c.b<1)||decide (c.b>8))=false:=b;simp at b;omega
 rw[b9 (show no (pl c) 2=0 by unfold pl;rw[eI b.1,eI b.2];rfl)];refine dB (bo (U) (dB ?_));apply a4<;>intro a
 .have a:eh s M c.r 0≠0:=by have a:(eh s M c.r 0 != 0)=true:=a;simpa using a
  rw[eR a];exact bo (C (eh s M c.r 0)) (a4 rfl (eC (.inl ⟨k _ a,iD p E _⟩)))
 have a:eh s M c.r 0=0:=by have a:(eh s M c.r 0 != 0)=false:=a;simpa using a
 have F:=(qc a).1;have o:=iq c.r;have w:(0:Int)<=(a5 c.r:Int)/\(a5 c.r:Int)<32:=⟨a3,a3⟩;have T:=ht.rg _ o;obtain⟨S,Q⟩:=rV T;have O:=(su F).2.2;have L:=g.a;have V:=g.a.1;have W:=g.a.2;rw[b9 a,F,b9 (show no true 4=0 from rfl)];refine dB (bo (EX (y:=y) (C:=[]) p g.r F) (dB (a4 (eD (x:=c.a+c.b) (by have:=L.1;omega) (by have:=L.2;omega)) ?_)));apply a4<;>intro z
 .have z:c.a+c.b>(s.t.r (a5 c.r)).len:=gM z;rw[show qh s c=9 by unfold qh;rw[O,fe a3];rfl];exact bo (C 9) (a4 rfl (eC (.inl ⟨k 9 a8,iD p E 9⟩)))
 have z:¬c.a+c.b>(s.t.r (a5 c.r)).len:=lK z;rw[b9 (show qh s c=0 by unfold qh;rw[O,eI a3];rfl)];have K:=hy _ o;have m:(qU (y (a5 c.r))).length=(y (a5 c.r)).length:=dD _;refine dB (a4 w (a4 (by show(qU (y (a5 c.r))).length<=2147483648;omega) (Or.inr ⟨by show 0<(qU (y (a5 c.r))).length;omega,?_⟩)));conv=>whnf
 have P:Ob.row 1 (0+(qU (y (a5 c.r))).length) .c (fE 0 (c7 []) (c7 (qU (y (a5 c.r)))))=.row 1 (y (a5 c.r)).length .c (c7 (qU (y (a5 c.r)))):=by rw[ld,m];rfl
 have u:=BF s l Z y [] (a5 c.r) (y (a5 c.r));refine dA (l:=[(3,.B 0 []),(5,.B 1 []),(6,.B 2 []),(7,.B 3 []),(11,I (a5 c.r)),(12,.ob (.mr 0 1))]) (U:=⟨[.d (ei s l Z y []),.d (jn {c with C:=3}),.d (ZT.d pn),.d (ZT.d sP),.d (nJ (s.t.r (a5 c.r)).rs (s.t.r (a5 c.r)).len)],[],[.row 1 (y (a5 c.r)).length .c (c7 (qU (y (a5 c.r))))]⟩) (by exact⟨rfl,rfl,rfl,rfl,rfl,rfl,trivial⟩) (g9 rfl rfl (ce P rfl)) ?_;have r:=R _ o;generalize y (a5 c.r)=q at K m u r;generalize nJ (s.t.r (a5 c.r)).rs (s.t.r (a5 c.r)).len=X;have Y:c.a.toNat+c.b.toNat<=q.length:=a3
 refine dB (dB (dX c6 (λi:Nat×Nat=>i.1<=c.b.toNat) (λi=>c.b.toNat - i.1) (λi=>[(14,I i.1),(13,.d (.z .u64 (um q c.a.toNat i.1))),(12,.ob (.mr 0 i.2))]) (λi=>⟨[.d (ei s l Z y []),.d (jn {c with C:=3}),.d (ZT.d pn),.d (ZT.d sP),.d X],[],[.row i.2 q.length .c (c7 (qU q))]⟩) (0,1) (dG _) ⟨rfl,rfl,rfl,trivial⟩ rfl (λi=>⟨a9 _,a9 _,a9 _⟩) ?_));rintro⟨i,v⟩ N;have N:i<=c.b.toNat:=N;apply a4<;>intro A
 .have j:i<c.b.toNat:=by have A:(i:Int)<c.b:=gM A;omega
  have hx:0<=q.getD (c.a.toNat+i) 0/\q.getD (c.a.toNat+i) 0<256:=by rw[eu,ed a3];exact r _ (oi _)
  have hv:c7 (qU q) (({c with C:=3}:Call).a+(((i,v):Nat×Nat).fst:Int)).toNat=.z .u8 (q.getD (c.a.toNat+i) 0):=by show c7 (qU q) (c.a+(i:Int)).toNat=_;rw[show(c.a+(i:Int)).toNat=c.a.toNat+i by omega];exact EC _ _ a3
  have hw:IntKind.u64.wrap (q.getD (c.a.toNat+i) 0)=q.getD (c.a.toNat+i) 0:=l5 (iL (by simp only[eU];omega) (λ_=>hx.1) (by simp only[eU];omega));refine b0 (b2 (x:=c.a+(i:Int)) (a4 ⟨rfl,(a3:(0:Int)<=c.a+(i:Int)),(a3:c.a+(i:Int)<(q.length:Int))⟩ (a4 ⟨rfl,by show(c.a+(i:Int)).toNat<q.length;omega⟩ ?_)));rw[hv];refine b2 (x:=8*(i:Int)) (a4 (a3:(0:Int)<=8*(i:Int)) (b2 (x:=(i:Int)+1) ?_));conv=>whnf
  exact⟨(i+1,v),j,by show c.b.toNat -(i+1)<c.b.toNat - i;omega,⟨rfl,rfl,rfl,trivial⟩,⟨rfl,rfl⟩,rfl⟩
 .have j:i=c.b.toNat:=by have A:¬(i:Int)<c.b:=lK A;omega
  subst j;conv=>whnf
  have J:(SV.d (.X q.length .c (c7 (qU q)))).le (.d (fq .c (qU q))):=by unfold fq;rw[m];exact SV.le_refl _
  refine JG (s:=12) (id:=0) (v:=v) (n:=q.length) (t:=.c) (f:=c7 (qU q)) rfl rfl ?_;refine JH (s:=12) rfl J ?_;refine eJ c6 (a4 w ?_);conv=>whnf
  refine⟨_,(dE SV.d u).symm,?_⟩;exact a4 rfl (eC (.inr ⟨rfl,rfl⟩))
end
end Sx
end Go.Proofs.YtfbhkfhbnkncoaaGreatDoor
