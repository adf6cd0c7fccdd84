/-
  Proved: whatever the script, bailiwicktop.TopAccess returns true, and its argument reads as before. Conditions: the row's own: the listed variable (the table of the model's calls) reads as the program's text lays it (tied card).
-/
import Derived.Test.YtfbhkfhbnkncoaaGreatDoorV49
set_option linter.all false
set_option maxRecDepth 100000
set_option maxHeartbeats 16000000
namespace Go.Proofs.YtfbhkfhbnkncoaaGreatDoor
open Go.RowKit Go.Proofs.Tryz
open Go.Proofs.Tryz renaming prog→a6
namespace Sx
def V1{n:Int}{a:Nat->List Ins}(f:MI n (fo n a)/\tL (fo n a))(b:MX2 0 0 (fo n a)):AI n (fo n a) (λ_=>[]) [] (λ_=>sM) (λ_=>[]) 0:=by
 have g:BI (fo n a) λ_=>[]:=zaM a;have e:∀x,¬gi jU.t x:=λx b=>by have:=b.1.2;rw[show jU.t.b=(λ_=>vA) from rfl,Jy]at this;cases this
 have d:∀y,¬y∈dI jU.k.b:=λy c=>by rw[show dI jU.k.b=[] from EA]at c;cases c
 exact⟨f.1,f.2,b,g,⟨λy c=>b3 c (d y),λy z c=>b3 c (d y)⟩,λ_ _=>yc,⟨λx b=>b3 b (e x),λx b=>b3 b (e x),λx b=>b3 b (e x)⟩,⟨(λi d h=>by cases h),λi d=>yc⟩,λ_ _=>rfl,a9 _⟩
structure AW where
 i:Nat
 m:Mc
 a:Nat
 b:Nat
 y:Nat->List Int
 l:List (Int×Ow)
 kt:Nat->Tk
 yr:Nat->List Int
 Q:List Rn
attribute [local irreducible] b6 eF fR ez eH eB eM fx dC ec dU dx
def VX(l:Lst)(h1:dx (l.ps.length:Int))(h2:dx (l.pk.size:Int))(h3:∀p∈l.ps,dx (p.size:Int)):c5 a6 3 [.d (ig l)] (B true):=by
 refine zu func3 ?_;refine dB ?_;refine dA (l:=[(1,.B 0 [])]) (U:=⟨[.d (ig l)],[],[]⟩) ⟨rfl,trivial⟩ rfl ?_;refine dB ?_;refine bo (YT l h1 h2 h3) ?_;refine a4 (λ_=>eD (x:=(l.pk.size:Int)) (by omega) (by have:=h2;unfold dx at this;omega)) ?_;apply a4<;>intro hg
 .refine bo (Tj) ?_;exact b7
 have hg:(Ee l||decide ((l.pk.size:Int)>400))=false:=hg;rw[gX]at hg;have hpk:l.pk.size<=400:=by have:=lK hg.2;omega
 obtain⟨g1,g2⟩:=YU hg.1;obtain⟨g3,g4,g5⟩:=Pm g1;obtain⟨_,hN,hps⟩:=Jh g2;refine dA (l:=[(1,.B 0 [])]) (U:=⟨[.d (ig l)],[],[]⟩) ⟨rfl,trivial⟩ rfl ?_;refine dB ?_;refine fa (Wr l (ig l) (by omega) g5 g2) ?_;rintro _ _ ⟨rfl,a,b,rfl⟩;refine dA (l:=[(1,.B 0 []),(3,.B 1 [])]) (U:=M1 (ig l) (fo l.n (gH l)) a b []) ⟨rfl,rfl,trivial⟩ rfl ?_;refine dB ?_;refine b0 ?_;conv=>whnf
 have m0:=Jl hN (gH l);have x0:MX2 0 0 (fo l.n (gH l)):=Qn λi _=>Xy g2 i;have ha0:=V1 m0 x0;have hs0:(fo l.n (gH l)).x.s=jU:=rfl;have he0:(fo l.n (gH l)).M.length=0:=rfl;refine dA (l:=[(1,.B 0 []),(3,.B 1 [])]) (U:=M1 (ig l) (fo l.n (gH l)) a b []) ⟨rfl,rfl,trivial⟩ rfl ?_;refine dB ?_;refine bo (zbT) ?_;refine dA (l:=[(1,.B 0 []),(3,.B 1 []),(4,.B 4 [])]) (U:=M1 (ig l) (fo l.n (gH l)) a b [.d (ei (fo l.n (gH l)).x.s [] (λ_=>sM) (λ_=>[]) [])]) ⟨rfl,rfl,rfl,trivial⟩ rfl ?_;refine dB ?_;refine dA (l:=[(1,.B 0 []),(3,.B 1 []),(4,.B 4 []),(5,I ((fo l.n (gH l)).M.length:Nat))]) (U:=M1 (ig l) (fo l.n (gH l)) a b [.d (ei (fo l.n (gH l)).x.s [] (λ_=>sM) (λ_=>[]) [])]) ⟨rfl,rfl,rfl,rfl,trivial⟩ rfl ?_;generalize fo l.n (gH l)=m0' at ha0;refine dB ?_;refine dX c6 (λσ:AW=>σ.i<=l.pk.size/\AI l.n σ.m σ.y σ.l σ.kt σ.yr σ.i) (λσ=>l.pk.size - σ.i) (λσ=>[(6,I σ.i),(5,I (σ.m.M.length:Nat))]) (λσ=>M1 (ig l) σ.m σ.a σ.b [.d (ei σ.m.x.s σ.l σ.kt σ.yr σ.Q)]) ⟨0,m0',a,b,λ_=>[],[],λ_=>sM,λ_=>[],[]⟩ ⟨dG _,ha0⟩ ⟨rfl,rfl,trivial⟩ rfl (λi=>⟨a9 _,a9 _,a9 _⟩) ?_;rintro⟨i,m,a,b,y,ls,Z,yr,C⟩ ⟨hi,hA⟩;have hi:i<=l.pk.size:=hi;have hA:AI l.n m y ls Z yr i:=hA;have hev:=hA.mx.M;have hq64:=hA.mi.F1;refine b2 (x:=(l.pk.size:Int)) ?_;apply a4<;>intro ht
 .have hlt:i<l.pk.size:=eZ ht
  have hp:=tW l.pk i;refine fS (i:=i) (n:=l.pk.size) ?_;refine fa (zdV (L:=ig l) (e:=[.d (ei m.x.s ls Z yr C)]) (GK (a:=a) (b:=b) hA.mi hA.mx (by omega) (by omega) hp) rfl) ?_;rintro _ _ ⟨rfl,a2,Q,rfl⟩;have hpk2:=hA.pick hp.1;have j:=EI hA.mi hA.lv hp.1;have jx:=EJ hA.mi hA.mx hp.1;have hev2:=jx.M;have hq2:=j.1.F1;generalize jo m (fF l.pk i)=m2 at hpk2 j jx hev2 hq2 ⊢;refine fa (XF (AU (L:=ig l) (e:=[.d (ei m.x.s ls Z yr C)]) (Co (m:=m2) (a:=a2) (b:=Q) (by omega)) rfl) (iE jj mR ij m2.M)) ?_;rintro _ _ ⟨rfl,rfl⟩;refine b2 (x:=(m2.M.length:Int)) ?_;conv=>whnf
  have hle:m.M.length<=m2.M.length:=by
   rcases hpk2 with⟨e1,_⟩|⟨e,_,e1,_⟩
   .rw[e1];exact a9 _
   .rw[e1,ew];exact oo _ _
  refine⟨λh=>b3 (gM (show decide ((m2.M.length:Int)<(m.M.length:Int))=true from h)) (by omega),λ_=>?_⟩;conv=>whnf
  rcases hpk2 with⟨e1,e2,hA2⟩|⟨e,y',e1,⟨e2,e3⟩,hT,hA2⟩
  case inl=>
   refine dX c6 (λ_:Unit=>True) (λ_=>0) (λ_=>[(5,I (m.M.length:Nat))]) (λ_=>M1 (ig l) m2 a2 Q [.d (ei m.x.s ls Z yr C)]) () trivial ⟨rfl,trivial⟩ rfl (λi=>⟨a9 _,a9 _,a9 _⟩) ?_;rintro _ _;refine b2 (x:=(m2.M.length:Int)) ?_;refine a4 (λh=>b3 (gM (show decide ((m.M.length:Int)<(m2.M.length:Int))=true from h)) (by rw[e1];omega)) λ_=>?_;rw[<-e2,<-e1];conv=>whnf
   obtain⟨d,ht⟩:=hA2.mi.s.t;have hk:=hA2.mi.s.k;have hE2:=hA2.ex (by omega);have hfl:=xq hA2.mi.K;have hnn:=hA2.mi.n;have hNN:=hA2.mi.hN;refine fa (AU (L:=ig l) (e:=[.d (ei m2.x.s ls Z yr C)]) (S7 (m:=m2) (a:=a2) (b:=Q) (by omega) ht hk.ok hk.t hA2.kd) rfl) ?_;rintro _ _ ⟨rfl,rfl⟩;refine mI (AU (L:=ig l) (e:=[.d (ei m2.x.s ls Z yr C)]) (S8 (m:=m2) (a:=a2) (b:=Q) (C:=C) (by omega) ht hE2 hA2.mi.K.ok (by omega) (by omega) hA2.bi.pb hA2.yr hA2.F3) rfl) (λ_ h _=>h) ?_;refine b0 ?_;refine b2 (x:=(i:Int)+1) ?_;conv=>whnf
   exact⟨⟨i+1,m2,a2,Q,y,ls,Z,yr,C⟩,⟨hlt,hA2⟩,by show l.pk.size -(i+1)<l.pk.size - i;omega,⟨rfl,rfl,trivial⟩,⟨rfl,rfl⟩,rfl⟩
  case inr=>
   have hel:m2.M.length=m.M.length+1:=by rw[e1,ew];rfl
   have heg:m2.M.getD m.M.length ij=e:=by rw[e1,eu,oh (a9 _),tM];rfl
   refine dX c6 (λω:Option (List (Int×Ow)×(Nat->Tk)×(Nat->List Int)×List Rn)=>match ω with
    |none=>True
    |some (l',kt',y2,bk')=>OwS m2.x.s.t m2.x.s.o l'/\KtS m2.x.s.k kt'/\l'.length<=ls.length+100/\∀i,i<32->y2 i=y' i) (λω=>match ω with
    |none=>1
    |some _=>0) (λω=>match ω with
    |none=>[(5,I (m.M.length:Nat))]
    |some _=>[(5,I (m2.M.length:Nat))]) (λω=>match ω with
    |none=>M1 (ig l) m2 a2 Q [.d (ei m.x.s ls Z yr C)]
    |some (l',kt',y2,bk')=>M1 (ig l) m2 a2 Q [.d (ei m2.x.s l' kt' y2 bk')]) none trivial ⟨rfl,trivial⟩ rfl (λi=>by cases i<;>exact⟨a9 _,a9 _,a9 _⟩) ?_
   rintro(_|⟨l',kt',y2,bk'⟩) hω
   .refine b2 (x:=(m2.M.length:Int)) ?_;refine a4 (λ_=>?_) λh=>b3 (show(m.M.length:Int)<(m2.M.length:Int) by omega) (lK (show decide ((m.M.length:Int)<(m2.M.length:Int))=false from h));conv=>whnf
    subst heg;have hSy:=zcu (C:=C) (Z:=Z) hA.mi.s e2 e3 (hA.ex (by omega)) hA.yr (λi hi=>(hA.bi.pb i hi).2) (λi hi=>by obtain⟨d,ht⟩:=hA.mi.s.t;exact JQ hA.bi.pb ht hi) (by have:=hA.len;omega) hT;have hnb:(0:Int)<=((m.M.length:Nat):Int)/\((m.M.length:Nat):Int)<(m2.M.length:Int):=⟨by omega,by omega⟩;refine yU (by kernel_rfl) ?_;refine sg 5 9 (by decide) ?_ ?_
    .refine oq c6 (by kernel_rfl) (λi=>[0,1,2,3,4,5,6,7,8,9,10,11].getD i 0) [0,1,2,3,4,5,6,7,8,9,10,11] [(5,0),(9,448),(10,256)] (by repeat first|exact .refl|refine .add _ _ ?_ rfl) (by kernel_rfl) ?_;refine a4 hnb ?_;refine kQ hSy λv hv=>?_;obtain⟨l',kt',y2,bk',g1,g2,g3,g4,rfl⟩:=hv;refine b0 ?_;refine b2 (x:=((m.M.length:Nat):Int)+1) ?_;conv=>whnf
     exact⟨some (l',kt',y2,bk'),⟨g1,g2,g3,g4⟩,Nat.zero_lt_one,⟨by show _=some (I ((m2.M.length:Nat):Int));rw[hel];rfl,trivial⟩,⟨rfl,rfl⟩,rfl⟩
    .refine oq c6 (by kernel_rfl) (λi=>[0,1,2,3,4,6,7,8,9,5,10,11].getD i 0) [0,1,2,3,4,9,5,6,7,8,10,11] [(5,0),(9,31),(10,256)] (by repeat first|exact .refl|refine .add _ _ ?_ rfl) (by kernel_rfl) ?_;refine a4 hnb ?_;refine iF (by first|exact(show _/\_ from⟨rfl,rfl⟩)|exact(show _/\_ from⟨hnb,rfl,rfl⟩)) (kT ?_ ?_);rotate_left
     .repeat' (first|exact trivial|refine iF (by first|exact(show _/\_ from⟨rfl,rfl⟩)|exact(show _/\_ from⟨hnb,rfl,rfl⟩)) ?_)
     refine kQ hSy λv hv=>?_;obtain⟨l',kt',y2,bk',g1,g2,g3,g4,rfl⟩:=hv;refine b0 ?_;refine b2 (x:=((m.M.length:Nat):Int)+1) ?_;conv=>whnf
     exact⟨some (l',kt',y2,bk'),⟨g1,g2,g3,g4⟩,Nat.zero_lt_one,⟨by show _=some (I ((m2.M.length:Nat):Int));rw[hel];rfl,trivial⟩,⟨rfl,rfl⟩,rfl⟩
   .refine b2 (x:=(m2.M.length:Int)) ?_;refine a4 (λh=>b3 (gM (show decide ((m2.M.length:Int)<(m2.M.length:Int))=true from h)) (by omega)) λ_=>?_;obtain⟨g1,g2,g3,g4⟩:=hω;have hA2:=hA2 l' kt' y2 g1 g2 g3 g4;conv=>whnf
    obtain⟨d,ht⟩:=hA2.mi.s.t;have hk:=hA2.mi.s.k;have hE2:=hA2.ex (by omega);have hfl:=xq hA2.mi.K;have hnn:=hA2.mi.n;have hNN:=hA2.mi.hN;refine fa (AU (L:=ig l) (e:=[.d (ei m2.x.s l' kt' y2 bk')]) (S7 (m:=m2) (a:=a2) (b:=Q) (by omega) ht hk.ok hk.t hA2.kd) rfl) ?_;rintro _ _ ⟨rfl,rfl⟩;refine mI (AU (L:=ig l) (e:=[.d (ei m2.x.s l' kt' y2 bk')]) (S8 (m:=m2) (a:=a2) (b:=Q) (C:=bk') (by omega) ht hE2 hA2.mi.K.ok (by omega) (by omega) hA2.bi.pb hA2.yr hA2.F3) rfl) (λ_ h _=>h) ?_;refine b0 ?_;refine b2 (x:=(i:Int)+1) ?_;conv=>whnf
    exact⟨⟨i+1,m2,a2,Q,y',l',kt',y2,bk'⟩,⟨hlt,hA2⟩,by show l.pk.size -(i+1)<l.pk.size - i;omega,⟨rfl,rfl,trivial⟩,⟨rfl,rfl⟩,rfl⟩
 .refine eJ c6 ?_;refine bo (Tj) ?_;exact b7
end Sx
open Go.ChangeShapes Go.WideShapes Go.ChangeAt Go.RowKit
namespace Sx
def WG{W:World}{g:Nat}(s:GlobOk g W){v:Value}{l:Lst}(C:du (tq W) ⟨[],[],[],[],g⟩ (.d (ig l)) v)(o:dx (l.ps.length:Int))(q:dx (l.pk.size:Int))(r:∀p∈l.ps,dx (p.size:Int)):
 Calls a6 3 #[v] W λe M=>e=.returned (.bool true)/\Below W.heap.size W M:=by
 have c:∀b,¬(Bl.mk [] [] [] [] g).hb b:=λb w=>by
  rcases w with⟨i,x,h,_⟩|⟨i,x,h,_⟩|⟨i,x,h,_⟩
  all_goals exact b3 (show([]:List _)[i]?=some x from h) eA
 have u:Mem ⟨λ_ _ _=>True,λ_ _ _=>trivial⟩ (tq W) ⟨[],[],[],[],g⟩ ⟨[],[],[]⟩ W:=
  ⟨⟨rfl,rfl,(λid d t v h=>by simp at h),(λi j x y h=>by simp at h),(λid e d h=>by simp at h),(λi j e F d h=>by simp at h),zc2 W,rfl,(λid y x h=>by simp at h),(λi j x y b h=>by simp at h),(λi j x y h=>by simp at h)⟩,trivial,s,⟨c 0,c _⟩,λD hD=>by cases hD⟩
 refine((VX l o q r ⟨[],[],[]⟩).2 _ (tq W) ⟨[],[],[],[],g⟩ W [v] u ⟨C,trivial⟩).mono ?_;rintro e M ⟨n,m,U,E,_,a,A,rfl,_⟩;obtain⟨x,rfl,f⟩:=A;have f:fJ n m (B true) x:=f;have f:[x]=[.bool true]:=f.2 rfl;cases f;exact⟨rfl,a.os,a.tape,a.output,a.size,λk z=>(a.old k z (c k)).1⟩
set_option maxRecDepth 100000 in
def zan(os:Os)(c:os.Started)(H:Type)(enc:TypeId×Value->H):
 ReturnsInHanded {} checked os 3 .any (λw a=>(Rows.topAccessSpec.pre enc a6 f3 [] false w a/\laidMetH a6 AP w)/\sizedMet enc a6 f3 (OpenSpec.ofChange Rows.topAccessSpec) false w a)
  (Rows.topAccessSpec.post enc a6 f3 false true false false):=by
 refine returnsInHanded_of_change_and (C:=checked) (X:=λw _=>laidMetH a6 AP w) (λ_ _ _ G h=>h.of_heap G) zbp c (by kernel_rfl) func3
  (ChangeSpec.witness_shaped (enc:=enc) (C:=checked) (os:=os) (X:=λw _=>laidMetH a6 AP w) false (World.doorLaid a6 124 os) #[.agg #[.int .i64 0,.slice none 0 0,.string ByteArray.empty]] 8 rfl (World.shaped_of_RefB (by kernel_rfl) (by kernel_rfl)) (by kernel_rfl) (by kernel_rfl) (by kernel_rfl) (X4 os _)) ?_
 intro W f a o N A b n _ _ hL _;have d:∀(j:Nat) t v,f3.params[j]?=some t->a[j]?=some v->Value.okWide a6 W .any f t v:=b;have k:=n;obtain⟨p,q,i,z,rfl,_,_⟩:=n;have m:DataW.TrodAll enc a6 W 0 (λ_=>true) true f3.params.toList a.toList o p:=i;rw[params3]at m d;obtain⟨K,M,rfl,rfl,r⟩:=trodAll_one m;obtain⟨rfl,rfl⟩:=trodVars_none z;obtain⟨g,y⟩:=YG hL;obtain⟨l,J,s,u,x⟩:=zbh (g:=g) (d 0 24 K rfl rfl) r;clear i b;refine(WG y J s u x).mono λe L ⟨F,E⟩=>?_;subst F;exact⟨_,rfl,zaf zac (by kernel_rfl) rfl underlying4 rfl rfl rfl rfl k E⟩
def Y0:joinedFacts a6 3 f3 Rows.topAccessSpec Rows.topAccessRow=true:=ey
def Y1:f3.isInstance a6 Rows.topAccessRow.origin Rows.topAccessRow.targs:=gM ey
def Y6:f3.isWrapper a6 Rows.topAccessRow.wrapper Rows.topAccessRow.mainSum:=(by unfold Func.isWrapper;rw[if_neg (lK ey)];exact⟨rfl,rfl⟩)
def IF:a6.funcNamed Rows.topAccessRow.func=some 3:=ey
def row_holdsA:Rows.TopAccessSaid:=
 OpenClaim.holds_of_wide 3 f3 rfl rfl rfl rfl rfl rfl rfl ⟨rfl,rfl,rfl,rfl,rfl⟩ rfl rfl rfl rfl rfl IF func3 Y0 Y1 Y6
  (λc a H b _=>zan c a H b)
end Sx
namespace topAccess
def holds:Rows.TopAccessCardSaid:=
 Claim7.holds_tied_plain_at .later [] [.funcs] true (true, "0175f18354d726fcc6f9b83f2d1f39aef72d485daa924d31e271b389dd184dec") true
  Sx.row_holdsA (λ_ h=>by cases h) (by kernel_rfl) (λ_ h=>by cases h) topAccess_row_tie rfl ⟨rfl,rfl⟩ (by kernel_rfl) rfl
  (λf fn hf IF=>by
   obtain rfl:f=3:=z8 ((show a6.funcNamed "bailiwick/bailiwicktop.TopAccess"=some 3 by kernel_rfl).symm.trans hf) |>.symm;obtain rfl:fn=f3:=(z8 (func3.symm.trans IF)).symm;exact⟨by kernel_rfl,λj t ht=>by
    rw[params3]at ht;have hm:t∈[24]:=by simpa using Array.mem_of_getElem? ht
    have hall:([24].all λu=>!a6.wantsStandIn u)=true:=by kernel_rfl
    exact(show a6.wantsStandIn t=false by simpa using pQ.1 hall t hm)⟩)
  (by kernel_rfl)
#print axioms holds
end topAccess
end Go.Proofs.YtfbhkfhbnkncoaaGreatDoor
