import Derived.Test.YtfbhkfhbnkncoaaGreatDoorV46
set_option linter.all false
set_option maxRecDepth 100000
set_option maxHeartbeats 40000000
namespace Go.Proofs.YtfbhkfhbnkncoaaGreatDoor
open Go.RowKit Tryz
open Tryz renaming prog→a6
namespace Sx
variable{C:List Rn}
def MF{A B a b:D}(h:T2 (.d A) (.d B)=T2 (.d a) (.d b)):A=a/\B=b:=by unfold T2 at h;simp only[SV.tu.injEq,SV.H.injEq,SV.d.injEq]at h;exact⟨h.1,h.2.1⟩
def zdg{O:Ro}{J:Bl}{b:List Value}{A B C a E:D}(h:eX O J (.d (.H A (.H B (.H C (.H a (.H E (.H (.X 0 .c (c7 [])) .un))))))) b):eX O J (.d (.H A (.H B (.H C (.H a (.H E (.H (fq t2 []) .un))))))) b:=by obtain⟨d,v,rfl,k,e,w,rfl,m,f,x,rfl,o,g,z,rfl,p,i,F,rfl,q,j,K,rfl,⟨X,n,r,t,_⟩,u⟩:=h;exact⟨d,_,rfl,k,e,_,rfl,m,f,_,rfl,o,g,_,rfl,p,i,_,rfl,q,j,_,rfl,⟨X,n,r,t,λh=>b3 h (ri 0)⟩,u⟩
noncomputable def NF(s:St)(M:Int)(c:Call)(G:Rn):Ex:=
 bif c.C==1 then sC s M c else bif c.C==2 then mN s M c G else bif c.C==3 then lJ s M c 0 else bif c.C==4 then lJ s M c 1 else
 bif c.C==5 then zB s M c else bif c.C==6 then yO s M c else bif c.C==7 then yN s M c else bif c.C==8 then za s M c else
 bif c.C==9 then y8 s M c else bif c.C==10 then vz s M c else bif c.C==11 then xj s M c else bif c.C==12 then wt s M c else
 bif c.C==13 then w9 s M c else bif c.C==14 then pK s M c else bif c.C==15 then pJ s M else bif c.C==16 then pJ s M else
 bif c.C==17 then yG s M else bif c.C==18 then xW s M c else bif c.C==19 then yP s M c else bif c.C==20 then te (lh s M)else
 bif c.C==21 then uj s c else bif c.C==22 then x6 s c else .error 2
def lR{s:St}{M:Int}{c:Call}{G:Rn}{X:Ex}(a:no ((decide (M>=0)&&decide (M<8))&&s.alive M.toNat) 12=0)(e:NF s M c G=X):fr s M c G=X:=by unfold fr;rw[b9 a];exact e
def P5{s:St}{M:Int}{c:Call}{G:Rn}{l:List (Int×Ow)}{y:Nat->List Int}{v:SV}{w:Int}(j:SInv s)(i:CallOk s M c)(e:fr s M c G=lJ s M c w)(b:lJ s M c w≠nw s)(h:lP s l y (lJ s M c w) v):wQ s M c G l y v:=by
 have f:((dz s M c G).2.1.e==0)=false:=by
  unfold dz;rw[e];cases d:lJ s M c w with
  |error k=>
   refine fc.2 λg=>xb (G:=G) j i ?_;rw[e,d];exact dE Except.error g
  |ok x=>
   exfalso;refine b ?_;have a:=d;unfold lJ at a;obtain⟨_,a⟩:=jd a;obtain⟨_,a⟩:=jd a;obtain⟨_,a⟩:=jd a;obtain⟨_,a⟩:=jd a;rw[d,a]
 rw[<-e]at h;exact mE h (by rw[f,lO]) (by rw[f,lO])
section
variable {s:St} {M:Int} {c:Call} {G:Rn} {l:List (Int×Ow)} {Z:Nat->Tk} {y:Nat->List Int}
def zd9(a:ExR s l Z)(hd:c.C=4)(e:fr s M c G=nw s)(d:∀i,i<32->(y i).length=(32*dK (s.t.r i).rs).toNat):wQ s M c G l y (T2 (.d (ei s l Z (a7 y (a5 c.r) (nz c.v c.a.toNat c.b.toNat (y (a5 c.r)))) [])) (.d (sm ⟨0,0,0⟩))):=by
 have f:dz s M c G=(s,⟨0,0,0⟩,[]):=by unfold dz;rw[e];rfl
 unfold wQ;rw[f];refine⟨l,Z,_,[],a.own,a.kt,oo _ _,λi b=>?_,by unfold pM;rw[hd];rfl⟩;unfold qx;rw[hd];by_cases g:i=a5 c.r
 .subst g;rw[dN,show Nat.beq (a5 c.r) (a5 c.r)=true from uO _,wE]
  .rfl
  .show(nz c.v c.a.toNat c.b.toNat (y (a5 c.r))).length=_;rw[BN];exact d _ b
 .rw[dP g,show Nat.beq i (a5 c.r)=false from vF.2 λh=>g (fp h)];exact(wE (d i b)).symm
def zar(a:ExR s l Z)(hd:c.C=3)(e:fr s M c G=nw s)(f:∀i,i<32->(y i).length=(32*dK (s.t.r i).rs).toNat):wQ s M c G l y (T2 (.d (ei s l Z (a7 y (a5 c.r) (y (a5 c.r))) [])) (.d (sm ⟨0,um (y (a5 c.r)) c.a.toNat c.b.toNat,0⟩))):=by
 have b:dz s M c G=(s,⟨0,0,0⟩,[]):=by unfold dz;rw[e];rfl
 unfold wQ;rw[b];refine⟨l,Z,_,[],a.own,a.kt,oo _ _,λi d=>?_,by unfold pM;rw[hd];rfl⟩;unfold qx;rw[hd];show a7 y (a5 c.r) (y (a5 c.r)) i=jh _ (y i);rw[wE (f i d)];by_cases g:i=a5 c.r
 .rw[g,dN]
 .exact dP g
attribute [local irreducible] b6 eF ez eH eB eM dC ec dU dx
def zb1(hs:SInv s)(w:CallOk s M c)(u:ExR s l Z)(hB:∀i,i<32->tF (y i))(hy:∀i,i<32->(y i).length=(32*dK (s.t.r i).rs).toNat)(E:l.length<999900)(hr:G=c4\/dw G/\(dv s M c>0->G.n=dv s M c/\(eG s.t++pg G).Nodup)):jN a6 37 [.d (ei s l Z y C),I M,.d (jn c),.d (i7 G)] (wQ s M c G l y):=by
 obtain⟨d,ht⟩:=u.t;have z:ir s.t y y:=λi hi=>(wE (hy i hi)).symm;have ac:∀i,i<32->(y i).length<=100000:=λi hi=>by have h1:=hy i hi;have h2:=rV (ht.rg i hi);omega
 have hF:=λe=>nO (s:=s) (l:=l) (Z:=Z) (y:=y) (C:=[]) e;obtain⟨t,r,sx,a,b,v⟩:=c;refine ER func37 rfl ey rfl rfl rfl ?_;refine dB (dB (Bk 0 (v':=.d (ei s l Z y [])) rfl rfl (λO J cs h=>zdg h) ?_));refine dA (l:=[(1,I M),(4,.B 0 []),(6,.B 1 []),(7,.B 2 []),(8,.B 3 []),(9,.B 4 [])]) (U:=⟨[.d (ei s l Z y []),.d (jn ⟨t,r,sx,a,b,v⟩),.d (i7 G),.d (ZT.d pn),.d (ZT.d sP)],[],[]⟩) (by exact⟨rfl,rfl,rfl,rfl,rfl,rfl,trivial⟩) rfl ?_;refine eJ c6 (bo (xS w.t0) ?_);apply a4<;>intro h0
 .have h0:(!(decide (M<8)&&s.alive M.toNat))=true:=h0;have e:∀X,fr s M ⟨t,r,sx,a,b,v⟩ G=X->X=.error 12:=λX h=>by rw[<-h];unfold fr;rw[eI w.t0,po,(jL _).mp h0];rfl
  have e:=e _ rfl;refine bo (hF 12) ?_;conv=>whnf
  have he:(dz s M ⟨t,r,sx,a,b,v⟩ G).2.1.e=12:=by unfold dz;rw[e]
  exact⟨rfl,eC (mE (by rw[e];exact iD u z 12) (by rw[he];exact lO _) (by rw[he];exact lO _))⟩
 have h0:(decide (M<8)&&s.alive M.toNat)=true:=(lD _).mp h0;have x:no ((decide (M>=0)&&decide (M<8))&&s.alive M.toNat) 12=0:=by rw[eI w.t0,po,h0];rfl
 conv=>whnf
 by_cases h1:t=1
 .subst h1;refine b0 (b0 (b0 (ej (ej (kQ (zck w u z E) λv o=>?_)))));obtain⟨p,g,q,f,j,k,m,n,rfl⟩:=o;exact a4 rfl (eC (mE (by rw[lR x rfl];exact⟨p,g,q,f,j,k,m,n,rfl⟩) rfl rfl))
 by_cases h2:t=2
 .subst h2;refine ej (kQ (Rq (C:=[]) w rfl u z ac hr) λv o=>?_);obtain⟨A,B,⟨p,g,q,f,j,k,m,n,e⟩,rfl⟩:=o;obtain⟨rfl,rfl⟩:=MF e;refine fg (List.range 4) [(2,2),(3,0)] (fy ?_)
  exact a4 rfl (eC (mE (by rw[lR x rfl];exact⟨p,g,q,f,j,k,m,n,rfl⟩) rfl rfl))
 by_cases h3:t=3
 .subst h3;refine b0 (ej (ej (kQ (zcg w u z hB hy) λv o=>?_)));rcases o with⟨ab,p,g,q,f,j,k,m,n,rfl⟩|⟨aa,rfl⟩
  .exact a4 rfl (eC (P5 hs w (G:=G) (by rw[lR x rfl];rfl) ab ⟨p,g,q,f,j,k,m,n,rfl⟩))
  .exact a4 rfl (eC (zar (G:=G) u rfl (by rw[lR x rfl];exact aa) hy))
 by_cases h4:t=4
 .subst h4;refine b0 (b0 (ej (kQ (zcz w u z hB hy) λv o=>?_)));rcases o with⟨ab,p,g,q,f,j,k,m,n,rfl⟩|⟨aa,rfl⟩
  .exact a4 rfl (eC (P5 hs w (G:=G) (by rw[lR x rfl];rfl) ab ⟨p,g,q,f,j,k,m,n,rfl⟩))
  .exact a4 rfl (eC (zd9 (G:=G) u rfl (by rw[lR x rfl];exact aa) hy))
 by_cases h5:t=5
 .subst h5;refine b0 (b0 (b0 (b0 (ej (ej (kQ (zcs w u z) λv o=>?_))))));obtain⟨p,g,q,f,j,k,m,n,rfl⟩:=o;exact a4 rfl (eC (mE (by rw[lR x rfl];exact⟨p,g,q,f,j,k,m,n,rfl⟩) rfl rfl))
 by_cases h6:t=6
 .subst h6;refine b0 (b0 (b0 (b0 (b0 (ej (ej (kQ (zbY w u z) λv o=>?_)))))));obtain⟨p,g,q,f,j,k,m,n,rfl⟩:=o;exact a4 rfl (eC (mE (by rw[lR x rfl];exact⟨p,g,q,f,j,k,m,n,rfl⟩) rfl rfl))
 by_cases h7:t=7
 .subst h7;refine b0 (b0 (b0 (b0 (b0 (b0 (ej (ej (kQ (zbW w u z E) λv o=>?_))))))));obtain⟨p,g,q,f,j,k,m,n,rfl⟩:=o;exact a4 rfl (eC (mE (by rw[lR x rfl];exact⟨p,g,q,f,j,k,m,n,rfl⟩) rfl rfl))
 by_cases h8:t=8
 .subst h8;refine b0 (b0 (b0 (b0 (b0 (b0 (b0 (ej (ej (kQ (zca w u z) λv o=>?_)))))))));obtain⟨p,g,q,f,j,k,m,n,rfl⟩:=o;exact a4 rfl (eC (mE (by rw[lR x rfl];exact⟨p,g,q,f,j,k,m,n,rfl⟩) rfl rfl))
 by_cases h9:t=9
 .subst h9;refine b0 (b0 (b0 (b0 (b0 (b0 (b0 (b0 (ej (kQ (zb7 w u z E) λv o=>?_)))))))));obtain⟨p,g,q,f,j,k,m,n,rfl⟩:=o;exact a4 rfl (eC (mE (by rw[lR x rfl];exact⟨p,g,q,f,j,k,m,n,rfl⟩) rfl rfl))
 by_cases F:t=10
 .subst F;refine b0 (b0 (b0 (b0 (b0 (b0 (b0 (b0 (b0 (ej (ej (kQ (zcx w u z E) λv o=>?_)))))))))));obtain⟨p,g,q,f,j,k,m,n,rfl⟩:=o;exact a4 rfl (eC (mE (by rw[lR x rfl];exact⟨p,g,q,f,j,k,m,n,rfl⟩) rfl rfl))
 by_cases K:t=11
 .subst K;refine b0 (b0 (b0 (b0 (b0 (b0 (b0 (b0 (b0 (b0 (ej (kQ (zb2 w u z E a8) λv o=>?_)))))))))));obtain⟨p,g,q,f,j,k,m,n,rfl⟩:=o;exact a4 rfl (eC (mE (by rw[lR x rfl];exact⟨p,g,q,f,j,k,m,n,rfl⟩) rfl rfl))
 by_cases L:t=12
 .subst L;refine b0 (b0 (b0 (b0 (b0 (b0 (b0 (b0 (b0 (b0 (b0 (ej (ej (kQ (zce w u z) λv o=>?_)))))))))))));obtain⟨p,g,q,f,j,k,m,n,rfl⟩:=o;exact a4 rfl (eC (mE (by rw[lR x rfl];exact⟨p,g,q,f,j,k,m,n,rfl⟩) rfl rfl))
 by_cases N:t=13
 .subst N;refine b0 (b0 (b0 (b0 (b0 (b0 (b0 (b0 (b0 (b0 (b0 (b0 (ej (kQ (zbS w u z) λv o=>?_)))))))))))));obtain⟨p,g,q,f,j,k,m,n,rfl⟩:=o;exact a4 rfl (eC (mE (by rw[lR x rfl];exact⟨p,g,q,f,j,k,m,n,rfl⟩) rfl rfl))
 by_cases P:t=14
 .subst P;refine b0 (b0 (b0 (b0 (b0 (b0 (b0 (b0 (b0 (b0 (b0 (b0 (b0 (ej (kQ (zcv hs w u z E) λv o=>?_))))))))))))));obtain⟨p,g,q,f,j,k,m,n,rfl⟩:=o;exact a4 rfl (eC (mE (by rw[lR x rfl];exact⟨p,g,q,f,j,k,m,n,rfl⟩) rfl rfl))
 by_cases Q:t=15
 .subst Q;refine b0 (b0 (b0 (b0 (b0 (b0 (b0 (b0 (b0 (b0 (b0 (b0 (b0 (b0 (ej (ej (kQ (RG hs w (show(15:Int)≠17 by decide) u z) λv o=>?_))))))))))))))));obtain⟨p,g,q,f,j,k,m,n,rfl⟩:=o;exact a4 rfl (eC (mE (by rw[lR x rfl];exact⟨p,g,q,f,j,k,m,n,rfl⟩) rfl rfl))
 by_cases R:t=16
 .subst R;refine b0 (b0 (b0 (b0 (b0 (b0 (b0 (b0 (b0 (b0 (b0 (b0 (b0 (b0 (b0 (ej (ej (kQ (RG hs w (show(16:Int)≠17 by decide) u z) λv o=>?_)))))))))))))))));obtain⟨p,g,q,f,j,k,m,n,rfl⟩:=o;exact a4 rfl (eC (mE (by rw[lR x rfl];exact⟨p,g,q,f,j,k,m,n,rfl⟩) rfl rfl))
 by_cases S:t=17
 .subst S;refine b0 (b0 (b0 (b0 (b0 (b0 (b0 (b0 (b0 (b0 (b0 (b0 (b0 (b0 (b0 (b0 (ej (kQ (zbV w u z) λv o=>?_)))))))))))))))));obtain⟨p,g,q,f,j,k,m,n,rfl⟩:=o;exact a4 rfl (eC (mE (by rw[lR x rfl];exact⟨p,g,q,f,j,k,m,n,rfl⟩) rfl rfl))
 by_cases T:t=18
 .subst T;refine b0 (b0 (b0 (b0 (b0 (b0 (b0 (b0 (b0 (b0 (b0 (b0 (b0 (b0 (b0 (b0 (b0 (ej (ej (kQ (zcq w u z) λv o=>?_)))))))))))))))))));obtain⟨p,g,q,f,j,k,m,n,rfl⟩:=o;exact a4 rfl (eC (mE (by rw[lR x rfl];exact⟨p,g,q,f,j,k,m,n,rfl⟩) rfl rfl))
 by_cases U:t=19
 .subst U;refine b0 (b0 (b0 (b0 (b0 (b0 (b0 (b0 (b0 (b0 (b0 (b0 (b0 (b0 (b0 (b0 (b0 (b0 (ej (kQ (zbZ w u z) λv o=>?_)))))))))))))))))));obtain⟨p,g,q,f,j,k,m,n,rfl⟩:=o;exact a4 rfl (eC (mE (by rw[lR x rfl];exact⟨p,g,q,f,j,k,m,n,rfl⟩) rfl rfl))
 by_cases V:t=20
 .subst V;refine b0 (b0 (b0 (b0 (b0 (b0 (b0 (b0 (b0 (b0 (b0 (b0 (b0 (b0 (b0 (b0 (b0 (b0 (b0 (ej (ej (kQ (zb4 hs w u z E) λv o=>?_)))))))))))))))))))));obtain⟨p,g,q,f,j,k,m,n,rfl⟩:=o;exact a4 rfl (eC (mE (by rw[lR x rfl];exact⟨p,g,q,f,j,k,m,n,rfl⟩) rfl rfl))
 by_cases W:t=21
 .subst W;refine b0 (b0 (b0 (b0 (b0 (b0 (b0 (b0 (b0 (b0 (b0 (b0 (b0 (b0 (b0 (b0 (b0 (b0 (b0 (b0 (ej (ej (kQ (zcd hs w u z E) λv o=>?_))))))))))))))))))))));obtain⟨p,g,q,f,j,k,m,n,rfl⟩:=o;exact a4 rfl (eC (mE (by rw[lR x rfl];exact⟨p,g,q,f,j,k,m,n,rfl⟩) rfl rfl))
 by_cases Y:t=22
 .subst Y;refine b0 (b0 (b0 (b0 (b0 (b0 (b0 (b0 (b0 (b0 (b0 (b0 (b0 (b0 (b0 (b0 (b0 (b0 (b0 (b0 (b0 (ej (kQ (zcy w u z) λv o=>?_))))))))))))))))))))));obtain⟨p,g,q,f,j,k,m,n,rfl⟩:=o;exact a4 rfl (eC (mE (by rw[lR x rfl];exact⟨p,g,q,f,j,k,m,n,rfl⟩) rfl rfl))
 refine⟨λh=>b3 (eq_of_beq h) h2,λ_=>?_⟩;refine a4 (λh=>b3 (eq_of_beq h) h3) λ_=>?_;refine a4 (λh=>b3 (eq_of_beq h) h4) λ_=>?_;refine a4 (λh=>b3 (eq_of_beq h) h1) λ_=>?_;refine a4 (λh=>b3 (eq_of_beq h) h5) λ_=>?_;refine a4 (λh=>b3 (eq_of_beq h) h6) λ_=>?_;refine a4 (λh=>b3 (eq_of_beq h) h7) λ_=>?_;refine a4 (λh=>b3 (eq_of_beq h) h8) λ_=>?_;refine a4 (λh=>b3 (eq_of_beq h) h9) λ_=>?_;refine a4 (λh=>b3 (eq_of_beq h) F) λ_=>?_;refine a4 (λh=>b3 (eq_of_beq h) K) λ_=>?_;refine a4 (λh=>b3 (eq_of_beq h) L) λ_=>?_;refine a4 (λh=>b3 (eq_of_beq h) N) λ_=>?_;refine a4 (λh=>b3 (eq_of_beq h) P) λ_=>?_;refine a4 (λh=>b3 (eq_of_beq h) Q) λ_=>?_;refine a4 (λh=>b3 (eq_of_beq h) R) λ_=>?_;refine a4 (λh=>b3 (eq_of_beq h) S) λ_=>?_;refine a4 (λh=>b3 (eq_of_beq h) T) λ_=>?_;refine a4 (λh=>b3 (eq_of_beq h) U) λ_=>?_;refine a4 (λh=>b3 (eq_of_beq h) V) λ_=>?_;refine a4 (λh=>b3 (eq_of_beq h) W) λ_=>?_;refine a4 (λh=>b3 (eq_of_beq h) Y) λ_=>?_;refine bo (hF 2) ?_;conv=>whnf
 have e:fr s M ⟨t,r,sx,a,b,v⟩ G=.error 2:=lR x (by
  unfold NF
  dsimp only
  rw[fc.2 h1,fc.2 h2,fc.2 h3,fc.2 h4,fc.2 h5,fc.2 h6,fc.2 h7,fc.2 h8,fc.2 h9,fc.2 F,fc.2 K,fc.2 L,fc.2 N,fc.2 P,fc.2 Q,fc.2 R,fc.2 S,fc.2 T,fc.2 U,fc.2 V,fc.2 W,fc.2 Y];rfl)
 have he:(dz s M ⟨t,r,sx,a,b,v⟩ G).2.1.e=2:=by unfold dz;rw[e]
 exact⟨rfl,eC (mE (by rw[e];exact iD u z 2) (by rw[he];exact lO _) (by rw[he];exact lO _))⟩
end
attribute [local irreducible] b6 eF ez eH eB eM dC ec dU dx
def zcm(c:Call):c5 a6 35 [.d (iC c)] (.d (jn c)):=by
 refine dq func35 ?_;exact b7
section
variable {s:St} {M:Int} {c:Call} {l:List (Int×Ow)} {Z:Nat->Tk} {y:Nat->List Int}
def zch(g:CallOk s M c)(p:s.alive M.toNat=true)(j:ExR s l Z)(n:∀i,i<32->(y i).length=(32*dK (s.t.r i).rs).toNat):jN a6 36 [.d (ei s l Z y C),I M,.d (jn c)] (·=I (dv s M c)):=by
 obtain⟨d,t⟩:=j.t;have q:ir s.t y y:=λi b=>(wE (n i b)).symm;have h:∀i,i<32->(y i).length<=100000:=λi b=>by have a:=n i b;have G:=rV (t.rg i b);omega
 have m:(decide (M<8)&&s.alive M.toNat)=true:=by rw[p,eI g.t1];rfl
 refine nx func36 ?_;refine bo (xS g.t0) ?_;apply a4<;>intro a
 .have a:(!(decide (M<8)&&s.alive M.toNat)||(c.C != 2))=true:=a;rw[m]at a;have e:dv s M c=0:=by unfold dv;rw[show(c.C==2)=false by simpa using a];rfl
  exact a4 rfl (eC (by rw[e];rfl))
 have r:c.C=2:=by have a:(!(decide (M<8)&&s.alive M.toNat)||(c.C != 2))=false:=a;rw[m]at a;simpa using a
 conv=>whnf
 have e:Cf.D7=.d (i7 c4):=dE (λf=>SV.d (.ar 2 .c f)) (funext λk=>by cases k<;>rfl);rw[e];refine kQ (Rq (G:=c4) (C:=C) g r j q h (.inl rfl)) λv u=>?_;obtain⟨A,B,⟨J,w,K,o,x,z,E,F,e⟩,rfl⟩:=u;obtain⟨rfl,rfl⟩:=MF e;exact a4 rfl (eC rfl)
end
def zbT:c5 a6 8 [] (.d (ei jU [] (λ_=>sM) (λ_=>[]) [])):=by
 refine dq func8 ?_;have a:=KC (qD jU [] λ_=>sM) jU.box (λ_=>false) (λ_=>false) (λ_=>[]) [] 0 true;have b:=Sq (qD jU [] λ_=>sM) jU.box jU.alive (λ_=>false) (λ_=>[]) [] 0 true;refine a4 ⟨(a8:(0:Int)<=0),(a8:(0:Int)<8)⟩ ?_;conv=>whnf
 refine⟨.d (ei {jU with born:=λ_=>false} [] (λ_=>sM) (λ_=>[]) []),(dE SV.d a).symm,?_⟩;refine a4 ⟨(a8:(0:Int)<=0),(a8:(0:Int)<8)⟩ ?_;conv=>whnf
 refine⟨.d (ei jU [] (λ_=>sM) (λ_=>[]) []),(dE SV.d b).symm,?_⟩;exact b7
end Sx
namespace Sx
def jN.c{P:Program}{f:FuncId}{args:List SV}{v:SV}(h:jN P f args (·=v)):c5 P f args v:=λm=>fa (h m) λ_ _ ⟨⟨u,A,e⟩,j⟩=>⟨by rw[e,A],j⟩
def Wh{n:Nat}{t:Ty}{f g:Nat->D}(a:∀i,i<n->f i=g i):(SV.d (.ar n t f)).le (.d (.ar n t g)):=λO J x h=>by refine⟨λj=>?_,ef⟩;obtain⟨d,⟨q,rfl,c⟩,rfl⟩:=h.1 rfl;exact⟨_,⟨q,rfl,λi b=>by rw[<-a i b];exact c i b⟩,rfl⟩
def zdj(r:Rn):(SV.d (.ar 2 .c (a7 (a7 (λ_=>.z .i64 0) 0 (.z .i64 r.at_)) 1 (.z .i64 r.n)))).le (.d (i7 r)):=Wh λi a=>by
 match i,a with
 |0,_=>rfl
 |1,_=>rfl
def zeA{s W:St}{M:Int}{c:Call}{G:Rn}{r:Rs}{y y':Nat->List Int}(t:SInv s)(j:CallOk s M c)(p:s.alive M.toNat=true)(h:sf s W M c G r y y'):(r.e=6/\dv s M c>0/\W=s/\y'=y)\/
 (((r.e==6)&&decide (dv s M c>0))=false/\dv s M c=G.n/\(G=c4\/dw G/\(dv s M c>0->G.n=dv s M c/\(eG s.t++pg G).Nodup))/\W=(dz s M c G).1/\r=pM c y (dz s M c G).2.1/\y'=qx s W c (dz s M c G).2.1.e y):=by
 rcases h with h|⟨f,b,g,n,i,o⟩
 .exact .inl h
 .refine .inr ⟨?_,b,f.imp_right λd=>⟨d,λa=>⟨b.symm,g a3⟩⟩,n,i,o⟩;by_cases a:dv s M c>0
  .have d:dw G:=f.resolve_left λe=>by rw[b,e]at a;exact b3 a a8
   obtain⟨E,u,k,m⟩:=MW t ⟨j.t0,j.t1⟩ p a b.symm d (g a3);have q:=(Ez a).1;have:r.e=0:=by rw[i];unfold pM dz;rw[k,q];exact m
   rw[this];rfl
  .rw[fe a,lO]
attribute [local irreducible] b6 eF ez eH eB eM dC ec dU dx
section
variable {s W:St} {e:Ev} {l:List (Int×Ow)} {Z:Nat->Tk} {y y' yr:Nat->List Int}
def zcu(F:SInv s)(p:CallOk s e.task e.c)(z:s.alive e.task.toNat=true)(n:ExR s l Z)(a:∀i,i<32->yr i=y i)(K:∀i,i<32->tF (y i))(O:∀i,i<32->(y i).length=(32*dK (s.t.r i).rs).toNat)(M:l.length<999900){C:List Rn}(L:sf s W e.task e.c e.run e.r y y'):jN a6 11 [.d (ei s l Z yr C),.d (mR e)] λv=>∃q k d o,OwS W.t W.o q/\KtS W.k k/\q.length<=l.length+100/\(∀i,i<32->d i=y' i)/\v=T2 (.d (ei W q k d o)) (B true):=by
 have j:∀i,i<32->(yr i).length=(32*dK (s.t.r i).rs).toNat:=λi c=>by rw[a i c];exact O i c
 have A:=(zch (C:=C) p z n j).c;refine nx func11 ?_;refine bo (zcm e.c) (c9 A (λ_ h _=>h) ?_);conv=>whnf
 rcases zeA F p z L with⟨r,t2,rfl,rfl⟩|⟨r,t2,P,rfl,Q,rfl⟩
 .refine⟨λ_=>?_,λh=>?_⟩
  .exact a4 rfl (eC ⟨l,Z,yr,C,n.own,n.kt,oo _ _,a,rfl⟩)
  .have h:((e.r.e==6)&&decide (dv W e.task e.c>0))=false:=h;rw[r,eI t2]at h;cases h
 .refine⟨λh=>b3 (r.symm.trans h) a8,λ_=>?_⟩;refine dL 9 (c9 A (λ_ h=>h) (a4 (λh=>?_) λ_=>?_))
  .have h:(dv s e.task e.c != e.run.n)=true:=h;rw[t2]at h;simp at h
  refine b6.le (b:=[.d (ei s l Z yr C),I e.task,.d (jn e.c),.d (i7 e.run)]) (kQ (zb1 F p n (λi c=>by rw[a i c];exact K i c) j M P) λv N=>?_) ⟨SV.le_refl _,SV.le_refl _,SV.le_refl _,zdj e.run,trivial⟩;obtain⟨G,m,d,f,u,w,J,x,rfl⟩:=N;have t:pM e.c yr (dz s e.task e.c e.run).2.1=pM e.c y (dz s e.task e.c e.run).2.1:=by unfold pM;rw[a _ (iq _)]
  have g:∀i,i<32->d i=qx s (dz s e.task e.c e.run).1 e.c (dz s e.task e.c e.run).2.1.e y i:=λi c=>by rw[x i c];unfold qx;rw[a i c]
  rw[t,<-Q];clear x t;generalize(dz s e.task e.c e.run).1=E at u w g;refine fg (List.range 26) [(24,16711680)] (fy ?_)
  refine a4 rfl (eC ⟨G,m,d,f,u,w,J,g,?_⟩);show T2 (.d (ei E G m d f)) (B (((e.r.e==e.r.e)&&(e.r.v==e.r.v))&&(e.r.w==e.r.w)))=_;rw[beq_self_eq_true,beq_self_eq_true,beq_self_eq_true];rfl
end
end Sx
namespace Sx
variable{p:Int}{R r:List Int}{l:List Rn}{i k:Nat}
structure Cnt where
 n:Nat->Int
 v:List Int
def ju(c:Cnt)(k:Nat)(l:List Int):Cnt:=⟨a7 c.n k (c.n k+l.length),c.v++l⟩
def Aa(c:Cnt)(k:Nat):ju c k []=c:=by
 have:a7 c.n k (c.n k+(([]:List Int).length:Int))=c.n:=by
  funext j;unfold a7
  split
  .rename_i h;rw[h];simp
  .rfl
 unfold ju;rw[this,gk]
def z9(c:Cnt)(k:Nat)(l r:List Int):ju (ju c k l) k r=ju c k (l++r):=by
 have:a7 (a7 c.n k (c.n k+l.length)) k (a7 c.n k (c.n k+l.length) k+r.length)=a7 c.n k (c.n k+(l++r).length):=by
  funext j;unfold a7
  split
  .rw[if_pos rfl,ew];omega
  .rfl
 unfold ju;rw[this,iJ]
structure Fit (c:Cnt) (r:List Int):Prop where
 nd:(c.v++r).Nodup
 el:∀p∈c.v++r,0<=p/\p<64
 n:∀k,k<4->0<=c.n k/\c.n k<=c.v.length
def Fit.add{c:Cnt}{l:List Int}(h:Fit c (l++r)):Fit (ju c k l) r:=by
 refine⟨by show((c.v++l)++r).Nodup;rw[iJ];exact h.nd,λp u=>h.el p (by rw[<-iJ];exact u),λj f=>?_⟩;have A:=h.n j f;show 0<=a7 c.n k (c.n k+l.length) j/\a7 c.n k (c.n k+l.length) j<=((c.v++l).length:Nat);rw[ew];unfold a7;split
 .rename_i e;subst e;omega
 .omega
def Fit.len{c:Cnt}(h:Fit c r):c.v.length<=64:=by
 have f:(c.v).Nodup:=(mB.1 h.nd).1;have j:c.v ⊆ mH 64:=λp u=>vh.2 (h.el p (eP.2 (.inl u)));have A:=f.length_le_of_subset j;have C:(mH 64).length=64:=by simp[mH]
 omega
def Fit.new{c:Cnt}(h:Fit c (p::r)):(0<=p/\p<64)/\c.v.contains p=false:=by
 refine⟨h.el p (eP.2 (.inr (fQ ..))),?_⟩;cases j:c.v.contains p with
 |false=>rfl
 |true=>
  have f:p∈c.v:=b8 j
  exact b3 rfl ((mB.1 h.nd).2.2 p f p (fQ ..))
def o5(n:Nat->Int):D:=.H (.z .i64 (n 0)) (.H (.z .i64 (n 1)) (.H (.z .i64 (n 2)) (.H (.z .i64 (n 3)) .un)))
def DM(v:List Int):D:=.ar 64 .c λi=>.I (v.contains (i:Int))
def zdL(v:List Int)(h:0<=p):SV.d ((DM v).set [p.toNat] (.I true))=.d (DM (v++[p])):=by
 refine dE (λf=>SV.d (.ar 64 .c f)) (funext λj=>?_);show(if j=p.toNat then D.I true else D.I (v.contains (j:Int)))=D.I ((v++[p]).contains (j:Int));by_cases a:j=p.toNat
 .rw[if_pos a]
  congr 1
  have:(j:Int)=p:=a3
  simp[this]
 .rw[if_neg a]
  congr 1
  have:¬(j:Int)=p:=a3
  simp[this]
def HJ(x:Cr):SV:=.H (.d (fw x.s)) (.H (.B 1 []) (.H (.d (lG x.m)) (.H (.d (.X x.q.length .c λi=>.z .i64 (x.q.getD i 0))) (.d .un))))
def XH(x:Cr){O:Ro}{J:Bl}{b:List Value}(h:eX O J (xd x) b):eX O J (HJ x) b:=by obtain⟨k,l,rfl,d,m,n,rfl,e,o,p,rfl,f,c,q,rfl,a,g⟩:=h;refine⟨_,_,rfl,d,_,_,rfl,e,_,_,rfl,f,_,_,rfl,?_,g⟩;have a:dM O (.X (zL x.q).length .c (c7 (zL x.q))) c:=a;rw[dD]at a;exact a.congr λi j=>(qe (λx=>D.z .i64 x) 0 j).symm
def XC{P:Program}{f:FuncId}{args:List SV}{m:MS}{K:Out->MS->Prop}(id:Nat){v v':SV}(j:kI m.c id=some v)(r:v'.shape=v.shape)(q:∀O J cs,eX O J v cs->eX O J v' cs)(h:b6 P f args ⟨oJ m.c id v',m.t,m.o⟩ K):b6 P f args m K:=by
 refine⟨h.1,λE O J w G a p=>?_⟩;rw[qH]at j;rw[vy]at h;have c:Mem E O J ⟨m.c.set id v',m.t,m.o⟩ w:=by
  refine⟨⟨by show J.b.length=(m.c.set id v').length;rw[wU];exact a.len,a.A6,λi b t u g d=>?_,a.inj,a.tail,a.A3,a.known,a.R,a.obj,a.A2,a.I⟩,a.gh,a.B1,a.C3,a.marks⟩;rcases mS d with⟨rfl,rfl⟩|⟨_,d⟩
  .obtain⟨C,e,k,l,n,o⟩:=a.box i b t v g j;exact⟨C,e,k,q _ _ _ l,by rw[r];exact n,o⟩
  .exact a.box i b t u g d
 exact h.2 E O J w G c p
abbrev CB(m:Mc)(a b:Nat)(c:Cnt):List SV:=[fH m b,.d (dT m.x.p),eO m.x a,.d Ej.zero.d,.d El.zero.d,.d (o5 c.n),.d (DM c.v),.B 0 [],.B 5 [],HJ m.x]
attribute [local irreducible] b6 eF fR ez eH eB eM fx dC ec dU dx
def JS(h:i<l.length):dm (l.take (i+1))=dm (l.take i)++pg (l.getD i c8):=by
 have e:l.getD i c8=l[i]'h:=by rw[eu,ed h];rfl
 rw[e,js,ed h,oE];show _++(pg l[i]++[])=_;rw[gk]
def Q1{j:Nat}(h:i<l.length)(g:j<(l.getD i c8).n.toNat):∃r,dm l=(dm (l.take i)++(pg (l.getD i c8)).take j)++((l.getD i c8).at_+(j:Int))::r:=by
 have e:dm l=dm (l.take (i+1))++dm (l.drop (i+1)):=by rw[<-oE,nF]
 have c:pg (l.getD i c8)=(pg (l.getD i c8)).take j++((l.getD i c8).at_+(j:Int))::(pg (l.getD i c8)).drop (j+1):=by have f:=zr (r:=l.getD i c8) g;have d:=nF (j+1) (pg (l.getD i c8));rw[f,iJ]at d;exact d.symm
 refine⟨(pg (l.getD i c8)).drop (j+1)++dm (l.drop (i+1)),?_⟩;rw[e,JS h,c];simp only[iJ,r7,<-c];rw[<-r7,<-iJ ((pg (l.getD i c8)).take j),<-c]
section
variable {m:Mc} {a b:Nat} {asg body:Code} {N:Nat} {V:List Ent}
def V5(J:k<4)(K:l.length<=2147483648){c:Cnt}(h:Fit c (dm l++R))(q:gV 11 2 1 [.loop [13,14] asg body N V .ready]=true)(y:gV 12 2 1 [.loop [13,14] asg body N V .ready]=true)(g:∀(c:Cnt) (p:Int) (R:List Int) (r:Rn),Fit c (p::R)->fx a6 0 [13,14] asg body N V [I p,.B 5 [k]] ⟨CB m a b c++[.ob (.yl 0),.d (dR r)],[a,b],[.loop [13,14] asg body N V .ready]⟩ λv U=>v=B true/\U=⟨CB m a b (ju c k [p])++[.ob (.yl 0),.d (dR r)],[a,b],[.loop [13,14] asg body N V .ready]⟩):
 b6 a6 95 [.d (RS l),.B 5 [k],.B 10 []] ⟨CB m a b c++[.ob (.yl 0)],[a,b],[.loop [13,14] asg body N V .ready]⟩ λo U=>o=.ret (B true)/\U=⟨CB m a b (ju c k (dm l))++[.ob (.yl 0)],[a,b],[.loop [13,14] asg body N V .ready]⟩:=by
 refine ev func95 ?_;refine b2 (x:=(l.length:Int)) (dX c6 (λi=>i<=l.length) (λi=>l.length - i) (λi=>[(11,I i)]) (λi=>⟨CB m a b (ju c k (dm (l.take i)))++[.ob (.yl 0)],[a,b],[.loop [13,14] asg body N V .ready]⟩) 0 (dG _) ⟨rfl,trivial⟩ (by rw[show dm (l.take 0)=[] from rfl,Aa]) (λi=>⟨a9 _,a9 _,a9 _⟩) ?_);intro i F;apply a4<;>intro A
 .have f:i<l.length:=by
   have:(i:Int)<(l.length:Int):=b8 A
   omega
  refine fS (i:=i) (n:=l.length) (dX c6 (λj=>j<=(l.getD i c8).n.toNat) (λj=>(l.getD i c8).n.toNat - j) (λj=>[(17,I j)]) (λj=>⟨CB m a b (ju c k (dm (l.take i)++(pg (l.getD i c8)).take j))++[.ob (.yl 0),.d (dR (l.getD i c8))],[a,b],[.loop [13,14] asg body N V .ready]⟩) 0 (dG _) ⟨rfl,trivial⟩ (by rw[show(pg (l.getD i c8)).take 0=[] from rfl,gk];rfl) (λi=>⟨a9 _,a9 _,a9 _⟩) ?_);intro j G;apply a4<;>intro t
  .have s:(j:Int)<(l.getD i c8).n:=b8 t
   have d:j<(l.getD i c8).n.toNat:=a3
   obtain⟨r,E⟩:=Q1 f d;have w:Fit (ju c k (dm (l.take i)++(pg (l.getD i c8)).take j)) (((l.getD i c8).at_+(j:Int))::(r++R)):=Fit.add (by rw[E]at h;simpa using h);have L:=w.new.1;have z:j<=64:=by
    have u:=w.len;have C:(pg (l.getD i c8)).length=(l.getD i c8).n.toNat:=by simp[pg]
    have u:(c.v++(dm (l.take i)++(pg (l.getD i c8)).take j)).length<=64:=u;rw[ew,ew,kO,C]at u;omega
   refine b2 (x:=(l.getD i c8).at_+(j:Int)) (zC (g _ _ _ (l.getD i c8) w) ?_);rintro _ _ ⟨rfl,rfl⟩;refine b0 (b2 (x:=(j:Int)+1) ?_);conv=>whnf
   refine⟨j+1,d,a3,⟨rfl,trivial⟩,⟨?_,(by show(_&&gV 12 2 1 [_])=true;rw[y];rfl)⟩,rfl⟩;rw[z9,zr d,iJ];rfl
  .have s:j=(l.getD i c8).n.toNat:=by
    have:¬(j:Int)<(l.getD i c8).n:=b8 t
    omega
   refine b2 (x:=(i:Int)+1) ?_;conv=>whnf
   refine⟨i+1,f,a3,⟨rfl,trivial⟩,⟨?_,(by show(_&&gV 11 2 1 [_])=true;rw[q];rfl)⟩,rfl⟩;have e:(pg (l.getD i c8)).take j=pg (l.getD i c8):=pX (by rw[s];simp[pg]);rw[e,JS f];rfl
 .have f:i=l.length:=by
   have:¬(i:Int)<(l.length:Int):=b8 A
   omega
  subst f;exact a4 rfl (by rw[gv])
def MT{z:D}(K:k<4)(L:l.length<=2147483648){c:Cnt}(h:Fit c (dm l++R))(q:gV 12 2 1 [.loop [13,14] asg body N V .ready]=true)(y:gV 13 2 1 [.loop [13,14] asg body N V .ready]=true)(g:∀(c:Cnt) (p:Int) (R:List Int) (r:Rn),Fit c (p::R)->fx a6 0 [13,14] asg body N V [I p,.B 5 [k]] ⟨CB m a b c++[.ob (.yl 0),.d z,.d (dR r)],[a,b],[.loop [13,14] asg body N V .ready]⟩ λv U=>v=B true/\U=⟨CB m a b (ju c k [p])++[.ob (.yl 0),.d z,.d (dR r)],[a,b],[.loop [13,14] asg body N V .ready]⟩):
 b6 a6 95 [.d (RS l),.B 5 [k],.B 10 []] ⟨CB m a b c++[.ob (.yl 0),.d z],[a,b],[.loop [13,14] asg body N V .ready]⟩ λo U=>o=.ret (B true)/\U=⟨CB m a b (ju c k (dm l))++[.ob (.yl 0),.d z],[a,b],[.loop [13,14] asg body N V .ready]⟩:=by
 refine ev func95 ?_;refine b2 (x:=(l.length:Int)) (dX c6 (λi=>i<=l.length) (λi=>l.length - i) (λi=>[(11,I i)]) (λi=>⟨CB m a b (ju c k (dm (l.take i)))++[.ob (.yl 0),.d z],[a,b],[.loop [13,14] asg body N V .ready]⟩) 0 (dG _) ⟨rfl,trivial⟩ (by rw[show dm (l.take 0)=[] from rfl,Aa]) (λi=>⟨a9 _,a9 _,a9 _⟩) ?_);intro i G;apply a4<;>intro C
 .have f:i<l.length:=by
   have:(i:Int)<(l.length:Int):=b8 C
   omega
  refine fS (i:=i) (n:=l.length) (dX c6 (λj=>j<=(l.getD i c8).n.toNat) (λj=>(l.getD i c8).n.toNat - j) (λj=>[(17,I j)]) (λj=>⟨CB m a b (ju c k (dm (l.take i)++(pg (l.getD i c8)).take j))++[.ob (.yl 0),.d z,.d (dR (l.getD i c8))],[a,b],[.loop [13,14] asg body N V .ready]⟩) 0 (dG _) ⟨rfl,trivial⟩ (by rw[show(pg (l.getD i c8)).take 0=[] from rfl,gk];rfl) (λi=>⟨a9 _,a9 _,a9 _⟩) ?_);intro j J;apply a4<;>intro t
  .have s:(j:Int)<(l.getD i c8).n:=b8 t
   have d:j<(l.getD i c8).n.toNat:=a3
   obtain⟨r,F⟩:=Q1 f d;have w:Fit (ju c k (dm (l.take i)++(pg (l.getD i c8)).take j)) (((l.getD i c8).at_+(j:Int))::(r++R)):=Fit.add (by rw[F]at h;simpa using h);have M:=w.new.1;have A:j<=64:=by
    have u:=w.len;have E:(pg (l.getD i c8)).length=(l.getD i c8).n.toNat:=by simp[pg]
    have u:(c.v++(dm (l.take i)++(pg (l.getD i c8)).take j)).length<=64:=u;rw[ew,ew,kO,E]at u;omega
   refine b2 (x:=(l.getD i c8).at_+(j:Int)) (zC (g _ _ _ (l.getD i c8) w) ?_);rintro _ _ ⟨rfl,rfl⟩;refine b0 (b2 (x:=(j:Int)+1) ?_);conv=>whnf
   refine⟨j+1,d,a3,⟨rfl,trivial⟩,⟨?_,(by show(_&&gV 13 2 1 [_])=true;rw[y];rfl)⟩,rfl⟩;rw[z9,zr d,iJ];rfl
  .have s:j=(l.getD i c8).n.toNat:=by
    have:¬(j:Int)<(l.getD i c8).n:=b8 t
    omega
   refine b2 (x:=(i:Int)+1) ?_;conv=>whnf
   refine⟨i+1,f,a3,⟨rfl,trivial⟩,⟨?_,(by show(_&&gV 12 2 1 [_])=true;rw[q];rfl)⟩,rfl⟩;have e:(pg (l.getD i c8)).take j=pg (l.getD i c8):=pX (by rw[s];simp[pg]);rw[e,JS f];rfl
 .have f:i=l.length:=by
   have:¬(i:Int)<(l.length:Int):=b8 C
   omega
  subst f;exact a4 rfl (by rw[gv])
end
end Sx
end Go.Proofs.YtfbhkfhbnkncoaaGreatDoor
