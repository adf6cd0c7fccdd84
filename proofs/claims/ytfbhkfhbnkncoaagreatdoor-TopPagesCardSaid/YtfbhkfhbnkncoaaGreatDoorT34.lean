import Derived.Test.YtfbhkfhbnkncoaaGreatDoorT33
set_option linter.all false
set_option maxRecDepth 100000
set_option maxHeartbeats 8000000
namespace Go.Proofs.YtfbhkfhbnkncoaaGreatDoor
open Go.RowKit
namespace Sx
theorem zzF{a b b':SV}(h:∀ro bl x,zcD ro bl b x→zcD ro bl b' x):(T2 a b).le (T2 a b'):=fun ro bl x ⟨vs,h1,h2⟩=>by obtain⟨x1,r1,rfl,g1,x2,r2,rfl,g2,g3⟩:=h1;exact⟨_,⟨x1,_,rfl,g1,x2,_,rfl,h _ _ _ g2,g3⟩,h2⟩
theorem zmr{b:zc7}{h y:Int}(hg:zah (zbw b h) y=true):zah b y=true∧(b (slN y)).gen=((zbw b h) (slN y)).gen:=by
 unfold zbw at hg ⊢;cases hh:zah b h with
 |false=>rw[hh]at hg;exact⟨hg,rfl⟩
 |true=>
  rw[hh,zHH]at hg;rw[zHH];by_cases c:slN y=slN h
  ·have:=(zcd hg).2;rw[c,zag]at this;cases hq:((b (slN h)).gen==8388607)<;>rw[hq]at this<;>cases this
  ·rw[zhn c]at hg;rw[zaf c];exact⟨hg,rfl⟩
theorem zlb{b:zc7}{h y:Int}(hy:y∈zcE (zbw b h)):y∈zcE b:=by
 have h1:=(znj (b:=zbw b h)).1 hy;refine(znj (b:=b)).2 ?_;obtain⟨i,hi,hn,rfl⟩:=h1;have hq:((zbw b h) i).iss=true:=by rw[zik hi]at hn;simpa using hn
 have hs:(zbw b h) i=b i:=by
  unfold zbw at hq ⊢;cases hh:zah b h with
  |false=>rfl
  |true=>
   rw[hh,zHH]at hq;rw[zHH];by_cases c:i=slN h
   ·subst c;rw[zag]at hq;cases hq2:((b (slN h)).gen==8388607)<;>rw[hq2]at hq<;>cases hq
   ·rw[zaf c]
 exact⟨i,hi,by rw[zik hi]at hn ⊢;rw[←hs];exact hn,by rw[hs]⟩
theorem zsg{k:Toks}{h x y:Int}(hx:x≠0)(hy:y∈zdg ⟨zbw k.b h,k.s⟩ x):y∈zdg k x:=by
 unfold zdg zaN at hy ⊢;rw[zGH]at hy ⊢;refine⟨zlb hy.1,?_⟩;have h2:=hy.2;unfold zcg at h2 ⊢;cases hg:zah (zbw k.b h) y with
 |true=>rw[hg]at h2;rw[(zmr hg).1];exact h2
 |false=>
  rw[hg]at h2;have:(0:Int)=x:=by simpa[tk0]using h2
  exact absurd this.symm hx
theorem TkT.void{k:Toks}(h:TkT k)(y:Int):TkT ⟨zbw k.b y,k.s⟩:=by obtain⟨tr,Bd,h1,h2⟩:=h.ex;refine⟨⟨tr,Bd,h1,fun x z hx hz=>h2 x z hx (zsg hx hz)⟩,fun x z hz=>?_⟩;have hm:z∈zcE k.b:=zlb (zGH.1 hz).1;exact h.z (zcg k z).above z (zGH.2 ⟨hm,by simp⟩)
theorem TkT.wo:∀(l:List Int) {k:Toks},TkT k→TkT (woK k l)
 |[],_,h=>h
 |y::l,k,h=>TkT.wo l (k:=⟨zbw k.b y,k.s⟩) (h.void y)
theorem TkT.gone:∀(l:List Int) {k:Toks},TkT k→TkT (zeW k l)
 |[],_,h=>h
 |y::l,k,h=>TkT.gone l (TkT.wo _ h)
theorem TkT.ret{k:Toks}(h:TkT k)(y:Int):TkT (zim k y):=by
 unfold zim;cases zah k.b y with
 |true=>exact TkT.wo _ h
 |false=>exact h
theorem zvr{k:Toks}(h:ziy k)(y:Int):ziy (zim k y):=by
 unfold zim;cases zah k.b y with
 |true=>exact zop _ h
 |false=>exact h
structure StD (s:St):Prop where
 t:∃d,TInv s.t d
 k:ziy s.k
 r:TkT s.k
theorem StD.ok{s:St}(h:StD s):∃d,StOk s d:=by obtain⟨d,hd⟩:=h.t;exact⟨d,hd,h.k⟩
theorem zuJ{t:Tb}{d:Int→Nat}(ht:TInv t d){h:Int}(hu:U32 h):∃d',TInv (zbv t (zbW t h)) d':=by
 cases hg:zah t.b h with
 |true=>obtain⟨_,d',h1,_⟩:=zeV ht ⟨hu,hg⟩;exact⟨d',h1⟩
 |false=>
  have:zbW t h=[]:=by unfold zbW;rw[hg];rfl
  rw[this];exact⟨d,ht⟩
theorem StD.gone{s:St}(h:StD s){y:Int}(hu:U32 y):StD (goneS s y):=by obtain⟨d,hd⟩:=h.t;exact⟨zuJ hd hu,zju _ h.k,TkT.gone _ h.r⟩
theorem StD.own{s:St}(h:StD s)(y t:Int):StD (ztG s y t):=⟨h.t,h.k,h.r⟩
theorem StD.ret{s:St}(h:StD s)(y:Int):StD {s with k:=zim s.k y}:=⟨h.t,zvr h.k y,h.r.ret y⟩
theorem StD.drops{s:St}(h:StD s){y:Int}(hu:U32 y)(t:Int):StD (zci s y t).1:=by
 unfold zci;cases zkg (zhp s.o s.t y t false).toNat==0 with
 |true=>exact StD.gone (s:={s with o:=ze5 s.o s.t y t false}) ⟨h.t,h.k,h.r⟩ hu
 |false=>exact⟨h.t,h.k,h.r⟩
theorem ziT{s:St}(h:StD s){y:Int}(hu:U32 y):(zd4 s y).length≤2112:=by obtain⟨d,hd⟩:=h.t;have h1:=zhl hd (zbW s.t y);have h2:=zlI hd hu;unfold zd4;omega
theorem zp5{s:St}(h:StD s){y:Int}(hu:U32 y)(t:Int):(zci s y t).2.length≤2112:=by
 unfold zci;cases zkg (zhp s.o s.t y t false).toNat==0 with
 |true=>exact ziT h hu
 |false=>exact zFV _
theorem zfi{α:Type}(f:St→α→Except Int (St×List Rn)):∀(l m:List α) (s:St) (b:List Rn),zdD f (l++m) s b=match zdD f l s b with
  | .ok (s',b')=>zdD f m s' b'
  | .error e=>.error e
 |[],m,s,b=>rfl
 |x::l,m,s,b=>by
  show(match f s x with
   | .ok (s',b')=>zdD f (l++m) s' (b++b')
   | .error e=>.error e)=_
  simp only[zdD];cases f s x with
  |ok p=>obtain⟨s',b'⟩:=p;exact zfi f l m s' (b++b')
  |error e=>rfl
abbrev clB(s:St)(task:Int)(c:Call)(run:Rn)(n:Int)(a:Bool)(b:List Rn):Cl:=⟨s,task,c,run,n,a,b⟩
noncomputable def zp2(s:St)(t:Int)(task:Int)(c:Call)(run:Rn)(n:Int)(a:Bool):Except Int Cl:=match zet s t with
 | .ok (s',b)=>.ok (clB s' task c run n a b)
 | .error e=>.error e
theorem zrB{s:St}{t e:Int}{i:Nat}(h:zdD zdW ((zcW (s.box t.toNat) (s.box t.toNat).n.toNat).take i) (zhe s t) []=.error e):zet s t=.error e:=by unfold zet;rw[←zG1 i (zcW (s.box t.toNat) (s.box t.toNat).n.toNat),zfi,h]
theorem zut{s s1:St}{t:Int}{b1:List Rn}(h:zdD zdW (zcW (s.box t.toNat) (s.box t.toNat).n.toNat) (zhe s t) []=.ok (s1,b1)):zet s t=zdD (ze8 t) (za2 (ze7 (zbQ s1 t) (za2 (zbQ s1 t).o (zbQ s1 t).t (zfa t) (zb6 (zbQ s1 t).t.b)) b1).1.o (ze7 (zbQ s1 t) (za2 (zbQ s1 t).o (zbQ s1 t).t (zfa t) (zb6 (zbQ s1 t).t.b)) b1).1.t (zeR t) (zb6 (ze7 (zbQ s1 t) (za2 (zbQ s1 t).o (zbQ s1 t).t (zfa t) (zb6 (zbQ s1 t).t.b)) b1).1.t.b)) (ze7 (zbQ s1 t) (za2 (zbQ s1 t).o (zbQ s1 t).t (zfa t) (zb6 (zbQ s1 t).t.b)) b1).1 (ze7 (zbQ s1 t) (za2 (zbQ s1 t).o (zbQ s1 t).t (zfa t) (zb6 (zbQ s1 t).t.b)) b1).2:=by unfold zet;rw[h]
theorem zlG:∀(l:List Int) {s:St},StD s→StD {s with k:=l.foldl zim s.k}
 |[],_,h=>h
 |y::l,s,h=>zlG l (s:={s with k:=zim s.k y}) (h.ret y)
attribute [local irreducible] Con zax zan zau zai zaw zbt zak zaC zbh zba I64
section
variable {s:St} {task:Int} {c:Call} {run:Rn} {n:Int} {a:Bool} {v:Nat} {t:Int}
theorem zvY(hs:StD s)(hB:BoxOk (s.box t.toNat))(ht:0≤t∧t<8)(hM:∀m∈zcW (s.box t.toNat) (s.box t.toNat).n.toNat,U32 m.reg∧0≤m.frm∧m.frm<8):Con Tryz.prog 289 [.pt 0 [],I t] ⟨[zaQ (cl0 s task c run n a) v],[v],[]⟩ (MR (cl0 s task c run n a) (zp2 s t task c run n a) (.tu (.d .un))):=by
 have hD:=(zwL hB).out (zzF (a:=.d (zcc ⟨fun _=>mz,0,0,true⟩)) (zbZ ztI zgH mz (zcW (s.box t.toNat) (s.box t.toNat).n.toNat)));have hbad:=fun i e=>zrB (s:=s) (t:=t) (e:=e) (i:=i);have hok:=fun s1 b1=>zut (s:=s) (s1:=s1) (t:=t) (b1:=b1);have hlen:(zcW (s.box t.toNat) (s.box t.toNat).n.toNat).length≤4:=by have:=hB.n1;unfold zcW;simp;omega
 unfold zp2;generalize zet s t=DX at hbad hok ⊢;generalize zcW (s.box t.toNat) (s.box t.toNat).n.toNat=L at hD hM hbad hok hlen;refine za3 Tryz.func289 rfl (by kernel_rfl) rfl rfl ?_;conv=>whnf
 refine⟨ht,?_⟩;conv=>whnf
 refine zad (hD) ?_;conv=>whnf
 refine zao zaa (by kernel_rfl) 7 (by kernel_rfl) ?_;conv=>whnf
 refine⟨ht,?_⟩;conv=>whnf
 refine⟨zaQ (zbX (cl0 s task c run n a) t.toNat ⟨fun _=>mz,0,0,true⟩) v,zfg _ _ _ _,?_⟩;conv=>whnf
 refine⟨ht,?_⟩;conv=>whnf
 refine⟨zaQ (clB (zhe s t) task c run n a []) v,zvN (zbX (cl0 s task c run n a) t.toNat ⟨fun _=>mz,0,0,true⟩) _ _ _,?_⟩;conv=>whnf
 refine⟨zac (x:=(L.length:Int)) (by omega) (by omega),?_⟩;conv=>whnf
 refine zaB zaa (fun(q:Nat×St×List Rn×Nat)=>(q.1≤L.length∧zdD zdW (L.take q.1) (zhe s t) []=.ok (q.2.1,q.2.2.1))∧StD q.2.1∧q.2.2.1.length≤2112*q.1) (fun q=>L.length - q.1) (fun q=>[(40,I q.1)]) (fun q=>⟨[zaQ (clB q.2.1 task c run n a q.2.2.1) q.2.2.2,.d (zcc ⟨fun _=>mz,0,0,true⟩)],[q.2.2.2],[]⟩) (0,zhe s t,[],v) ⟨⟨zFV _,rfl⟩,⟨hs.t,hs.k,hs.r⟩,zF5 _⟩ ⟨rfl,trivial⟩ rfl (fun i=>⟨zF5 _,zF5 _,zF5 _⟩) ?_;rintro⟨i,s1,b1,v1⟩ ⟨⟨hi,hf⟩,hs1,hb1⟩;obtain⟨d,hd⟩:=hs1.ok;conv=>whnf
 refine⟨fun hq=>?_,fun hq=>?_⟩
 ·have hlt:i<L.length:=by
   have:(i:Int)<L.length:=by simpa using hq
   omega
  have hz:L[i]?=some (L.getD i mz):=by rw[zG9,zHa hlt];rfl
  obtain⟨hmu,hmf⟩:=hM _ (zGz hz);have htk:L.take (i+1)=L.take i++[L.getD i mz]:=by rw[zHb,hz];rfl
  have hstep:zdD zdW (L.take (i+1)) (zhe s t) []=match zdW s1 (L.getD i mz)with
   | .ok (s',b')=>.ok (s',b1++b')
   | .error e=>.error e:=by
   rw[htk,zfi,hf];simp only[zdD];cases zdW s1 (L.getD i mz)<;>rfl
  have hbad:=hbad (i+1);rw[hstep]at hbad;obtain⟨m,hm⟩:∃m,m=L.getD i mz:=⟨_,rfl⟩;rw[←hm]at hmu hmf hstep hbad;conv=>whnf
  refine⟨⟨(by omega:(0:Int)≤(i:Int)),(by omega:(i:Int)<(L.length:Int))⟩,?_⟩;conv=>whnf
  refine⟨fun h1=>?_,fun h1=>?_⟩
  ·have h1:(m.reg==0||m.sh)=true:=by rw[hm];exact h1
   have e1:zdW s1 m=.ok (s1,[]):=by unfold zdW;rw[h1];rfl
   conv=>whnf
   refine⟨zac (x:=(i:Int)+1) (by omega) (by omega),?_⟩;conv=>whnf
   refine⟨(i+1,s1,b1,v1),⟨⟨hlt,?_⟩,hs1,?_⟩,?_,⟨rfl,trivial⟩,⟨rfl,rfl⟩,rfl⟩
   ·rw[hstep,e1];exact congrArg (fun b=>Except.ok (s1,b)) (zHm b1)
   ·show b1.length≤2112*(i+1);have:b1.length≤2112*i:=hb1;omega
   ·show L.length -(i+1)<L.length - i;omega
  ·have h1:(m.reg==0||m.sh)=false:=by rw[hm];exact h1
   conv=>whnf
   refine zao zaa (by kernel_rfl) 9 (by kernel_rfl) ?_;conv=>whnf
   have hmf':0≤(L.getD i mz).frm∧(L.getD i mz).frm<8:=by rw[←hm];exact hmf
   refine⟨hmf',?_⟩;conv=>whnf
   refine⟨fun h2=>?_,fun h2=>?_⟩
   ·have h2:s1.alive m.frm.toNat=true:=by rw[hm];exact h2
    conv=>whnf
    refine zd7 (zmK (x:=clB s1 task c run n a b1) (v:=v1) hd.t (h:=(L.getD i mz).reg) (task:=(L.getD i mz).frm)) rfl (fun h3 v'=>?_) (fun h3 x' v'=>?_)
    ·have h3:zdP s1.t m.reg m.frm=0:=by rw[hm];exact h3
     have e1:zdW s1 m=.ok (ztG s1 m.reg m.frm,[]):=by unfold zdW;rw[h1,h2];exact zap h3
     conv=>whnf
     refine⟨zac (x:=(i:Int)+1) (by omega) (by omega),?_⟩;conv=>whnf
     refine⟨(i+1,ztG s1 m.reg m.frm,b1,v'),⟨⟨hlt,?_⟩,hs1.own _ _,?_⟩,?_,⟨rfl,trivial⟩,⟨?_,rfl⟩,rfl⟩
     ·rw[hstep,e1];exact congrArg (fun b=>Except.ok (ztG s1 m.reg m.frm,b)) (zHm b1)
     ·show b1.length≤2112*(i+1);have:b1.length≤2112*i:=hb1;omega
     ·show L.length -(i+1)<L.length - i;omega
     ·rw[hm];rfl
    ·have h3:zdP s1.t m.reg m.frm≠0:=by rw[hm];exact h3
     have e1:zdW s1 m=.error (zdP s1.t m.reg m.frm):=by unfold zdW;rw[h1,h2];exact zaP h3
     conv=>whnf
     exact⟨rfl,zlj (x':=x') (e:=zdP s1.t (L.getD i mz).reg (L.getD i mz).frm) (by rw[hbad _ (by rw[e1]),hm])⟩
   ·have h2:s1.alive m.frm.toNat=false:=by rw[hm];exact h2
    have e1:zdW s1 m=.ok (goneS s1 m.reg,zd4 s1 m.reg):=by unfold zdW;rw[h1,h2];rfl
    conv=>whnf
    refine znn (zo9 (x:=clB s1 task c run n a b1) (v:=v1) hd (h:=(L.getD i mz).reg) (hm▸hmu) (by show b1.length≤_;have:b1.length≤2112*i:=hb1;omega)) rfl (fun x' v' hx=>?_) (fun e x' v' hx=>by cases hx);cases hx;conv=>whnf
    refine⟨zac (x:=(i:Int)+1) (by omega) (by omega),?_⟩;conv=>whnf
    refine⟨(i+1,goneS s1 m.reg,b1++zd4 s1 m.reg,v'),⟨⟨hlt,?_⟩,hs1.gone hmu,?_⟩,?_,⟨rfl,trivial⟩,⟨?_,rfl⟩,rfl⟩
    ·rw[hstep,e1]
    ·show(b1++zd4 s1 m.reg).length≤2112*(i+1);have:b1.length≤2112*i:=hb1;have:=ziT (s:=s1) hs1 hmu;rw[zFY];omega
    ·show L.length -(i+1)<L.length - i;omega
    ·rw[hm];rfl
 ·have hlt:i=L.length:=by
   have:¬((i:Int)<L.length):=by simpa using hq
   omega
  subst hlt;rw[zHe]at hf;have hok:=hok s1 b1 hf;conv=>whnf
  have hT:=(zzH hd.k t).out (zpS (l:=zaN s1.k (toP t) (zcE s1.k.b)));have hl2:(zaN s1.k (toP t) (zcE s1.k.b)).length≤32:=zFU (zcv _ _ _) (zdo _);have e1:zbQ s1 t={s1 with k:=(zaN s1.k (toP t) (zcE s1.k.b)).foldl zim s1.k}:=rfl;rw[e1]at hok;clear e1 hbad hM;generalize zaN s1.k (toP t) (zcE s1.k.b)=l2 at hT hl2 hok;refine zad (hT) ?_;conv=>whnf
  refine⟨zac (x:=(l2.length:Int)) (by omega) (by omega),?_⟩;conv=>whnf
  have hb1:b1.length≤2112*L.length:=hb1;refine zaB zaa (fun i=>i≤l2.length) (fun i=>l2.length - i) (fun i=>[(82,I i)]) (fun i=>⟨[zaQ (clB {s1 with k:=(l2.take i).foldl zim s1.k} task c run n a b1) v1,.d (zcc ⟨fun _=>mz,0,0,true⟩)],[v1],[]⟩) 0 (zFV _) ⟨rfl,trivial⟩ rfl (fun i=>⟨zF5 _,zF5 _,zF5 _⟩) ?_;intro i hi;conv=>whnf
  refine⟨fun hq=>?_,fun hq=>?_⟩
  ·have hlt:i<l2.length:=by
    have:(i:Int)<l2.length:=by simpa using hq
    omega
   have hsi:=zlG (s:=s1) (l2.take i) hs1;have htk:l2.take (i+1)=l2.take i++[l2.getD i 0]:=by rw[zHb,zHa hlt,zG9,zHa hlt];rfl
   have ek:(l2.take (i+1)).foldl zim s1.k=zim ((l2.take i).foldl zim s1.k) (l2.getD i 0):=by rw[htk,zHc];rfl
   obtain⟨tr,Bd,k1,k2⟩:=hsi.r.ex;obtain⟨u,hu,hR⟩:=zlV hsi.k k1 k2 hsi.r.z (l2.getD i 0);conv=>whnf
   refine⟨⟨(by omega:(0:Int)≤(i:Int)),(by omega:(i:Int)<(l2.length:Int))⟩,?_⟩;conv=>whnf
   refine zad (hR) ?_;conv=>whnf
   refine⟨zac (x:=(i:Int)+1) (by omega) (by omega),?_⟩;conv=>whnf
   refine⟨i+1,hlt,by omega,⟨rfl,trivial⟩,⟨?_,rfl⟩,rfl⟩;exact zcn (ce (congrArg (fun k=>zaQ (clB {s1 with k:=k} task c run n a b1) v1) ek.symm) rfl) rfl rfl
  ·have hlt:i=l2.length:=by
    have:¬((i:Int)<l2.length):=by simpa using hq
    omega
   subst hlt;rw[zHe];have hs2:=zlG (s:=s1) l2 hs1;generalize({s1 with k:=l2.foldl zim s1.k}:St)=s2 at hs2 hok;obtain⟨d2,hd2⟩:=hs2.ok;have hR:=(zq1 s2.o s2.t t hd2.t.rk).out (zpS (l:=za2 s2.o s2.t (zfa t) (zb6 s2.t.b)));have hl3:(za2 s2.o s2.t (zfa t) (zb6 s2.t.b)).length≤32:=zFU (zg2 _ _ _ _) (zem _);have hu3:∀y∈za2 s2.o s2.t (zfa t) (zb6 s2.t.b),U32 y:=fun y hy=>((zcX hd2.t.ok.bk hd2.t.ok.ret).1 (zGH.1 hy).1).1;generalize za2 s2.o s2.t (zfa t) (zb6 s2.t.b)=l3 at hR hl3 hu3 hok;conv=>whnf
   refine zao zaa (by kernel_rfl) 16 (by kernel_rfl) ?_;conv=>whnf
   refine zam hR (fun _ h=>h) ?_;conv=>whnf
   refine⟨zac (x:=(l3.length:Int)) (by omega) (by omega),?_⟩;conv=>whnf
   refine zaB zaa (fun(q:Nat×St×List Rn×Nat)=>(q.1≤l3.length∧ze7 s2 (l3.take q.1) b1=(q.2.1,q.2.2.1))∧StD q.2.1∧q.2.2.1.length≤8448+2112*q.1) (fun q=>l3.length - q.1) (fun q=>[(119,I q.1)]) (fun q=>⟨[zaQ (clB q.2.1 task c run n a q.2.2.1) q.2.2.2,.d (zcc ⟨fun _=>mz,0,0,true⟩)],[q.2.2.2],[]⟩) (0,s2,b1,v1) ⟨⟨zFV _,rfl⟩,hs2,(by show b1.length≤8448+2112*0;omega)⟩ ⟨rfl,trivial⟩ rfl (fun i=>⟨zF5 _,zF5 _,zF5 _⟩) ?_;rintro⟨i,s3,b3,v3⟩ ⟨⟨hi,hf3⟩,hs3,hb3⟩;obtain⟨d3,hd3⟩:=hs3.ok;have hb3:b3.length≤8448+2112*i:=hb3;conv=>whnf
   refine⟨fun hq=>?_,fun hq=>?_⟩
   ·have hlt:i<l3.length:=by
     have:(i:Int)<l3.length:=by simpa using hq
     omega
    have hz:l3[i]?=some (l3.getD i 0):=by rw[zG9,zHa hlt];rfl
    have hy:=hu3 _ (zGz hz);have htk:l3.take (i+1)=l3.take i++[l3.getD i 0]:=by rw[zHb,hz];rfl
    have hst:ze7 s2 (l3.take (i+1)) b1=(goneS s3 (l3.getD i 0),b3++zd4 s3 (l3.getD i 0)):=by rw[htk];unfold ze7 at hf3 ⊢;rw[zHc,hf3];rfl
    conv=>whnf
    refine⟨⟨(by omega:(0:Int)≤(i:Int)),(by omega:(i:Int)<(l3.length:Int))⟩,?_⟩;conv=>whnf
    refine znn (zo9 (x:=clB s3 task c run n a b3) (v:=v3) hd3 (h:=l3.getD i 0) hy (by show b3.length≤_;omega)) rfl (fun x' v' hx=>?_) (fun e x' v' hx=>by cases hx);cases hx;conv=>whnf
    refine⟨zac (x:=(i:Int)+1) (by omega) (by omega),?_⟩;conv=>whnf
    refine⟨(i+1,goneS s3 (l3.getD i 0),b3++zd4 s3 (l3.getD i 0),v'),⟨⟨hlt,hst⟩,hs3.gone hy,?_⟩,?_,⟨rfl,trivial⟩,⟨rfl,rfl⟩,rfl⟩
    ·show(b3++zd4 s3 (l3.getD i 0)).length≤8448+2112*(i+1);have hg:=ziT (s:=s3) hs3 hy;rw[zFY];omega
    ·show l3.length -(i+1)<l3.length - i;omega
   ·have hlt:i=l3.length:=by
     have:¬((i:Int)<l3.length):=by simpa using hq
     omega
    subst hlt;rw[zHe]at hf3;have hok:DX=zdD (ze8 t) (za2 s3.o s3.t (zeR t) (zb6 s3.t.b)) s3 b3:=by rw[hok,hf3]
    have hH:=(zvD s3.o s3.t t hd3.t.rk).out (zpS (l:=za2 s3.o s3.t (zeR t) (zb6 s3.t.b)));have hl4:(za2 s3.o s3.t (zeR t) (zb6 s3.t.b)).length≤32:=zFU (zg2 _ _ _ _) (zem _);have hu4:∀y∈za2 s3.o s3.t (zeR t) (zb6 s3.t.b),U32 y:=fun y hy=>((zcX hd3.t.ok.bk hd3.t.ok.ret).1 (zGH.1 hy).1).1;generalize za2 s3.o s3.t (zeR t) (zb6 s3.t.b)=l4 at hH hl4 hu4 hok;conv=>whnf
    refine zao zaa (by kernel_rfl) 16 (by kernel_rfl) ?_;conv=>whnf
    refine zam hH (fun _ h=>h) ?_;conv=>whnf
    refine⟨zac (x:=(l4.length:Int)) (by omega) (by omega),?_⟩;conv=>whnf
    refine zaB zaa (fun(q:Nat×St×List Rn×Nat)=>(q.1≤l4.length∧zdD (ze8 t) (l4.take q.1) s3 b3=.ok (q.2.1,q.2.2.1))∧StD q.2.1∧q.2.2.1.length≤80000+2112*q.1) (fun q=>l4.length - q.1) (fun q=>[(142,I q.1)]) (fun q=>⟨[zaQ (clB q.2.1 task c run n a q.2.2.1) q.2.2.2,.d (zcc ⟨fun _=>mz,0,0,true⟩)],[q.2.2.2],[]⟩) (0,s3,b3,v3) ⟨⟨zFV _,rfl⟩,hs3,(by show b3.length≤80000+2112*0;omega)⟩ ⟨rfl,trivial⟩ rfl (fun i=>⟨zF5 _,zF5 _,zF5 _⟩) ?_;rintro⟨i,s4,b4,v4⟩ ⟨⟨hi,hf4⟩,hs4,hb4⟩;obtain⟨d4,hd4⟩:=hs4.ok;have hb4:b4.length≤80000+2112*i:=hb4;conv=>whnf
    refine⟨fun hq=>?_,fun hq=>?_⟩
    ·have hlt:i<l4.length:=by
      have:(i:Int)<l4.length:=by simpa using hq
      omega
     have hz:l4[i]?=some (l4.getD i 0):=by rw[zG9,zHa hlt];rfl
     have hy:=hu4 _ (zGz hz);have htk:l4.take (i+1)=l4.take i++[l4.getD i 0]:=by rw[zHb,hz];rfl
     have hst:zdD (ze8 t) (l4.take (i+1)) s3 b3=match ze8 t s4 (l4.getD i 0)with
      | .ok (s',b')=>.ok (s',b4++b')
      | .error e=>.error e:=by
      rw[htk,zfi,hf4];simp only[zdD];cases ze8 t s4 (l4.getD i 0)<;>rfl
     conv=>whnf
     refine⟨⟨(by omega:(0:Int)≤(i:Int)),(by omega:(i:Int)<(l4.length:Int))⟩,?_⟩;conv=>whnf
     refine zd7 (zrG (x:=clB s4 task c run n a b4) (v:=v4) hd4 (h:=l4.getD i 0) hy t (by show b4.length≤_;omega)) rfl (fun h3 v'=>?_) (fun h3 x' v'=>?_)
     ·have h3:zgh s4.o s4.t (l4.getD i 0) t false=0:=h3;conv=>whnf
      refine⟨zac (x:=(i:Int)+1) (by omega) (by omega),?_⟩;conv=>whnf
      refine⟨(i+1,(zci s4 (l4.getD i 0) t).1,b4++(zci s4 (l4.getD i 0) t).2,v'),⟨⟨hlt,?_⟩,hs4.drops hy t,?_⟩,?_,⟨rfl,trivial⟩,⟨rfl,rfl⟩,rfl⟩
      ·rw[hst,ze8,zap h3]
      ·show(b4++(zci s4 (l4.getD i 0) t).2).length≤80000+2112*(i+1);have hg:=zp5 (s:=s4) hs4 hy t;rw[zFY];omega
      ·show l4.length -(i+1)<l4.length - i;omega
     ·have h3:zgh s4.o s4.t (l4.getD i 0) t false≠0:=h3;conv=>whnf
      refine⟨rfl,zlj (x':=x') (e:=zgh s4.o s4.t (l4.getD i 0) t false) ?_⟩;have hE:=zfi (ze8 t) (l4.take (i+1)) (l4.drop (i+1)) s3 b3;rw[zG1,hst,ze8,zaP h3]at hE;rw[hok,hE]
    ·have hlt:i=l4.length:=by
      have:¬((i:Int)<l4.length):=by simpa using hq
      omega
     subst hlt;rw[zHe]at hf4;conv=>whnf
     exact⟨rfl,zmE (x':=clB s4 task c run n a b4) (by rw[hok,hf4])⟩
end
end Sx
namespace Sx
attribute [local irreducible] Con zax zan zau zai zaw zbt zak zaC zbh zba I64
section
variable {s:St} {task:Int} {c:Call} {run:Rn} {n:Int} {a:Bool} {v:Nat}
def zit(s:St):Prop:=∀a:Nat,a<8→BoxOk (s.box a)∧∀m∈zcW (s.box a) (s.box a).n.toNat,U32 m.reg∧0≤m.frm∧m.frm<8
theorem zoU{t:Int}{x':Cl}(h:zp2 s t task c run n a=.ok x'):zet s t=.ok (x'.s,x'.back):=by
 unfold zp2 at h;cases hd:zet s t with
 |ok p=>rw[hd]at h;cases h;rfl
 |error e=>rw[hd]at h;cases h
theorem zoT{t e:Int}(h:zp2 s t task c run n a=.error e):zet s t=.error e:=by
 unfold zp2 at h;cases hd:zet s t with
 |ok p=>rw[hd]at h;cases h
 |error e=>rw[hd]at h;cases h;rfl
theorem zAd(hs:StD s)(hM:zit s)(hc:CallOk s task c):Con Tryz.prog 309 [.pt 0 []] ⟨[zaQ (cl0 s task c run n a) v],[v],[]⟩ (MX (exX (zet s task))):=by
 have ht:0≤task∧task<8:=⟨hc.t0,hc.t1⟩;have hm:=hM task.toNat (by omega);refine za3 Tryz.func309 rfl (by kernel_rfl) rfl rfl ?_;conv=>whnf
 refine znn (zvY hs hm.1 ht hm.2) rfl (fun x' v' hx=>?_) (fun e x' v' hx=>?_)
 ·conv=>whnf
  exact⟨rfl,zc2 (r:=⟨0,0,0⟩) (by rw[zoU hx];rfl)⟩
 ·conv=>whnf
  exact⟨rfl,zbb (by rw[zoT hx];rfl)⟩
theorem zAq(hs:StD s)(hM:zit s)(hc:CallOk s task c):Con Tryz.prog 310 [.pt 0 []] ⟨[zaQ (cl0 s task c run n a) v],[v],[]⟩ (MX (zmz s c)):=by
 refine za3 Tryz.func310 rfl (by kernel_rfl) rfl rfl ?_;conv=>whnf
 refine zh8 (x:=cl0 s task c run n a) hc.a (fun h1=>?_) (fun h1=>?_)
 ·have hl:=zsk h1;have ha:0≤c.a∧c.a<8:=⟨hc.a.1,hl.1⟩;have hm:=hM c.a.toNat (by omega);conv=>whnf
  refine znn (zvY hs hm.1 ha hm.2) rfl (fun x' v' hx=>?_) (fun e x' v' hx=>?_)
  ·conv=>whnf
   exact⟨rfl,zc2 (r:=⟨0,0,0⟩) (by rw[zmz,zap h1,zoU hx];rfl)⟩
  ·conv=>whnf
   exact⟨rfl,zbb (by rw[zmz,zap h1,zoT hx];rfl)⟩
 ·conv=>whnf
  exact⟨rfl,zbb (x':=cl0 s task c run n a) (zaP h1)⟩
end
end Sx
end Go.Proofs.YtfbhkfhbnkncoaaGreatDoor
