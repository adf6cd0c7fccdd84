import Derived.Test.YtfbhkfhbnkncoaaGreatDoorT48
set_option linter.all false
set_option maxRecDepth 100000
set_option maxHeartbeats 4000000
namespace Go.Proofs.YtfbhkfhbnkncoaaGreatDoor
open Go.RowKit
namespace Sx
def znc{α:Type}(p:α→Bool):List α→Nat→Int
 |[],_=> -1
 |y::l,i=>bif p y then i else znc p l (i+1)
theorem zk5{α:Type}(p:α→Bool):∀(l:List α),decide (znc p l 0≥0)=l.any p:=by
 have key:∀(l:List α) (i:Nat),decide (znc p l i≥0)=l.any p:=fun l=>by
  induction l with
  |nil=>intro i;rfl
  |cons y l ih=>
   intro i;rw[zHF];unfold znc;cases p y with
   |true=>exact zFQ (show(i:Int)≥0 by omega)
   |false=>exact ih (i+1)
 exact fun l=>key l 0
attribute [local irreducible] Con zax zan zau zai zaw zbt zak zaC zbh zba I64
theorem ztV{k:Nat}{a:Nat}{m:MS}{l:List Ins}{p:Ins→Bool}(hn:l.length≤2147483648)(hk:∀y∈l,Con Tryz.prog k (.d (zbi y)::[.pt a []]) m fun o m'=>o=.ret (B (p y))∧m'=m):Con Tryz.prog 251 [.d (.sl l.length zpI fun i=>zbi (l.getD i zh0)),.fn (.func k) (.pr (.pt a []) (.d .un))] m fun o m'=>o=.ret (I (znc p l 0))∧m'=m:=by
 refine zaM Tryz.func251 rfl (by kernel_rfl) rfl rfl ?_;conv=>whnf
 refine⟨zac (x:=(l.length:Int)) (by omega) (by omega),?_⟩;conv=>whnf
 refine zed zaa (fun i=>i≤l.length∧znc p l 0=znc p (l.drop i) i) (fun i=>l.length - i) (fun i=>[(8,I i)]) (fun _=>m) 0 ⟨zFV _,rfl⟩ ⟨rfl,trivial⟩ rfl (fun i=>⟨zF5 _,zF5 _,zF5 _⟩) ?_;rintro i ⟨hi,hf⟩;conv=>whnf
 refine⟨fun hq=>?_,fun hq=>?_⟩
 ·have hlt:i<l.length:=by
   have:(i:Int)<l.length:=by simpa using hq
   omega
  have hg:l[i]?=some (l.getD i zh0):=by rw[zG9,zHa hlt];rfl
  have hmem:l.getD i zh0∈l:=zGz hg;rw[zdC hg]at hf;simp only[znc]at hf;conv=>whnf
  refine⟨⟨(by omega:(0:Int)≤(i:Int)),(by omega:(i:Int)<(l.length:Int))⟩,?_⟩;conv=>whnf
  refine zbk (hk _ hmem) ?_;conv=>whnf
  refine⟨fun hb=>?_,fun hb=>?_⟩
  ·have hb:p (l.getD i zh0)=true:=hb;rw[hb]at hf;conv=>whnf
   exact⟨by rw[hf];rfl,rfl⟩
  ·have hb:p (l.getD i zh0)=false:=hb;rw[hb]at hf;conv=>whnf
   refine⟨zac (x:=(i:Int)+1) (by omega) (by omega),?_⟩;conv=>whnf
   exact⟨i+1,⟨hlt,hf⟩,by omega,⟨rfl,trivial⟩,.inl rfl⟩
 ·have hlt:i=l.length:=by
   have:¬((i:Int)<l.length):=by simpa using hq
   omega
  subst hlt;rw[zHG]at hf;conv=>whnf
  exact⟨by rw[hf];rfl,rfl⟩
theorem ztN{k:Nat}{a:Nat}{m:MS}{l:List Ins}{p:Ins→Bool}(hn:l.length≤2147483648)(hk:∀y∈l,Con Tryz.prog k (.d (zbi y)::[.pt a []]) m fun o m'=>o=.ret (B (p y))∧m'=m):Con Tryz.prog 228 [.d (.sl l.length zpI fun i=>zbi (l.getD i zh0)),.fn (.func k) (.pr (.pt a []) (.d .un))] m fun o m'=>o=.ret (B (l.any p))∧m'=m:=by
 rw[←zk5];refine zaM Tryz.func228 rfl (by kernel_rfl) rfl rfl ?_;conv=>whnf
 refine zbk (ztV hn hk) ?_;conv=>whnf
 exact⟨rfl,rfl⟩
theorem ztW{k:Nat}{m:MS}{l:List ByteArray}{p:ByteArray→Bool}(hn:l.length≤2147483648)(hk:∀y∈l,Con Tryz.prog k (.d (.st y)::[]) m fun o m'=>o=.ret (B (p y))∧m'=m):Con Tryz.prog 186 [.d (.sl l.length .c fun i=>.st (l.getD i ByteArray.empty)),.fn (.func k) (.d .un)] m fun o m'=>o=.ret (I (znc p l 0))∧m'=m:=by
 refine zaM Tryz.func186 rfl (by kernel_rfl) rfl rfl ?_;conv=>whnf
 refine⟨zac (x:=(l.length:Int)) (by omega) (by omega),?_⟩;conv=>whnf
 refine zed zaa (fun i=>i≤l.length∧znc p l 0=znc p (l.drop i) i) (fun i=>l.length - i) (fun i=>[(8,I i)]) (fun _=>m) 0 ⟨zFV _,rfl⟩ ⟨rfl,trivial⟩ rfl (fun i=>⟨zF5 _,zF5 _,zF5 _⟩) ?_;rintro i ⟨hi,hf⟩;conv=>whnf
 refine⟨fun hq=>?_,fun hq=>?_⟩
 ·have hlt:i<l.length:=by
   have:(i:Int)<l.length:=by simpa using hq
   omega
  have hg:l[i]?=some (l.getD i ByteArray.empty):=by rw[zG9,zHa hlt];rfl
  have hmem:l.getD i ByteArray.empty∈l:=zGz hg;rw[zdC hg]at hf;simp only[znc]at hf;conv=>whnf
  refine⟨⟨(by omega:(0:Int)≤(i:Int)),(by omega:(i:Int)<(l.length:Int))⟩,?_⟩;conv=>whnf
  refine zbk (hk _ hmem) ?_;conv=>whnf
  refine⟨fun hb=>?_,fun hb=>?_⟩
  ·have hb:p (l.getD i ByteArray.empty)=true:=hb;rw[hb]at hf;conv=>whnf
   exact⟨by rw[hf];rfl,rfl⟩
  ·have hb:p (l.getD i ByteArray.empty)=false:=hb;rw[hb]at hf;conv=>whnf
   refine⟨zac (x:=(i:Int)+1) (by omega) (by omega),?_⟩;conv=>whnf
   exact⟨i+1,⟨hlt,hf⟩,by omega,⟨rfl,trivial⟩,.inl rfl⟩
 ·have hlt:i=l.length:=by
   have:¬((i:Int)<l.length):=by simpa using hq
   omega
  subst hlt;rw[zHG]at hf;conv=>whnf
  exact⟨by rw[hf];rfl,rfl⟩
theorem ztP{k:Nat}{m:MS}{l:List ByteArray}{p:ByteArray→Bool}(hn:l.length≤2147483648)(hk:∀y∈l,Con Tryz.prog k (.d (.st y)::[]) m fun o m'=>o=.ret (B (p y))∧m'=m):Con Tryz.prog 113 [.d (.sl l.length .c fun i=>.st (l.getD i ByteArray.empty)),.fn (.func k) (.d .un)] m fun o m'=>o=.ret (B (l.any p))∧m'=m:=by
 rw[←zk5];refine zaM Tryz.func113 rfl (by kernel_rfl) rfl rfl ?_;conv=>whnf
 refine zbk (ztW hn hk) ?_;conv=>whnf
 exact⟨rfl,rfl⟩
theorem zwQ{k:Nat}{m:MS}{l:List Int}{p:Int→Bool}(hn:l.length≤2147483648)(hk:∀y∈l,Con Tryz.prog k (.d (.z .u8 y)::[]) m fun o m'=>o=.ret (B (p y))∧m'=m):Con Tryz.prog 187 [.d (.sl l.length .c fun i=>.z .u8 (l.getD i 0)),.fn (.func k) (.d .un)] m fun o m'=>o=.ret (I (znc p l 0))∧m'=m:=by
 refine zaM Tryz.func187 rfl (by kernel_rfl) rfl rfl ?_;conv=>whnf
 refine⟨zac (x:=(l.length:Int)) (by omega) (by omega),?_⟩;conv=>whnf
 refine zed zaa (fun i=>i≤l.length∧znc p l 0=znc p (l.drop i) i) (fun i=>l.length - i) (fun i=>[(8,I i)]) (fun _=>m) 0 ⟨zFV _,rfl⟩ ⟨rfl,trivial⟩ rfl (fun i=>⟨zF5 _,zF5 _,zF5 _⟩) ?_;rintro i ⟨hi,hf⟩;conv=>whnf
 refine⟨fun hq=>?_,fun hq=>?_⟩
 ·have hlt:i<l.length:=by
   have:(i:Int)<l.length:=by simpa using hq
   omega
  have hg:l[i]?=some (l.getD i 0):=by rw[zG9,zHa hlt];rfl
  have hmem:l.getD i 0∈l:=zGz hg;rw[zdC hg]at hf;simp only[znc]at hf;conv=>whnf
  refine⟨⟨(by omega:(0:Int)≤(i:Int)),(by omega:(i:Int)<(l.length:Int))⟩,?_⟩;conv=>whnf
  refine zbk (hk _ hmem) ?_;conv=>whnf
  refine⟨fun hb=>?_,fun hb=>?_⟩
  ·have hb:p (l.getD i 0)=true:=hb;rw[hb]at hf;conv=>whnf
   exact⟨by rw[hf];rfl,rfl⟩
  ·have hb:p (l.getD i 0)=false:=hb;rw[hb]at hf;conv=>whnf
   refine⟨zac (x:=(i:Int)+1) (by omega) (by omega),?_⟩;conv=>whnf
   exact⟨i+1,⟨hlt,hf⟩,by omega,⟨rfl,trivial⟩,.inl rfl⟩
 ·have hlt:i=l.length:=by
   have:¬((i:Int)<l.length):=by simpa using hq
   omega
  subst hlt;rw[zHG]at hf;conv=>whnf
  exact⟨by rw[hf];rfl,rfl⟩
theorem zwG{k:Nat}{m:MS}{l:List Int}{p:Int→Bool}(hn:l.length≤2147483648)(hk:∀y∈l,Con Tryz.prog k (.d (.z .u8 y)::[]) m fun o m'=>o=.ret (B (p y))∧m'=m):Con Tryz.prog 114 [.d (.sl l.length .c fun i=>.z .u8 (l.getD i 0)),.fn (.func k) (.d .un)] m fun o m'=>o=.ret (B (l.any p))∧m'=m:=by
 rw[←zk5];refine zaM Tryz.func114 rfl (by kernel_rfl) rfl rfl ?_;conv=>whnf
 refine zbk (zwQ hn hk) ?_;conv=>whnf
 exact⟨rfl,rfl⟩
def zDp(x:Ins):Int:=zpp (zpp x.a x.b) x.c
def cdI(n:Int)(x:Ins):Bool:=((decide (x.op≤6)||(decide (x.op>16)&&decide (x.op≤38)))&&decide (zDp x<8))&&(!((x.op==5)||(x.op==6))||decide (x.n<n))
def zwc(l:List Ins):Bool:=decide ((l.length:Int)≤64)&&!(l.any fun x=>!cdI l.length x)
theorem zsr(a b c:Int):decide (zpp a b<c)=(decide (a<c)&&decide (b<c)):=by
 unfold zpp;by_cases h:b>a
 ·rw[zFQ h,zHH,zHI];simp only[zFR,zFS];omega
 ·rw[zFT h,zHJ,zHI];simp only[zFR,zFS];omega
theorem zxe(n:Nat)(x:Ins):(!cdI n x)=zxb n x:=by unfold cdI zxb zDp;rw[zsr,zsr,zHI];simp only[zGC,zHK,zFM,zGD,zFR,zFS,zFO,zGG,zGy,zFP,zFN];omega
theorem zx2(l:List Ins):zwc l=zf3 l:=by
 unfold zwc zf3;rw[show(fun x=>!cdI (l.length:Nat) x)=zxb l.length from funext fun x=>zxe _ x]
 congr 1
 by_cases h:(l.length:Int)≤64
 ·rw[zFQ h,zFT (by omega)];rfl
 ·rw[zFT h,zFQ (by omega)];rfl
theorem zAH(x:Ins)(hx:InsOk x)(n:Int):zay Tryz.prog 230 [.d (zbi x),I n] (B (cdI n x)):=by
 refine zat Tryz.func230 rfl (by kernel_rfl) rfl rfl rfl ?_;conv=>whnf
 refine⟨fun _=>⟨zbL (by simp only[zcB];have:=hx.a;omega) (fun _=>hx.a.1) (by simp only[zcB];have:=hx.a;omega),zbL (by simp only[zcB];have:=hx.b;omega) (fun _=>hx.b.1) (by simp only[zcB];have:=hx.b;omega),zbL (by simp only[zcB];have:=hx.c;omega) (fun _=>hx.c.1) (by simp only[zcB];have:=hx.c;omega)⟩,?_⟩;conv=>whnf
 exact⟨rfl,zae rfl⟩
theorem zzx(l:List Ins)(hl:∀x∈l,InsOk x)(hn:l.length≤1000):zay Tryz.prog 185 [.d (.sl l.length zpI fun i=>zbi (l.getD i zh0))] (B (zwc l)):=by
 refine zat Tryz.func185 rfl (by kernel_rfl) rfl rfl rfl ?_;conv=>whnf
 refine⟨zac (x:=(l.length:Int)) (by omega) (by omega),?_⟩;conv=>whnf
 refine zsM (B (l.any fun x=>!cdI l.length x)) (fun hq=>?_) ?_
 ·refine ztN (by omega) fun y hy=>?_;refine za3 Tryz.func229 rfl (by kernel_rfl) rfl rfl ?_;conv=>whnf
  refine⟨zac (x:=(l.length:Int)) (by omega) (by omega),?_⟩;conv=>whnf
  refine zad (zAH y (hl y hy) l.length) ?_;conv=>whnf
  exact⟨rfl,rfl,rfl⟩
 conv=>whnf
 exact⟨rfl,zae rfl⟩
end Sx
namespace Sx
def zzO(b:ByteArray):Bool:=(((b.size:Int).tmod 6) != 0)||decide ((b.size:Int)>384)
def isC(b:ByteArray):Bool:=!(zzO b||!zwc (zmc b))
abbrev zFf(l:List Ins):D:=.sl l.length zpI fun i=>zbi (l.getD i zh0)
theorem zyT(n:Nat):(n:Int).tmod 6=((n % 6:Nat):Int):=by rw[zGa (by omega)];omega
theorem zFm(b:ByteArray){n:Nat}(hn:Nat.min b.size 6=n)(f:Nat→D):znv 0 (Nat.min b.size 6) (fun i=>D.z .u8 (zaL b i)) f=znv 0 n (fun i=>D.z .u8 (zaL b i)) f:=by rw[hn]
attribute [local irreducible] Con zax zan zau zai zaw zbt zak zaC zbh zba I64
theorem zlQ(b:ByteArray)(h:b.size≤1000000):zay Tryz.prog 112 [.d (.st b)] (T2 (bif isC b then .d (zFf (zmc b))else zqE .c (za4 [])) (I (bif isC b then 0 else 3))):=by
 have ib:I64 (b.size:Int):=zac (by omega) (by omega);refine zat Tryz.func112 rfl (by kernel_rfl) rfl rfl rfl ?_;conv=>whnf
 refine⟨ib,?_⟩;conv=>whnf
 refine⟨⟨(by decide:(6:Int)≠0),(by have:=zyT b.size;exact zbL (by simp only[zcB];omega) (fun h=>by cases h) (by simp only[zcB];omega):inK .i64 ((b.size:Int).tmod 6)=true)⟩,?_⟩;conv=>whnf
 refine⟨fun _=>ib,?_⟩;conv=>whnf
 refine⟨fun g1=>?_,fun g1=>?_⟩
 ·have g1:zzO b=true:=g1;conv=>whnf
  refine⟨rfl,?_⟩;rw[show isC b=false by unfold isC;rw[g1];rfl];exact zae rfl
 have g1:zzO b=false:=g1;have hz:b.size % 6=0∧b.size≤384:=by unfold zzO at g1;rw[zyT]at g1;simp only[zFM,zFO,bne_eq_false_iff_eq]at g1;omega
 conv=>whnf
 refine zcJ 4 zpI (za4 []) rfl ?_;refine zaB zaa (fun i:Nat=>6*i≤b.size) (fun i=>b.size - 6*i) (fun i=>[(0,.d (.st (zcy b (6*i)))),(4,owl 1 i zpI ((zia b i).map zbi))]) (fun i=>⟨[],[i],[]⟩) 0 (zFV _) ⟨by rw[Nat.mul_zero,zBi];rfl,rfl,trivial⟩ rfl (fun i=>⟨zF5 _,zF5 _,zF5 _⟩) ?_;intro i hi;have hsz:=zpH b (6*i);conv=>whnf
 refine⟨zac (x:=((zcy b (6*i)).size:Int)) (by omega) (by omega),?_⟩;conv=>whnf
 refine⟨fun ht=>?_,fun ht=>?_⟩
 ·have hlt:6*i+6≤b.size:=by
   have:((zcy b (6*i)).size:Int)>0:=by simpa using ht
   omega
  conv=>whnf
  refine⟨⟨(by decide:(0:Int)≤0),(by decide:(0:Int)≤6),(by decide:(6:Int)≤6)⟩,?_⟩;conv=>whnf
  have hmin:Nat.min (zcy b (6*i)).size 6=6:=Nat.min_eq_right (by omega);refine⟨(by rw[show(((6:Nat):Int).toNat -(0:Int).toNat)=6 from rfl];rw[hmin];exact zac (by decide) (by decide):I64 ((Nat.min (zcy b (6*i)).size (((6:Nat):Int).toNat -(0:Int).toNat):Nat):Int)),?_⟩;conv=>whnf
  refine⟨_,zFm (zcy b (6*i)) hmin _,?_⟩;conv=>whnf
  refine⟨⟨(by decide:(0:Int)≤0),(by decide:(0:Int)<6)⟩,?_⟩;conv=>whnf
  refine⟨⟨(by decide:(0:Int)≤1),(by decide:(1:Int)<6)⟩,?_⟩;conv=>whnf
  refine⟨⟨(by decide:(0:Int)≤2),(by decide:(2:Int)<6)⟩,?_⟩;conv=>whnf
  refine⟨⟨(by decide:(0:Int)≤3),(by decide:(3:Int)<6)⟩,?_⟩;conv=>whnf
  refine⟨⟨(by decide:(0:Int)≤4),(by decide:(4:Int)<6)⟩,?_⟩;conv=>whnf
  refine⟨⟨(by decide:(0:Int)≤5),(by decide:(5:Int)<6)⟩,?_⟩;conv=>whnf
  refine Or.inl ?_;conv=>whnf
  conv=>whnf
  have hlen:((zia b i).map zbi).length=i:=by rw[zFH,zgG]
  refine⟨⟨rfl,by rw[hlen];omega⟩,?_⟩;conv=>whnf
  refine⟨⟨(by decide:(0:Int)≤6),(by omega:(6:Int)≤((zcy b (6*i)).size:Int)),(by omega:((zcy b (6*i)).size:Int)≤((zcy b (6*i)).size:Int))⟩,?_⟩;conv=>whnf
  refine⟨i+1,(by omega:6*(i+1)≤b.size),by omega,⟨?_,?_,trivial⟩,⟨rfl,rfl⟩,rfl⟩
  ·exact congrArg (fun s=>some (SV.d (.st s))) (zti b (6*i))
  ·have hb:=fun j=>zep (zcy b (6*i)) j;have e:zbi ⟨zaL (zcy b (6*i)) 0,zaL (zcy b (6*i)) 1,zaL (zcy b (6*i)) 2,zaL (zcy b (6*i)) 3,zaC .or .u16 (zaL (zcy b (6*i)) 4) (zbh .u16 (zaL (zcy b (6*i)) 5) 8)⟩=zbi (znN b i):=by have h0:zaL (zcy b (6*i)) 0=zaL b (6*i:Nat):=zcM b (6*i) 0;rw[zFh (hb 4) (hb 5)];unfold znN;rw[h0,←zcM b (6*i) 1,←zcM b (6*i) 2,←zcM b (6*i) 3,←zcM b (6*i) 4,←zcM b (6*i) 5];rfl
   rw[zmd,zF6,←zcq];show some (SV.ow 1 (i+1) _ zpI (zdc _ (za4 ((zia b i).map zbi)) (za4 [zbi ⟨zaL (zcy b (6*i)) 0,zaL (zcy b (6*i)) 1,zaL (zcy b (6*i)) 2,zaL (zcy b (6*i)) 3,zaC .or .u16 (zaL (zcy b (6*i)) 4) (zbh .u16 (zaL (zcy b (6*i)) 5) 8)⟩])))=_;rw[e];rfl
 ·have hge:b.size=6*i:=by
   have:¬((zcy b (6*i)).size:Int)>0:=by simpa using ht
   omega
  have hi6:b.size / 6=i:=by omega
  have hd:zmc b=zia b i:=by unfold zmc;rw[hi6]
  conv=>whnf
  have hO:∀x∈zia b i,InsOk x:=fun x hx=>zrw b x (hd▸hx);refine zad ((zzx (zia b i) hO (by rw[zgG];omega)).le (a:=[owl 1 i zpI ((zia b i).map zbi)]) ⟨fun ro bl x hx=>zbZ zpI zbi zh0 (zia b i) ro bl x (zlo _ _ _ _ _ ro bl x hx),trivial⟩) ?_;conv=>whnf
  refine⟨fun g=>?_,fun g=>?_⟩
  ·have g:(!zwc (zia b i))=true:=g;conv=>whnf
   refine⟨rfl,?_⟩;have e:isC b=false:=by unfold isC;rw[hd,g,zHu];rfl
   rw[e];exact zae rfl
  ·have g:(!zwc (zia b i))=false:=g;conv=>whnf
   have e:isC b=true:=by unfold isC;rw[hd,g,g1];rfl
   rw[e,hd];refine⟨rfl,⟨_,rfl,?_⟩,rfl⟩;exact zhP (b:=I 0) fun ro bl x hx=>zbZ zpI zbi zh0 (zia b i) ro bl x hx
def zhV(x:Int):Bool:=(decide (x<8)||(x==8))||(decide (x≥16)&&decide (x<24))
def zcj(l:Lst):D:=.pr (.z .i64 l.n) (.pr (.sl l.ps.length .c fun i=>.st (l.ps.getD i ByteArray.empty)) (.pr (.sl l.pk.size .c fun i=>.z .u8 (zaL l.pk i)) .un))
def zlN(l:Lst):Bool:=!ztD l&&(!(l.ps.any fun p=>!isC p)&&!((pkL l.pk).any fun x=>!zhV x))
theorem zye(x:Int):zay Tryz.prog 116 [.d (.z .u8 x)] (B (zhV x)):=by
 refine zat Tryz.func116 rfl (by kernel_rfl) rfl rfl rfl ?_;conv=>whnf
 exact⟨rfl,zae rfl⟩
theorem zAF(y:Int):zay Tryz.prog 115 [.d (.z .u8 y)] (B (!zhV y)):=by
 refine zat Tryz.func115 rfl (by kernel_rfl) rfl rfl rfl ?_;conv=>whnf
 refine zad (zye y) ?_;conv=>whnf
 exact⟨rfl,zae rfl⟩
theorem zCQ(s:ByteArray):(SV.d (.sl s.size .c fun i=>.z .u8 (zaL s i))).le (.d (.sl (pkL s).length .c fun i=>.z .u8 ((pkL s).getD i 0))):=fun ro bl y h=>by refine⟨(fun h=>by cases h),fun _=>?_⟩;show zbg ro (.sl (pkL s).length .c fun i=>.z .u8 ((pkL s).getD i 0)) [y];rw[zlt];exact h.sl.congr fun i hi=>by rw[zn7 s hi]
theorem zvG(l:Lst)(h1:l.ps.length≤20)(h2:l.pk.size≤6000)(h3:∀p∈l.ps,p.size≤1000):zay Tryz.prog 62 [.d (zcj l)] (B (zlN l)):=by
 have i1:I64 (l.ps.length:Int):=zac (by omega) (by omega);have i2:I64 (l.pk.size:Int):=zac (by omega) (by omega);refine zat Tryz.func62 rfl (by kernel_rfl) rfl rfl rfl ?_;conv=>whnf
 refine⟨i1,?_⟩;conv=>whnf
 refine⟨fun _=>i2,?_⟩;conv=>whnf
 refine⟨fun g1=>?_,fun g1=>?_⟩
 ·have g1:ztD l=true:=g1;conv=>whnf
  exact⟨rfl,zae (by unfold zlN;rw[g1];rfl)⟩
 have g1:ztD l=false:=g1;conv=>whnf
 refine zbk (ztP (p:=fun p=>!isC p) (by omega) fun y hy=>?_) ?_
 ·refine za3 Tryz.func111 rfl (by kernel_rfl) rfl rfl ?_;conv=>whnf
  refine zad (zlQ y (zFU (h3 y hy) (by decide))) ?_;conv=>whnf
  refine⟨rfl,congrArg (fun b=>Out.ret (B b)) ?_,rfl⟩;cases isC y<;>rfl
 conv=>whnf
 refine zsN (B ((pkL l.pk).any fun x=>!zhV x)) (fun hg=>zay.le (fun m=>zwG (k:=115) (l:=pkL l.pk) (p:=fun x=>!zhV x) (by rw[zlt];omega) fun y _=>?_) ⟨zCQ l.pk,SV.le_refl _,trivial⟩) ?_
 ·exact zAF y m
 conv=>whnf
 exact⟨rfl,zae (by unfold zlN;rw[g1];rfl)⟩
end Sx
namespace Sx
variable {P:Program}
theorem zfG{f:FuncId}{args:List SV}{m:MS}{K' K:Out→MS→Prop}(h:Con P f args m K')(hK:∀o m',K' o m'→∃i j,(m.c.length≤i∧m.c.length≤j)∧(i<m'.c.length∧j<m'.c.length)∧m'.o=[]∧K (o.ren (swN i j)) ⟨swL m'.c i j,m'.t,[]⟩):Con P f args m K:=by
 refine⟨h.1,fun E ro bl w xs hM hA=>(h.2 E ro bl w xs hM hA).mono ?_⟩;rintro e w' ⟨ro',bl',m',out,h1,h2,h3,h4⟩;obtain⟨i,j,⟨a1,a2⟩,⟨b1,b2⟩,ho,hk⟩:=hK out m' h4;have hi2:i<bl'.b.length:=by rw[h1.len];exact b1
 have hj2:j<bl'.b.length:=by rw[h1.len];exact b2
 have hl:bl.b.length=m.c.length:=hM.len;refine⟨ro',bl'.sw i j,_,out.ren (swN i j),h1.sw b1 b2 ho,⟨h2.os,h2.tape,h2.output,h2.size,h2.old,⟨h2.le.r,fun id x hx=>?_,h2.le.t,h2.le.o,h2.le.g⟩,fun b hb=>h2.new b ((znJ hi2 hj2 b).1 hb),h2.k⟩,?_,hk⟩
 ·show(swG bl'.b i j)[id]?=some x;have hid:id<bl.b.length:=(zGf.1 hx).1;rw[zgn hi2 hj2,zvo (by omega) (by omega)];exact h2.le.b _ _ hx
 ·cases out with
  |ret v=>obtain⟨x,e,hx⟩:=h3;exact⟨x,e,hx.ren (zmU hi2 hj2)⟩
  |pan d=>obtain⟨x,e,hx⟩:=h3;exact⟨x,e,hx.ren (zmU hi2 hj2)⟩
theorem zfs(i j:Nat):∀v:SV,(v.ren (swN i j)).ren (swN i j)=v
 | .pt id p=>by show SV.pt (swN i j (swN i j id)) p=_;rw[zhJ]
 | .fn f c=>by show SV.fn f ((c.ren _).ren _)=_;rw[zfs i j c]
 | .pr a b=>by show SV.pr ((a.ren _).ren _) ((b.ren _).ren _)=_;rw[zfs i j a,zfs i j b]
 | .tu a=>by show SV.tu ((a.ren _).ren _)=_;rw[zfs i j a]
 | .ob k=>by
  cases k with
  |sb id p lo n=>show SV.ob (.sb (swN i j (swN i j id)) p lo n)=_;rw[zhJ]
  |_=>rfl
 | .ar n t f=>by show SV.ar n t (fun k=>((f k).ren _).ren _)=_;congr 1;funext k;exact zfs i j (f k)
 | .fb f a=>by show SV.fb f ((a.ren _).ren _)=_;rw[zfs i j a]
 | .d _| .el _| .ow .. =>rfl
theorem zi2(i j:Nat):∀l:List SV,(l.map (SV.ren (swN i j))).map (SV.ren (swN i j))=l
 |[]=>rfl
 |v::l=>by rw[zGF,zGF,zfs,zi2 i j l]
theorem zyJ{l:List SV}{i j:Nat}(hi:i<l.length)(hj:j<l.length):swL (swL l i j) i j=l:=by
 unfold swL;have hl:(l.map (SV.ren (swN i j))).length=l.length:=zFH ..;apply zHL;intro k;rw[zgn (by rw[zFH,zhH,hl];exact hi) (by rw[zFH,zhH,hl];exact hj),zHz,zgn (by rw[hl];exact hi) (by rw[hl];exact hj),zhJ,zHz];cases l[k]? with
 |none=>rfl
 |some v=>show some ((v.ren _).ren _)=_;rw[zfs]
theorem zhI(l:List SV)(i j:Nat):(swL l i j).length=l.length:=by unfold swL;rw[zhH,zFH]
theorem zgb{f:FuncId}{args:List SV}{c:List SV}{t:List Nat}(i j:Nat)(hi:i<c.length)(hj:j<c.length){K' K:Out→MS→Prop}(h:Con P f args ⟨c,t,[]⟩ K')
 (hK:∀o m',K' o m'→m'.o=[]∧K (o.ren (swN i j)) ⟨swL m'.c i j,m'.t,[]⟩):Con P f (args.map (SV.ren (swN i j))) ⟨swL c i j,t,[]⟩ K:=by
 refine zkP i j (by rw[zhI];exact hi) (by rw[zhI];exact hj) ?_;rw[zi2,zyJ hi hj];exact zal h hK
end Sx
end Go.Proofs.YtfbhkfhbnkncoaaGreatDoor
