import Derived.Test.YtfbhkfhbnkncoaaGreatDoorT25
import Derived.RecoverIn
import Derived.BigFrame
set_option linter.all false
namespace Go.Proofs.YtfbhkfhbnkncoaaGreatDoor
open Go.RowKit
namespace Sx
attribute [local irreducible] Con zax zan zau zai zaw zbt zak zaC zbh zba I64
def tk1(x:Tk):Bool:=((decide (x.by_≥8)||decide (x.to_≥8))||(x.by_==x.to_))||(x.reg==0)
def tk2(k:Toks)(x:Tk):Bool:=(x.above != 0)&&((((zcg k x.above).reg != x.reg)||((zcg k x.above).to_ != x.by_))||(x.mu&&!(zcg k x.above).mu))
def tk3(k:Toks)(x:Tk):Bool:=zpB k x.reg x.above||(x.mu&&decide (((zf7 k x.reg x.above).length:Int)>0))
def tkE(k:Toks)(x:Tk):Int:=bif !zhm k x.above then 4 else bif tk1 x then 2 else bif tk2 k x then 12 else bif tk3 k x then 5 else 0
theorem zzG{k:Toks}(hk:ziy k)(x:Tk):zay Tryz.prog 358 [.d (zbe k),.d (ziP x)] (I (tkE k x)):=by
 refine zat Tryz.func358 rfl (by kernel_rfl) rfl rfl rfl ?_;conv=>whnf
 refine zad (zgw k x.above hk) ?_;conv=>whnf
 refine zad (zoi hk x.reg x.above) ?_;conv=>whnf
 refine zad (znH k x.above) ?_;conv=>whnf
 refine⟨fun hq=>?_,fun hq=>?_⟩
 ·have h1:(!zhm k x.above)=true:=hq;conv=>whnf
  refine⟨rfl,zae ?_⟩;rw[tkE,h1];rfl
 ·have h1:(!zhm k x.above)=false:=hq;conv=>whnf
  refine⟨fun hq=>?_,fun hq=>?_⟩
  ·have h2:tk1 x=true:=hq;conv=>whnf
   refine⟨rfl,zae ?_⟩;rw[tkE,h1,h2];rfl
  ·have h2:tk1 x=false:=hq;conv=>whnf
   refine⟨fun hq=>?_,fun hq=>?_⟩
   ·have h3:tk2 k x=true:=hq;conv=>whnf
    refine⟨rfl,zae ?_⟩;rw[tkE,h1,h2,h3];rfl
   ·have h3:tk2 k x=false:=hq;conv=>whnf
    refine⟨fun hq=>?_,fun hq=>?_⟩
    ·have h4:tk3 k x=true:=hq;conv=>whnf
     refine⟨rfl,zae ?_⟩;rw[tkE,h1,h2,h3,h4];rfl
    ·have h4:tk3 k x=false:=hq;conv=>whnf
     refine⟨rfl,zae ?_⟩;rw[tkE,h1,h2,h3,h4];rfl
def woK(k:Toks)(l:List Int):Toks:=⟨l.foldl zbw k.b,k.s⟩
theorem zm6(k:Toks){l:List Int}(hn:l.length≤1000):zay Tryz.prog 362 [.d (zbe k),LS l] (.d (zbe (woK k l))):=by
 refine zat Tryz.func362 rfl (by kernel_rfl) rfl rfl rfl ?_;conv=>whnf
 refine⟨zac (x:=(l.length:Int)) (by omega) (by omega),?_⟩;conv=>whnf
 refine zaB zaa (fun i=>i≤l.length) (fun i=>l.length - i) (fun i=>[(9,I i)]) (fun i=>⟨[.d (zbe (woK k (l.take i))),.d (ZT.d zBv)],[],[]⟩) 0 (zFV _) ⟨rfl,trivial⟩ rfl (fun i=>⟨zF5 _,zF5 _,zF5 _⟩) ?_;intro i hi;conv=>whnf
 refine⟨fun hq=>?_,fun hq=>?_⟩
 ·have hlt:i<l.length:=by
   have:(i:Int)<l.length:=by simpa using hq
   omega
  have e:zbw (woK k (l.take i)).b (l.getD i 0)=(woK k (l.take (i+1))).b:=by unfold woK;rw[zHb,zHc,zHa hlt,zG9,zHa hlt];rfl
  conv=>whnf
  refine⟨⟨(by omega:(0:Int)≤(i:Int)),(by omega:(i:Int)<(l.length:Int))⟩,?_⟩;conv=>whnf
  refine zad (zvM (woK k (l.take i)).b (l.getD i 0)) ?_;conv=>whnf
  refine⟨zac (x:=(i:Int)+1) (by omega) (by omega),?_⟩;conv=>whnf
  refine⟨i+1,hlt,by omega,⟨rfl,trivial⟩,⟨?_,rfl⟩,rfl⟩;refine zcn (ce ?_ rfl) rfl rfl;show SV.d (.pr (zbp (zbw (woK k (l.take i)).b (l.getD i 0))) (.pr (.ar 16 tTk fun i=>ziP (k.s i)) .un))=SV.d (zbe (woK k (l.take (i+1))));rw[e];rfl
 ·have hlt:i=l.length:=by
   have:¬((i:Int)<l.length):=by simpa using hq
   omega
  subst hlt;rw[zHe];conv=>whnf
  exact⟨rfl,zae rfl⟩
theorem zwE{k:Toks}(hk:ziy k)(r:Int):zay Tryz.prog 349 [.d (zbe k),H r] (.d (zbe (woK k (zaN k (onP r) (zcE k.b))))):=by
 refine zat Tryz.func349 rfl (by kernel_rfl) rfl rfl rfl ?_;conv=>whnf
 refine zao zaa (by kernel_rfl) 5 (by kernel_rfl) ?_;conv=>whnf
 refine zam ((zw1 hk r).out (zbZ .c hD 0 _)) (fun _ h=>h) ?_;conv=>whnf
 refine zam (zm6 k (zFU (zcv _ _ _) (zFU (zdo k.b) (by decide)))) (fun _ h=>h) ?_;conv=>whnf
 exact⟨rfl,zae rfl⟩
def znQ(k:Toks):Bool:=(!!slB (zc8 k.b))||decide (slX (zc8 k.b)≥16)
def zh2(k:Toks)(x:Tk):Int:=bif tkE k x != 0 then tkE k x else bif znQ k then 7 else 0
def zjK(k:Toks)(x:Tk):Toks:=bif zh2 k x==0 then⟨zey k.b,zaq k.s (slN (zc8 k.b)) x⟩else k
def znR(k:Toks)(x:Tk):Int:=bif zh2 k x==0 then zc8 k.b else 0
theorem zvF{k:Toks}(hk:ziy k)(x:Tk):zay Tryz.prog 333 [.d (zbe k),.d (ziP x)] (T3 (.d (zbe (zjK k x))) (H (znR k x)) (I (zh2 k x))):=by
 refine zat Tryz.func333 rfl (by kernel_rfl) rfl rfl rfl ?_;conv=>whnf
 refine zad (zzG hk x) ?_;conv=>whnf
 refine⟨fun hq=>?_,fun hq=>?_⟩
 ·have h1:(tkE k x != 0)=true:=hq;have e:(tkE k x==0)=false:=by simpa using h1
  conv=>whnf
  refine⟨rfl,zae ?_⟩;rw[zjK,znR,zh2,h1];simp only[zHH,e,zHJ];rfl
 ·have h1:(tkE k x != 0)=false:=hq;conv=>whnf
  refine zad (zqQ k.b) ?_;conv=>whnf
  refine zad (zeC (zc8 k.b)) ?_;conv=>whnf
  refine⟨fun hq=>?_,fun hq=>?_⟩
  ·have h2:znQ k=true:=hq;conv=>whnf
   refine⟨rfl,zae ?_⟩;rw[zjK,znR,zh2,h1,h2];rfl
  ·have h2:znQ k=false:=hq;have hb:=zc5 (zc8 k.b);have h3:slX (zc8 k.b)<16:=by unfold znQ at h2;simp only[zFM,zFO]at h2;omega
   conv=>whnf
   refine zaA zaa (by kernel_rfl) [0,1,2,3,5,4,6,7] [(4,37),(7,0)] (by kernel_rfl) ?_;conv=>whnf
   refine⟨(show _∧_ from⟨rfl,rfl⟩),?_⟩;conv=>whnf
   refine⟨(show _∧_ from⟨rfl,rfl⟩),?_⟩;conv=>whnf
   refine⟨⟨hb.1,h3⟩,?_⟩;conv=>whnf
   refine⟨.d (zbe ⟨zey k.b,zaq k.s (slN (zc8 k.b)) x⟩),congrArg (fun f=>SV.d (.pr (zbp (zey k.b)) (.pr (.ar 16 tTk f) .un))) (zaY ziP k.s (slN (zc8 k.b)) x),?_⟩;conv=>whnf
   refine⟨rfl,zae ?_⟩;rw[zjK,znR,zh2,h1,h2];rfl
def zcW(b:MBox)(i:Nat):List Msg:=(List.range i).map fun j:Nat=>b.ring (atB b (j:Int)).toNat
abbrev msL(l:List Msg):List D:=l.map zgH
theorem zsn(b:MBox)(i:Nat):zcW b (i+1)=zcW b i++[b.ring (atB b (i:Int)).toNat]:=by unfold zcW;rw[zFW,zF6];rfl
theorem zzw{b:MBox}(hb:BoxOk b):zay Tryz.prog 368 [.d (zcc b)] (.d (sls ztI (msL (zcW b b.n.toNat)))):=by
 have hn0:=hb.n0;have hn1:=hb.n1;refine zat Tryz.func368 rfl (by kernel_rfl) rfl rfl rfl ?_;conv=>whnf
 refine zaM Tryz.func375 rfl (by kernel_rfl) rfl rfl ?_;conv=>whnf
 refine zfP 1 [] ztI (za4 []) rfl rfl rfl ⟨_,_,rfl⟩ (zcs rfl rfl ?_);refine zaM Tryz.func378 rfl (by kernel_rfl) rfl rfl ?_;conv=>whnf
 refine zaB zaa (fun i:Nat=>(i:Int)≤b.n) (fun i=>4 - i) (fun i=>[(6,I i)]) (fun i=>⟨[.d (zcc b),.ow 1 i (msL (zcW b i)).length ztI (za4 (msL (zcW b i))),.d (zcc b)],[i],_⟩) 0 (by simpa using hn0) ⟨rfl,trivial⟩ rfl (fun i=>⟨zF5 _,zF5 _,zF5 _⟩) ?_;intro i hi;have hl:(msL (zcW b i)).length=i:=by simp[zcW]
 conv=>whnf
 refine⟨fun hq=>?_,fun hq=>?_⟩
 ·have hlt:(i:Int)<b.n:=by simpa using hq
  conv=>whnf
  refine zad (zCf b i hb (by omega) (by omega)) ?_;conv=>whnf
  refine⟨zq9 hb (by omega) (by omega),?_⟩;conv=>whnf
  refine zct zaa rfl (by decide) ?_;conv=>whnf
  refine Or.inl ?_;conv=>whnf
  refine⟨⟨rfl,(by omega:(msL (zcW b i)).length+1≤2147483648)⟩,?_⟩;conv=>whnf
  refine⟨fun hq=>absurd hq (by simp),fun _=>?_⟩;conv=>whnf
  refine⟨zac (x:=(i:Int)+1) (by omega) (by omega),?_⟩;conv=>whnf
  refine⟨i+1,by omega,by omega,⟨rfl,trivial⟩,⟨?_,rfl⟩,rfl⟩;refine zcn (ce rfl (ce ?_ rfl)) rfl rfl;show SV.ow 1 (i+1) ((msL (zcW b i)).length+[zgH (b.ring (atB b i).toNat)].length) ztI (zdc (msL (zcW b i)).length (za4 (msL (zcW b i))) (za4 [zgH (b.ring (atB b i).toNat)]))=_;rw[zcq,zsn,show msL (zcW b i)++[zgH (b.ring (atB b i).toNat)]=msL (zcW b i++[b.ring (atB b i).toNat]) by simp]
 ·have hlt:(i:Int)=b.n:=by
   have:¬((i:Int)<b.n):=by simpa using hq
   omega
  have e:b.n.toNat=i:=by omega
  rw[e];generalize msL (zcW b i)=L at hl ⊢;conv=>whnf
  refine zaM Tryz.func376 rfl (by kernel_rfl) rfl rfl ?_;conv=>whnf
  refine⟨zac (x:=(L.length:Int)) (by omega) (by omega),?_⟩;conv=>whnf
  refine⟨zac (x:=(L.length:Int)) (by omega) (by omega),?_⟩;conv=>whnf
  refine⟨⟨zFJ 0,(by omega:(0:Int)≤(L.length:Int)),zFJ _,rfl⟩,?_⟩;conv=>whnf
  refine⟨rfl,⟨_,rfl,?_⟩,rfl⟩;have e2:zbP (za4 L) 0=za4 L:=by funext j;simp[zbP]
  show SV.le (.ow 0 0 L.length ztI (zbP (za4 L) 0)) _;rw[e2];exact zlo _ _ _ _ _
theorem zwL{b:MBox}(hb:BoxOk b):zay Tryz.prog 341 [.d (zcc b)] (T2 (.d (zcc ⟨fun _=>mz,0,0,true⟩)) (.d (sls ztI (msL (zcW b b.n.toNat))))):=by
 refine zat Tryz.func341 rfl (by kernel_rfl) rfl rfl rfl ?_;conv=>whnf
 refine zad (zzw hb) ?_;conv=>whnf
 exact⟨rfl,zae rfl⟩
theorem zqK(n:Nat)(f:Nat→D)(hn:n≤2147483648):zay Tryz.prog 347 [.d (.sl n zca f)] (.ow 0 0 n zca f):=by
 refine zat Tryz.func347 rfl (by kernel_rfl) rfl rfl rfl ?_;conv=>whnf
 refine⟨zac (x:=(n:Int)) (by omega) (by omega),?_⟩;conv=>whnf
 refine⟨zac (x:=(n:Int)) (by omega) (by omega),?_⟩;conv=>whnf
 refine⟨⟨zFJ 0,(by omega:(0:Int)≤(n:Int)),zFJ _,rfl⟩,?_⟩;conv=>whnf
 refine⟨rfl,zae ?_⟩;show SV.ow 0 0 n zca (zbP f 0)=_;rw[show zbP f 0=f from by funext j;simp[zbP]]
theorem zzu{l:List Rn}(hl:∀y∈l,zbd y)(hn:l.length≤1000)(len:Int)(r:Rn):zay Tryz.prog 320 [.d (zhf l len),.d (zar r)] (.d (zhf (l++[r]) (zaS l*32))):=by
 have hp:=zfN hl;have hP:=znh hl (by omega) len;refine zat Tryz.func320 rfl (by kernel_rfl) rfl rfl rfl ?_;conv=>whnf
 cases l with
 |nil=>
  refine zaA zaa (by kernel_rfl) [0,1,2,3,6,4,5,7,8,9,10] [(4,71),(5,64),(10,0)] (by kernel_rfl) ?_;conv=>whnf
  refine zam (zqK 0 (za4 []) (by decide)) (fun _ h=>h) ?_;conv=>whnf
  refine Or.inl ?_;conv=>whnf
  refine⟨(show _∧_ from⟨rfl,rfl⟩),?_⟩;conv=>whnf
  refine⟨(show _∧_ from⟨rfl,rfl⟩),?_⟩;conv=>whnf
  refine⟨(show _∧_ from⟨rfl,rfl⟩),?_⟩;conv=>whnf
  refine⟨by decide,.inl ?_⟩;conv=>whnf
  refine⟨(show _∧_ from⟨rfl,rfl⟩),?_⟩;conv=>whnf
  refine zam hP (fun _ h=>h) ?_;conv=>whnf
  refine⟨zac (x:=zaS []*32) (by omega) (by omega),?_⟩;conv=>whnf
  exact⟨rfl,zae rfl⟩
 |cons y l=>
  refine zaA zaa (by kernel_rfl) [0,1,2,3,6,4,5,7,8,9,10] [(4,71),(5,64),(10,0)] (by kernel_rfl) ?_;conv=>whnf
  refine zam (zqK (rnL (y::l)).length (za4 (rnL (y::l))) (by rw[zFH];omega)) (fun _ h=>h) ?_;conv=>whnf
  refine Or.inl ?_;conv=>whnf
  refine⟨(show _∧_ from⟨rfl,rfl⟩),?_⟩;conv=>whnf
  refine⟨(show _∧_ from⟨rfl,rfl⟩),?_⟩;conv=>whnf
  refine⟨(show _∧_ from⟨rfl,rfl⟩),?_⟩;conv=>whnf
  refine⟨⟨rfl,(by rw[zFH];omega:(rnL (y::l)).length+1≤2147483648)⟩,?_⟩;conv=>whnf
  refine⟨(show _∧_ from⟨rfl,rfl⟩),?_⟩;conv=>whnf
  refine zam hP (fun _ h=>h) ?_;conv=>whnf
  refine⟨zac (x:=zaS (y::l)*32) (by omega) (by omega),?_⟩;conv=>whnf
  refine⟨rfl,zae ?_⟩;show SV.d (.pr (.sl ((rnL (y::l)).length+[zar r].length) zca (zdc (rnL (y::l)).length (za4 (rnL (y::l))) (za4 [zar r]))) (.pr (.z .i64 (zaS (y::l)*32)) .un))=.d (zhf (y::l++[r]) (zaS (y::l)*32));rw[zeg,show rnL (y::l)++[zar r]=rnL (y::l++[r]) by simp,show(rnL (y::l)).length+[zar r].length=(rnL (y::l++[r])).length by simp];rfl
abbrev thr(e:Int):Out:=.pan (.ic 62 (.z .i64 e))
theorem zcG(b:Bool)(e:Int)(m:MS){K:Out→MS→Prop}(h1:b=true→K (.ret (.tu (.d .un))) m)(h2:b=false→K (thr e) m):Con Tryz.prog 98 [B b,I e] m K:=by
 refine zaM Tryz.func98 rfl (by kernel_rfl) rfl rfl ?_;conv=>whnf
 refine⟨fun hq=>?_,fun hq=>?_⟩
 ·have hb:b=false:=by simpa using hq
  conv=>whnf
  exact h2 hb
 ·have hb:b=true:=by simpa using hq
  conv=>whnf
  exact h1 hb
theorem ziG(b:Bool)(e:Int)(m:MS){K:Out→MS→Prop}(h1:b=true→K (.ret (.tu (.d .un))) m)(h2:b=false→K (thr e) m):Con Tryz.prog 367 [B b,I e] m K:=by
 refine zaM Tryz.func367 rfl (by kernel_rfl) rfl rfl ?_;conv=>whnf
 refine⟨fun hq=>?_,fun hq=>?_⟩
 ·have hb:b=false:=by simpa using hq
  conv=>whnf
  exact h2 hb
 ·have hb:b=true:=by simpa using hq
  conv=>whnf
  exact h1 hb
theorem zbO(e:Int)(m:MS){K:Out→MS→Prop}(h1:e=0→K (.ret (.tu (.d .un))) m)(h2:e≠0→K (thr e) m):Con Tryz.prog 314 [I e] m K:=by
 refine zaM Tryz.func314 rfl (by kernel_rfl) rfl rfl ?_;conv=>whnf
 refine zcG (e==0) e m (fun hb=>?_) (fun hb=>?_)
 ·conv=>whnf
  exact h1 (by simpa using hb)
 ·conv=>whnf
  exact h2 (by simpa using hb)
structure St where
 t:Tb
 o:Nat→Sd
 k:Toks
 box:Nat→MBox
 alive:Nat→Bool
 born:Nat→Bool
def zzh:Ty:=.p (.ar 4 ztI) (.p .c (.p .c (.p .c .u)))
def zgI(s:St):D:=.pr (zaU s.t) (.pr (zds s.o) (.pr (zbe s.k) .un))
def za7(s:St):D:=.pr (zgI s) (.pr (.ar 8 zzh fun i=>zcc (s.box i)) (.pr (.ar 8 .c fun i=>.bo (s.alive i)) (.pr (.ar 8 .c fun i=>.bo (s.born i)) .un)))
def zpu(s:St)(h:Int):List Int:=bif zah s.t.b h then[h]else[]
set_option maxRecDepth 100000 in
theorem zyb(s:St)(h:Int):zay Tryz.prog 254 [.d (za7 s),H h] (HS (zpu s h)):=by
 refine zat Tryz.func254 rfl (by kernel_rfl) rfl rfl rfl ?_;conv=>whnf
 refine zad (zbz s.t.b h) ?_;conv=>whnf
 refine⟨fun hq=>?_,fun hq=>?_⟩
 ·have hg:zah s.t.b h=false:=by simpa using hq
  conv=>whnf
  refine⟨rfl,⟨_,rfl,?_⟩,rfl⟩;rw[zpu,hg];exact zcO _ _ _ _
 ·have hg:zah s.t.b h=true:=by simpa using hq
  conv=>whnf
  refine Or.inl ?_;conv=>whnf
  refine⟨rfl,⟨_,rfl,?_⟩,rfl⟩;rw[zpu,hg];exact zlo _ _ _ _ _
theorem zwT(n:Nat)(x:Nat→Int)(v:Int)(hn:n≤2147483648):zay Tryz.prog 265 [.d (.sl n .c fun i=>.z .u32 (x i)),H v] (I (zmu x v n)):=by
 refine zat Tryz.func265 rfl (by kernel_rfl) rfl rfl rfl ?_;conv=>whnf
 refine⟨zac (x:=(n:Int)) (by omega) (by omega),?_⟩;conv=>whnf
 refine zaB zaa (fun i=>i≤n∧zmu x v n=zmv x v i (n - i)) (fun i=>n - i) (fun i=>[(8,I i)]) (fun _=>⟨[],[],[]⟩) 0 ⟨by omega,rfl⟩ ⟨rfl,trivial⟩ rfl (fun i=>⟨zF5 _,zF5 _,zF5 _⟩) ?_;rintro i ⟨hi,hf⟩;conv=>whnf
 refine⟨fun ht=>?_,fun ht=>?_⟩
 ·have hlt:i<n:=by
   have:(i:Int)<n:=by simpa using ht
   omega
  rw[show n - i=(n -(i+1))+1 by omega]at hf;conv=>whnf
  refine⟨⟨by omega,by omega⟩,?_⟩;conv=>whnf
  refine⟨fun h2=>?_,fun h2=>?_⟩
  ·have h2:(v==x i)=true:=h2;simp only[zmv,h2]at hf;conv=>whnf
   refine⟨rfl,zae ?_⟩;rw[hf];rfl
  ·have h2:(v==x i)=false:=h2;simp only[zmv,h2]at hf;conv=>whnf
   refine⟨zac (x:=(i:Int)+1) (by omega) (by omega),?_⟩;conv=>whnf
   exact⟨i+1,⟨hlt,hf⟩,by omega,⟨rfl,trivial⟩,⟨rfl,rfl⟩,rfl⟩
 ·have hlt:i=n:=by
   have:¬((i:Int)<n):=by simpa using ht
   omega
  subst hlt;rw[zGd]at hf;conv=>whnf
  refine⟨rfl,zae ?_⟩;rw[hf];rfl
theorem zpP(n:Nat)(x:Nat→Int)(v:Int)(hn:n≤2147483648):zay Tryz.prog 257 [.d (.sl n .c fun i=>.z .u32 (x i)),H v] (B (decide (zmu x v n≥0))):=by
 refine zat Tryz.func257 rfl (by kernel_rfl) rfl rfl rfl ?_;conv=>whnf
 refine zad (zwT n x v hn) ?_;conv=>whnf
 exact⟨rfl,zae rfl⟩
end Sx
namespace Sx
theorem zl1{P:Program}{f:FuncId}{args:List SV}{Q:Out→Prop}(ha:zaG 0 0 0 args=true)(h:Con P f args ⟨[],[],[]⟩ fun o m=>Q o∧m=⟨[],[],[]⟩){m:MS}{K:Out→MS→Prop}(hK:∀o,Q o→K o m):Con P f args m K:=
 zal (zcb m.c m.t m.o h ha rfl fun o m' hm=>by rw[hm.2];exact⟨rfl,rfl,rfl⟩) fun o m' ⟨m2,h1,h2⟩=>by rw[h2,h1.2];exact hK o h1.1
attribute [local irreducible] Con zax zan zau zai zaw zbt zak zaC zbh zba I64
structure Call where
 do_:Int
 r:Int
 s:Int
 a:Int
 b:Int
 v:Int
def zaW(c:Call):D:=.pr (.z .u8 c.do_) (.pr (.z .u32 c.r) (.pr (.z .u32 c.s) (.pr (.z .u32 c.a) (.pr (.z .u32 c.b) (.pr (.z .u64 c.v) .un)))))
def zwC(c:Call):Bool:=decide (c.b≥1)&&decide (c.b≤8)
theorem ztv(c:Call){m:MS}{K:Out→MS→Prop}(h1:zwC c=true→K (.ret (.tu (.d .un))) m)(h2:zwC c=false→K (thr 2) m):Con Tryz.prog 323 [.d (zaW c)] m K:=by
 refine zl1 (Q:=fun o=>(zwC c=true∧o=.ret (.tu (.d .un)))∨(zwC c=false∧o=thr 2)) rfl ?_ fun o h=>?_
 ·refine za3 Tryz.func323 rfl (by kernel_rfl) rfl rfl ?_;conv=>whnf
  refine zcG (zwC c) 2 _ (fun hb=>?_) (fun hb=>?_)
  ·conv=>whnf
   exact⟨rfl,.inl ⟨hb,rfl⟩,rfl⟩
  ·conv=>whnf
   exact⟨rfl,.inr ⟨hb,rfl⟩,rfl⟩
 ·rcases h with⟨hb,rfl⟩|⟨hb,rfl⟩
  ·exact h1 hb
  ·exact h2 hb
end Sx
namespace Sx
def zy8(t:Tb)(h c:Int):Bool:=(c != h)&&zpv t c h
def zCt(t:Tb)(h:Int)(r:Rg):Rg:={r with cells:=fun i=>bif Nat.blt i 8&&zy8 t h (r.cells i)then 0 else r.cells i}
def zCu(t:Tb)(h:Int)(n:Tb)(x:Int):Tb:=zdm n x (zCt t h (zaj n x))
def zru(t:Tb)(h:Int)(l:List Int):Tb:=l.foldl (zCu t h) t
def zes(t:Tb)(h:Int):Tb:=bif zah t.b h then zd1 (zru t h (zaV t h)) h 0 else t
def ztB(t:Tb)(h:Int):Int:=bif zah t.b h then zeh (zru t h (zaV t h)) h 0 else 4
def zwB(s:St)(h:Int):Bool:=!(zbW s.t h).any fun x=>decide (((hL (zaN s.k (onP x) (zcE s.k.b))).length:Int)>0)
def zsH(s:St)(h what:Int):Bool:=bif what==0 then zu9 s.k h 0 else bif what==1 then ztx s.k h 0 else bif what==2 then zwB s h else false
def zxW(s:St)(task h what t:Int):Bool:=((zcg s.k t).to_==task)&&(((what==0)&&zu9 s.k h t)||(((what==1)&&(zcg s.k t).mu)&&ztx s.k h t))
def zsi(s:St)(task h what:Int):Bool:=(zaN s.k (onP h) (zcE s.k.b)).any (zxW s task h what)
def zuN(x:Ow)(task:Int):Bool:=zaC .and .u8 (zba .u8 x.hold task) 1==1
def zli(s:St)(task h what:Int):Bool:=
 bif (ofO s.o s.t h).kind==3 then(((what==0)&&decide (task≥0))&&decide (task<8))&&zuN (ofO s.o s.t h) task
 else bif (ofO s.o s.t h).kind==1 then(((ofO s.o s.t h).task==task)&&zsH s h what)||zsi s task h what
 else false
def zf4(s:St)(task h what:Int):Int:=bif zah s.t.b h then(bif zli s task h what then 0 else 5)else 4
structure Rs where
 e:Int
 v:Int
 w:Int
def zaK(r:Rs):D:=.pr (.z .i64 r.e) (.pr (.z .u64 r.v) (.pr (.z .u32 r.w) .un))
abbrev Ex:=Except Int (St×Rs×List Rn)
def thn{α:Type}(e:Int)(k:Except Int α):Except Int α:=bif e==0 then k else .error e
def ok0(s:St):Ex:=.ok (s,⟨0,0,0⟩,[])
def no(b:Bool)(e:Int):Int:=bif b then 0 else e
def zbs(a b:Int):Int:=bif decide (b<a)then b else a
def znS(s:St)(a:Int):Int:=no (decide (a<8)&&s.alive a.toNat) 2
def zbC(t:Tb)(l:List Int):List Rn:=l.flatMap fun y=>(zaj t y).rs
def zeW(k:Toks)(l:List Int):Toks:=l.foldl (fun k y=>woK k (zaN k (onP y) (zcE k.b))) k
def goneS(s:St)(h:Int):St:={s with t:=zbv s.t (zbW s.t h),k:=zeW s.k (zbW s.t h)}
def zd4(s:St)(h:Int):List Rn:=zbC s.t (zbW s.t h)
def ztG(s:St)(h task:Int):St:={s with o:=zfv s.o s.t h task ⟨1,tkB task,0⟩}
def ztF(s:St)(task:Int)(c:Call):Ex:=
 thn (bif c.r != 0 then zf4 s task c.r 1 else 0) <| thn (zjO s.t c.r (zbs c.a 65)) <|
 bif c.r==0 then thn (zdP (zdj s.t c.r (zbs c.a 65)) (zdw s.t c.r (zbs c.a 65)) task) <| .ok (ztG {s with t:=zdj s.t c.r (zbs c.a 65)} (zdw s.t c.r (zbs c.a 65)) task,⟨0,0,zdw s.t c.r (zbs c.a 65)⟩,[])
 else .ok ({s with t:=zdj s.t c.r (zbs c.a 65)},⟨0,0,zdw s.t c.r (zbs c.a 65)⟩,[])
def zlO(s:St)(c:Call)(r:Rg):Ex:=
 thn (zfx s.t c.r {r with len:=zoc r.rs r.len (zbs c.a 129) (zbs c.b 9)}) <|
 .ok ({s with t:=zdm s.t c.r {r with len:=zoc r.rs r.len (zbs c.a 129) (zbs c.b 9)}},⟨0,IntKind.u64.wrap (zrK r.rs r.len (zbs c.a 129) (zbs c.b 9)),0⟩,[])
def zcV(r:Rg)(run:Rn):Rg:={r with rs:=r.rs++[run],len:=zaS r.rs*32}
def zdq(s:St)(task:Int)(c:Call)(run:Rn):Ex:=
 thn (no (zjQ (zbs c.a 129) (zbs c.b 9)) 2) <| thn (zf4 s task c.r 1) <| thn (no (zah s.t.b c.r) 4) <|
 bif zjD (zaj s.t c.r).rs (zaj s.t c.r).len (zbs c.a 129) (zbs c.b 9)then zlO s c (zaj s.t c.r)
 else thn (no (decide (zaS (zaj s.t c.r).rs+zbm (zbs c.a 129) (zbs c.b 9)≤(zaj s.t c.r).quota)) 6) <|
  thn (no ((run.n==zbm (zbs c.a 129) (zbs c.b 9))&&zmD (zcV (zaj s.t c.r) run).rs (zcV (zaj s.t c.r) run).len) 2) <| zlO s c (zcV (zaj s.t c.r) run)
def zh6(s:St)(task:Int)(c:Call):Except Int Int:=
 thn (no (zjQ (zbs c.a 129) (zbs c.b 9)) 2) <| thn (zf4 s task c.r 1) <| thn (no (zah s.t.b c.r) 4) <|
 bif zjD (zaj s.t c.r).rs (zaj s.t c.r).len (zbs c.a 129) (zbs c.b 9)then(match zlO s c (zaj s.t c.r)with
  | .ok _=>.ok 0
  | .error e=>.error e)
 else thn (no (decide (zaS (zaj s.t c.r).rs+zbm (zbs c.a 129) (zbs c.b 9)≤(zaj s.t c.r).quota)) 6) <| .ok (zbm (zbs c.a 129) (zbs c.b 9))
def zaE(s:St)(task:Int)(c:Call):Int:=bif c.do_==2 then(match zh6 s task c with
 | .ok n=>n
 | .error _=>0)else 0
def zjh(s:St)(c:Call):Int:=no (decide (c.a≤(zaj s.t c.r).len - c.b)) 9
def zld(s:St)(task:Int)(c:Call)(what:Int):Ex:=thn (no (zwC c) 2) <| thn (zf4 s task c.r what) <| thn (no (zah s.t.b c.r) 4) <| thn (zjh s c) <| ok0 s
def zpA(s:St)(task:Int)(c:Call):Ex:=
 thn (zf4 s task c.r 1) <| thn (no (zah s.t.b c.r) 4) <| thn (zfx s.t c.r {rg0 with quota:=(zaj s.t c.r).quota}) <|
 .ok ({s with t:=zdm s.t c.r {rg0 with quota:=(zaj s.t c.r).quota}},⟨0,0,0⟩,(zaj s.t c.r).rs)
def zkT(s:St)(task:Int)(c:Call):Ex:=thn (zf4 s task c.r 2) <| .ok (goneS s c.r,⟨0,0,0⟩,zd4 s c.r)
def zBE(s:St)(task:Int)(c:Call):Ex:=
 thn (zf4 s task c.r 2) <| thn (no (zbN s.t c.r != c.r) 12) <| thn (ztB s.t c.r) <| thn (zdP (zes s.t c.r) c.r task) <| ok0 (ztG {s with t:=zes s.t c.r} c.r task)
def zpa(s:St)(task:Int)(c:Call):Ex:=
 thn (zf4 s task c.r 2) <| thn (zf4 s task c.s 1) <| thn (grE s.t c.r c.s) <| ok0 {s with t:=grT s.t c.r c.s}
def zk2(s:St)(task:Int)(c:Call):Ex:=
 thn (zf4 s task c.r 2) <| thn (ztB s.t c.r) <| thn (zdP (zes s.t c.r) c.r task) <| ok0 {s with t:=zes s.t c.r,o:=zfv s.o (zes s.t c.r) c.r task ⟨3,0,zjB task⟩}
def ze6(s:St)(task h:Int):Int:=
 bif zah s.t.b h then(bif (zbN s.t h==h)&&((ofO s.o s.t h).kind==3)then no (zuN (ofO s.o s.t h) task) 5 else 12)else 4
def zpE(s:St)(task:Int)(c:Call):Ex:=
 thn (znS s c.a) <| thn (ze6 s task c.r) <| thn (zgh s.o s.t c.r c.a true) <| ok0 {s with o:=ze5 s.o s.t c.r c.a true}
def zci(s:St)(h task:Int):St×List Rn:=
 bif zkg (zhp s.o s.t h task false).toNat==0 then(goneS {s with o:=ze5 s.o s.t h task false} h,zd4 s h)else({s with o:=ze5 s.o s.t h task false},[])
def zuy(s:St)(task:Int)(c:Call):Ex:=
 thn (ze6 s task c.r) <| thn (zgh s.o s.t c.r task false) <| .ok ((zci s c.r task).1,⟨0,0,0⟩,(zci s c.r task).2)
def zuT(s:St)(task:Int)(c:Call):Ex:=
 thn (znS s c.a) <| thn (no (decide (c.b≤1)) 2) <| thn (no (zah s.t.b c.r) 4) <|
 thn (bif c.s==0 then no (((ofO s.o s.t c.r).kind==1)&&((ofO s.o s.t c.r).task==task)) 5 else bif zah s.k.b c.s then no (((zcg s.k c.s).to_==task)&&((zcg s.k c.s).reg==c.r)) 5 else 4) <|
 thn (zh2 s.k ⟨c.r,tkB task,tkB c.a,c.b==1,c.s⟩) <| .ok ({s with k:=zjK s.k ⟨c.r,tkB task,tkB c.a,c.b==1,c.s⟩},⟨0,0,znR s.k ⟨c.r,tkB task,tkB c.a,c.b==1,c.s⟩⟩,[])
def zdg(k:Toks)(h:Int):List Int:=zaN k (fun x=>x.above==h) (zcE k.b)
inductive TRe (k:Toks) (h:Int):Int→Prop
 |refl:TRe k h h
 |step {y x:Int}:TRe k h y→x∈zdg k y→TRe k h x
open Classical in
noncomputable def zAZ(k:Toks)(h:Int):List Int:=(zcE k.b).filter fun x=>decide (TRe k h x)
noncomputable def zim(k:Toks)(h:Int):Toks:=bif zah k.b h then woK k (zAZ k h)else k
noncomputable def zrb(s:St)(task:Int)(c:Call):Ex:=
 thn (no (zah s.k.b c.s) 4) <| thn (no ((zcg s.k c.s).to_==task) 5) <| ok0 {s with k:=zim s.k c.s}
def zcA(task:Int)(c:Call):Msg:=⟨tkB task,c.v,c.r,(c.r != 0)&&(c.b==1)⟩
def zBK(s:St)(a:Int)(b:MBox):St:={s with box:=zaq s.box a.toNat b}
def zqq(s:St)(c:Call)(m:Msg):Ex:=thn (zlP (s.box c.a.toNat)) <| ok0 (zBK s c.a (zjf (s.box c.a.toNat) m))
def zh4(s:St)(task:Int)(c:Call):Ex:=
 thn (znS s c.a) <| thn (no (decide (c.b≤1)) 2) <|
 bif (zcA task c).sh then thn (ze6 s task c.r) <| zqq (bif zgh s.o s.t c.r c.a true==0 then{s with o:=ze5 s.o s.t c.r c.a true}else s) c (zcA task c)
 else bif c.r != 0 then thn (zf4 s task c.r 2) <| thn (ztB s.t c.r) <| thn (zdP (zes s.t c.r) c.r 0) <| zqq {s with t:=zes s.t c.r,o:=zfv s.o (zes s.t c.r) c.r 0 ⟨2,0,0⟩} c (zcA task c)
 else zqq s c (zcA task c)
def zh3(s:St)(task:Int):Ex:=
 thn (zg1 (s.box task.toNat)) <|
 bif ((zbV (s.box task.toNat)).reg != 0)&&!(zbV (s.box task.toNat)).sh then
  thn (zdP s.t (zbV (s.box task.toNat)).reg task) <| .ok (ztG (zBK s task (zcu (s.box task.toNat))) (zbV (s.box task.toNat)).reg task,⟨0,(zbV (s.box task.toNat)).word,(zbV (s.box task.toNat)).reg⟩,[])
 else .ok (zBK s task (zcu (s.box task.toNat)),⟨0,(zbV (s.box task.toNat)).word,(zbV (s.box task.toNat)).reg⟩,[])
def zoL(s:St)(task:Int):Ex:=thn (bif (s.box task.toNat).cl then 11 else 0) <| ok0 (zBK s task {s.box task.toNat with cl:=true})
def znf(t:Tb)(r cell to:Int)(firm:Bool):Int:=
 bif zah t.b r&&((to==0)||zah t.b to)then(bif decide (cell≥0)&&decide (cell<8)then(bif ((to==0)||firm)||zpv t to r then zfx t r {zaj t r with cells:=zaq (zaj t r).cells cell.toNat to}else 5)else 2)else 4
def zyh(t:Tb)(r cell to:Int):Tb:=zdm t r {zaj t r with cells:=zaq (zaj t r).cells cell.toNat to}
def zAY(s:St)(task:Int)(c:Call):Ex:=
 thn (zf4 s task c.r 1) <| thn (bif c.s != 0 then zf4 s task c.s 0 else 0) <| thn (znf s.t c.r (zbs c.a 8) c.s ((ofO s.o s.t c.s).kind==3)) <| ok0 {s with t:=zyh s.t c.r (zbs c.a 8) c.s}
def zf1(t:Tb)(r cell:Int):Int:=
 bif zah t.b r then(bif decide (cell≥0)&&decide (cell<8)then(bif (zaj t r).cells cell.toNat != 0 then no (zah t.b ((zaj t r).cells cell.toNat)) 4 else 10)else 2)else 4
def zoS(s:St)(task:Int)(c:Call):Ex:=
 thn (zf4 s task c.r 0) <| thn (zf1 s.t c.r (zbs c.a 8)) <| .ok (s,⟨0,0,(zaj s.t c.r).cells (zbs c.a 8).toNat⟩,[])
def zdW(s:St)(m:Msg):Except Int (St×List Rn):=
 bif (m.reg==0)||m.sh then .ok (s,[])else bif s.alive m.frm.toNat then thn (zdP s.t m.reg m.frm) <| .ok (ztG s m.reg m.frm,[])else .ok (goneS s m.reg,zd4 s m.reg)
def zdD{α:Type}(f:St→α→Except Int (St×List Rn)):List α→St→List Rn→Except Int (St×List Rn)
 |[],s,b=>.ok (s,b)
 |x::l,s,b=>match f s x with
  | .ok (s',b')=>zdD f l s' (b++b')
  | .error e=>.error e
def zhe(s:St)(task:Int):St:={s with box:=zaq s.box task.toNat ⟨fun _=>mz,0,0,true⟩,alive:=zaq s.alive task.toNat false}
noncomputable def zbQ(s:St)(task:Int):St:={s with k:=(zaN s.k (toP task) (zcE s.k.b)).foldl zim s.k}
def ze7(s:St)(l:List Int)(b:List Rn):St×List Rn:=l.foldl (fun p h=>(goneS p.1 h,p.2++zd4 p.1 h)) (s,b)
def ze8(task:Int)(s:St)(h:Int):Except Int (St×List Rn):=thn (zgh s.o s.t h task false) <| .ok (zci s h task)
noncomputable def zet(s:St)(task:Int):Except Int (St×List Rn):=
 match zdD zdW (zcW (s.box task.toNat) (s.box task.toNat).n.toNat) (zhe s task) []with
 | .error e=>.error e
 | .ok (s1,b1)=>
  let s2:=zbQ s1 task
  let p:=ze7 s2 (za2 s2.o s2.t (zfa task) (zb6 s2.t.b)) b1
  zdD (ze8 task) (za2 p.1.o p.1.t (zeR task) (zb6 p.1.t.b)) p.1 p.2
def exX:Except Int (St×List Rn)→Ex
 | .ok (s,b)=>.ok (s,⟨0,0,0⟩,b)
 | .error e=>.error e
noncomputable def zmz(s:St)(c:Call):Ex:=thn (znS s c.a) <| exX (zet s c.a)
def zm0(s:St)(c:Call):Ex:=thn (no (decide (c.a<8)&&!s.born (c.a.tmod 8).toNat) 2) <| ok0 {s with alive:=zaq s.alive c.a.toNat true,born:=zaq s.born c.a.toNat true}
noncomputable def zbu(s:St)(task:Int)(c:Call)(run:Rn):Ex:=
 thn (no ((decide (task≥0)&&decide (task<8))&&s.alive task.toNat) 12) <|
 bif c.do_==1 then ztF s task c else bif c.do_==2 then zdq s task c run else bif c.do_==3 then zld s task c 0 else bif c.do_==4 then zld s task c 1 else
 bif c.do_==5 then zpA s task c else bif c.do_==6 then zkT s task c else bif c.do_==7 then zBE s task c else bif c.do_==8 then zpa s task c else
 bif c.do_==9 then zk2 s task c else bif c.do_==10 then zpE s task c else bif c.do_==11 then zuy s task c else bif c.do_==12 then zuT s task c else
 bif c.do_==13 then zrb s task c else bif c.do_==14 then zh4 s task c else bif c.do_==15 then zh3 s task else bif c.do_==16 then zh3 s task else
 bif c.do_==17 then zoL s task else bif c.do_==18 then zAY s task c else bif c.do_==19 then zoS s task c else bif c.do_==20 then exX (zet s task)else
 bif c.do_==21 then zmz s c else bif c.do_==22 then zm0 s c else .error 2
noncomputable def doB(s:St)(task:Int)(c:Call)(run:Rn):St×Rs×List Rn:=match zbu s task c run with
 | .ok x=>x
 | .error e=>(s,⟨e,0,0⟩,[])
end Sx
namespace Sx
variable {P:Program} {tb:TT}
def zqk(W:List Nat)(fr:List Ent):List Ent:=.kill W::fr
theorem zuU{W:List Nat}{fr:List Ent}{t:Nat}{v:SV}(h:look (zqk W fr) t=some v):t∉W∧look fr t=some v:=by
 simp only[zqk,look]at h;split at h
 ·cases h
 ·rename_i hn;refine⟨fun hm=>?_,h⟩;have:W.any (Nat.beq t)=true:=zHt.2 ⟨t,hm,by simp⟩;rw[this]at hn;cases hn
theorem ztc{ro:Ro}{bl:Bl}{fr:List Ent}{N:Nat}{a a':Act}{W:List Nat}(h:SimL ro bl [] fr N a)(hu:zdJ W a a')(hN:a'.tmps.size=N):SimL ro bl [] (zqk W fr) N a':=by
 refine⟨hN,fun t c v hl _=>?_,fun t c v hl hc=>?_⟩
 ·simp only[zbr,zGj]at hl;obtain⟨u,hu',e⟩:=hl;obtain⟨h1,h2⟩:=zuU hu';cases e;rw[hu t h1];exact h.yes t [] _ (by simp[zbr,h2]) fun _ hp=>by cases hp
 ·simp only[zbr,zGj]at hl;obtain⟨u,_,e⟩:=hl;cases e;exact absurd (fun _ hp=>by cases hp) hc
def OkW(P:Program)(N:Nat)(ir:Bool)(c:Code)(W:List Nat)(fr:List Ent)(m:MS)(K:X→List Ent→MS→Prop):Prop:=
 ∀E r nn ro bl a w,(ir=false→r=none)→Sim E ro bl fr m N a w→c.wpIn (FR r) nn P (fun e a' w'=>QK E ro bl N ir (zby c) a w K e a' w'∧∀ch,e=.panic ch→zdJ W a a') a w
theorem zmI{N:Nat}{ir:Bool}{c:Code}{W:List Nat}{fr:List Ent}{m:MS}{K:X→List Ent→MS→Prop}(h:Ok P N ir c fr m K)(hW:(zby c).all (fun t=>W.contains t)=true):OkW P N ir c W fr m K:=fun E r nn ro bl a w hr hS=>
 wpIn_mono (h E r nn ro bl a w hr hS) fun e a' w' hq=>⟨hq,fun ch _=>by
  obtain⟨_,_,_,_,_,_,_,_,_,_,_,_,_,_,hu⟩:=hq;exact hu.sub fun t ht=>by simpa using zGr.1 hW t ht⟩
theorem zAP{N:Nat}{ir:Bool}{c:Code}{W:List Nat}{fr:List Ent}{m:MS}{K:X→List Ent→MS→Prop}(h:Ok P N ir c fr m fun x fr' m'=>match x with
  | .pan _=>False
  |x=>K x fr' m'):OkW P N ir c W fr m K:=fun E r nn ro bl a w hr hS=>
 wpIn_mono (h E r nn ro bl a w hr hS) fun e a' w' hq=>by
  obtain⟨x,fr',m',ro',bl',L,h1,h2,h3⟩:=hq;have hx:∀d,x≠.pan d:=fun d e=>by subst e;exact h1
  refine⟨⟨x,fr',m',ro',bl',L,by cases x<;>first|exact h1|exact(h1:False).elim,h2,h3⟩,fun ch e=>?_⟩;subst e;cases x<;>first|exact(h2:False).elim|exact absurd rfl (hx _)
theorem zn6{N:Nat}{ir:Bool}{x y:Code}{W:List Nat}{fr:List Ent}{m:MS}{K:X→List Ent→MS→Prop}(h:OkW P N ir x W fr m fun e fr' m'=>match e with
  | .nor=>OkW P N ir y W fr' m' K
  |e=>K e fr' m')(hW:(zby x).all (fun t=>W.contains t)=true):OkW P N ir (.seq x y) W fr m K:=fun E r nn ro bl a w hr hS=>by
 have hl:∀t∈zby x,t∈zby (.seq x y):=fun t ht=>zF2.2 (.inl ht);refine wpIn_seq (wpIn_mono (h E r nn ro bl a w hr hS) ?_);rintro e a' w' ⟨hq,hp⟩;cases e with
 |normal=>
  obtain⟨u,fr',m',ro',bl',L,h1,h2,h3,h4,h5,h6,h7,h8,h9⟩:=hq;cases zgQ h2;refine wpIn_mono (h1 E r nn ro' bl' a' w' hr ⟨h4 (by simp),h3⟩) fun e a2 w2 ⟨hq,hp2⟩=>⟨?_,fun ch he=>?_⟩
  ·exact hq.next h3 h6 h7 h8 (h9.sub hl) (fun t ht=>zF2.2 (.inr ht)) fun _ _ _ h=>h
  ·exact(h9.sub fun t ht=>by simpa using zGr.1 hW t ht).trans (hp2 ch he)
 |exit id=>exact⟨hq.of hl fun x fr m ro' bl' h2 h1=>by cases zex h2;exact⟨_,h1,h2,fun h=>h⟩,fun ch he=>by cases he⟩
 |ret=>exact⟨hq.of hl fun x fr m ro' bl' h2 h1=>by cases x<;>first|exact h2.elim|exact⟨_,h1,h2,fun h=>h⟩,fun ch he=>by cases he⟩
 |goto l=>obtain⟨u,_,_,_,_,_,_,h2,_⟩:=hq;cases u<;>exact h2.elim
 |panic ch=>exact⟨hq.of hl fun x fr m ro' bl' h2 h1=>by cases x<;>first|exact h2.elim|exact⟨_,h1,h2,fun h=>h⟩,hp⟩
 |outgrown=>obtain⟨u,_,_,_,_,_,_,h2,_⟩:=hq;cases u<;>exact h2.elim
def zgr(P:Program)(g:FuncId)(args:List SV)(m:MS)(K:MS→Prop):Prop:=
 ∀E ro bl w xs,Mem E ro bl m w→za5 ro bl args xs→CallsDIn Fence.wide 0 P g xs.toArray .returning w fun e u' w'=>∃v ro' bl' m',e=.returned v∧settle u'=.returning∧Mem E ro' bl' m' w'∧Gr ro bl w ro' bl' w'∧K m'
def zhN(P:Program)(g:FuncId)(args:List SV)(d:D)(m:MS)(K:MS→Prop):Prop:=
 ∀E ro bl w xs y,Mem E ro bl m w→za5 ro bl args xs→zaX ro bl (.d d) y→CallsDIn Fence.wide 0 P g xs.toArray (.panicking [{v:=y,recovered:=false}]) w fun e u' w'=>∃v ro' bl' m',e=.returned v∧settle u'=.returning∧Mem E ro' bl' m' w'∧Gr ro bl w ro' bl' w'∧K m'
def zlR(P:Program)(N:Nat)(ops:Array Oper)(g:FuncId)(fr:List Ent)(cap:SV)(fr1:List Ent):Prop:=
 ∀ro bl a w (Q:Exit→Act→World→Prop),SimL ro bl [] fr N a→(∀a' fv zjC dargs xs,a'.defers={target:=.fn fv zjC,args:=dargs}::a.defers→(∀w,(invoke (.fn fv zjC) dargs).run P w=(callFunc g xs.toArray).run P w)→za5 ro bl [cap] xs→SimL ro bl [] fr1 N a'→Q .normal a' w)→
  wpOpsIn Fence.wide 0 P ops Q (List.range ops.size) a w
end Sx
end Go.Proofs.YtfbhkfhbnkncoaaGreatDoor
