import Derived.Test.YtfbhkfhbnkncoaaGreatDoorT21
set_option linter.all false
namespace Go.Proofs.YtfbhkfhbnkncoaaGreatDoor
open Go.RowKit
namespace Sx
attribute [local irreducible] Con zax zau zai zaw zbt zaC zbh zba I64
structure Tk where
 reg:Int
 by_:Int
 to_:Int
 mu:Bool
 above:Int
def ziP(k:Tk):D:=.pr (.z .u32 k.reg) (.pr (.z .u8 k.by_) (.pr (.z .u8 k.to_) (.pr (.bo k.mu) (.pr (.z .u32 k.above) .un))))
def tTk:Ty:=.p .c (.p .c (.p .c (.p .c (.p .c .u))))
structure Toks where
 b:zc7
 s:Nat→Tk
def zbe(k:Toks):D:=.pr (zbp k.b) (.pr (.ar 16 tTk fun i=>ziP (k.s i)) .un)
def ziy(k:Toks):Prop:=∀i,16≤i→(k.b i).iss=false
theorem ziy.lt{k:Toks}(h:ziy k){x:Int}(hg:zah k.b x=true):0≤slX x∧slX x<16:=by
 refine⟨(zc5 x).1,?_⟩;rcases zGc (slN x) 16 with h1|h1
 ·have:=(zc5 x).1;unfold slN at h1;omega
 ·have:=h _ h1;unfold zah at hg;rw[this]at hg;simp at hg
def tk0:Tk:=⟨0,0,0,false,0⟩
def zcg(k:Toks)(x:Int):Tk:=bif zah k.b x then k.s (slN x)else tk0
theorem zgw(k:Toks)(x:Int)(h:ziy k):zay Tryz.prog 168 [.d (zbe k),H x] (T2 (.d (ziP (zcg k x))) (I (bif zah k.b x then 0 else 4))):=by
 refine zat Tryz.func168 rfl (by kernel_rfl) rfl rfl rfl ?_;conv=>whnf
 refine zad (zbz k.b x) ?_;conv=>whnf
 refine⟨fun ht=>?_,fun ht=>?_⟩
 ·have hg:zah k.b x=false:=by simpa using ht
  conv=>whnf
  refine⟨rfl,zae ?_⟩;rw[zcg,hg];rfl
 ·have hg:zah k.b x=true:=by simpa using ht
  conv=>whnf
  refine zad (zeC x) ?_;conv=>whnf
  refine⟨h.lt hg,?_⟩;conv=>whnf
  refine⟨rfl,zae ?_⟩;rw[zcg,hg];rfl
def zhm(k:Toks)(x:Int):Bool:=(x==0)||zah k.b x
theorem znH(k:Toks)(x:Int):zay Tryz.prog 88 [.d (zbe k),H x] (B (zhm k x)):=by
 refine zat Tryz.func88 rfl (by kernel_rfl) rfl rfl rfl ?_;conv=>whnf
 refine zam (zbz k.b x) (fun _ h _=>h) ?_;conv=>whnf
 exact⟨rfl,zae rfl⟩
theorem zwF(b:MBox):zay Tryz.prog 338 [.d (zcc b)] (T2 (.d (zcc {b with cl:=true})) (I (bif b.cl then 11 else 0))):=by
 refine zat Tryz.func338 rfl (by kernel_rfl) rfl rfl rfl ?_;conv=>whnf
 refine⟨fun h1=>?_,fun h1=>?_⟩
 ·have h1:b.cl=true:=h1;conv=>whnf
  refine⟨rfl,zae ?_⟩;obtain⟨r,f,n,c⟩:=b;subst h1;rfl
 ·have h1:b.cl=false:=h1;conv=>whnf
  refine⟨rfl,zae ?_⟩;rw[h1];rfl
structure Line where
 has:Int
 n:Int
 wait:Nat→Int
def zqs:Ty:=.p .c (.p .c (.p (.ar 8 .c) .u))
def zbq(l:Line):D:=.pr (.z .u8 l.has) (.pr (.z .i64 l.n) (.pr (.ar 8 .c fun i=>.z .u8 (l.wait i)) .un))
def za8(m:Nat→Line):D:=.pr (.ar 32 zqs fun i=>zbq (m i)) .un
theorem znX{s t:Int}(h:zmC s t=true):(0≤s∧s<32)∧0≤t∧t<8:=by unfold zmC at h;simp at h;omega
def zzb(m:Nat→Line)(s t:Int):Bool:=zmC s t&&((m s.toNat).has==t+1)
def zjI(m:Nat→Line)(s t:Int):Nat→Line:=bif zzb m s t then zaq m s.toNat {m s.toNat with has:=0}else m
theorem zzq(m:Nat→Line)(s t:Int):zay Tryz.prog 198 [.d (za8 m),I s,I t] (.d (za8 (zjI m s t))):=by
 refine zat Tryz.func198 rfl (by kernel_rfl) rfl rfl rfl ?_;conv=>whnf
 refine zad (zss s t) ?_;conv=>whnf
 refine⟨?_,?_⟩
 ·conv=>whnf
  intro h;exact(znX h).1
 conv=>whnf
 refine⟨?_,?_⟩
 ·conv=>whnf
  intro h;have:=(znX h).2;exact zac (x:=t+1) (by omega) (by omega)
 conv=>whnf
 refine⟨fun h1=>?_,fun h1=>?_⟩
 ·have h1:zzb m s t=true:=h1;conv=>whnf
  refine⟨(znX (by unfold zzb at h1;simp at h1;exact h1.1)).1,?_⟩;conv=>whnf
  refine⟨.d (za8 (zaq m s.toNat {m s.toNat with has:=0})),congrArg (fun f=>SV.d (.pr (.ar 32 zqs f) .un)) (zaY zbq m s.toNat {m s.toNat with has:=0}),?_⟩;conv=>whnf
  refine⟨rfl,zae ?_⟩;rw[zjI,h1];rfl
 ·have h1:zzb m s t=false:=h1;conv=>whnf
  refine⟨rfl,zae ?_⟩;rw[zjI,h1];rfl
def zmv(x:Nat→Int)(v:Int)(i:Nat):Nat→Int
 |0=> -1
 |k+1=>bif v==x i then i else zmv x v (i+1) k
def zmu(x:Nat→Int)(v:Int)(n:Nat):Int:=zmv x v 0 n
theorem zwU(n:Nat)(x:Nat→Int)(v:Int)(hn:n≤2147483648):zay Tryz.prog 377 [.d (.sl n .c fun i=>.z .i64 (x i)),I v] (I (zmu x v n)):=by
 refine zat Tryz.func377 rfl (by kernel_rfl) rfl rfl rfl ?_;conv=>whnf
 refine⟨zac (x:=(n:Int)) (by omega) (by omega),?_⟩;conv=>whnf
 refine zaB zaa (fun i=>i≤n∧zmu x v n=zmv x v i (n - i)) (fun i=>n - i) (fun i=>[(8,I i)]) (fun _=>⟨[],[],[]⟩) 0 ⟨by omega,rfl⟩ ⟨rfl,trivial⟩ rfl (fun i=>⟨zF5 _,zF5 _,zF5 _⟩) ?_;rintro i ⟨hi,hf⟩;conv=>whnf
 refine⟨fun ht=>?_,fun ht=>?_⟩
 ·have hlt:i<n:=by
   have:(i:Int)<n:=by simpa using ht
   omega
  rw[show n - i=(n -(i+1))+1 by omega]at hf;conv=>whnf
  refine⟨⟨by omega,by omega⟩,?_⟩;conv=>whnf
  refine⟨fun h2=>?_,fun h2=>?_⟩
  ·have h2:(v==x i)=true:=h2;simp only[zmv,h2]at hf;conv=>whnf
   refine⟨rfl,zae ?_⟩;rw[hf];rfl
  ·have h2:(v==x i)=false:=h2;simp only[zmv,h2]at hf;conv=>whnf
   refine⟨zac (x:=(i:Int)+1) (by omega) (by omega),?_⟩;conv=>whnf
   exact⟨i+1,⟨hlt,hf⟩,by omega,⟨rfl,trivial⟩,⟨rfl,rfl⟩,rfl⟩
 ·have hlt:i=n:=by
   have:¬((i:Int)<n):=by simpa using ht
   omega
  subst hlt;rw[zGd]at hf;conv=>whnf
  refine⟨rfl,zae ?_⟩;rw[hf];rfl
theorem zpQ(n:Nat)(x:Nat→Int)(v:Int)(hn:n≤2147483648):zay Tryz.prog 370 [.d (.sl n .c fun i=>.z .i64 (x i)),I v] (B (decide (zmu x v n≥0))):=by
 refine zat Tryz.func370 rfl (by kernel_rfl) rfl rfl rfl ?_;conv=>whnf
 refine zad (zwU n x v hn) ?_;conv=>whnf
 exact⟨rfl,zae rfl⟩
def zBA(a:Int):Bool:=decide (zmu (fun i=>[1,2,4,8].getD i 0) a 4≥0)
def zjQ(s a:Int):Bool:=(decide (s≥1)&&decide (s≤128))&&zBA a
theorem zxE:(SV.ow 0 0 4 .c (za4 [.z .i64 1,.z .i64 2,.z .i64 4,.z .i64 8])).le (.d (.sl 4 .c fun i=>.z .i64 (([1,2,4,8]:List Int).getD i 0))):=fun ro bl y h=>by
 refine⟨(fun h=>by cases h),fun _=>?_⟩;exact((h.dat (d:=.sl 4 .c (za4 [.z .i64 1,.z .i64 2,.z .i64 4,.z .i64 8])) rfl).sl).congr fun i hi=>by
  match i,hi with
  |0,_=>rfl
  |1,_=>rfl
  |2,_=>rfl
  |3,_=>rfl
theorem zps(s a:Int):zay Tryz.prog 345 [I s,I a] (B (zjQ s a)):=by
 refine zat Tryz.func345 rfl (by kernel_rfl) rfl rfl rfl ?_;conv=>whnf
 refine zam ((zpQ 4 _ a (by decide)).le ⟨zxE,SV.le_refl _,trivial⟩) (fun _ h _=>h) ?_;conv=>whnf
 exact⟨rfl,zae rfl⟩
def zbm(s a:Int):Int:=bif zjQ s a then IntKind.i64.wrap ((s+32 - 1).tdiv 32)else 0
theorem zwX(s a:Int):zay Tryz.prog 316 [I s,I a] (T2 (I (zbm s a)) (B (zjQ s a))):=by
 refine zat Tryz.func316 rfl (by kernel_rfl) rfl rfl rfl ?_;conv=>whnf
 refine zad (zps s a) ?_;conv=>whnf
 refine⟨fun h1=>?_,fun h1=>?_⟩
 ·have h1:zjQ s a=false:=by simpa using h1
  conv=>whnf
  refine⟨rfl,zae ?_⟩;rw[zbm,h1];rfl
 ·have h1:zjQ s a=true:=by simpa using h1
  have hb:s≥1∧s≤128:=by unfold zjQ at h1;simp at h1;exact h1.1
  conv=>whnf
  refine⟨zac (x:=s+32) (by omega) (by omega),?_⟩;conv=>whnf
  refine⟨zac (x:=s+32 - 1) (by omega) (by omega),?_⟩;conv=>whnf
  refine⟨(by decide:(32:Int)≠0),?_⟩;conv=>whnf
  refine⟨rfl,zae ?_⟩;rw[zbm,h1];rfl
end Sx
namespace Sx
attribute [local irreducible] Con zax zan zau zai zaw zbt zak zaC zbh zba I64
def zlC(t:Tb):Nat→Int→Int
 |0,x=>x
 |k+1,x=>bif upT t x==0 then x else zlC t k (upT t x)
def zbN(t:Tb)(h:Int):Int:=bif zah t.b h then zlC t 40 h else 0
theorem zwM(t:Tb)(h:Int)(hg:zah t.b h=true):zay Tryz.prog 43 [.d (zaU t),H h] (T2 (.d (zdX {t.r (slN h)with up:=upT t h})) (I 0)):=by
 have:=zlS t h
 rwa [zaj,hg]at this
theorem zjv{t:Tb}{x:Int}(h:upT t x≠0):zah t.b (upT t x)=true:=by
 unfold upT at h ⊢;cases hg:zah t.b (t.r (slN x)).up with
 |true=>exact hg
 |false=>rw[hg]at h;exact absurd rfl h
theorem zhO(t:Tb)(h:Int){rk:Int→Nat}(hr:Rk t rk):zay Tryz.prog 84 [.d (zaU t),H h] (H (zbN t h)):=by
 refine zat Tryz.func84 rfl (by kernel_rfl) rfl rfl rfl ?_;conv=>whnf
 refine zad (zbz t.b h) ?_;conv=>whnf
 refine⟨fun ht=>?_,fun ht=>?_⟩
 ·have hg:zah t.b h=false:=by simpa using ht
  conv=>whnf
  refine⟨rfl,zae ?_⟩;rw[zbN,hg];rfl
 ·have hg:zah t.b h=true:=by simpa using ht
  conv=>whnf
  refine zaM Tryz.func169 rfl (by kernel_rfl) rfl rfl ?_;conv=>whnf
  refine zcs rfl rfl ?_;refine zaM Tryz.func222 rfl (by kernel_rfl) rfl rfl ?_;conv=>whnf
  refine zaB zaa (fun(i:Nat×Int)=>zbN t h=zlC t i.1 i.2∧rk i.2<i.1∧zah t.b i.2=true) (fun i=>i.1) (fun _=>[]) (fun i=>⟨[.d (zaU t),H i.2,.d (zaU t),H i.2],[],_⟩) (40,h) ⟨by rw[zbN,hg];rfl,hr.le h,hg⟩ trivial rfl (fun i=>⟨zF5 _,zF5 _,zF5 _⟩) ?_;rintro⟨k,x⟩ ⟨hi,hk,hgx⟩;conv=>whnf
  refine zad (zwM t x hgx) ?_;conv=>whnf
  obtain⟨k,rfl⟩:∃k',k=k'+1:=⟨k - 1,by simp at hk;omega⟩;refine⟨fun hq=>?_,fun hq=>⟨B false,?_⟩⟩
  ·have hu:upT t x≠0:=by simpa using hq
   conv=>whnf
   refine zct zaa rfl (by decide) ?_;conv=>whnf
   refine⟨fun hq=>absurd (show((0:Int) != 0||upT t x==0||!true)=true from hq) (by simp[hu]),fun _=>?_⟩;conv=>whnf
   have hlt:=hr.lt x hu;refine⟨(k,upT t x),⟨?_,by simp at hk ⊢;omega,zjv hu⟩,zF9 k,trivial,⟨rfl,rfl⟩,rfl⟩;simp only[zlC]at hi;rw[hi,show(upT t x==0)=false by simpa using hu];rfl
  ·have hu:upT t x=0:=by simpa using hq
   conv=>whnf
   refine⟨fun _=>?_,fun hq=>absurd (show((0:Int) != 0||upT t x==0||!false)=false from hq) (by simp)⟩;conv=>whnf
   refine⟨rfl,zae ?_⟩;simp only[zlC]at hi;rw[hi,show(upT t x==0)=true by simpa using hu];rfl
def zvX(t:Tb):Nat→Int→Nat
 |0,_=>0
 |k+1,x=>bif upT t x==0 then 0 else zvX t k (upT t x)+1
def zeQ(t:Tb)(h:Int):Int:=bif zah t.b h then(zvX t 40 h:Int)+1 else 0
theorem zky(t:Tb)(h:Int){rk:Int→Nat}(hr:Rk t rk):zay Tryz.prog 343 [.d (zaU t),H h] (I (zeQ t h)):=by
 refine zat Tryz.func343 rfl (by kernel_rfl) rfl rfl rfl ?_;conv=>whnf
 refine zad (zbz t.b h) ?_;conv=>whnf
 refine⟨fun ht=>?_,fun ht=>?_⟩
 ·have hg:zah t.b h=false:=by simpa using ht
  conv=>whnf
  refine⟨rfl,zae ?_⟩;rw[zeQ,hg];rfl
 ·have hg:zah t.b h=true:=by simpa using ht
  conv=>whnf
  refine zaM Tryz.func169 rfl (by kernel_rfl) rfl rfl ?_;conv=>whnf
  refine zcs rfl rfl ?_;refine zaM Tryz.func222 rfl (by kernel_rfl) rfl rfl ?_;conv=>whnf
  refine zaB zaa (fun(i:Nat×Int×Nat)=>zeQ t h=(i.2.2:Int)+zvX t i.1 i.2.1∧(rk i.2.1<i.1∧zah t.b i.2.1=true)∧i.2.2+i.1≤41) (fun i=>i.1) (fun _=>[]) (fun i=>⟨[.d (zaU t),I i.2.2,.d (zaU t),H i.2.1],[],_⟩) (40,h,1) ⟨by rw[zeQ,hg];simp only[zHH];omega,⟨hr.le h,hg⟩,zF5 41⟩ trivial rfl (fun i=>⟨zF5 _,zF5 _,zF5 _⟩) ?_;rintro⟨k,x,n⟩ ⟨hi,⟨hk,hgx⟩,hn⟩;simp only at hi hk hgx hn;conv=>whnf
  refine zad (zwM t x hgx) ?_;conv=>whnf
  obtain⟨k,rfl⟩:∃k',k=k'+1:=⟨k - 1,by omega⟩;simp only[zvX]at hi;refine⟨fun hq=>?_,fun hq=>⟨B false,?_⟩⟩
  ·have hu:upT t x≠0:=by simpa using hq
   rw[show(upT t x==0)=false by simpa using hu]at hi;simp only[zHJ]at hi;conv=>whnf
   refine zct zaa rfl (by decide) ?_;conv=>whnf
   refine⟨zac (x:=(n:Int)+1) (by omega) (by omega),?_⟩;conv=>whnf
   refine⟨fun hq=>absurd (show((0:Int) != 0||upT t x==0||!true)=true from hq) (by simp[hu]),fun _=>?_⟩;conv=>whnf
   have hlt:=hr.lt x hu;exact⟨(k,upT t x,n+1),⟨by simp only;omega,⟨by simp only;omega,zjv hu⟩,by simp only;omega⟩,zF9 k,trivial,⟨rfl,rfl⟩,rfl⟩
  ·have hu:upT t x=0:=by simpa using hq
   rw[show(upT t x==0)=true by simpa using hu]at hi;simp only[zHH]at hi;conv=>whnf
   refine⟨fun _=>?_,fun hq=>absurd (show((0:Int) != 0||upT t x==0||!false)=false from hq) (by simp)⟩;conv=>whnf
   refine⟨rfl,zae ?_⟩;rw[hi];simp;rfl
def zze(t:Tb)(a:Int):Nat→Int→Bool
 |0,_=>false
 |k+1,x=>bif upT t x==0 then false else(upT t x==a)||zze t a k (upT t x)
def zpv(t:Tb)(a b:Int):Bool:=(zah t.b a&&zah t.b b)&&((a==b)||zze t a 40 b)
theorem zg8(t:Tb)(a h:Int){rk:Int→Nat}(hr:Rk t rk):zay Tryz.prog 352 [.d (zaU t),H a,H h] (B (zpv t a h)):=by
 refine zat Tryz.func352 rfl (by kernel_rfl) rfl rfl rfl ?_;conv=>whnf
 refine zad (zbz t.b a) ?_;conv=>whnf
 refine zam (zbz t.b h) (fun _ h _=>h) ?_;conv=>whnf
 refine⟨fun ht=>?_,fun ht=>?_⟩
 ·have hg:(zah t.b a&&zah t.b h)=false:=by
   have:(!zah t.b a||!zah t.b h)=true:=ht
   revert this;cases zah t.b a<;>cases zah t.b h<;>simp
  conv=>whnf
  refine⟨rfl,zae ?_⟩;rw[zpv,hg];rfl
 ·have hg:(zah t.b a&&zah t.b h)=true:=by
   have:(!zah t.b a||!zah t.b h)=false:=ht
   revert this;cases zah t.b a<;>cases zah t.b h<;>simp
  have hgh:zah t.b h=true:=by cases zah t.b a<;>simp_all
  conv=>whnf
  refine zaM Tryz.func169 rfl (by kernel_rfl) rfl rfl ?_;conv=>whnf
  refine zcs rfl rfl ?_;refine zaM Tryz.func222 rfl (by kernel_rfl) rfl rfl ?_;conv=>whnf
  refine zaB zaa (fun(i:Nat×Int×Bool)=>zpv t a h=(i.2.2||zze t a i.1 i.2.1)∧(rk i.2.1<i.1∧zah t.b i.2.1=true)) (fun i=>i.1) (fun _=>[]) (fun i=>⟨[.d (zaU t),H a,B i.2.2,.d (zaU t),H i.2.1],[],_⟩) (40,h,a==h) ⟨by rw[zpv,hg];rfl,hr.le h,hgh⟩ trivial rfl (fun i=>⟨zF5 _,zF5 _,zF5 _⟩) ?_;rintro⟨k,x,v⟩ ⟨hi,hk,hgx⟩;simp only at hi hk hgx;conv=>whnf
  refine zad (zwM t x hgx) ?_;conv=>whnf
  obtain⟨k,rfl⟩:∃k',k=k'+1:=⟨k - 1,by omega⟩;simp only[zze]at hi;refine⟨fun hq=>?_,fun hq=>⟨B false,?_⟩⟩
  ·have hu:upT t x≠0:=by simpa using hq
   rw[show(upT t x==0)=false by simpa using hu]at hi;simp only[zHJ]at hi;conv=>whnf
   refine zct zaa rfl (by decide) ?_;conv=>whnf
   refine⟨fun hq=>absurd (show((0:Int) != 0||upT t x==0||!true)=true from hq) (by simp[hu]),fun _=>?_⟩;conv=>whnf
   have hlt:=hr.lt x hu;exact⟨(k,upT t x,v||upT t x==a),⟨by rw[hi,zIW],by simp only;omega,zjv hu⟩,zF9 k,trivial,⟨rfl,rfl⟩,rfl⟩
  ·have hu:upT t x=0:=by simpa using hq
   rw[show(upT t x==0)=true by simpa using hu]at hi;simp only[zHH]at hi;conv=>whnf
   refine⟨fun _=>?_,fun hq=>absurd (show((0:Int) != 0||upT t x==0||!false)=false from hq) (by simp)⟩;conv=>whnf
   refine⟨rfl,zae ?_⟩;rw[hi];simp;rfl
def zqo(x:Nat→Int)(n k:Nat):Nat→Int:=fun i=>if(i<k∨n - k≤i)∧i<n then x (n - 1 - i)else x i
theorem zsX{x:Nat→Int}{n k:Nat}(h:k+1<n - k):zaq (zaq (fun i=>hD (zqo x n k i)) k (hD (x (n - 1 - k)))) (n - 1 - k) (hD (x k))=fun i=>hD (zqo x n (k+1) i):=by
 funext i
 unfold zaq zqo;by_cases h1:i=n - 1 - k
 ·subst h1;rw[if_pos rfl,if_pos (by omega),show n - 1 -(n - 1 - k)=k by omega]
 ·rw[if_neg h1];by_cases h2:i=k
  ·subst h2;rw[if_pos rfl,if_pos (by omega)]
  ·rw[if_neg h2];by_cases h3:(i<k∨n - k≤i)∧i<n
   ·show hD (ite _ _ _)=_;rw[if_pos h3,if_pos (by omega)]
   ·show hD (ite _ _ _)=_;rw[if_neg h3,if_neg (by omega)]
theorem zq0(c:List SV)(t:List Nat)(o0 o1:Ob)(v n:Nat)(x:Nat→Int)(hn:n≤2147483648):Con Tryz.prog 227 [.ob (.mr 2 v)] ⟨c,t,[o0,o1,.row v n .c fun i=>hD (x i)]⟩ fun out m'=>out=.ret (.tu (.d .un))∧m'=⟨c,t,[o0,o1,.row v n .c fun i=>hD (if i<n then x (n - 1 - i)else x i)]⟩:=by
 refine zaM Tryz.func227 rfl (by kernel_rfl) rfl rfl ?_;conv=>whnf
 refine⟨⟨rfl,zac (x:=(n:Int)) (by omega) (by omega)⟩,?_⟩;conv=>whnf
 refine⟨zac (x:=(n:Int) - 1) (by omega) (by omega),?_⟩;conv=>whnf
 refine zed zaa (fun k=>k=0∨k≤n - k) (fun k=>n - k) (fun k=>[(2,I k),(3,I ((n:Int) - 1 - k))]) (fun k=>⟨c,t,[o0,o1,.row v n .c fun i=>hD (zqo x n k i)]⟩) 0 (.inl rfl) ⟨rfl,by show some (I ((n:Int) - 1))=some (I ((n:Int) - 1 -(0:Nat)));simp,trivial⟩ (by
  show(⟨c,t,_⟩:MS)=_
  congr;funext i;unfold zqo;rw[if_neg (by omega)]) (fun k=>⟨zF5 _,zF5 _,zF5 _⟩) ?_
 intro k hk;conv=>whnf
 refine⟨fun ht=>?_,fun ht=>?_⟩
 ·have hlt:k+1<n - k:=by
   have:(k:Int)<(n:Int) - 1 - k:=by simpa using ht
   omega
  have e0:((n:Int) - 1 - k).toNat=n - 1 - k:=by omega
  have f0:zqo x n k k=x k:=by unfold zqo;rw[if_neg (by omega)]
  have f1:zqo x n k (n - 1 - k)=x (n - 1 - k):=by unfold zqo;rw[if_neg (by omega)]
  conv=>whnf
  refine zaA zaa (by kernel_rfl) (List.range 16) [(13,12),(15,0)] (by kernel_rfl) ?_;conv=>whnf
  refine⟨⟨rfl,by omega,by omega⟩,?_⟩;conv=>whnf
  refine⟨⟨rfl,by omega⟩,?_⟩;conv=>whnf
  refine⟨⟨rfl,by omega,by omega⟩,?_⟩;conv=>whnf
  refine⟨⟨rfl,by omega⟩,?_⟩;conv=>whnf
  refine⟨⟨rfl,by omega,by omega⟩,?_⟩;conv=>whnf
  refine⟨⟨rfl,by omega⟩,_,rfl,?_⟩;conv=>whnf
  refine⟨⟨rfl,by omega,by omega⟩,?_⟩;conv=>whnf
  refine⟨⟨rfl,by omega⟩,fun i=>hD (zqo x n (k+1) i),?_,?_⟩
  ·rw[←zsX hlt,e0];show zaq (zaq _ k (hD (zqo x n k (n - 1 - k)))) (n - 1 - k) (hD (zqo x n k k))=_;rw[f0,f1]
  conv=>whnf
  refine⟨zac (x:=(k:Int)+1) (by omega) (by omega),?_⟩;conv=>whnf
  refine⟨zac (x:=(n:Int) - 1 - k - 1) (by omega) (by omega),?_⟩;conv=>whnf
  refine⟨k+1,.inr (by omega),by omega,⟨rfl,?_,trivial⟩,.inl rfl⟩;show some (I ((n:Int) - 1 - k - 1))=some (I ((n:Int) - 1 -(k+1:Nat)));rw[show(n:Int) - 1 - k - 1=(n:Int) - 1 -(k+1:Nat) by omega]
 ·have hge:n≤2*k+1:=by
   have:¬((k:Int)<(n:Int) - 1 - k):=by simpa using ht
   omega
  conv=>whnf
  refine⟨rfl,?_⟩;show(⟨c,t,_⟩:MS)=_
  congr;funext i
  unfold zqo;by_cases h1:(i<k∨n - k≤i)∧i<n
  ·rw[if_pos h1,if_pos h1.2]
  ·rw[if_neg h1];split
   ·congr;omega
   ·rfl
end Sx
namespace Sx
theorem zj6{P:Program}{f:FuncId}{args:List SV}{n:Nat}{t:Ty}{F:Nat→D}(h:Con P f args ⟨[],[],[]⟩ fun o m=>∃v f',(o=.ret (.ob (.mr 0 v))∧m=⟨[],[],[.row v n t f']⟩)∧∀i,i<n→f' i=F i):zfc P f args n t F:=by
 refine⟨h.1,fun E ro bl w xs hM hA=>(h.2 E ro bl w xs hM hA).mono ?_⟩;rintro e w' ⟨ro',bl',m',out,h1,h2,h3,v,f',⟨rfl,rfl⟩,hf⟩;obtain⟨b,c,hR⟩:=h1.row_is (id:=0) (v:=v) (n:=n) (t:=t) (f:=f') rfl;obtain⟨hM',hG'⟩:=h1.oturn (y':=.row v b n c t.size) (x':=.row v n t F) (w':=w') hR.bo (BO.le_refl _) (fun b hb=>.inl hb) rfl rfl rfl (zF5 _) (fun _ _ _=>rfl) (fun hl=>zcK hR.nc hR.nil fun k hk=>by
  obtain⟨h0,cells,ty,g1,g2,g3⟩:=hR.blk k hk;exact⟨h0,cells,ty,g1,g2,fun i hi=>by rw[←hf i hi];exact g3 i hi⟩)
 rw[zfr hR.bo]at hM' hG';exact⟨ro',bl',_,_,hM',h2.trans hG',h3,v,rfl,rfl⟩
theorem zfc.fn{P:Program}{f:FuncId}{args:List SV}{n:Nat}{t:Ty}{F F':Nat→D}(h:zfc P f args n t F)(hF:∀i,i<n→F i=F' i):zfc P f args n t F':=
 zj6 (zal h fun _ _ ⟨v,h1,h2⟩=>⟨v,F,⟨h1,h2⟩,hF⟩)
attribute [local irreducible] Con zax zan zau zai zaw zbt zak zaC zbh zba I64
def zdd(t:Tb)(h x:Int):Bool:=(zaj t x).up != h
abbrev zDo:SV:=.pr (.pt 0 []) (.pr (.pt 1 []) (.d .un))
theorem zqR(t:Tb)(h x:Int)(v n:Nat)(f:Nat→D):Con Tryz.prog 250 [H x,.pt 0 [],.pt 1 []] ⟨[.d (zaU t),H h],[],[.row v n .c f]⟩ fun o m'=>o=.ret (B (zdd t h x))∧m'=⟨[.d (zaU t),H h],[],[.row v n .c f]⟩:=by
 refine za3 Tryz.func250 rfl (by kernel_rfl) rfl rfl ?_;conv=>whnf
 refine zad (zlS t x) ?_;conv=>whnf
 exact⟨rfl,rfl,rfl⟩
def zqA(p:Int→Bool)(x:Nat→Int)(i:Nat):Nat→Int
 |0=> -1
 |k+1=>bif p (x i)then i else zqA p x (i+1) k
theorem zqT(t:Tb)(h:Int)(v n:Nat)(x:Nat→Int)(hn:n≤2147483648):Con Tryz.prog 221 [.ob (.mr 0 v),.fn (.func 250) zDo] ⟨[.d (zaU t),H h],[],[.row v n .c fun i=>hD (x i)]⟩ fun o m'=>o=.ret (I (zqA (zdd t h) x 0 n))∧m'=⟨[.d (zaU t),H h],[],[.row v n .c fun i=>hD (x i)]⟩:=by
 refine za3 Tryz.func221 rfl (by kernel_rfl) rfl rfl ?_;conv=>whnf
 refine⟨⟨rfl,zac (x:=(n:Int)) (by omega) (by omega)⟩,?_⟩;conv=>whnf
 refine zaB zaa (fun i=>i≤n∧zqA (zdd t h) x 0 n=zqA (zdd t h) x i (n - i)) (fun i=>n - i) (fun i=>[(8,I i)]) (fun _=>⟨[.d (zaU t),H h],[],[.row v n .c fun i=>hD (x i)]⟩) 0 ⟨by omega,rfl⟩ ⟨rfl,trivial⟩ rfl (fun i=>⟨zF5 _,zF5 _,zF5 _⟩) ?_;rintro i ⟨hi,hf⟩;conv=>whnf
 refine⟨fun ht=>?_,fun ht=>?_⟩
 ·have hlt:i<n:=by
   have:(i:Int)<n:=by simpa using ht
   omega
  rw[show n - i=(n -(i+1))+1 by omega]at hf;simp only[zqA]at hf;conv=>whnf
  refine⟨⟨rfl,by omega,by omega⟩,?_⟩;conv=>whnf
  refine⟨⟨rfl,by omega⟩,?_⟩;conv=>whnf
  refine zbk (zqR t h (x i) v n _) ?_;conv=>whnf
  refine⟨fun h2=>?_,fun h2=>?_⟩
  ·have h2:zdd t h (x i)=true:=h2;rw[h2]at hf;conv=>whnf
   exact⟨rfl,by rw[hf];rfl,rfl⟩
  ·have h2:zdd t h (x i)=false:=h2;rw[h2]at hf;conv=>whnf
   refine⟨zac (x:=(i:Int)+1) (by omega) (by omega),?_⟩;conv=>whnf
   exact⟨i+1,⟨hlt,hf⟩,by omega,⟨rfl,trivial⟩,⟨rfl,rfl⟩,rfl⟩
 ·have hlt:i=n:=by
   have:¬((i:Int)<n):=by simpa using ht
   omega
  subst hlt;rw[zGd]at hf;conv=>whnf
  exact⟨rfl,by rw[hf];rfl,rfl⟩
theorem zmk{p:Int→Bool}{x:Nat→Int}:∀{k i:Nat},zqA p x i k= -1→∀j,i≤j→j<i+k→p (x j)=false
 |0,i,_,j,h1,h2=>by omega
 |k+1,i,h,j,h1,h2=>by
  unfold zqA at h;cases hp:p (x i)with
  |true=>rw[hp]at h;simp only[zHH]at h;omega
  |false=>
   rw[hp]at h;rcases zGc i j with h3|h3
   ·exact zmk (k:=k) (i:=i+1) h j h3 (by omega)
   ·rw[show j=i by omega];exact hp
theorem zml{p:Int→Bool}{x:Nat→Int}:∀{k i:Nat},zqA p x i k≠ -1→∃r:Nat,zqA p x i k=r∧i≤r∧r<i+k∧p (x r)=true∧∀j,i≤j→j<r→p (x j)=false
 |0,i,h=>absurd rfl h
 |k+1,i,h=>by
  unfold zqA at h ⊢;cases hp:p (x i)with
  |true=>exact⟨i,rfl,zF5 _,by omega,hp,fun j h1 h2=>by omega⟩
  |false=>
   rw[hp]at h;obtain⟨r,h1,h2,h3,h4,h5⟩:=zml (k:=k) (i:=i+1) h;refine⟨r,h1,by omega,by omega,h4,fun j h6 h7=>?_⟩;rcases zGc i j with h8|h8
   ·exact h5 j h8 h7
   ·rw[show j=i by omega];exact hp
theorem zhh{p:Int→Bool}{x:Nat→Int}:∀{n:Nat},(∀j,j<n→p (x j)=false)→((List.range n).map x).filter (fun y=>!p y)=(List.range n).map x
 |0,_=>rfl
 |n+1,h=>by rw[zFW,zF6,zHR,zhh (n:=n) (fun j hj=>h j (by omega))];simp[h n (by omega)]
theorem zmH{y:Nat→Int}{L:List Int}{k:Nat}(h:(List.range k).map y=L){i:Nat}(hi:i<k):za4 (hL L) i=hD (y i):=by subst h;rw[zc3 hD 0 (by simpa using hi)];simp[zG9,hi]
def zqf(t:Tb)(h:Int)(x:Nat→Int)(n:Nat):List Int:=((List.range n).map x).filter fun y=>!zdd t h y
theorem zqS(t:Tb)(h:Int)(v n:Nat)(x:Nat→Int)(hn:n≤2147483648):Con Tryz.prog 249 [.ob (.mr 0 v),.fn (.func 250) zDo] ⟨[.d (zaU t),H h],[],[.row v n .c fun i=>hD (x i)]⟩ fun o m'=>∃v' f',o=.ret (.ob (.mr 0 v'))∧m'=⟨[.d (zaU t),H h],[],[.row v' (zqf t h x n).length .c f']⟩∧∀i,i<(zqf t h x n).length→f' i=za4 (hL (zqf t h x n)) i:=by
 refine za3 Tryz.func249 rfl (by kernel_rfl) rfl rfl ?_;conv=>whnf
 refine zbk (zqT t h v n x hn) ?_;conv=>whnf
 refine⟨fun ht=>?_,fun ht=>?_⟩
 ·have hm:zqA (zdd t h) x 0 n= -1:=by simpa using ht
  have hk:zqf t h x n=(List.range n).map x:=zhh fun j hj=>zmk hm j (zFV _) (by omega);conv=>whnf
  refine⟨rfl,v,fun i=>hD (x i),rfl,?_,fun i hi=>?_⟩
  ·rw[hk,zFH,zGx];rfl
  ·rw[hk]at hi ⊢;exact(zmH rfl (by simpa using hi)).symm
 ·have hm:zqA (zdd t h) x 0 n≠ -1:=by simpa using ht
  obtain⟨r,e,_,h1,h2,h3⟩:=zml hm;rw[e];conv=>whnf
  refine⟨zac (x:=(r:Int)+1) (by omega) (by omega),?_⟩;conv=>whnf
  refine zaB zaa (fun(s:Nat×Nat×(Nat→Int))=>(s.2.1<s.1∧s.1≤n)∧(List.range s.2.1).map s.2.2=zqf t h x s.1∧∀k,s.1≤k→s.2.2 k=x k) (fun s=>n - s.1) (fun s=>[(5,I s.2.1),(6,I s.1)]) (fun s=>⟨[.d (zaU t),H h],[],[.row v n .c fun i=>hD (s.2.2 i)]⟩) (r+1,r,x) ⟨⟨zF9 _,by simp only;omega⟩,?_,fun _ _=>rfl⟩ ⟨rfl,rfl,trivial⟩ rfl (fun i=>⟨zF5 _,zF5 _,zF5 _⟩) ?_
  ·show(List.range r).map x=zqf t h x (r+1);unfold zqf;rw[zFW,zF6,zHR,zhh (fun j hj=>h3 j (zFV _) hj)];simp[h2]
  rintro⟨j,i,y⟩ ⟨⟨hij,hj⟩,hk,hy⟩;simp only at hij hj hk hy;conv=>whnf
  refine⟨⟨rfl,zac (x:=(n:Int)) (by omega) (by omega)⟩,?_⟩;conv=>whnf
  refine⟨fun ht=>?_,fun ht=>?_⟩
  ·have hlt:j<n:=by
    have:(j:Int)<n:=by simpa using ht
    omega
   have hstep:zqf t h x (j+1)=zqf t h x j++(if zdd t h (x j)then[]else[x j]):=by unfold zqf;rw[zFW,zF6,zHR];cases hb:zdd t h (x j)<;>simp[hb]
   have hyj:y j=x j:=hy j (zF5 _);conv=>whnf
   refine⟨⟨rfl,by omega,by omega⟩,?_⟩;conv=>whnf
   refine⟨⟨rfl,by omega⟩,?_⟩;conv=>whnf
   refine zbk (zqR t h (y j) v n _) ?_;conv=>whnf
   refine⟨fun h2=>?_,fun h2=>?_⟩
   ·have h2:zdd t h (x j)=false:=by have:(!zdd t h (y j))=true:=h2;rw[hyj]at this;simpa using this
    conv=>whnf
    refine⟨⟨rfl,(by omega:(0:Int)≤(i:Int)),(by omega:(i:Int)<(n:Int))⟩,?_⟩;conv=>whnf
    refine⟨⟨rfl,(by omega:(i:Int).toNat<n)⟩,fun k=>hD (zaq y i (x j) k),?_,?_⟩
    ·show zaq (fun i=>hD (y i)) i (hD (y j))=_;rw[hyj];exact zaY hD y i (x j)
    conv=>whnf
    refine⟨zac (x:=(i:Int)+1) (by omega) (by omega),?_⟩;conv=>whnf
    refine⟨zac (x:=(j:Int)+1) (by omega) (by omega),?_⟩;conv=>whnf
    refine⟨(j+1,i+1,zaq y i (x j)),⟨⟨by simp only;omega,hlt⟩,?_,fun k hk'=>?_⟩,by simp only;omega,⟨rfl,rfl,trivial⟩,⟨rfl,rfl⟩,rfl⟩
    ·simp only;rw[hstep,h2,←hk,zFW,zF6]
     congr 1
     ·refine zGS fun k hk'=>?_;have:=zF1.1 hk';unfold zaq;rw[if_neg (by omega)]
     ·simp[zaq]
    ·simp only at hk' ⊢;unfold zaq;rw[if_neg (by omega)];exact hy k (by omega)
   ·have h2:zdd t h (x j)=true:=by have:(!zdd t h (y j))=false:=h2;rw[hyj]at this;simpa using this
    conv=>whnf
    refine⟨zac (x:=(j:Int)+1) (by omega) (by omega),?_⟩;conv=>whnf
    refine⟨(j+1,i,y),⟨⟨by simp only;omega,hlt⟩,?_,fun k hk'=>hy k (by simp only at hk';omega)⟩,by simp only;omega,⟨rfl,rfl,trivial⟩,⟨rfl,rfl⟩,rfl⟩;simp only;rw[hstep,h2,hk];simp
  ·have hlt:j=n:=by
    have:¬((j:Int)<n):=by simpa using ht
    omega
   subst hlt;have hlen:(zqf t h x j).length=i:=by rw[←hk];simp
   conv=>whnf
   refine⟨⟨rfl,(by omega:(0:Int)≤(i:Int)),(by omega:(i:Int)≤(j:Int))⟩,?_⟩;conv=>whnf
   refine⟨rfl,?_⟩;conv=>whnf
   refine⟨⟨rfl,(by omega:(0:Int)≤(i:Int)),(by omega:(i:Int)≤(j:Int))⟩,?_⟩;conv=>whnf
   refine⟨rfl,v+1,znv i (j - i) (fun _=>.z .u32 0) (fun i=>hD (y i)),rfl,?_,fun k hk'=>?_⟩
   ·rw[hlen];rfl
   ·rw[hlen]at hk';rw[zmH hk hk'];unfold znv;rw[show Nat.ble i k=false from by cases hb:Nat.ble i k with
     |false=>rfl
     |true=>have:=zFG hb;omega]
    rfl
end Sx
namespace Sx
attribute [local irreducible] Con zax zan zau zai zaw zbt zak zaC zbh zba I64
def zcz(t:Tb)(h:Int):List Int:=(zb6 t.b).filter fun y=>!zdd t h y
theorem zcd{b:zc7}{h:Int}(hg:zah b h=true):slN h<32∧(b (slN h)).iss=true:=by have h1:=zc5 h;refine⟨by unfold slN;omega,?_⟩;unfold zah at hg;simp at hg;exact hg.2.2.1
theorem zxK{b:zc7}{h:Int}(hg:zah b h=true):zij b (slN h:Int)=false:=by obtain⟨h1,h2⟩:=zcd hg;unfold zij;simp only[zFC,h2];simp;omega
theorem zv5{b:zc7}{i:Nat}(h:zij b i=false):∀{n:Nat},i<n→zh1 b n≠[]
 |n+1,hi,e=>by
  simp only[zh1,List.append_eq_nil_iff]at e;rcases zGc i n with h1|h1
  ·exact zv5 h h1 e.1
  ·have:i=n:=by omega
   subst this;rw[h]at e;simp at e
theorem zzJ{b:zc7}{h:Int}(hg:zah b h=true):zb6 b≠[]:=by unfold zb6;rw[zhr];exact zv5 (zxK hg) (zcd hg).1
theorem zem(b:zc7):(zb6 b).length≤32:=by have:=zsd b 32;unfold zb6;rw[zhr];simpa using this
theorem zBZ(b:zc7)(hne:zb6 b≠[]):zfc Tryz.prog 19 [.d (.pr (zbp b) .un)] (zb6 b).length .c fun i=>hD ((zb6 b).getD i 0):=by
 have h:=zzk b;cases hl:zb6 b with
 |nil=>exact absurd hl hne
 |cons x r=>
  rw[hl]at h;have h2:zfc Tryz.prog 19 [.d (.pr (zbp b) .un)] (x::r).length .c (za4 (hL (x::r))):=by
   have:(hL (x::r)).length=(x::r).length:=by simp
   rw[←this];exact h
  exact h2.fn fun i hi=>zc3 hD 0 hi
theorem zuV(l:List Int):(List.range l.length).map (fun i=>l.getD i 0)=l:=by
 apply List.ext_getElem
 ·simp
 ·intro i h1 h2;simp[zG9,h2]
theorem zzv(t:Tb)(h:Int)(hg:zah t.b h=true):zfc Tryz.prog 226 [.d (zaU t),H h] (zcz t h).length .c (za4 (hL (zcz t h))):=by
 have hk:zqf t h (fun i=>(zb6 t.b).getD i 0) (zb6 t.b).length=zcz t h:=by unfold zqf zcz;rw[zuV]
 have hn:(zb6 t.b).length≤2147483648:=zFU (zem t.b) (by decide);have hd:=fun v=>zqS t h v (zb6 t.b).length (fun i=>(zb6 t.b).getD i 0) hn;rw[hk]at hd;refine zj6 ?_;refine zeb 0 0 1 ⟨zF5 _,zF5 _,zFV _⟩ (zaM Tryz.func226 rfl (by kernel_rfl) rfl rfl ?_);conv=>whnf
 refine zad (zbz t.b h) ?_;conv=>whnf
 refine⟨fun ht=>absurd (show(!zah t.b h)=true from ht) (by simp[hg]),fun _=>?_⟩;conv=>whnf
 refine zk3 rfl (zBZ t.b (zzJ hg)) _ _ fun v=>?_;conv=>whnf
 refine zal (hd v) ?_;rintro o m' ⟨v',f',rfl,rfl,hf⟩;conv=>whnf
 exact⟨_,SV.le_refl _,rfl,v',f',⟨rfl,rfl⟩,hf⟩
end Sx
namespace Sx
def U32(h:Int):Prop:=0≤h∧h<4294967296
theorem zw8{h:Int}(hu:U32 h):zaC .and .u32 h 255=h % 256:=by
 obtain⟨n,rfl⟩:∃n:Nat,h=n:=⟨h.toNat,by have:=hu.1;omega⟩;obtain⟨_,h2⟩:=hu;unfold zaC;have e:(BitVec.ofInt IntKind.u32.bits (n:Int)&&& BitVec.ofInt IntKind.u32.bits 255).toNat=n % 256:=by
  show(BitVec.ofInt 32 (n:Int)&&& BitVec.ofInt 32 255).toNat=_;rw[zGb];have h1:(BitVec.ofInt 32 (n:Int)).toNat=n:=by rw[BitVec.toNat_ofInt];omega
  have h3:(BitVec.ofInt 32 255).toNat=255:=by decide
  rw[h1,h3];exact Nat.and_two_pow_sub_one_eq_mod n 8
 simp only[e];rw[zcC (zbL (by simp only[zcB];omega) (fun _=>by omega) (by simp only[zcB];omega))];omega
theorem zyt(h:Int):zba .u32 h 8=h / 256:=by unfold zba;show h.fdiv (2 ^(min (8:Int).toNat 32))=_;rw[zIt _ (by decide)];rfl
theorem zte{h:Int}(hu:U32 h):slI h=h % 256 - 1:=by unfold slI;rw[zw8 hu]
theorem ztd{h:Int}(hu:U32 h):slB h=(decide (h % 256=0)||decide (h % 256>32)||decide (h / 256>8388607)):=by
 unfold slB;rw[zte hu,zyt]
 congr 1
 congr 1<;>(rw[decide_eq_decide];omega)
def zlK(b:zc7):Prop:=∀i,i<32→0≤(b i).gen∧(b i).gen≤8388607
theorem zr0{i g:Int}(hi:0≤i∧i<32)(hg:0≤g∧g≤8388607):hOf i g=g*256+i+1:=by
 unfold hOf;have w:∀{x:Int},0≤x→x≤4294967295→IntKind.u32.wrap x=x:=fun h1 h2=>zcC (zbL (by simp only[zcB];omega) (fun _=>h1) (by simp only[zcB];omega));have e:zbh .u32 g 8=g*256:=by unfold zbh;show IntKind.u32.wrap (g*2 ^(min (8:Int).toNat 32))=_;rw[show(2:Int) ^(min (8:Int).toNat 32)=256 from rfl,w (by omega) (by omega)]
 rw[e,w (x:=i) (by omega) (by omega),w (x:=g*256+i) (by omega) (by omega),w (x:=g*256+i+1) (by omega) (by omega)]
theorem ziU{i g:Int}(hi:0≤i∧i<32)(hg:0≤g∧g≤8388607):U32 (hOf i g):=by rw[zr0 hi hg];constructor<;>omega
theorem zrX{b:zc7}{h:Int}(hu:U32 h)(hg:zah b h=true):h=hOf (slN h) (b (slN h)).gen∧(b (slN h)).ret=false:=by
 unfold zah at hg;simp only[zFR,zGC,zGG]at hg;obtain⟨hs,h1,h2,h3⟩:=hg;have hx:slX h=slI h:=by unfold slX;rw[hs];rfl
 have h4:=zc5 h;have h5:((slN h:Nat):Int)=h % 256 - 1:=by unfold slN;rw[hx,zte hu]at*;omega
 rw[ztd hu]at hs;simp only[zFM,zFO]at hs;rw[zyt]at h1;refine⟨?_,h3⟩;have h0:=hu.1;rw[h1,h5,zr0 (by omega) (by omega)];omega
theorem zhE{i:Nat}{g:Int}(hi:i<32)(hg:0≤g∧g≤8388607):slN (hOf i g)=i∧slB (hOf i g)=false∧zba .u32 (hOf i g) 8=g:=by
 have hu:=ziU (i:=(i:Int)) ⟨by omega,by omega⟩ hg;have he:=zr0 (i:=(i:Int)) ⟨by omega,by omega⟩ hg;have hb:slB (hOf i g)=false:=by rw[ztd hu,he];simp only[zFM,zFO];omega
 refine⟨?_,hb,?_⟩
 ·unfold slN slX;rw[hb];simp only[zHJ];rw[zte hu,he];omega
 ·rw[zyt,he];omega
def zg7(b:zc7):Prop:=∀i,i<32→(b i).iss=true→(b i).ret=false
theorem znP{b:zc7}{x:Int}:∀{n:Nat},x∈zh1 b n↔∃i:Nat,i<n∧zij b i=false∧x=hOf i (b i).gen
 |0=>by simp[zh1]
 |n+1=>by
  simp only[zh1,zF2];rw[znP];constructor
  ·rintro(⟨i,h1,h2⟩|h)
   ·exact⟨i,by omega,h2⟩
   ·cases hn:zij b n with
    |true=>rw[hn]at h;simp at h
    |false=>rw[hn]at h;simp at h;exact⟨n,by omega,hn,h⟩
  ·rintro⟨i,h1,h2,h3⟩;rcases zGc i n with h4|h4
   ·exact .inl ⟨i,h4,h2,h3⟩
   ·have:i=n:=by omega
    subst this
    right;rw[h2];simp[h3]
theorem znj{b:zc7}{x:Int}:x∈zb6 b↔∃i:Nat,i<32∧zij b i=false∧x=hOf i (b i).gen:=by unfold zb6;rw[zhr];exact znP
theorem zik{b:zc7}{i:Nat}(hi:i<32):zij b i=!(b i).iss:=by unfold zij;rw[show decide ((i:Int)<0)=false by simp,show decide ((i:Int)≥32)=false by simp;omega];simp
theorem zcX{b:zc7}(h1:zlK b)(h2:zg7 b){x:Int}:x∈zb6 b↔U32 x∧zah b x=true:=by
 rw[znj];constructor
 ·rintro⟨i,hi,hn,rfl⟩;rw[zik hi]at hn;have hiss:(b i).iss=true:=by simpa using hn
  obtain⟨e1,e2,e3⟩:=zhE hi (h1 i hi);refine⟨ziU ⟨by omega,by omega⟩ (h1 i hi),?_⟩;unfold zah;rw[e1,e2,e3,hiss,h2 i hi hiss];simp
 ·rintro⟨hu,hg⟩;obtain⟨hlt,hiss⟩:=zcd hg;exact⟨slN x,hlt,by rw[zik hlt,hiss];rfl,(zrX hu hg).1⟩
theorem zmx{b:zc7}(h1:zlK b):∀{n:Nat},n≤32→(zh1 b n).Nodup
 |0,_=>by simp[zh1]
 |n+1,hn=>by
  simp only[zh1];refine zHO.2 ⟨zmx h1 (by omega),?_,?_⟩
  ·cases zij b n<;>simp
  ·intro x hx y hy e;subst e;obtain⟨i,hi,_,hxe⟩:=znP.1 hx;cases hna:zij b n with
   |true=>rw[hna]at hy;simp at hy
   |false=>
    rw[hna]at hy;simp at hy;have a:=(zhE (i:=i) (by omega) (h1 i (by omega))).1;have c:=(zhE (i:=n) (by omega) (h1 n (by omega))).1;rw[←hxe]at a;rw[←hy]at c;omega
theorem ziB{b:zc7}(h1:zlK b):(zb6 b).Nodup:=by unfold zb6;rw[zhr];exact zmx h1 (zF5 _)
end Sx
end Go.Proofs.YtfbhkfhbnkncoaaGreatDoor
