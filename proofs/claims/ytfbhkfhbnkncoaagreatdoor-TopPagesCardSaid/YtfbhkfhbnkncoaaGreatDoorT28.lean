import Derived.Test.YtfbhkfhbnkncoaaGreatDoorT27
set_option linter.all false
namespace Go.Proofs.YtfbhkfhbnkncoaaGreatDoor
open Go.RowKit
namespace Sx
def zfE(L:List (List Rn)):Nat→Nat
 |0=>0
 |i+1=>zfE L i+(L.getD i []).length
def cF(L:List (List Rn)):Nat→Nat→D
 |0=>za4 []
 |i+1=>zdc (zfE L i) (cF L i) (rF (L.getD i []))
attribute [local irreducible] Con zax zan zau zai zaw zbt zak zaC zbh zba I64
abbrev LLa(L:List (List Rn)):SV:=.d (.sl L.length .c fun i=>RS (L.getD i []))
theorem ztQ(L:List (List Rn))(hL:L.length≤10)(h0:∀i,i≤L.length→zfE L i≤1000)(hT:0<zfE L L.length):zfc Tryz.prog 267 [LLa L] (zfE L L.length) zca (cF L L.length):=by
 refine zeb 0 0 1 ⟨zF5 _,zF5 _,zFV _⟩ (zaM Tryz.func267 rfl (by kernel_rfl) rfl rfl ?_);conv=>whnf
 refine⟨zac (x:=(L.length:Int)) (by omega) (by omega),?_⟩;conv=>whnf
 refine zaB zaa (fun i=>i≤L.length) (fun i=>L.length - i) (fun i=>[(3,I (zfE L i)),(11,I i)]) (fun _=>⟨[],[],[]⟩) 0 (zFV _) ⟨rfl,rfl,trivial⟩ rfl (fun i=>⟨zF5 _,zF5 _,zF5 _⟩) ?_;intro i hi;conv=>whnf
 refine⟨fun hq=>?_,fun hq=>?_⟩
 ·have hlt:i<L.length:=by
   have:(i:Int)<L.length:=by simpa using hq
   omega
  have hc:=h0 (i+1) hlt;simp only[zfE]at hc;conv=>whnf
  refine⟨⟨(by omega:(0:Int)≤(i:Int)),(by omega:(i:Int)<(L.length:Int))⟩,?_⟩;conv=>whnf
  refine⟨zac (x:=((L.getD i []).length:Int)) (by omega) (by omega),?_⟩;conv=>whnf
  refine⟨zac (x:=(zfE L i:Int)+((L.getD i []).length:Int)) (by omega) (by omega),?_⟩;conv=>whnf
  refine⟨fun hq=>?_,fun _=>?_⟩
  ·have:(zfE L i:Int)+((L.getD i []).length:Int)<0:=by simpa using hq
   omega
  ·conv=>whnf
   refine⟨zac (x:=(i:Int)+1) (by omega) (by omega),?_⟩;conv=>whnf
   exact⟨i+1,hlt,by omega,⟨by simp only[zfE];rfl,rfl,trivial⟩,⟨rfl,rfl⟩,rfl⟩
 ·have hlt:i=L.length:=by
   have:¬((i:Int)<L.length):=by simpa using hq
   omega
  subst hlt;have hm:=h0 L.length (zF5 _);conv=>whnf
  refine zaM Tryz.func268 rfl (by kernel_rfl) rfl rfl ?_;conv=>whnf
  refine⟨fun hq=>?_,fun _=>?_⟩
  ·have:(zfE L L.length:Int)<0:=by simpa using hq
   omega
  ·conv=>whnf
   refine⟨zac (x:=0) (by decide) (by decide),?_⟩;conv=>whnf
   refine⟨zac (x:=0) (by decide) (by decide),?_⟩;conv=>whnf
   refine⟨zac (x:=0) (by decide) (by decide),?_⟩;conv=>whnf
   refine⟨zac (x:=(zfE L L.length:Int) - 0) (by omega) (by omega),?_⟩;conv=>whnf
   refine⟨fun _=>?_,fun hq=>?_⟩
   ·conv=>whnf
    refine⟨zac (x:=0) (by decide) (by decide),?_⟩;conv=>whnf
    refine⟨rfl,?_⟩;conv=>whnf
    refine⟨(by omega:0<(zfE L L.length:Int) - 0∧(zfE L L.length:Int) - 0≤2147483648),?_⟩;conv=>whnf
    refine⟨zac (x:=0) (by decide) (by decide),?_⟩;conv=>whnf
    refine⟨⟨rfl,(zFJ 0),(by omega:(0:Int)≤((((zfE L L.length:Int) - 0).toNat:Nat):Int))⟩,?_⟩;conv=>whnf
    refine⟨zac (x:=(L.length:Int)) (by omega) (by omega),?_⟩;conv=>whnf
    refine zmA 0 (za4 []) rfl (fun i hi=>absurd hi (zIn _)) ?_;refine zaB zaa (fun i=>i≤L.length) (fun i=>L.length - i) (fun i=>[(6,.ob (.mr 0 (1+i))),(27,I i)]) (fun i=>⟨[],[],[.row (1+i) (zfE L i) zca (cF L i)]⟩) 0 (zFV _) ⟨rfl,rfl,trivial⟩ rfl (fun i=>⟨zF5 _,zF5 _,zF5 _⟩) ?_;intro i hi;conv=>whnf
    refine⟨fun hq=>?_,fun hq=>?_⟩
    ·have hlt:i<L.length:=by
      have:(i:Int)<L.length:=by simpa using hq
      omega
     have hc:=h0 (i+1) hlt;simp only[zfE]at hc;conv=>whnf
     refine⟨⟨(by omega:(0:Int)≤(i:Int)),(by omega:(i:Int)<(L.length:Int))⟩,?_⟩;conv=>whnf
     refine⟨⟨rfl,(by omega:zfE L i+(L.getD i []).length≤2147483648)⟩,?_⟩;conv=>whnf
     refine⟨zac (x:=(i:Int)+1) (by omega) (by omega),?_⟩;conv=>whnf
     exact⟨i+1,hlt,by omega,⟨rfl,rfl,trivial⟩,⟨rfl,rfl⟩,rfl⟩
    ·have hlt:i=L.length:=by
      have:¬((i:Int)<L.length):=by simpa using hq
      omega
     subst hlt;conv=>whnf
     exact⟨_,SV.le_refl _,rfl,_,rfl,rfl⟩
   ·have:¬(0<(zfE L L.length:Int) - 0):=by simpa using hq
    omega
theorem ztR(L:List (List Rn))(hL:L.length≤10)(hT:∀i,i≤L.length→zfE L i=0):zay Tryz.prog 267 [LLa L] (.d (.sl 0 zca (za4 []))):=by
 refine zat Tryz.func267 rfl (by kernel_rfl) rfl rfl rfl ?_;conv=>whnf
 refine⟨zac (x:=(L.length:Int)) (by omega) (by omega),?_⟩;conv=>whnf
 refine zaB zaa (fun i=>i≤L.length) (fun i=>L.length - i) (fun i=>[(3,I 0),(11,I i)]) (fun _=>⟨[],[],[]⟩) 0 (zFV _) ⟨rfl,rfl,trivial⟩ rfl (fun i=>⟨zF5 _,zF5 _,zF5 _⟩) ?_;intro i hi;conv=>whnf
 refine⟨fun hq=>?_,fun hq=>?_⟩
 ·have hlt:i<L.length:=by
   have:(i:Int)<L.length:=by simpa using hq
   omega
  have hc:=hT (i+1) hlt;simp only[zfE]at hc;have hz:L.getD i []=[]:=zHp.1 (by omega);conv=>whnf
  refine⟨⟨(by omega:(0:Int)≤(i:Int)),(by omega:(i:Int)<(L.length:Int))⟩,?_⟩;conv=>whnf
  refine⟨zac (x:=((L.getD i []).length:Int)) (by omega) (by omega),?_⟩;conv=>whnf
  refine⟨zac (x:=(0:Int)+((L.getD i []).length:Int)) (by omega) (by omega),?_⟩;conv=>whnf
  refine⟨fun hq=>?_,fun _=>?_⟩
  ·have:(0:Int)+((L.getD i []).length:Int)<0:=by simpa using hq
   omega
  ·conv=>whnf
   refine⟨zac (x:=(i:Int)+1) (by omega) (by omega),?_⟩;conv=>whnf
   refine⟨i+1,hlt,by omega,⟨?_,rfl,trivial⟩,⟨rfl,rfl⟩,rfl⟩;show some (I (0+((L.getD i []).length:Int)))=some (I 0);rw[hz];rfl
 ·have hlt:i=L.length:=by
   have:¬((i:Int)<L.length):=by simpa using hq
   omega
  subst hlt;conv=>whnf
  refine zaM Tryz.func268 rfl (by kernel_rfl) rfl rfl ?_;conv=>whnf
  refine⟨(fun hq=>by cases hq),fun _=>?_⟩;conv=>whnf
  refine⟨zac (x:=0) (by decide) (by decide),?_⟩;conv=>whnf
  refine⟨zac (x:=0) (by decide) (by decide),?_⟩;conv=>whnf
  refine⟨zac (x:=0) (by decide) (by decide),?_⟩;conv=>whnf
  refine⟨zac (x:=0) (by decide) (by decide),?_⟩;conv=>whnf
  refine⟨(fun hq=>by cases hq),fun _=>?_⟩;conv=>whnf
  refine⟨zac (x:=(L.length:Int)) (by omega) (by omega),?_⟩;conv=>whnf
  refine zcJ 6 zca (za4 []) rfl ?_;refine zaB zaa (fun i=>i≤L.length) (fun i=>L.length - i) (fun i=>[(6,.ow 1 i 0 zca (cF L i)),(27,I i)]) (fun i=>⟨[],[i],[]⟩) 0 (zFV _) ⟨rfl,rfl,trivial⟩ rfl (fun i=>⟨zF5 _,zF5 _,zF5 _⟩) ?_;intro i hi;conv=>whnf
  refine⟨fun hq=>?_,fun hq=>?_⟩
  ·have hlt:i<L.length:=by
    have:(i:Int)<L.length:=by simpa using hq
    omega
   have hc:=hT (i+1) hlt;simp only[zfE]at hc;have hz:L.getD i []=[]:=zHp.1 (by omega);conv=>whnf
   refine⟨⟨(by omega:(0:Int)≤(i:Int)),(by omega:(i:Int)<(L.length:Int))⟩,?_⟩;conv=>whnf
   refine⟨⟨rfl,(by omega:0+(L.getD i []).length≤2147483648)⟩,?_⟩;conv=>whnf
   refine⟨zac (x:=(i:Int)+1) (by omega) (by omega),?_⟩;conv=>whnf
   refine⟨i+1,hlt,by omega,⟨?_,rfl,trivial⟩,⟨rfl,rfl⟩,rfl⟩;show some (SV.ow 1 (i+1) (0+(L.getD i []).length) zca (zdc 0 (cF L i) (rF (L.getD i []))))=some (SV.ow 1 (i+1) 0 zca (cF L (i+1)));rw[show cF L (i+1)=zdc 0 (cF L i) (rF (L.getD i [])) by rw[cF,hT i hi],hz];rfl
  ·have hlt:i=L.length:=by
    have:¬((i:Int)<L.length):=by simpa using hq
    omega
   subst hlt;conv=>whnf
   exact⟨rfl,⟨_,rfl,fun ro bl x h=>⟨(fun h=>by cases h),fun _=>zbg.sl_any ((h.dat (d:=.sl 0 zca (cF L L.length)) rfl).sl)⟩⟩,rfl⟩
theorem ziE(L:List (List Rn)):∀i,i≤L.length→zfE L i=(L.take i).flatten.length∧∀j,j<zfE L i→cF L i j=za4 (rnL (L.take i).flatten) j
 |0,_=>⟨rfl,fun j hj=>absurd hj (zIn _)⟩
 |i+1,hi=>
  by
  obtain⟨h1,h2⟩:=ziE L i (by omega);have e:(L.take (i+1)).flatten=(L.take i).flatten++L.getD i []:=by rw[zHb,List.flatten_append,zHa (by omega),zG9,zHa (by omega)];simp
  refine⟨by rw[zfE,e,zFY,h1],fun j hj=>?_⟩;rw[e,cF];unfold zdc;rw[show rnL ((L.take i).flatten++L.getD i [])=rnL (L.take i).flatten++rnL (L.getD i []) from zF6,←zeg];unfold zdc;rw[show(rnL (L.take i).flatten).length=zfE L i by rw[zFH,h1]];cases hb:Nat.blt j (zfE L i)with
  |true=>exact h2 j (by simpa using hb)
  |false=>
   have:¬j<zfE L i:=fun h=>
    by
     have h':Nat.blt j (zfE L i)=true:=by simpa using h
     rw[h']at hb;cases hb
   simp only[zfE]at hj;show zar ((L.getD i []).getD (j - zfE L i) rn0)=_;exact(zc3 zar rn0 (by omega)).symm
theorem ztS(L:List (List Rn))(hL:L.length≤10)(hn:L.flatten.length≤1000):zay Tryz.prog 267 [LLa L] (.d (sls zca (rnL L.flatten))):=by
 have hle:∀i,i≤L.length→zfE L i≤L.flatten.length:=fun i hi=>by
  rw[(ziE L i hi).1];have:L.flatten=(L.take i).flatten++(L.drop i).flatten:=by rw[←List.flatten_append,zG1]
  rw[this,zFY];omega
 have hT:=ziE L L.length (zF5 _);rw[zHe]at hT;rcases zHq (zfE L L.length)with h0|h0
 ·have hf:L.flatten=[]:=zHp.1 (by rw[←hT.1,h0]);rw[hf];exact ztR L hL fun i hi=>by have:=hle i hi;rw[hf]at this;simpa using this
 ·refine(zgT rfl (ztQ L hL (fun i hi=>zFU (hle i hi) hn) h0)).out ?_;intro ro bl x h;refine⟨(fun h=>by cases h),fun _=>?_⟩;have:=h.2 rfl;have e:(rnL L.flatten).length=zfE L L.length:=by rw[zFH,hT.1]
  show zbg ro (.sl (rnL L.flatten).length zca (za4 (rnL L.flatten))) [x];rw[e];exact zbg.congr this fun i hi=>(hT.2 i hi).symm
end Sx
namespace Sx
attribute [local irreducible] Con zax zan zau zai zaw zbt zak zaC zbh zba I64
def zc9(y x:Rn):List Rn:=(bif decide (x.at_>y.at_)then[⟨y.at_,x.at_ - y.at_⟩]else[])++(bif decide (x.at_+x.n<y.at_+y.n)then[⟨x.at_+x.n,y.at_+y.n -(x.at_+x.n)⟩]else[])
def zjr(l:List Rn)(x:Rn):Option (List Rn):=
 bif zqD x then(bif decide (zhC (fun y=>zcl y x) l 0<0)then none
  else some (l.take (zhC (fun y=>zcl y x) l 0).toNat++zc9 (l.getD (zhC (fun y=>zcl y x) l 0).toNat rn0) x++l.drop ((zhC (fun y=>zcl y x) l 0).toNat+1)))else none
theorem zyw{ro:Ro}{n:Nat}{t:Ty}{f g:Nat→D}{cs:List Value}(h:∀i,i<n→(g i).shape=(f i).shape∧∀cs,zbg ro (f i) cs→zbg ro (g i) cs):zbg ro (.sl n t f) cs→zbg ro (.sl n t g) cs:=by rintro⟨A,c,h1,h2,h3⟩;refine⟨A,c,h1,h2,fun hn=>?_⟩;obtain⟨blk,off,row,gg,g1,g2,g3,g4⟩:=h3 hn;exact⟨blk,off,row,gg,g1,g2,g3,fun i hi=>⟨(h i hi).1.trans (g4 i hi).1,(h i hi).2 _ (g4 i hi).2.1,(g4 i hi).2.2⟩⟩
theorem zyo{ro:Ro}(l:List Rn){i:Nat}(hi:i≤l.length){cs:List Value}(h:zbg ro (.sl (((i:Int)).toNat - 0) zca (zbP (rF l) 0)) cs):zbg ro (RS (l.take i)) cs:=by
 have e:((i:Int)).toNat - 0=(l.take i).length:=by simp;omega
 rw[e]at h;have e2:=h;obtain⟨A,c,rfl,_⟩:=id e2;refine zbg.congr h fun j hj=>?_;show zar ((l.take i).getD j rn0)=zar (l.getD (0+j) rn0);rw[zGt,zG9,zG9,zIb (by simp at hj;omega)]
theorem zyn{ro:Ro}(l:List Rn){i:Nat}{cs:List Value}(h:zbg ro (.sl (l.length -((i:Int)+1).toNat) zca (zbP (rF l) ((i:Int)+1).toNat)) cs):zbg ro (RS (l.drop (i+1))) cs:=by
 have e1:((i:Int)+1).toNat=i+1:=by omega
 rw[e1]at h;have e:l.length -(i+1)=(l.drop (i+1)).length:=by simp
 rw[e]at h;obtain⟨A,c,rfl,_⟩:=id h;refine zbg.congr h fun j hj=>?_;show zar ((l.drop (i+1)).getD j rn0)=zar (l.getD (i+1+j) rn0);rw[zG9,zG9,zHy]
theorem zkq(p:Rn→Bool):∀(l:List Rn) (k:Nat),zhC p l k= -1∨∃i,i<l.length∧zhC p l k=((k+i:Nat):Int)
 |[],_=>.inl rfl
 |y::l,k=>by
  rw[zhC];cases p y with
  |true=>exact .inr ⟨0,Nat.zero_lt_succ _,rfl⟩
  |false=>
   rcases zkq p l (k+1)with h|⟨i,h1,h2⟩
   ·exact .inl h
   ·exact .inr ⟨i+1,Nat.succ_lt_succ h1,by rw[zHJ,h2];congr 1;omega⟩
theorem zoJ(l:List Rn){left:List Rn}(i:Nat)(hi:i≤l.length){b:D}(hb:b.shape=.c)(hle:∀ro cs,zbg ro b cs→zbg ro (RS left) cs):(SV.ow 0 0 3 .c (za4 [.sl (((i:Int)).toNat - 0) zca (zbP (rF l) 0),b,.sl (l.length -((i:Int)+1).toNat) zca (zbP (rF l) ((i:Int)+1).toNat)])).le (LLa [l.take i,left,l.drop (i+1)]):=fun ro bl x h=>by
 refine⟨(fun h=>by cases h),fun _=>?_⟩;refine zyw (f:=za4 [.sl (((i:Int)).toNat - 0) zca (zbP (rF l) 0),b,.sl (l.length -((i:Int)+1).toNat) zca (zbP (rF l) ((i:Int)+1).toNat)]) (fun j hj=>?_) ((h.dat rfl).2 rfl)
 match j,hj with
 |0,_=>exact⟨rfl,fun cs h=>zyo l hi h⟩
 |1,_=>exact⟨hb.symm,fun cs h=>hle ro cs h⟩
 |2,_=>exact⟨rfl,fun cs h=>zyn l h⟩
theorem zuS(y x:Rn):(zc9 y x).length≤2:=by unfold zc9;cases decide (x.at_>y.at_)<;>cases decide (x.at_+x.n<y.at_+y.n)<;>simp
theorem zw2{l:List Rn}(hl:∀y∈l,zbd y)(hn:l.length≤500)(x:Rn)(hx:I64 x.n):zay Tryz.prog 260 [.d (zeT l),I x.at_,I x.n] (T2 (.d (zeT ((zjr l x).getD l))) (B (zjr l x).isSome)):=by
 refine zay.le (b:=[.d (RsF l),I x.at_,I x.n]) ?_ ⟨zpD l,SV.le_refl _,SV.le_refl _,trivial⟩;refine zat Tryz.func260 rfl (by kernel_rfl) rfl rfl rfl ?_;conv=>whnf
 refine zad (zx3 x hx) ?_;conv=>whnf
 refine⟨fun hq=>?_,fun hq=>?_⟩
 ·have hm:zqD x=false:=by simpa using hq
  have e:zjr l x=none:=by unfold zjr;rw[hm];rfl
  rw[e];conv=>whnf
  exact⟨rfl,⟨_,rfl,zhP fun ro bl x h=>zpC l ro bl x h⟩,rfl⟩
 ·have hm:zqD x=true:=by simpa using hq
  have hx':=zi4.1 hm;unfold zbd at hx';conv=>whnf
  refine zbk (zou (p:=fun y=>zcl y x) (by omega) fun y hy=>?_) ?_
  ·have h1:=hl y hy;unfold zbd at h1;refine za3 Tryz.func266 rfl (by kernel_rfl) rfl rfl ?_;conv=>whnf
   refine zad (zr4 y x (zac (by omega) (by omega)) (zac (by omega) (by omega))) ?_;conv=>whnf
   exact⟨rfl,rfl,rfl⟩
  ·have hT:zjr l x=(bif decide (zhC (fun y=>zcl y x) l 0<0)then none else some (l.take (zhC (fun y=>zcl y x) l 0).toNat++zc9 (l.getD (zhC (fun y=>zcl y x) l 0).toNat rn0) x++l.drop ((zhC (fun y=>zcl y x) l 0).toNat+1))):=by unfold zjr;rw[hm];rfl
   rw[hT];rcases zkq (fun y=>zcl y x) l 0 with hc|⟨i,hi,hc⟩
   ·rw[hc];conv=>whnf
    refine⟨fun _=>?_,(fun h=>by cases h)⟩;conv=>whnf
    exact⟨rfl,⟨_,rfl,zhP fun ro bl x h=>zpC l ro bl x h⟩,rfl⟩
   ·rw[hc,zGt,zFT (show¬((i:Nat):Int)<0 by omega),zHJ];have hy:=hl (l.getD i rn0) (by rw[zG9,zHa hi];exact zHd hi);unfold zbd at hy;have hC:=ztS [l.take i,zc9 (l.getD i rn0) x,l.drop (i+1)] (show 3≤10 by decide) (by
     have h2:=zuS (l.getD i rn0) x;generalize zc9 (l.getD i rn0) x=M at h2;simp;omega)
    conv=>whnf
    refine⟨fun h=>?_,fun _=>?_⟩
    ·have:((i:Nat):Int)<0:=by simpa using h
     omega
    ·conv=>
      whnf
     refine⟨⟨(by omega:(0:Int)≤(i:Int)),(by omega:(i:Int)<(l.length:Int))⟩,?_⟩;conv=>whnf
     refine⟨fun c1=>?_,fun c1=>?_⟩
     ·have c1':decide (x.at_>(l.getD i rn0).at_)=true:=c1;conv=>whnf
      refine⟨zac (x:=x.at_ -(l.getD i rn0).at_) (by omega) (by omega),?_⟩;conv=>whnf
      refine Or.inl ?_;conv=>whnf
      refine⟨by decide,.inl ?_⟩;conv=>whnf
      refine zao zaa (by kernel_rfl) 5 (by kernel_rfl) ?_;conv=>whnf
      refine zam (zfV x (zac (by omega) (by omega))) (fun _ h=>h) ?_;conv=>whnf
      refine zam (zfV (l.getD i rn0) (zac (by omega) (by omega))) (fun _ h=>h) ?_;conv=>whnf
      refine⟨fun c2=>?_,fun c2=>?_⟩
      ·have c2':decide (x.at_+x.n<(l.getD i rn0).at_+(l.getD i rn0).n)=true:=c2;conv=>whnf
       refine zaA zaa (by kernel_rfl) (List.range 12) [(9,1),(10,0)] (by kernel_rfl) ?_;conv=>whnf
       refine zam (zfV x (zac (by omega) (by omega))) (fun _ h=>h) ?_;conv=>whnf
       refine zam (zfV (l.getD i rn0) (zac (by omega) (by omega))) (fun _ h=>h) ?_;conv=>whnf
       refine zam (zfV x (zac (by omega) (by omega))) (fun _ h=>h) ?_;conv=>whnf
       refine⟨zac (x:=(l.getD i rn0).at_+(l.getD i rn0).n -(x.at_+x.n)) (by omega) (by omega),?_⟩;conv=>whnf
       refine Or.inl ?_;conv=>whnf
       refine⟨⟨rfl,by decide⟩,?_⟩;conv=>whnf
       refine zao zaa (by kernel_rfl) 10 (by kernel_rfl) ?_;conv=>whnf
       refine⟨⟨zFJ 0,(by omega:(0:Int)≤(i:Int)),(by omega:(i:Int)≤(l.length:Int))⟩,?_⟩;conv=>whnf
       refine⟨zac (x:=(i:Int)+1) (by omega) (by omega),?_⟩;conv=>whnf
       refine⟨⟨(by omega:(0:Int)≤(i:Int)+1),(by omega:(i:Int)+1≤(l.length:Int))⟩,?_⟩;conv=>whnf
       refine Or.inl ?_;conv=>whnf
       have eL:zc9 (l.getD i rn0) x=[⟨(l.getD i rn0).at_,x.at_ -(l.getD i rn0).at_⟩,⟨x.at_+x.n,(l.getD i rn0).at_+(l.getD i rn0).n -(x.at_+x.n)⟩]:=by unfold zc9;rw[c1',c2'];rfl
       refine zad (zay.le hC ?_) ?_
       ·rw[eL];refine⟨zoJ l i (zGn hi) rfl fun ro cs h=>?_,trivial⟩;obtain⟨A,c,rfl,_⟩:=id h;exact zbg.congr h fun j hj=>by
         match j,hj with
         |0,_=>rfl
         |1,_=>rfl
       conv=>whnf
       exact⟨rfl,zae (congrArg (fun m=>T2 (.d (zeT m)) (B true)) (show[l.take i,zc9 (l.getD i rn0) x,l.drop (i+1)].flatten=l.take i++zc9 (l.getD i rn0) x++l.drop (i+1) by simp))⟩
      ·have c2':decide (x.at_+x.n<(l.getD i rn0).at_+(l.getD i rn0).n)=false:=c2;conv=>whnf
       refine zao zaa (by kernel_rfl) 10 (by kernel_rfl) ?_;conv=>whnf
       refine⟨⟨zFJ 0,(by omega:(0:Int)≤(i:Int)),(by omega:(i:Int)≤(l.length:Int))⟩,?_⟩;conv=>whnf
       refine⟨zac (x:=(i:Int)+1) (by omega) (by omega),?_⟩;conv=>whnf
       refine⟨⟨(by omega:(0:Int)≤(i:Int)+1),(by omega:(i:Int)+1≤(l.length:Int))⟩,?_⟩;conv=>whnf
       refine Or.inl ?_;conv=>whnf
       have eL:zc9 (l.getD i rn0) x=[⟨(l.getD i rn0).at_,x.at_ -(l.getD i rn0).at_⟩]:=by unfold zc9;rw[c1',c2'];rfl
       refine zad (zay.le hC ?_) ?_
       ·rw[eL];refine⟨zoJ l i (zGn hi) rfl fun ro cs h=>?_,trivial⟩;obtain⟨A,c,rfl,_⟩:=id h;exact zbg.congr h fun j hj=>by
         match j,hj with
         |0,_=>rfl
       conv=>whnf
       exact⟨rfl,zae (congrArg (fun m=>T2 (.d (zeT m)) (B true)) (show[l.take i,zc9 (l.getD i rn0) x,l.drop (i+1)].flatten=l.take i++zc9 (l.getD i rn0) x++l.drop (i+1) by simp))⟩
     ·have c1':decide (x.at_>(l.getD i rn0).at_)=false:=c1;conv=>whnf
      refine zao zaa (by kernel_rfl) 5 (by kernel_rfl) ?_;conv=>whnf
      refine zam (zfV x (zac (by omega) (by omega))) (fun _ h=>h) ?_;conv=>whnf
      refine zam (zfV (l.getD i rn0) (zac (by omega) (by omega))) (fun _ h=>h) ?_;conv=>whnf
      refine⟨fun c2=>?_,fun c2=>?_⟩
      ·have c2':decide (x.at_+x.n<(l.getD i rn0).at_+(l.getD i rn0).n)=true:=c2;conv=>whnf
       refine zaA zaa (by kernel_rfl) (List.range 12) [(9,1),(10,0)] (by kernel_rfl) ?_;conv=>whnf
       refine zam (zfV x (zac (by omega) (by omega))) (fun _ h=>h) ?_;conv=>whnf
       refine zam (zfV (l.getD i rn0) (zac (by omega) (by omega))) (fun _ h=>h) ?_;conv=>whnf
       refine zam (zfV x (zac (by omega) (by omega))) (fun _ h=>h) ?_;conv=>whnf
       refine⟨zac (x:=(l.getD i rn0).at_+(l.getD i rn0).n -(x.at_+x.n)) (by omega) (by omega),?_⟩;conv=>whnf
       refine Or.inl ?_;conv=>whnf
       refine⟨by decide,.inl ?_⟩;conv=>whnf
       refine zao zaa (by kernel_rfl) 10 (by kernel_rfl) ?_;conv=>whnf
       refine⟨⟨zFJ 0,(by omega:(0:Int)≤(i:Int)),(by omega:(i:Int)≤(l.length:Int))⟩,?_⟩;conv=>whnf
       refine⟨zac (x:=(i:Int)+1) (by omega) (by omega),?_⟩;conv=>whnf
       refine⟨⟨(by omega:(0:Int)≤(i:Int)+1),(by omega:(i:Int)+1≤(l.length:Int))⟩,?_⟩;conv=>whnf
       refine Or.inl ?_;conv=>whnf
       have eL:zc9 (l.getD i rn0) x=[⟨x.at_+x.n,(l.getD i rn0).at_+(l.getD i rn0).n -(x.at_+x.n)⟩]:=by unfold zc9;rw[c1',c2'];rfl
       refine zad (zay.le hC ?_) ?_
       ·rw[eL];refine⟨zoJ l i (zGn hi) rfl fun ro cs h=>?_,trivial⟩;obtain⟨A,c,rfl,_⟩:=id h;exact zbg.congr h fun j hj=>by
         match j,hj with
         |0,_=>rfl
       conv=>whnf
       exact⟨rfl,zae (congrArg (fun m=>T2 (.d (zeT m)) (B true)) (show[l.take i,zc9 (l.getD i rn0) x,l.drop (i+1)].flatten=l.take i++zc9 (l.getD i rn0) x++l.drop (i+1) by simp))⟩
      ·have c2':decide (x.at_+x.n<(l.getD i rn0).at_+(l.getD i rn0).n)=false:=c2;conv=>whnf
       refine zao zaa (by kernel_rfl) 10 (by kernel_rfl) ?_;conv=>whnf
       refine⟨⟨zFJ 0,(by omega:(0:Int)≤(i:Int)),(by omega:(i:Int)≤(l.length:Int))⟩,?_⟩;conv=>whnf
       refine⟨zac (x:=(i:Int)+1) (by omega) (by omega),?_⟩;conv=>whnf
       refine⟨⟨(by omega:(0:Int)≤(i:Int)+1),(by omega:(i:Int)+1≤(l.length:Int))⟩,?_⟩;conv=>whnf
       refine Or.inl ?_;conv=>whnf
       have eL:zc9 (l.getD i rn0) x=[]:=by unfold zc9;rw[c1',c2'];rfl
       refine zad (zay.le hC ?_) ?_
       ·rw[eL];refine⟨zoJ l i (zGn hi) rfl fun ro cs h=>?_,trivial⟩;obtain⟨A,c,rfl,_⟩:=id h;exact zbg.sl_any h
       conv=>whnf
       exact⟨rfl,zae (congrArg (fun m=>T2 (.d (zeT m)) (B true)) (show[l.take i,zc9 (l.getD i rn0) x,l.drop (i+1)].flatten=l.take i++zc9 (l.getD i rn0) x++l.drop (i+1) by simp))⟩
end Sx
end Go.Proofs.YtfbhkfhbnkncoaaGreatDoor
