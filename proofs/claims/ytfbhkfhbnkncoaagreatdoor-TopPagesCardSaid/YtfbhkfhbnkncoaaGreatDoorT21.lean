import Derived.Test.YtfbhkfhbnkncoaaGreatDoorT20
set_option linter.all false
namespace Go.Proofs.YtfbhkfhbnkncoaaGreatDoor
open Go.RowKit
namespace Sx
theorem zac{x:Int}(h1: -9223372036854775808≤x)(h2:x≤9223372036854775807):I64 x:=by unfold I64;exact⟨h1,h2⟩
abbrev sls(t:Ty)(L:List D):D:=.sl L.length t (za4 L)
abbrev owl(id ver:Nat)(t:Ty)(L:List D):SV:=.ow id ver L.length t (za4 L)
theorem zeg:∀(L M:List D),zdc L.length (za4 L) (za4 M)=za4 (L++M)
 |[],M=>rfl
 |d::L,M=>by
  funext i
  cases i with
  |zero=>rfl
  |succ i=>
   have:=congrFun (zeg L M) i;simp only[zHP,za4]at this ⊢;rw[←this];unfold zdc;have e:Nat.blt (i+1) (d::L).length=Nat.blt i L.length:=by simp only[Nat.blt,zFI];rfl
   rw[e];cases Nat.blt i L.length with
   |true=>rfl
   |false=>simp
theorem zcq(id ver:Nat)(t:Ty)(L M:List D):SV.ow id ver (L.length+M.length) t (zdc L.length (za4 L) (za4 M))=owl id ver t (L++M):=by unfold owl;rw[zeg,zFY]
theorem zc3{α:Type}(e:α→D)(x:α):∀{l:List α} {i:Nat},i<l.length→za4 (l.map e) i=e (l.getD i x)
 |_::_,0,_=>by simp[za4]
 |_::l,i+1,h=>by simp only[zGF,za4];rw[zc3 e x (l:=l) (by simpa using h)];simp
theorem zjn:∀{l:List D} {k:Nat},zbP (za4 l) k=za4 (l.drop k)
 |l,0=>by funext i;simp[zbP]
 |[],k+1=>by funext i;simp[zbP,za4]
 |d::l,k+1=>by
  funext i
  have:=congrFun (zjn (l:=l) (k:=k)) i;simp only[zbP,List.drop_succ_cons]at this ⊢;rw[show k+1+i=(k+i)+1 by omega];exact this
theorem zlo(id ver:Nat)(n:Nat)(t:Ty)(f:Nat→D):(SV.ow id ver n t f).le (.d (.sl n t f)):=fun _ _ _ h=>h.dat rfl
theorem zAM(t t':Ty)(f f':Nat→D)(id ver:Nat):(SV.ow id ver 0 t f).le (.d (.sl 0 t' f')):=fun _ _ _ h=>⟨(fun h=>by cases h),fun _=>((h.dat (d:=.sl 0 t f) rfl).sl).sl_any⟩
def zl0:List SV→List SV→Prop
 |[],[]=>True
 |u::r,v::s=>u.le v∧zl0 r s
 |_,_=>False
theorem zl0.rep{ro:Ro}{bl:Bl}:∀{a b:List SV} {xs:List Value},zl0 a b→za5 ro bl a xs→za5 ro bl b xs
 |[],[],_,_,h=>h
 |_::_,_::_,_::_,⟨h1,h2⟩,⟨k1,k2⟩=>⟨h1 _ _ _ k1,h2.rep k2⟩
 |_::_,_::_,[],_,h=>h.elim
 |[],_::_,_,h,_=>h.elim
 |_::_,[],_,h,_=>h.elim
theorem Con.le{P:Program}{f:FuncId}{a b:List SV}{m:MS}{K:Out→MS→Prop}(h:Con P f b m K)(hl:zl0 a b):Con P f a m K:=
 ⟨h.1,fun E ro bl w xs hM hA=>h.2 E ro bl w xs hM (hl.rep hA)⟩
theorem zay.le{P:Program}{f:FuncId}{a b:List SV}{v:SV}(h:zay P f b v)(hl:zl0 a b):zay P f a v:=fun m=>(h m).le hl
theorem zay.out{P:Program}{f:FuncId}{a:List SV}{u v:SV}(h:zay P f a u)(hl:u.le v):zay P f a v:=fun m=>⟨(h m).1,fun E ro bl w xs hM hA=>((h m).2 E ro bl w xs hM hA).mono (by
 rintro e w' ⟨ro',bl',m',out,h1,h2,h3,rfl,h4⟩;obtain⟨x,he,hx⟩:=h3;exact⟨ro',bl',m',.ret v,h1,h2,⟨x,he,hl _ _ _ hx⟩,rfl,h4⟩)⟩
theorem zbZ{α:Type}(t:Ty)(e:α→D)(x:α)(l:List α):(SV.d (sls t (l.map e))).le (.d (.sl l.length t fun i=>e (l.getD i x))):=fun ro bl y h=>by refine⟨(fun h=>by cases h),fun _=>?_⟩;have:=h.sl;rw[zFH]at this;exact this.congr fun i hi=>(zc3 e x hi).symm
theorem zA5{α:Type}(t:Ty)(e:α→D)(x:α)(l:List α):(SV.d (.sl l.length t fun i=>e (l.getD i x))).le (.d (sls t (l.map e))):=fun ro bl y h=>by refine⟨(fun h=>by cases h),fun _=>?_⟩;show zbg ro (.sl (l.map e).length t (za4 (l.map e))) [y];rw[zFH];exact h.sl.congr fun i hi=>zc3 e x hi
theorem zeb{P:Program}{f:FuncId}{args:List SV}{m:MS}{K:Out→MS→Prop}(n k j:Nat)(hn:m.c.length≤n∧m.t.length≤k∧m.o.length≤j)(h:Con P f args m fun o m'=>match o with
  | .pan _=>False
  | .ret v=>∃u:SV,v.le u∧(u.ids n k j&&(zaG n k j (m'.c.take n)&&zbH n k j (m'.o.take j)))=true∧K (.ret u) (m'.take n k j)):Con P f args m K:=by
 refine⟨h.1,fun E ro bl w xs hM hA=>(h.2 E ro bl w xs hM hA).mono ?_⟩;rintro e w' ⟨ro',bl',m',out,h1,h2,h3,h4⟩;obtain⟨l1,l2,l3⟩:=hM.lens;cases out with
 |pan d=>exact h4.elim
 |ret v=>
  obtain⟨u,hu,hi,hK⟩:=h4;simp only[zFR]at hi;obtain⟨x,rfl,hx⟩:=h3;exact⟨ro',bl'.take n k j,_,.ret u,h1.drop hi.2.1 hi.2.2,h2.drop (by omega) (by omega) (by omega),⟨x,rfl,(hu _ _ _ hx).drop hi.1⟩,hK⟩
theorem zcO(t t':Ty)(f f':Nat→D):(zqE t f).le (.d (.sl 0 t' f')):=zAM t t' f f' 0 0
def zBy(P:Program)(f:FuncId)(args:List SV)(t:Ty)(L:List D):Prop:=match L with
 |[]=>zay P f args (zqE .c (za4 []))
 |_::_=>zfc P f args L.length t (za4 L)
theorem zmB{P:Program}{f:FuncId}{args:List SV}{t:Ty}{L:List D}(ha:zaG 0 0 0 args=true)(h:zBy P f args t L):zay P f args (.d (sls t L)):=by
 cases L with
 |nil=>exact zay.out h (zcO _ _ _ _)
 |cons x r=>exact zgT ha h
def zs5(j:Nat)(L:List D):SV:=match L with
 |[]=>zqE .c (za4 [])
 |x::r=>.ob (.mr j (x::r).length)
def zs4(t:Ty)(L:List D):List Ob:=match L with
 |[]=>[]
 |x::r=>[.row (x::r).length (x::r).length t (za4 (x::r))]
theorem zx0{P:Program}{f:FuncId}{args:List SV}{t:Ty}{L:List D}(ha:zaG 0 0 0 args=true)(h:Con P f args ⟨[],[],[]⟩ fun o m=>o=.ret (zs5 0 L)∧m.o=zs4 t L):zBy P f args t L:=by
 cases L with
 |nil=>
  refine zlv ha (zeb 0 0 0 ⟨zF5 _,zF5 _,zF5 _⟩ (zal h ?_));rintro o m ⟨rfl,_⟩;exact⟨_,SV.le_refl _,by simp;exact⟨rfl,rfl,rfl⟩,rfl,by simp[MS.take]⟩
 |cons x r=>
  refine zeb 0 0 1 ⟨zF5 _,zF5 _,zFV _⟩ (zal h ?_);rintro o m ⟨rfl,hm⟩;have e:m.take 0 0 1=⟨[],[],[.row (x::r).length (x::r).length t (za4 (x::r))]⟩:=by simp[MS.take,hm,zs4]
  refine⟨_,SV.le_refl _,?_,(x::r).length,rfl,e⟩;rw[hm];rfl
theorem zsM{P:Program}{f:FuncId}{args:List SV}{m:MS}{G:Prop→Prop}{K:SV→Prop}(v:SV)(h:G (Con P f args m fun o m'=>o=.ret v∧m'=m))(hK:K v):zan P f args m G K:=⟨v,h,hK⟩
theorem zsN{P:Program}{f:FuncId}{args:List SV}{G:Prop→Prop}{K:SV→Prop}(v:SV)(h:G (zay P f args v))(hK:K v):zax P f args G K:=⟨v,h,hK⟩
end Sx
namespace Sx
attribute [local irreducible] Con zax zau zai zaw zbt zaC zbh zba I64
structure Slot where
 gen:Int
 iss:Bool
 ret:Bool
abbrev zc7:=Nat→Slot
def ztj:Ty:=.p .c (.p .c (.p .c .u))
def zev(s:Slot):D:=.pr (.z .u32 s.gen) (.pr (.bo s.iss) (.pr (.bo s.ret) .un))
theorem zin(b:zc7)(k:Nat){r:List Nat}{v:D}{s:Slot}(h:(zev (b k)).set r v=zev s):zaq (fun i=>zev (b i)) k ((zev (b k)).set r v)=fun i=>zev (zaq b k s i):=by rw[h];exact zaY zev b k s
def zbp(b:zc7):D:=.pr (.ar 32 ztj fun i=>zev (b i)) .un
abbrev H(h:Int):SV:=.d (.z .u32 h)
abbrev I(x:Int):SV:=.d (.z .i64 x)
abbrev B(x:Bool):SV:=.d (.bo x)
abbrev T2(a b:SV):SV:=.tu (.pr a (.pr b (.d .un)))
abbrev T3(a b c:SV):SV:=.tu (.pr a (.pr b (.pr c (.d .un))))
def slI(h:Int):Int:=zaC .and .u32 h 255 - 1
def slB(h:Int):Bool:=decide (slI h<0)||decide (slI h≥32)||decide (zba .u32 h 8>8388607)
theorem zvQ(h:Int):0≤zaC .and .u32 h 255∧zaC .and .u32 h 255≤255:=by
 unfold zaC;have h1:(BitVec.ofInt IntKind.u32.bits h&&& BitVec.ofInt IntKind.u32.bits 255).toNat≤255:=by rw[zGb];exact zFU Nat.and_le_right (by decide)
 have:=zcC (k:=.u32) (x:=((BitVec.ofInt IntKind.u32.bits h&&& BitVec.ofInt IntKind.u32.bits 255).toNat:Int)) (zbL (by simp only[zcB];omega) (fun _=>by omega) (by simp only[zcB];omega));show 0≤IntKind.u32.wrap _∧IntKind.u32.wrap _≤255;rw[this];omega
theorem zeC(h:Int):zay Tryz.prog 56 [H h] (T2 (I (bif slB h then 0 else slI h)) (B (!slB h))):=by
 refine zat Tryz.func56 rfl (by kernel_rfl) rfl rfl rfl ?_;conv=>whnf
 refine⟨zac (by have:=zvQ h;omega) (by have:=zvQ h;omega),?_⟩;conv=>whnf
 have e:(decide (zaC .and .u32 h 255 - 1<0)||decide (zaC .and .u32 h 255 - 1≥32)||decide (zba .u32 h 8>8388607))=slB h:=rfl;refine⟨fun ht=>?_,fun ht=>?_⟩
 ·conv=>whnf
  refine⟨rfl,zae ?_⟩;rw[show slB h=true from ht];rfl
 ·conv=>whnf
  refine⟨rfl,zae ?_⟩;rw[show slB h=false from ht];rfl
def hOf(i gen:Int):Int:=IntKind.u32.wrap (IntKind.u32.wrap (zbh .u32 gen 8+IntKind.u32.wrap i)+1)
theorem zDq(i gen:Int):zay Tryz.prog 176 [I i,H gen] (H (hOf i gen)):=by
 refine zat Tryz.func176 rfl (by kernel_rfl) rfl rfl rfl ?_;conv=>whnf
 exact⟨rfl,zae rfl⟩
theorem zAa(a b:Slot):zvy Tryz.prog 82 (zev a) (zev b) (a.gen==b.gen&&(a.iss==b.iss&&a.ret==b.ret)):=by
 intro ro bl x y X Y w op hx hy;obtain⟨c1,h1,rfl⟩:=hx.1 rfl;obtain⟨c2,h2,rfl⟩:=hy.1 rfl;obtain⟨_,_,rfl,⟨rfl,_⟩,_,_,rfl,rfl,_,_,rfl,rfl,rfl⟩:=h1;obtain⟨_,_,rfl,⟨rfl,_⟩,_,_,rfl,rfl,_,_,rfl,rfl,rfl⟩:=h2;refine⟨?_,?_⟩
 ·have hg:Tryz.prog.eqGuardType Tryz.prog.depth 82=false:=by kernel_rfl
  unfold eqGuard;cases op<;>simp[hg]
 ·have hs:Tryz.prog.stoodInHeld 82=false:=by kernel_rfl
  have h4:∀w,(isAgg 4).run Tryz.prog w=.ok false w:=fun w=>by kernel_rfl
  have h68:∀w,(isAgg 68).run Tryz.prog w=.ok false w:=fun w=>by kernel_rfl
  unfold Op.equal Op.maxDepth Op.equalIn;simp only[Sem.run_bind,run_underlying Tryz.underlying82,Result.andThen_ok,run_program,hs];simp[part,h4,h68,zoZ (d:=9998) Tryz.underlying68,zew (d:=9998) Tryz.underlying4];by_cases h1:a.gen=b.gen<;>by_cases h2:a.iss=b.iss<;>by_cases h3:a.ret=b.ret<;>simp[h1,h2,h3]
def slX(h:Int):Int:=bif slB h then 0 else slI h
theorem zc5(h:Int):0≤slX h∧slX h<32:=by
 unfold slX;cases hb:slB h with
 |true=>exact⟨zFJ _,(by decide:(0:Int)<32)⟩
 |false=>
  simp only[slB,zFM,zFO]at hb;simp only[zHJ];omega
def slN(h:Int):Nat:=(slX h).toNat
def zah(b:zc7)(h:Int):Bool:=!slB h&&((b (slN h)).gen==zba .u32 h 8&&((b (slN h)).iss==true&&(b (slN h)).ret==false))
theorem zbz(b:zc7)(h:Int):zay Tryz.prog 24 [.d (zbp b),H h] (B (zah b h)):=by
 refine zat Tryz.func24 rfl (by kernel_rfl) rfl rfl rfl ?_;conv=>whnf
 refine zad (zeC h) ?_;conv=>whnf
 refine⟨fun _=>zc5 h,?_⟩;conv=>whnf
 refine zBG (zAa _ ⟨zba .u32 h 8,true,false⟩) (fun _ h _=>h) ?_;conv=>whnf
 exact⟨rfl,zae rfl⟩
def zij(b:zc7)(i:Int):Bool:=decide (i<0)||decide (i≥32)||!(b i.toNat).iss
theorem zDT(b:zc7)(i:Int):zay Tryz.prog 100 [.d (zbp b),I i] (T2 (H (bif zij b i then 0 else hOf i (b i.toNat).gen)) (B (!zij b i))):=by
 refine zat Tryz.func100 rfl (by kernel_rfl) rfl rfl rfl ?_;conv=>whnf
 refine⟨?_,?_⟩
 ·conv=>whnf
  intro h;conv=>whnf
  simp at h ⊢;omega
 conv=>whnf
 refine⟨fun ht=>?_,fun ht=>?_⟩
 ·conv=>whnf
  refine⟨rfl,zae ?_⟩;rw[show zij b i=true from ht];rfl
 ·conv=>whnf
  refine⟨?_,?_⟩
  ·conv=>whnf
   simp at ht ⊢;omega
  conv=>whnf
  refine zad (zDq _ _) ?_;conv=>whnf
  refine⟨rfl,zae ?_⟩;rw[show zij b i=false from ht];rfl
abbrev hD(h:Int):D:=.z .u32 h
abbrev hL(l:List Int):List D:=l.map hD
abbrev HS(l:List Int):SV:=.d (sls .c (hL l))
def zh1(b:zc7):Nat→List Int
 |0=>[]
 |i+1=>zh1 b i++(bif zij b i then[]else[hOf i (b i).gen])
def zcE(b:zc7):List Int:=zh1 b 32
theorem zhr(b:zc7):zcE b=zh1 b 32:=rfl
attribute [irreducible] zcE
theorem zsd(b:zc7)(i:Nat):(hL (zh1 b i)).length≤i:=by
 induction i with
 |zero=>exact zF5 _
 |succ i ih=>
  simp only[zh1,hL,zF6,zFY]at ih ⊢;cases zij b i<;>simp at ih ⊢<;>omega
theorem zov(b:zc7):zBy Tryz.prog 52 [.d (zbp b)] .c (hL (zcE b)):=by
 rw[zhr];generalize hL32:hL (zh1 b 32)=L32;refine zx0 rfl (zaM Tryz.func52 rfl (by kernel_rfl) rfl rfl ?_);conv=>whnf
 refine zaB zaa (fun i=>i≤32) (fun i=>32 - i) (fun i=>[(7,I i),(3,zs5 0 (hL (zh1 b i)))]) (fun i=>⟨[.d (zbp b)],[],zs4 .c (hL (zh1 b i))⟩) 0 (by omega) ⟨rfl,rfl,trivial⟩ rfl (fun i=>⟨zF5 _,zF5 _,zFV _⟩) ?_;intro i hi;have hlen:=zsd b i;conv=>whnf
 refine⟨fun ht=>?_,fun ht=>?_⟩
 ·have hlt:i<32:=by
   have:(i:Int)<32:=by simpa using ht
   omega
  conv=>whnf
  refine zad (zDT b i) ?_;conv=>whnf
  refine⟨fun ht2=>?_,fun ht2=>?_⟩
  ·have hn:zij b i=false:=by simpa using ht2
   have e:hL (zh1 b (i+1))=hL (zh1 b i)++[hD (bif zij b i then 0 else hOf i (b i).gen)]:=by simp[zh1,hn]
   generalize hL (zh1 b i)=L at e hlen ⊢;cases L with
   |nil=>
    conv=>whnf
    refine Or.inl ?_;conv=>whnf
    refine⟨by omega,.inr ⟨by omega,?_⟩⟩;conv=>whnf
    refine⟨zac (x:=(i:Int)+1) (by omega) (by omega),?_⟩;conv=>whnf
    refine⟨i+1,hlt,by omega,⟨rfl,?_,trivial⟩,⟨?_,?_⟩,?_⟩<;>rw[e]<;>rfl
   |cons x r=>
    conv=>whnf
    refine Or.inl ?_;conv=>whnf
    refine⟨⟨rfl,by simp at hlen ⊢;omega⟩,?_⟩;conv=>whnf
    refine⟨zac (x:=(i:Int)+1) (by omega) (by omega),?_⟩;conv=>whnf
    refine⟨i+1,hlt,by omega,⟨rfl,?_,trivial⟩,⟨?_,?_⟩,?_⟩<;>rw[e]
    ·show some (SV.ob (.mr 0 ((x::r).length+1)))=some (SV.ob (.mr 0 ((x::r)++[hD (bif zij b i then 0 else hOf i (b i).gen)]).length));rw[zFY];rfl
    ·show(⟨[.d (zbp b)],[],[.row ((x::r).length+1) ((x::r).length+1) .c (zdc (x::r).length (za4 (x::r)) (za4 [hD (bif zij b i then 0 else hOf i (b i).gen)]))]⟩:MS)=⟨[.d (zbp b)],[],[.row ((x::r)++[hD (bif zij b i then 0 else hOf i (b i).gen)]).length ((x::r)++[hD (bif zij b i then 0 else hOf i (b i).gen)]).length .c (za4 ((x::r)++[hD (bif zij b i then 0 else hOf i (b i).gen)]))]⟩;rw[zeg,zFY];rfl
    ·rfl
    ·rfl
  ·have hn:zij b i=true:=by simpa using ht2
   have e:hL (zh1 b (i+1))=hL (zh1 b i):=by simp[zh1,hn]
   conv=>whnf
   refine⟨zac (x:=(i:Int)+1) (by omega) (by omega),?_⟩;conv=>whnf
   refine⟨i+1,hlt,by omega,⟨rfl,?_,trivial⟩,⟨?_,?_⟩,?_⟩<;>rw[e]
   all_goals (generalize hL (zh1 b i)=L;cases L<;>rfl)
 ·have hlt:i=32:=by
   have:¬((i:Int)<32):=by simpa using ht
   omega
  subst hlt;subst hL32;generalize hL (zh1 b 32)=L;cases L with
  |nil=>
   conv=>whnf
   exact⟨rfl,rfl⟩
  |cons x r=>
   conv=>whnf
   exact⟨rfl,rfl⟩
theorem zgu(b:zc7):zay Tryz.prog 52 [.d (zbp b)] (HS (zcE b)):=zmB rfl (zov b)
def znE(b:zc7)(i:Nat):Nat→Option Nat
 |0=>none
 |k+1=>match(b i).iss||(b i).ret with
  |true=>znE b (i+1) k
  |false=>some i
def ze9(b:zc7):Option Nat:=znE b 0 32
def zey(b:zc7):zc7:=match ze9 b with
 |some i=>zaq b i ⟨(b i).gen,true,(b i).ret⟩
 |none=>b
def zc8(b:zc7):Int:=match ze9 b with
 |some i=>hOf i (b i).gen
 |none=>0
theorem zqQ(b:zc7):zay Tryz.prog 359 [.d (zbp b)] (T3 (.d (zbp (zey b))) (H (zc8 b)) (B (ze9 b).isSome)):=by
 refine zat Tryz.func359 rfl (by kernel_rfl) rfl rfl rfl ?_;conv=>whnf
 refine zaB zaa (fun i=>i≤32∧ze9 b=znE b i (32 - i)) (fun i=>32 - i) (fun i=>[(9,I i)]) (fun _=>⟨[.d (zbp b),.d (ZT.d z85)],[],[]⟩) 0 ⟨by omega,rfl⟩ ⟨rfl,trivial⟩ rfl (fun i=>⟨zF5 _,zF5 _,zF5 _⟩) ?_;rintro i ⟨hi,hf⟩;conv=>whnf
 refine⟨fun ht=>?_,fun ht=>?_⟩
 ·have hlt:i<32:=by
   have:(i:Int)<32:=by simpa using ht
   omega
  rw[show 32 - i=(32 -(i+1))+1 by omega]at hf;conv=>whnf
  refine⟨?_,?_⟩
  ·conv=>whnf
   omega
  conv=>whnf
  refine⟨fun h2=>?_,fun h2=>?_⟩
  ·have h2:((b i).iss||(b i).ret)=true:=h2;simp only[znE,h2]at hf;conv=>whnf
   refine⟨?_,?_⟩
   ·conv=>whnf
    exact zac (x:=(i:Int)+1) (by omega) (by omega)
   conv=>whnf
   exact⟨i+1,⟨hlt,hf⟩,by omega,⟨rfl,trivial⟩,⟨rfl,rfl⟩,rfl⟩
  ·have h2:((b i).iss||(b i).ret)=false:=h2;simp only[znE,h2]at hf;conv=>whnf
   refine⟨?_,?_⟩
   ·conv=>whnf
    omega
   conv=>whnf
   refine⟨.d (zbp (zaq b i ⟨(b i).gen,true,(b i).ret⟩)),congrArg (fun f=>SV.d (.pr (.ar 32 ztj f) .un)) (zin b i rfl),?_⟩;conv=>whnf
   refine zao zaa (by kernel_rfl) 5 (by kernel_rfl) ?_;conv=>whnf
   refine zam (zDq _ _) (fun _ h=>h) ?_;conv=>whnf
   refine⟨rfl,zae ?_⟩;rw[zey,zc8,hf];rfl
 ·have hlt:i=32:=by
   have:¬((i:Int)<32):=by simpa using ht
   omega
  subst hlt;have hf:ze9 b=none:=hf;conv=>whnf
  refine⟨rfl,zae ?_⟩;rw[zey,zc8,hf];rfl
def zbw(b:zc7)(h:Int):zc7:=bif zah b h then zaq b (slN h) (bif (b (slN h)).gen==8388607 then⟨(b (slN h)).gen,false,true⟩else⟨IntKind.u32.wrap ((b (slN h)).gen+1),false,(b (slN h)).ret⟩)else b
theorem zvM(b:zc7)(h:Int):zay Tryz.prog 374 [.d (zbp b),H h] (T2 (.d (zbp (zbw b h))) (B (zah b h))):=by
 refine zat Tryz.func374 rfl (by kernel_rfl) rfl rfl rfl ?_;conv=>whnf
 refine zad (zbz b h) ?_;conv=>whnf
 refine⟨fun ht=>?_,fun ht=>?_⟩
 ·have hg:zah b h=false:=by simpa using ht
  conv=>whnf
  refine⟨rfl,zae ?_⟩;rw[zbw,hg];rfl
 ·have hg:zah b h=true:=by simpa using ht
  conv=>whnf
  refine zad (zeC h) ?_;conv=>whnf
  refine⟨zc5 h,?_⟩;conv=>whnf
  refine⟨.d (zbp (zaq b (slN h) ⟨(b (slN h)).gen,false,(b (slN h)).ret⟩)),congrArg (fun f=>SV.d (.pr (.ar 32 ztj f) .un)) (zin b (slN h) rfl),?_⟩;conv=>whnf
  have hu:zaq b (slN h) ⟨(b (slN h)).gen,false,(b (slN h)).ret⟩ (slN h)=⟨(b (slN h)).gen,false,(b (slN h)).ret⟩:=if_pos rfl;have hw:∀s t,zaq (zaq b (slN h) s) (slN h) t=zaq b (slN h) t:=fun s t=>by funext j;unfold zaq;split<;>rfl
  refine⟨fun h2=>?_,fun h2=>?_⟩
  ·have h3:((zaq b (slN h) ⟨(b (slN h)).gen,false,(b (slN h)).ret⟩ (slN h)).gen==8388607)=true:=h2;rw[hu]at h3;conv=>whnf
   refine⟨.d (zbp (zaq b (slN h) ⟨(b (slN h)).gen,false,true⟩)),congrArg (fun f=>SV.d (.pr (.ar 32 ztj f) .un)) ((zin (zaq b (slN h) ⟨(b (slN h)).gen,false,(b (slN h)).ret⟩) (slN h) (s:=⟨(b (slN h)).gen,false,true⟩) (by rw[hu];rfl)).trans (by rw[hw])),?_⟩;conv=>whnf
   refine⟨rfl,zae ?_⟩;rw[zbw,hg,h3];rfl
  ·have h3:((zaq b (slN h) ⟨(b (slN h)).gen,false,(b (slN h)).ret⟩ (slN h)).gen==8388607)=false:=h2;rw[hu]at h3;conv=>whnf
   refine⟨.d (zbp (zaq b (slN h) ⟨IntKind.u32.wrap ((b (slN h)).gen+1),false,(b (slN h)).ret⟩)),congrArg (fun f=>SV.d (.pr (.ar 32 ztj f) .un)) ((zin (zaq b (slN h) ⟨(b (slN h)).gen,false,(b (slN h)).ret⟩) (slN h) (s:=⟨IntKind.u32.wrap ((b (slN h)).gen+1),false,(b (slN h)).ret⟩) (by show(zev (zaq b (slN h) ⟨(b (slN h)).gen,false,(b (slN h)).ret⟩ (slN h))).set [0] (.z .u32 (IntKind.u32.wrap ((zaq b (slN h) ⟨(b (slN h)).gen,false,(b (slN h)).ret⟩ (slN h)).gen+1)))=_;rw[hu];rfl)).trans (by rw[hw])),?_⟩;conv=>whnf
   refine⟨rfl,zae ?_⟩;rw[zbw,hg,h3];rfl
structure Rn where
 at_:Int
 n:Int
def zca:Ty:=.p .c (.p .c .u)
def zar(r:Rn):D:=.pr (.z .i64 r.at_) (.pr (.z .i64 r.n) .un)
theorem zfV(r:Rn)(h:I64 (r.at_+r.n)):zay Tryz.prog 191 [.d (zar r)] (I (r.at_+r.n)):=by
 refine zat Tryz.func191 rfl (by kernel_rfl) rfl rfl rfl ?_;conv=>whnf
 refine⟨h,?_⟩;conv=>whnf
 exact⟨rfl,zae rfl⟩
def zqD(r:Rn):Bool:=(decide (r.n≥1)&&decide (r.at_≥0))&&decide (r.at_≤64 - r.n)
theorem zx3(r:Rn)(h:I64 r.n):zay Tryz.prog 190 [.d (zar r)] (B (zqD r)):=by
 refine zat Tryz.func190 rfl (by kernel_rfl) rfl rfl rfl ?_;conv=>whnf
 refine⟨?_,?_⟩
 ·conv=>whnf
  intro hc;conv=>whnf
  have:(decide (r.n≥1)&&decide (r.at_≥0))=true:=hc;simp at this;unfold I64 at h;exact zac (x:=64 - r.n) (by omega) (by omega)
 conv=>whnf
 exact⟨rfl,zae rfl⟩
structure Rg where
 up:Int
 quota:Int
 rs:List Rn
 len:Int
 cells:Nat→Int
def tRg:Ty:=.p .c (.p .c (.p (.p .c (.p .c .u)) (.p (.ar 8 .c) .u)))
def zhf(l:List Rn)(len:Int):D:=.pr (sls zca (l.map zar)) (.pr (.z .i64 len) .un)
def zdX(r:Rg):D:=.pr (.z .u32 r.up) (.pr (.z .i64 r.quota) (.pr (zhf r.rs r.len) (.pr (.ar 8 .c fun i=>.z .u32 (r.cells i)) .un)))
structure Tb where
 b:zc7
 r:Nat→Rg
def zaU(t:Tb):D:=.pr (.pr (zbp t.b) .un) (.pr (.ar 32 tRg fun i=>zdX (t.r i)) .un)
def upT(t:Tb)(h:Int):Int:=bif zah t.b (t.r (slN h)).up then(t.r (slN h)).up else 0
theorem zDv(t:Tb)(h:Int):zay Tryz.prog 90 [.d (zaU t),H h] (H (upT t h)):=by
 refine zat Tryz.func90 rfl (by kernel_rfl) rfl rfl rfl ?_;conv=>whnf
 refine zad (zeC h) ?_;conv=>whnf
 refine⟨zc5 h,?_⟩;conv=>whnf
 refine zad (zbz t.b _) ?_;conv=>whnf
 refine⟨fun ht=>?_,fun ht=>?_⟩
 ·have hg:zah t.b (t.r (slN h)).up=true:=ht;conv=>whnf
  refine⟨rfl,zae ?_⟩;rw[upT,hg];rfl
 ·have hg:zah t.b (t.r (slN h)).up=false:=ht;conv=>whnf
  refine⟨rfl,zae ?_⟩;rw[upT,hg];rfl
def rg0:Rg:=⟨0,0,[],0,fun _=>0⟩
def zaj(t:Tb)(h:Int):Rg:=bif zah t.b h then{t.r (slN h)with up:=upT t h}else rg0
theorem zlS(t:Tb)(h:Int):zay Tryz.prog 43 [.d (zaU t),H h] (T2 (.d (zdX (zaj t h))) (I (bif zah t.b h then 0 else 4))):=by
 refine zat Tryz.func43 rfl (by kernel_rfl) rfl rfl rfl ?_;conv=>whnf
 refine zad (zbz t.b h) ?_;conv=>whnf
 refine⟨fun ht=>?_,fun ht=>?_⟩
 ·have hg:zah t.b h=false:=by simpa using ht
  conv=>whnf
  refine⟨rfl,zae ?_⟩;rw[zaj,hg];rfl
 ·have hg:zah t.b h=true:=by simpa using ht
  conv=>whnf
  refine zad (zeC h) ?_;conv=>whnf
  refine⟨zc5 h,?_⟩;conv=>whnf
  refine zad (zDv t h) ?_;conv=>whnf
  refine⟨rfl,zae ?_⟩;rw[zaj,hg];rfl
theorem zsQ(n:Int):zay Tryz.prog 369 [I n] (B (decide (n≥0)&&decide (n≤64))):=by
 refine zat Tryz.func369 rfl (by kernel_rfl) rfl rfl rfl ?_;conv=>whnf
 exact⟨rfl,zae rfl⟩
def zdB(t:Tb)(h:Int):Tb:=bif zah t.b h then⟨zbw t.b h,zaq t.r (slN h) rg0⟩else t
theorem zzn(t:Tb)(h:Int):zay Tryz.prog 371 [.d (zaU t),H h] (T2 (.d (zaU (zdB t h))) (I (bif zah t.b h then 0 else 4))):=by
 refine zat Tryz.func371 rfl (by kernel_rfl) rfl rfl rfl ?_;conv=>whnf
 refine zad (zvM t.b h) ?_;conv=>whnf
 refine⟨fun ht=>?_,fun ht=>?_⟩
 ·have hg:zah t.b h=false:=by simpa using ht
  conv=>whnf
  refine⟨rfl,zae ?_⟩;rw[zdB,hg];rfl
 ·have hg:zah t.b h=true:=by simpa using ht
  conv=>whnf
  refine zad (zeC h) ?_;conv=>whnf
  refine⟨zc5 h,?_⟩;conv=>whnf
  refine⟨.d (zaU ⟨zbw t.b h,zaq t.r (slN h) rg0⟩),congrArg (fun f=>SV.d (.pr (.pr (zbp (zbw t.b h)) .un) (.pr (.ar 32 tRg f) .un))) (zaY zdX t.r (slN h) rg0),?_⟩;conv=>whnf
  refine⟨rfl,zae ?_⟩;rw[zdB,hg];rfl
def zne(t:Tb)(up n:Int):Int:=bif (up != 0)&&!zah t.b up then 4 else bif !(decide (n≥0)&&decide (n≤64))then 2 else bif (ze9 t.b).isSome then 0 else 7
def zx9(t:Tb)(up n:Int):Tb:=bif zne t up n==0 then⟨zey t.b,zaq t.r (slN (zc8 t.b)) ⟨up,n,[],0,fun _=>0⟩⟩else t
def zx8(t:Tb)(up n:Int):Int:=bif zne t up n==0 then zc8 t.b else 0
theorem zB6(t:Tb)(up n:Int):zay Tryz.prog 342 [.d (zaU t),H up,I n] (T3 (.d (zaU (zx9 t up n))) (H (zx8 t up n)) (I (zne t up n))):=by
 refine zat Tryz.func342 rfl (by kernel_rfl) rfl rfl rfl ?_;conv=>whnf
 refine zam (zbz t.b up) (fun _ h _=>h) ?_;conv=>whnf
 refine⟨fun h1=>?_,fun h1=>?_⟩
 ·have e1:zne t up n=4:=by have:((up != 0)&&!zah t.b up)=true:=h1;rw[zne,this];rfl
  conv=>whnf
  refine⟨rfl,zae ?_⟩;rw[zx9,zx8,e1];rfl
 ·have h1:((up != 0)&&!zah t.b up)=false:=h1;conv=>whnf
  refine zad (zsQ n) ?_;conv=>whnf
  refine⟨fun h2=>?_,fun h2=>?_⟩
  ·have e1:zne t up n=2:=by have h2:(!(decide (n≥0)&&decide (n≤64)))=true:=h2;rw[zne,h1,h2];rfl
   conv=>whnf
   refine⟨rfl,zae ?_⟩;rw[zx9,zx8,e1];rfl
  ·have h2:(!(decide (n≥0)&&decide (n≤64)))=false:=h2;conv=>whnf
   refine zad (zqQ t.b) ?_;conv=>whnf
   refine⟨fun h3=>?_,fun h3=>?_⟩
   ·have e1:zne t up n=7:=by
     have h3:(!(ze9 t.b).isSome)=true:=h3;have h3:(ze9 t.b).isSome=false:=by simpa using h3
     rw[zne,h1,h2,h3];rfl
    conv=>whnf
    refine⟨rfl,zae ?_⟩;rw[zx9,zx8,e1];rfl
   ·have e1:zne t up n=0:=by
     have h3:(!(ze9 t.b).isSome)=false:=h3;have h3:(ze9 t.b).isSome=true:=by simpa using h3
     rw[zne,h1,h2,h3];rfl
    conv=>whnf
    refine zad (zeC (zc8 t.b)) ?_;conv=>whnf
    refine⟨zc5 _,?_⟩;conv=>whnf
    refine⟨.d (zaU ⟨zey t.b,zaq t.r (slN (zc8 t.b)) ⟨up,n,[],0,fun _=>0⟩⟩),congrArg (fun f=>SV.d (.pr (.pr (zbp (zey t.b)) .un) (.pr (.ar 32 tRg f) .un))) (zaY zdX t.r (slN (zc8 t.b)) ⟨up,n,[],0,fun _=>0⟩),?_⟩;conv=>whnf
    refine⟨rfl,zae ?_⟩;rw[zx9,zx8,e1];rfl
structure Rk (t:Tb) (rk:Int→Nat):Prop where
 le:∀x,rk x<40
 lt:∀x,upT t x≠0→rk (upT t x)<rk x
def zAR(t:Tb)(h:Int):Nat→Int→Bool
 |0,_=>false
 |k+1,x=>(x != 0)&&((x==h)||zAR t h k (upT t x))
def zCO(t:Tb)(h x:Int):Bool:=zAR t h 40 x
def zeh(t:Tb)(h up:Int):Int:=bif !zah t.b h||((up != 0)&&!zah t.b up)then 4 else bif zCO t h up then 12 else 0
def zd1(t:Tb)(h up:Int):Tb:=bif zeh t h up==0 then⟨t.b,zaq t.r (slN h) {t.r (slN h)with up:=up}⟩else t
theorem zqX(t:Tb)(h up:Int){rk:Int→Nat}(hr:Rk t rk):zay Tryz.prog 354 [.d (zaU t),H h,H up] (T2 (.d (zaU (zd1 t h up))) (I (zeh t h up))):=by
 refine zat Tryz.func354 rfl (by kernel_rfl) rfl rfl rfl ?_;conv=>whnf
 refine zad (zbz t.b h) ?_;conv=>whnf
 refine zam (zbz t.b up) (fun p hp _ _=>hp) ?_;conv=>whnf
 refine⟨fun h1=>?_,fun h1=>?_⟩
 ·have e1:zeh t h up=4:=by have:(!zah t.b h||((up != 0)&&!zah t.b up))=true:=h1;rw[zeh,this];rfl
  conv=>whnf
  refine⟨rfl,zae ?_⟩;rw[zd1,e1];rfl
 ·have h1:(!zah t.b h||((up != 0)&&!zah t.b up))=false:=h1;conv=>whnf
  refine zaB zaa (fun(i:Nat×Int)=>zCO t h up=zAR t h i.1 i.2∧(i.2=0∨rk i.2<i.1)) (fun i=>i.1) (fun i=>[(8,H i.2)]) (fun _=>⟨[.d (zaU t),.d (ZT.d z96)],[],[]⟩) (40,up) ⟨rfl,.inr (hr.le up)⟩ ⟨rfl,trivial⟩ rfl (fun i=>⟨zF5 _,zF5 _,zF5 _⟩) ?_;rintro⟨k,x⟩ ⟨hi,hk⟩;conv=>whnf
  refine⟨fun h2=>?_,fun h2=>?_⟩
  ·have h2:(x != 0)=true:=h2;have hx:x≠0:=by simpa using h2
   obtain⟨k',rfl⟩:∃k',k=k'+1:=⟨k - 1,by rcases hk with hk|hk<;>simp at hk<;>omega⟩;simp only[zAR,h2,zF7]at hi;conv=>whnf
   refine⟨fun h3=>?_,fun h3=>?_⟩
   ·have h3:(x==h)=true:=h3;have e1:zeh t h up=12:=by rw[zeh,h1,hi,h3];rfl
    conv=>whnf
    refine⟨rfl,zae ?_⟩;rw[zd1,e1];rfl
   ·have h3:(x==h)=false:=h3;rw[h3,zF8]at hi;conv=>whnf
    refine zad (zDv t x) ?_;conv=>whnf
    refine⟨(k',upT t x),⟨hi,?_⟩,zF9 k',⟨rfl,trivial⟩,⟨rfl,rfl⟩,rfl⟩;by_cases hu:upT t x=0
    ·exact .inl hu
    ·have:=hr.lt x hu;rcases hk with hk|hk
     ·exact absurd hk hx
     ·simp at hk;exact .inr (by show rk (upT t x)<k';omega)
  ·have h2:(x != 0)=false:=h2;have e1:zeh t h up=0:=by
    rw[zeh,h1,hi];cases k with
    |zero=>rfl
    |succ k=>simp only[zAR,h2];rfl
   conv=>whnf
   refine zad (zeC h) ?_;conv=>whnf
   refine⟨zc5 h,?_⟩;conv=>whnf
   refine⟨.d (zaU ⟨t.b,zaq t.r (slN h) {t.r (slN h)with up:=up}⟩),congrArg (fun f=>SV.d (.pr (.pr (zbp t.b) .un) (.pr (.ar 32 tRg f) .un))) (zaY zdX t.r (slN h) {t.r (slN h)with up:=up}),?_⟩;conv=>whnf
   refine⟨rfl,zae ?_⟩;rw[zd1,e1];rfl
structure Msg where
 frm:Int
 word:Int
 reg:Int
 sh:Bool
def zgH(m:Msg):D:=.pr (.z .u8 m.frm) (.pr (.z .u64 m.word) (.pr (.z .u32 m.reg) (.pr (.bo m.sh) .un)))
def ztI:Ty:=.p .c (.p .c (.p .c (.p .c .u)))
structure MBox where
 ring:Nat→Msg
 frm:Int
 n:Int
 cl:Bool
def zcc(b:MBox):D:=.pr (.ar 4 ztI fun i=>zgH (b.ring i)) (.pr (.z .i64 b.frm) (.pr (.z .i64 b.n) (.pr (.bo b.cl) .un)))
structure BoxOk (b:MBox):Prop where
 f0:0≤b.frm
 f1:b.frm<4
 n0:0≤b.n
 n1:b.n≤4
def atB(b:MBox)(i:Int):Int:=(b.frm+i).tmod 4
theorem zq9{b:MBox}(h:BoxOk b){i:Int}(h0:0≤i)(h1:i≤4):0≤atB b i∧atB b i<4:=by unfold atB;have:=h.f0;have:=h.f1;rw[zGa (by omega)];omega
theorem zCf(b:MBox)(i:Int)(h:BoxOk b)(h0:0≤i)(h1:i≤4):zay Tryz.prog 363 [.d (zcc b),I i] (I (atB b i)):=by
 have:=h.f0;have:=h.f1;refine zat Tryz.func363 rfl (by kernel_rfl) rfl rfl rfl ?_;conv=>whnf
 refine⟨zac (x:=b.frm+i) (by omega) (by omega),?_⟩;conv=>whnf
 refine⟨⟨by decide,zb9 (by have:=zq9 h h0 h1;unfold atB at this;exact zac (by omega) (by omega))⟩,?_⟩;conv=>whnf
 exact⟨rfl,zae rfl⟩
def zlP(b:MBox):Int:=bif b.cl then 11 else bif b.n==4 then 7 else 0
def zjf(b:MBox)(m:Msg):MBox:=bif zlP b==0 then{b with ring:=zaq b.ring (atB b b.n).toNat m,n:=b.n+1}else b
theorem zt0(b:MBox)(m:Msg)(h:BoxOk b):zay Tryz.prog 336 [.d (zcc b),.d (zgH m)] (T2 (.d (zcc (zjf b m))) (I (zlP b))):=by
 have:=h.n0;have:=h.n1;refine zat Tryz.func336 rfl (by kernel_rfl) rfl rfl rfl ?_;conv=>whnf
 refine⟨fun h1=>?_,fun h1=>?_⟩
 ·have h1:b.cl=true:=h1;have e1:zlP b=11:=by rw[zlP,h1];rfl
  conv=>whnf
  refine⟨rfl,zae ?_⟩;rw[zjf,e1];rfl
 ·have h1:b.cl=false:=h1;conv=>whnf
  refine⟨fun h2=>?_,fun h2=>?_⟩
  ·have h2:(b.n==4)=true:=h2;have e1:zlP b=7:=by rw[zlP,h1,h2];rfl
   conv=>whnf
   refine⟨rfl,zae ?_⟩;rw[zjf,e1];rfl
  ·have h2:(b.n==4)=false:=h2;have e1:zlP b=0:=by rw[zlP,h1,h2];rfl
   conv=>whnf
   refine zao zaa (by kernel_rfl) 6 (by kernel_rfl) ?_;conv=>whnf
   refine zam (zCf b b.n h h.n0 h.n1) (fun _ h=>h) ?_;conv=>whnf
   refine⟨zq9 h h.n0 h.n1,?_⟩;conv=>whnf
   refine⟨.d (zcc {b with ring:=zaq b.ring (atB b b.n).toNat m}),congrArg (fun f=>SV.d (.pr (.ar 4 ztI f) (.pr (.z .i64 b.frm) (.pr (.z .i64 b.n) (.pr (.bo b.cl) .un))))) (zaY zgH b.ring (atB b b.n).toNat m),?_⟩;conv=>whnf
   refine⟨zac (x:=b.n+1) (by omega) (by omega),?_⟩;conv=>whnf
   refine⟨rfl,zae ?_⟩;rw[zjf,e1];rfl
def mz:Msg:=⟨0,0,0,false⟩
def zg1(b:MBox):Int:=bif (b.n==0)&&b.cl then 11 else bif b.n==0 then 10 else 0
def zcu(b:MBox):MBox:=bif zg1 b==0 then{b with frm:=atB b 1,n:=b.n - 1}else b
def zbV(b:MBox):Msg:=bif zg1 b==0 then b.ring b.frm.toNat else mz
theorem zvL(b:MBox)(h:BoxOk b):zay Tryz.prog 337 [.d (zcc b)] (T3 (.d (zcc (zcu b))) (.d (zgH (zbV b))) (I (zg1 b))):=by
 have:=h.n0;have:=h.n1;refine zat Tryz.func337 rfl (by kernel_rfl) rfl rfl rfl ?_;conv=>whnf
 refine⟨fun h1=>?_,fun h1=>?_⟩
 ·have h1:((b.n==0)&&b.cl)=true:=h1;have e1:zg1 b=11:=by rw[zg1,h1];rfl
  conv=>whnf
  refine⟨rfl,zae ?_⟩;rw[zcu,zbV,e1];rfl
 ·have h1:((b.n==0)&&b.cl)=false:=h1;conv=>whnf
  refine⟨fun h2=>?_,fun h2=>?_⟩
  ·have h2:(b.n==0)=true:=h2;have e1:zg1 b=10:=by rw[zg1,h1,h2];rfl
   conv=>whnf
   refine⟨rfl,zae ?_⟩;rw[zcu,zbV,e1];rfl
  ·have h2:(b.n==0)=false:=h2;have e1:zg1 b=0:=by rw[zg1,h1,h2];rfl
   have hn:b.n≠0:=by simpa using h2
   conv=>whnf
   refine⟨⟨h.f0,h.f1⟩,?_⟩;conv=>whnf
   refine zaA zaa (by kernel_rfl) (List.range 9) [(6,16),(8,0)] (by kernel_rfl) ?_;conv=>whnf
   refine zam (zCf b 1 h (by omega) (by omega)) (fun _ h=>h) ?_;conv=>whnf
   refine⟨zac (x:=b.n - 1) (by omega) (by omega),?_⟩;conv=>whnf
   repeat' (first|(refine⟨(show _∧_ from⟨rfl,rfl⟩),?_⟩;conv=>whnf))
   refine zaA zaa (by kernel_rfl) (List.range 5) [(2,2),(3,0)] (by kernel_rfl) ?_;conv=>whnf
   repeat' (first|(refine⟨(show _∧_ from⟨rfl,rfl⟩),?_⟩;conv=>whnf))
   refine⟨rfl,zae ?_⟩;rw[zcu,zbV,e1];rfl
def zb6(b:zc7):List Int:=zcE b
theorem zzk(b:zc7):zBy Tryz.prog 19 [.d (.pr (zbp b) .un)] .c (hL (zb6 b)):=by
 have h:=zov b;unfold zb6;generalize hL (zcE b)=L at h ⊢;cases L with
 |nil=>
  refine zat Tryz.func19 rfl (by kernel_rfl) rfl rfl rfl ?_;conv=>whnf
  refine zad (h) ?_;conv=>whnf
  exact⟨rfl,zae rfl⟩
 |cons x r=>
  refine zeb 0 0 1 ⟨zF5 _,zF5 _,zFV _⟩ (zaM Tryz.func19 rfl (by kernel_rfl) rfl rfl ?_);conv=>whnf
  refine zk3 rfl h _ _ fun v=>?_;conv=>whnf
  exact⟨_,SV.le_refl _,rfl,v,rfl,rfl⟩
theorem zqH(b:zc7):zay Tryz.prog 19 [.d (.pr (zbp b) .un)] (HS (zb6 b)):=zmB rfl (zzk b)
def zmC(s t:Int):Bool:=((decide (s≥0)&&decide (s<32))&&decide (t≥0))&&decide (t<8)
theorem zss(s t:Int):zay Tryz.prog 199 [I s,I t] (B (zmC s t)):=by
 refine zat Tryz.func199 rfl (by kernel_rfl) rfl rfl rfl ?_;conv=>whnf
 exact⟨rfl,zae rfl⟩
def zjB(t:Int):Int:=zbh .u8 1 (zaC .and .i64 t 7)
theorem zCc(t:Int):0≤zaC .and .i64 t 7∧zaC .and .i64 t 7≤7:=by
 unfold zaC;have h1:(BitVec.ofInt IntKind.i64.bits t&&& BitVec.ofInt IntKind.i64.bits 7).toNat≤7:=by rw[zGb];exact zFU Nat.and_le_right (by decide)
 have:=zcC (k:=.i64) (x:=((BitVec.ofInt IntKind.i64.bits t&&& BitVec.ofInt IntKind.i64.bits 7).toNat:Int)) (zbL (by simp only[zcB];omega) (fun _=>by omega) (by simp only[zcB];omega));show 0≤IntKind.i64.wrap _∧IntKind.i64.wrap _≤7;rw[this];omega
theorem zuf(t:Int):zay Tryz.prog 180 [I t] (.d (.z .u8 (zjB t))):=by
 refine zat Tryz.func180 rfl (by kernel_rfl) rfl rfl rfl ?_;conv=>whnf
 refine⟨(zCc t).1,?_⟩;conv=>whnf
 exact⟨rfl,zae rfl⟩
def zeT(l:List Rn):D:=.pr (sls zca (l.map zar)) .un
def ofR(n:Int):List Rn:=bif decide ((bif decide (64<n)then 64 else n)<1)then[]else[⟨0,bif decide (64<n)then 64 else n⟩]
theorem zDl(n:Int)(h:I64 n):zay Tryz.prog 188 [I n] (.d (zeT (ofR n))):=by
 refine zat Tryz.func188 rfl (by kernel_rfl) rfl rfl rfl ?_;conv=>whnf
 refine⟨⟨h,zac (by decide) (by decide)⟩,?_⟩;conv=>whnf
 refine⟨fun h1=>?_,fun h1=>?_⟩
 ·have h1:decide ((bif decide (64<n)then 64 else n)<1)=true:=h1;conv=>whnf
  refine⟨rfl,zae ?_⟩;rw[ofR,h1];rfl
 ·have h1:decide ((bif decide (64<n)then 64 else n)<1)=false:=h1;conv=>whnf
  refine Or.inl ?_;conv=>whnf
  refine⟨rfl,zae ?_⟩;rw[ofR,h1];rfl
end Sx
end Go.Proofs.YtfbhkfhbnkncoaaGreatDoor
