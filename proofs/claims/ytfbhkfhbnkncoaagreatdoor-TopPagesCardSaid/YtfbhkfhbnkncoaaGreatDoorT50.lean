import Derived.Test.YtfbhkfhbnkncoaaGreatDoorT49
set_option linter.all false
set_option maxRecDepth 100000
set_option maxHeartbeats 4000000
namespace Go.Proofs.YtfbhkfhbnkncoaaGreatDoor
open Go.RowKit
namespace Sx
attribute [local irreducible] Con zax zan zau zai zaw zbt zak zaC zbh zba I64
theorem zvH(l:Lst):zay Tryz.prog 28 [.d (zaZ l)] (.d (zcj l)):=by
 refine zat Tryz.func28 rfl (by kernel_rfl) rfl rfl rfl ?_;conv=>whnf
 exact⟨rfl,zae rfl⟩
theorem zzz(b:ByteArray)(h:b.size≤1000000)(hc:isC b=true):zay Tryz.prog 64 [.d (.st b)] (T2 (.d (za0 ⟨zmc b,0,fun _=>0⟩)) (I 0)):=by
 refine zat Tryz.func64 rfl (by kernel_rfl) rfl rfl rfl ?_;conv=>whnf
 have hd:=zlQ b h;rw[hc]at hd;refine zad (hd) ?_;conv=>whnf
 refine⟨(fun h=>by cases h),fun _=>?_⟩;conv=>whnf
 exact⟨rfl,zae rfl⟩
def zdK(l:Lst)(i j:Nat):List Ins:=bif Nat.blt j i then zmc (l.ps.getD j ByteArray.empty)else[]
def zbS(l:Lst):Nat→List Ins:=zdK l l.ps.length
theorem zjj{f:FuncId}{fn:Func}{c:Code}(hf:Tryz.prog.funcs[f]?=some fn)(hb:fn.body=some c)(hn:(fn.name== "runtime.NumGoroutine")=false)(hl:Nat.ble fn.results.toList.length 3=true){args:List SV}(ha:Nat.ble args.length fn.ntmps=true){m:MS}{K:Out→MS→Prop}
 (h:Ok Tryz.prog fn.ntmps false c (zen 0 args) m (zy9 tbl fn.results.toList K)):Con Tryz.prog f args m K:=zoP zaa hf hb (zdY hf hn (by rw[hb];rfl)) (zFG hl) (zFG ha) h
def zcF(k:Nat)(m:Mc)(b:Nat):SV:=.pr (.pt k []) (.pr (.d (zeI m.ts)) (.pr (I m.now) (.pr (owl 2 b tEv (zgJ m.ev)) (.d .un))))
def zdr(k:Nat)(x:Cr)(a:Nat):SV:=.pr (.d (za7 x.s)) (.pr (.pt k []) (.pr (.d (za8 x.m)) (.pr (owl 1 a .c (zL x.q)) (.d .un))))
theorem znW{l:Lst}(h:zlN l=true):ztD l=false∧(1≤l.n∧l.n≤64)∧l.ps.length≤8:=by
 have h1:ztD l=false:=by
  cases hq:ztD l with
  |false=>rfl
  |true=>unfold zlN at h;rw[hq]at h;cases h
 refine⟨h1,?_⟩;unfold ztD at h1;simp only[zFM,zFO]at h1;omega
theorem zwh{P:Program}{N:Nat}{ir:Bool}{c:Code}{fr:List Ent}{m:MS}{K:X→List Ent→MS→Prop}(id:Nat){v v':SV}(hc:zg6 m.c id=some v)(hs:v'.shape=v.shape)(hr:∀ro bl cs,zb5 ro bl v cs→zb5 ro bl v' cs)(h:Ok P N ir c fr ⟨zmV m.c id v',m.t,m.o⟩ K):Ok P N ir c fr m K:=by
 intro E r nn ro bl a w hr0 hS;rw[zdi]at hc;rw[zfy]at h;have h1:=hS.m;have hM':Mem E ro bl ⟨m.c.set id v',m.t,m.o⟩ w:=by
  refine⟨⟨by show bl.b.length=(m.c.set id v').length;rw[zHM];exact h1.len,h1.ver,fun i blk t u hb hu=>?_,h1.inj,h1.tail,h1.tinj,h1.known,h1.olen,h1.obj,h1.oinj,h1.bo⟩,h1.gh,h1.glob,h1.gno,h1.marks⟩;rcases zb1 hu with⟨rfl,rfl⟩|⟨_,hu⟩
  ·obtain⟨cells,e,g1,g2,g3,g4⟩:=h1.box i blk t v hb hc;exact⟨cells,e,g1,hr _ _ _ g2,by rw[hs];exact g3,g4⟩
  ·exact h1.box i blk t u hb hu
 exact h E r nn ro bl a w hr0 ⟨hS.l,hM'⟩
theorem zym{ro:Ro}{X Y:D}{t t':Ty}{f f':Nat→D}{cs:List Value}(h:zbg ro (.pr (.pr (.sl 0 t f) X) Y) cs):zbg ro (.pr (.pr (.sl 0 t' f') X) Y) cs:=by obtain⟨c1,c2,rfl,⟨d1,d2,rfl,h1,h2⟩,h3⟩:=h;exact⟨_,_,rfl,⟨d1,d2,rfl,h1.sl_any,h2⟩,h3⟩
theorem zsu{ro:Ro}{bl:Bl}{A B:SV}{t1 t2 t t':Ty}{f:Nat→D}{f':Nat→Nat→D}{X Y:D}{cs:List Value}(ht:t1=t2)(hs:∀i,(D.pr (.pr (.sl 0 t' (f' i)) X) Y).shape=t2)
 (h:zb5 ro bl (.pr A (.pr (.d (.ar 8 t1 fun _=>.pr (.pr (.sl 0 t f) X) Y)) B)) cs):zb5 ro bl (.pr A (.pr (.d (.ar 8 t2 fun i=>.pr (.pr (.sl 0 t' (f' i)) X) Y)) B)) cs:=by
 subst ht;obtain⟨c1,c2,rfl,h1,d1,d2,rfl,⟨g,rfl,hg⟩,h3⟩:=h;exact⟨_,_,rfl,h1,_,_,rfl,⟨g,rfl,fun i hi=>⟨hs i,zym (hg i hi).2⟩⟩,h3⟩
theorem zsc{l:Lst}(h:zlN l=true){p:ByteArray}(hp:p∈l.ps):isC p=true:=by unfold zlN at h;simp only[zFR,zGC]at h;have:=zHE.1 h.2.1 p hp;simpa using this
theorem zoO(l:Lst)(i:Nat):(zeI (mc0 l.n (zdK l i)).ts).set [i,0] (za0 ⟨zmc (l.ps.getD i ByteArray.empty),0,fun _=>0⟩)=zeI (mc0 l.n (zdK l (i+1))).ts:=by
 rw[zC4];refine congrArg zeI (funext fun j=>?_);show(if j=i then _ else _)=_;have e:zdK l (i+1) j=if j=i then zmc (l.ps.getD i ByteArray.empty)else zdK l i j:=by
  unfold zdK;by_cases h:j=i
  ·subst h;rw[if_pos rfl,show Nat.blt j (j+1)=true from zHN (zF5 _)];rfl
  ·rw[if_neg h];by_cases h2:j<i
   ·rw[show Nat.blt j (i+1)=true from zHN (by omega),show Nat.blt j i=true from zHN h2]
   ·have h3:Nat.blt j (i+1)=false:=by
     cases hq:Nat.blt j (i+1)with
     |false=>rfl
     |true=>have:=zFG hq;omega
    have h4:Nat.blt j i=false:=by
     cases hq:Nat.blt j i with
     |false=>rfl
     |true=>have:=zFG hq;omega
    rw[h3,h4]
 show _=(⟨⟨zdK l (i+1) j,0,fun _=>0⟩,rt0,false,0⟩:Rr);rw[e];by_cases h:j=i
 ·rw[if_pos h,if_pos h];rfl
 ·rw[if_neg h,if_neg h];rfl
theorem zB4(l:Lst)(L:D)(h2:l.pk.size≤6000)(h3:∀p∈l.ps,p.size≤1000)(hm:zlN l=true):Con Tryz.prog 27 [.d (zcj l)] ⟨[.d L],[],[]⟩ fun o m'=>o=.ret (T2 (.pt 2 []) (I 0))∧∃a b,m'=⟨[.d L,.d (zcj l),zcF 4 (mc0 l.n (zbS l)) b,.d (zaH (mc0 l.n (zbS l)).x.p),zdr 3 (mc0 l.n (zbS l)).x a],[a,b],[]⟩:=by
 obtain⟨m1,m2,m3⟩:=znW hm;refine zjj Tryz.func27 rfl (by kernel_rfl) rfl rfl ?_;refine zav (zab zaa ?_);conv=>whnf
 refine zaD (l:=[(1,.pt 1 [])]) (m':=⟨[.d L,.d (zcj l)],[],[]⟩) ⟨rfl,trivial⟩ rfl ?_;refine zav (zab zaa ?_);conv=>whnf
 refine zad (zvG l (by omega) h2 h3) ?_;conv=>whnf
 rw[hm];refine⟨(fun h=>by cases h),fun _=>?_⟩;conv=>whnf
 refine zaD (l:=[(1,.pt 1 [])]) (m':=⟨[.d L,.d (zcj l)],[],[]⟩) ⟨rfl,trivial⟩ rfl ?_;refine zav (zab zaa ?_);conv=>whnf
 refine zaD (l:=[(1,.pt 1 []),(4,.pt 2 [])]) (m':=⟨[.d L,.d (zcj l),zDh.sv'],[],[]⟩) ⟨rfl,rfl,trivial⟩ rfl ?_;refine zav (zab zaa ?_);conv=>whnf
 refine zaM Tryz.func63 rfl (by kernel_rfl) rfl rfl ?_;conv=>whnf
 refine zaM Tryz.func117 rfl (by kernel_rfl) rfl rfl ?_;conv=>whnf
 refine⟨fun hq=>?_,fun _=>?_⟩
 ·have hq:(decide (l.n<1)||decide (l.n>64))=true:=hq;simp only[zGD,zFS]at hq;omega
 conv=>whnf
 refine zad (zDl l.n (zac (by omega) (by omega))) ?_;conv=>whnf
 refine⟨(fun h=>by cases h),fun _=>?_⟩;conv=>whnf
 refine zad (zqI) ?_;conv=>whnf
 refine zi8 4 [3] .c (za4 []) rfl rfl rfl ⟨_,_,rfl⟩ ?_;refine zi8 2 [3] tEv (za4 []) rfl rfl rfl ⟨_,_,rfl⟩ ?_;refine zwh 2 (v':=zcF 4 (mc0 l.n (zdK l 0)) 0) rfl rfl (fun ro bl cs hv=>?_) ?_
 ·exact zsu (t':=zpI) (f':=fun i j=>zbi (([]:List Ins).getD j zh0)) rfl (fun i=>rfl) hv
 refine zaD (l:=[(1,.pt 1 []),(4,.pt 2 [])]) (m':=⟨[.d L,.d (zcj l),zcF 4 (mc0 l.n (zdK l 0)) 0,.d (zaH (mc0 l.n (zdK l 0)).x.p),zdr 3 (mc0 l.n (zdK l 0)).x 0],[0,0],[]⟩) ⟨rfl,rfl,trivial⟩ rfl ?_;refine zav (zab zaa ?_);conv=>whnf
 refine⟨zac (x:=(l.ps.length:Int)) (by omega) (by omega),?_⟩;conv=>whnf
 refine zaB zaa (fun i:Nat=>i≤l.ps.length) (fun i=>l.ps.length - i) (fun i=>[(24,I i)]) (fun i=>⟨[.d L,.d (zcj l),zcF 4 (mc0 l.n (zdK l i)) 0,.d (zaH (mc0 l.n (zdK l 0)).x.p),zdr 3 (mc0 l.n (zdK l 0)).x 0],[0,0],[]⟩) 0 (zFV _) ⟨rfl,trivial⟩ rfl (fun i=>⟨zF5 _,zF5 _,zF5 _⟩) ?_;intro i hi;conv=>whnf
 refine⟨fun ht=>?_,fun ht=>?_⟩
 ·have hlt:i<l.ps.length:=by
   have:(i:Int)<(l.ps.length:Int):=by simpa using ht
   omega
  have hmem:l.ps.getD i ByteArray.empty∈l.ps:=by rw[zG9,zHa hlt];exact zHd hlt
  have hz:=h3 _ hmem;conv=>whnf
  refine⟨⟨(by omega:(0:Int)≤(i:Int)),(by omega:(i:Int)<(l.ps.length:Int))⟩,?_⟩;conv=>whnf
  refine zaA zaa (by kernel_rfl) (List.range 12) [(11,64)] (by kernel_rfl) ?_;conv=>whnf
  refine zam (zzz (l.ps.getD i ByteArray.empty) (by omega) (zsc hm hmem)) (fun _ h=>h) ?_;conv=>whnf
  refine⟨⟨(by omega:(0:Int)≤(i:Int)),(by omega:(i:Int)<8)⟩,?_⟩;conv=>whnf
  refine⟨zcF 4 (mc0 l.n (zdK l (i+1))) 0,congrArg (fun d=>SV.pr (.pt 4 []) (.pr (.d d) (.pr (I 0) (.pr (owl 2 0 tEv (zgJ [])) (.d .un))))) (zoO l i),?_⟩;conv=>whnf
  refine⟨zac (x:=(i:Int)+1) (by omega) (by omega),?_⟩;conv=>whnf
  exact⟨i+1,hlt,by omega,⟨rfl,trivial⟩,⟨rfl,rfl⟩,rfl⟩
 ·have hlt:i=l.ps.length:=by
   have:¬(i:Int)<(l.ps.length:Int):=by simpa using ht
   omega
  subst hlt;refine zab zaa ?_;conv=>whnf
  exact⟨rfl,0,0,rfl⟩
theorem zB5(l:Lst)(L0 L:D)(h2:l.pk.size≤6000)(h3:∀p∈l.ps,p.size≤1000)(hm:zlN l=true):Con Tryz.prog 27 [.d (zcj l)] ⟨[.d L0,.d L],[],[]⟩ fun o m'=>o=.ret (T2 (.pt 3 []) (I 0))∧∃a b,m'=⟨[.d L0,.d L,.d (zcj l),zcF 5 (mc0 l.n (zbS l)) b,.d (zaH (mc0 l.n (zbS l)).x.p),zdr 4 (mc0 l.n (zbS l)).x a],[a,b],[]⟩:=by
 obtain⟨m1,m2,m3⟩:=znW hm;refine zjj Tryz.func27 rfl (by kernel_rfl) rfl rfl ?_;refine zav (zab zaa ?_);conv=>whnf
 refine zaD (l:=[(1,.pt 2 [])]) (m':=⟨[.d L0,.d L,.d (zcj l)],[],[]⟩) ⟨rfl,trivial⟩ rfl ?_;refine zav (zab zaa ?_);conv=>whnf
 refine zad (zvG l (by omega) h2 h3) ?_;conv=>whnf
 rw[hm];refine⟨(fun h=>by cases h),fun _=>?_⟩;conv=>whnf
 refine zaD (l:=[(1,.pt 2 [])]) (m':=⟨[.d L0,.d L,.d (zcj l)],[],[]⟩) ⟨rfl,trivial⟩ rfl ?_;refine zav (zab zaa ?_);conv=>whnf
 refine zaD (l:=[(1,.pt 2 []),(4,.pt 3 [])]) (m':=⟨[.d L0,.d L,.d (zcj l),zDh.sv'],[],[]⟩) ⟨rfl,rfl,trivial⟩ rfl ?_;refine zav (zab zaa ?_);conv=>whnf
 refine zaM Tryz.func63 rfl (by kernel_rfl) rfl rfl ?_;conv=>whnf
 refine zaM Tryz.func117 rfl (by kernel_rfl) rfl rfl ?_;conv=>whnf
 refine⟨fun hq=>?_,fun _=>?_⟩
 ·have hq:(decide (l.n<1)||decide (l.n>64))=true:=hq;simp only[zGD,zFS]at hq;omega
 conv=>whnf
 refine zad (zDl l.n (zac (by omega) (by omega))) ?_;conv=>whnf
 refine⟨(fun h=>by cases h),fun _=>?_⟩;conv=>whnf
 refine zad (zqI) ?_;conv=>whnf
 refine zi8 5 [3] .c (za4 []) rfl rfl rfl ⟨_,_,rfl⟩ ?_;refine zi8 3 [3] tEv (za4 []) rfl rfl rfl ⟨_,_,rfl⟩ ?_;refine zwh 3 (v':=zcF 5 (mc0 l.n (zdK l 0)) 0) rfl rfl (fun ro bl cs hv=>?_) ?_
 ·exact zsu (t':=zpI) (f':=fun i j=>zbi (([]:List Ins).getD j zh0)) rfl (fun i=>rfl) hv
 refine zaD (l:=[(1,.pt 2 []),(4,.pt 3 [])]) (m':=⟨[.d L0,.d L,.d (zcj l),zcF 5 (mc0 l.n (zdK l 0)) 0,.d (zaH (mc0 l.n (zdK l 0)).x.p),zdr 4 (mc0 l.n (zdK l 0)).x 0],[0,0],[]⟩) ⟨rfl,rfl,trivial⟩ rfl ?_;refine zav (zab zaa ?_);conv=>whnf
 refine⟨zac (x:=(l.ps.length:Int)) (by omega) (by omega),?_⟩;conv=>whnf
 refine zaB zaa (fun i:Nat=>i≤l.ps.length) (fun i=>l.ps.length - i) (fun i=>[(24,I i)]) (fun i=>⟨[.d L0,.d L,.d (zcj l),zcF 5 (mc0 l.n (zdK l i)) 0,.d (zaH (mc0 l.n (zdK l 0)).x.p),zdr 4 (mc0 l.n (zdK l 0)).x 0],[0,0],[]⟩) 0 (zFV _) ⟨rfl,trivial⟩ rfl (fun i=>⟨zF5 _,zF5 _,zF5 _⟩) ?_;intro i hi;conv=>whnf
 refine⟨fun ht=>?_,fun ht=>?_⟩
 ·have hlt:i<l.ps.length:=by
   have:(i:Int)<(l.ps.length:Int):=by simpa using ht
   omega
  have hmem:l.ps.getD i ByteArray.empty∈l.ps:=by rw[zG9,zHa hlt];exact zHd hlt
  have hz:=h3 _ hmem;conv=>whnf
  refine⟨⟨(by omega:(0:Int)≤(i:Int)),(by omega:(i:Int)<(l.ps.length:Int))⟩,?_⟩;conv=>whnf
  refine zaA zaa (by kernel_rfl) (List.range 12) [(11,64)] (by kernel_rfl) ?_;conv=>whnf
  refine zam (zzz (l.ps.getD i ByteArray.empty) (by omega) (zsc hm hmem)) (fun _ h=>h) ?_;conv=>whnf
  refine⟨⟨(by omega:(0:Int)≤(i:Int)),(by omega:(i:Int)<8)⟩,?_⟩;conv=>whnf
  refine⟨zcF 5 (mc0 l.n (zdK l (i+1))) 0,congrArg (fun d=>SV.pr (.pt 5 []) (.pr (.d d) (.pr (I 0) (.pr (owl 2 0 tEv (zgJ [])) (.d .un))))) (zoO l i),?_⟩;conv=>whnf
  refine⟨zac (x:=(i:Int)+1) (by omega) (by omega),?_⟩;conv=>whnf
  exact⟨i+1,hlt,by omega,⟨rfl,trivial⟩,⟨rfl,rfl⟩,rfl⟩
 ·have hlt:i=l.ps.length:=by
   have:¬(i:Int)<(l.ps.length:Int):=by simpa using ht
   omega
  subst hlt;refine zab zaa ?_;conv=>whnf
  exact⟨rfl,0,0,rfl⟩
theorem zrc(l:Lst)(h2:l.pk.size≤6000)(h3:∀p∈l.ps,p.size≤1000)(hm:zlN l=true):Con Tryz.prog 7 [.d (zaZ l)] ⟨[],[],[]⟩ fun o m'=>o=.ret (.pt 2 [])∧∃a b,m'=⟨[.d (zaZ l),.d (zcj l),zcF 4 (mc0 l.n (zbS l)) b,.d (zaH (mc0 l.n (zbS l)).x.p),zdr 3 (mc0 l.n (zbS l)).x a],[a,b],[]⟩:=by
 refine zjj Tryz.func7 rfl (by kernel_rfl) rfl rfl ?_;refine zav (zab zaa ?_);conv=>whnf
 refine zaD (l:=[(1,.pt 0 [])]) (m':=⟨[.d (zaZ l)],[],[]⟩) ⟨rfl,trivial⟩ rfl ?_;refine zab zaa ?_;conv=>whnf
 refine zad (zvH l) ?_;conv=>whnf
 refine zal (zB4 l (zaZ l) h2 h3 hm) ?_;rintro _ _ ⟨rfl,a,b,rfl⟩;conv=>whnf
 refine⟨(fun h=>by cases h),fun _=>?_⟩;conv=>whnf
 exact⟨rfl,a,b,rfl⟩
theorem zud(l:Lst)(h2:l.pk.size≤6000)(h3:∀p∈l.ps,p.size≤1000)(hm:zlN l=true):Con Tryz.prog 7 [.d (zaZ l)] ⟨[],[],[]⟩ fun o m'=>o=.ret (.pt 0 [])∧∃a b,m'=⟨[zcF 2 (mc0 l.n (zbS l)) b,.d (zaH (mc0 l.n (zbS l)).x.p),zdr 1 (mc0 l.n (zbS l)).x a],[a,b],[]⟩:=by
 have g1:=zfG (zrc l h2 h3 hm) (K:=fun o m'=>o=.ret (.pt 0 [])∧∃a b,m'=⟨[zcF 4 (mc0 l.n (zbS l)) b,.d (zcj l),.d (zaZ l),.d (zaH (mc0 l.n (zbS l)).x.p),zdr 3 (mc0 l.n (zbS l)).x a],[a,b],[]⟩) (by
  rintro _ _ ⟨rfl,a,b,rfl⟩;exact⟨0,2,⟨zFG rfl,zFG rfl⟩,⟨zFG rfl,zFG rfl⟩,rfl,rfl,a,b,rfl⟩)
 have g2:=zfG g1 (K:=fun o m'=>o=.ret (.pt 0 [])∧∃a b,m'=⟨[zcF 4 (mc0 l.n (zbS l)) b,.d (zaH (mc0 l.n (zbS l)).x.p),.d (zaZ l),.d (zcj l),zdr 1 (mc0 l.n (zbS l)).x a],[a,b],[]⟩) (by
  rintro _ _ ⟨rfl,a,b,rfl⟩;exact⟨1,3,⟨zFG rfl,zFG rfl⟩,⟨zFG rfl,zFG rfl⟩,rfl,rfl,a,b,rfl⟩)
 have g3:=zfG g2 (K:=fun o m'=>o=.ret (.pt 0 [])∧∃a b,m'=⟨[zcF 2 (mc0 l.n (zbS l)) b,.d (zaH (mc0 l.n (zbS l)).x.p),zdr 1 (mc0 l.n (zbS l)).x a,.d (zcj l),.d (zaZ l)],[a,b],[]⟩) (by
  rintro _ _ ⟨rfl,a,b,rfl⟩;exact⟨2,4,⟨zFG rfl,zFG rfl⟩,⟨zFG rfl,zFG rfl⟩,rfl,rfl,a,b,rfl⟩)
 refine zeb 3 2 0 ⟨zFG rfl,zFG rfl,zFG rfl⟩ (zal g3 ?_);rintro _ _ ⟨rfl,a,b,rfl⟩;exact⟨_,SV.le_refl _,rfl,rfl,a,b,rfl⟩
theorem zrd(l:Lst)(L0:D)(h2:l.pk.size≤6000)(h3:∀p∈l.ps,p.size≤1000)(hm:zlN l=true):Con Tryz.prog 7 [.d (zaZ l)] ⟨[.d L0],[],[]⟩ fun o m'=>o=.ret (.pt 3 [])∧∃a b,m'=⟨[.d L0,.d (zaZ l),.d (zcj l),zcF 5 (mc0 l.n (zbS l)) b,.d (zaH (mc0 l.n (zbS l)).x.p),zdr 4 (mc0 l.n (zbS l)).x a],[a,b],[]⟩:=by
 refine zjj Tryz.func7 rfl (by kernel_rfl) rfl rfl ?_;refine zav (zab zaa ?_);conv=>whnf
 refine zaD (l:=[(1,.pt 1 [])]) (m':=⟨[.d L0,.d (zaZ l)],[],[]⟩) ⟨rfl,trivial⟩ rfl ?_;refine zab zaa ?_;conv=>whnf
 refine zad (zvH l) ?_;conv=>whnf
 refine zal (zB5 l L0 (zaZ l) h2 h3 hm) ?_;rintro _ _ ⟨rfl,a,b,rfl⟩;conv=>whnf
 refine⟨(fun h=>by cases h),fun _=>?_⟩;conv=>whnf
 exact⟨rfl,a,b,rfl⟩
theorem zue(l:Lst)(L0:D)(h2:l.pk.size≤6000)(h3:∀p∈l.ps,p.size≤1000)(hm:zlN l=true):Con Tryz.prog 7 [.d (zaZ l)] ⟨[.d L0],[],[]⟩ fun o m'=>o=.ret (.pt 1 [])∧∃a b,m'=⟨[.d L0,zcF 3 (mc0 l.n (zbS l)) b,.d (zaH (mc0 l.n (zbS l)).x.p),zdr 2 (mc0 l.n (zbS l)).x a],[a,b],[]⟩:=by
 have g1:=zfG (zrd l L0 h2 h3 hm) (K:=fun o m'=>o=.ret (.pt 1 [])∧∃a b,m'=⟨[.d L0,zcF 5 (mc0 l.n (zbS l)) b,.d (zcj l),.d (zaZ l),.d (zaH (mc0 l.n (zbS l)).x.p),zdr 4 (mc0 l.n (zbS l)).x a],[a,b],[]⟩) (by
  rintro _ _ ⟨rfl,a,b,rfl⟩;exact⟨1,3,⟨zFG rfl,zFG rfl⟩,⟨zFG rfl,zFG rfl⟩,rfl,rfl,a,b,rfl⟩)
 have g2:=zfG g1 (K:=fun o m'=>o=.ret (.pt 1 [])∧∃a b,m'=⟨[.d L0,zcF 5 (mc0 l.n (zbS l)) b,.d (zaH (mc0 l.n (zbS l)).x.p),.d (zaZ l),.d (zcj l),zdr 2 (mc0 l.n (zbS l)).x a],[a,b],[]⟩) (by
  rintro _ _ ⟨rfl,a,b,rfl⟩;exact⟨2,4,⟨zFG rfl,zFG rfl⟩,⟨zFG rfl,zFG rfl⟩,rfl,rfl,a,b,rfl⟩)
 have g3:=zfG g2 (K:=fun o m'=>o=.ret (.pt 1 [])∧∃a b,m'=⟨[.d L0,zcF 3 (mc0 l.n (zbS l)) b,.d (zaH (mc0 l.n (zbS l)).x.p),zdr 2 (mc0 l.n (zbS l)).x a,.d (zcj l),.d (zaZ l)],[a,b],[]⟩) (by
  rintro _ _ ⟨rfl,a,b,rfl⟩;exact⟨3,5,⟨zFG rfl,zFG rfl⟩,⟨zFG rfl,zFG rfl⟩,rfl,rfl,a,b,rfl⟩)
 refine zeb 4 2 0 ⟨zFG rfl,zFG rfl,zFG rfl⟩ (zal g3 ?_);rintro _ _ ⟨rfl,a,b,rfl⟩;exact⟨_,SV.le_refl _,rfl,rfl,a,b,rfl⟩
end Sx
namespace Sx
structure Cnt where
 n:Nat→Int
 v:List Int
def zfd(c:Cnt)(k:Nat)(l:List Int):Cnt:=⟨zaq c.n k (c.n k+l.length),c.v++l⟩
theorem zgz(c:Cnt)(k:Nat):zfd c k []=c:=by
 have:zaq c.n k (c.n k+(([]:List Int).length:Int))=c.n:=by
  funext j;unfold zaq
  split
  ·rename_i h;rw[h];simp
  ·rfl
 unfold zfd;rw[this,zHm]
theorem zgy(c:Cnt)(k:Nat)(l r:List Int):zfd (zfd c k l) k r=zfd c k (l++r):=by
 have:zaq (zaq c.n k (c.n k+l.length)) k (zaq c.n k (c.n k+l.length) k+r.length)=zaq c.n k (c.n k+(l++r).length):=by
  funext j;unfold zaq
  split
  ·rw[if_pos rfl,zFY];omega
  ·rfl
 unfold zfd;rw[this,zG5]
structure Fit (c:Cnt) (r:List Int):Prop where
 nd:(c.v++r).Nodup
 el:∀p∈c.v++r,0≤p∧p<64
 n:∀k,k<4→0≤c.n k∧c.n k≤c.v.length
theorem Fit.add{c:Cnt}{k:Nat}{l r:List Int}(h:Fit c (l++r)):Fit (zfd c k l) r:=by
 refine⟨by show((c.v++l)++r).Nodup;rw[zG5];exact h.nd,fun p hp=>h.el p (by rw[←zG5];exact hp),fun j hj=>?_⟩;have h1:=h.n j hj;show 0≤zaq c.n k (c.n k+l.length) j∧zaq c.n k (c.n k+l.length) j≤((c.v++l).length:Nat);rw[zFY];unfold zaq;split
 ·rename_i e;subst e;omega
 ·omega
theorem Fit.len{c:Cnt}{r:List Int}(h:Fit c r):c.v.length≤64:=by
 have h1:(c.v).Nodup:=(zHO.1 h.nd).1;have h2:c.v ⊆ zjF 64:=fun p hp=>zee.2 (h.el p (zF2.2 (.inl hp)));have h3:=h1.length_le_of_subset h2;have h4:(zjF 64).length=64:=by simp[zjF]
 omega
theorem Fit.new{c:Cnt}{p:Int}{r:List Int}(h:Fit c (p::r)):(0≤p∧p<64)∧c.v.contains p=false:=by
 refine⟨h.el p (zF2.2 (.inr (zF3 ..))),?_⟩;cases hq:c.v.contains p with
 |false=>rfl
 |true=>
  have h1:p∈c.v:=by simpa using hq
  exact absurd rfl ((zHO.1 h.nd).2.2 p h1 p (zF3 ..))
def ziO(n:Nat→Int):D:=.pr (.z .i64 (n 0)) (.pr (.z .i64 (n 1)) (.pr (.z .i64 (n 2)) (.pr (.z .i64 (n 3)) .un)))
def zuA(v:List Int):D:=.ar 64 .c fun i=>.bo (v.contains (i:Int))
theorem zA8(v:List Int){p:Int}(h:0≤p):SV.d ((zuA v).set [p.toNat] (.bo true))=.d (zuA (v++[p])):=by
 refine congrArg (fun f=>SV.d (.ar 64 .c f)) (funext fun j=>?_);show(if j=p.toNat then D.bo true else D.bo (v.contains (j:Int)))=D.bo ((v++[p]).contains (j:Int));by_cases hj:j=p.toNat
 ·rw[if_pos hj]
  congr 1
  have:(j:Int)=p:=by omega
  simp[this]
 ·rw[if_neg hj]
  congr 1
  have:¬(j:Int)=p:=by omega
  simp[this]
def zxs(x:Cr):SV:=.pr (.d (za7 x.s)) (.pr (.pt 1 []) (.pr (.d (za8 x.m)) (.pr (.d (.sl x.q.length .c fun i=>.z .i64 (x.q.getD i 0))) (.d .un))))
theorem zrt(x:Cr){ro:Ro}{bl:Bl}{cs:List Value}(h:zb5 ro bl (zl9 x) cs):zb5 ro bl (zxs x) cs:=by obtain⟨c1,c2,rfl,h1,d1,d2,rfl,h2,e1,e2,rfl,h3,f1,f2,rfl,h4,h5⟩:=h;refine⟨_,_,rfl,h1,_,_,rfl,h2,_,_,rfl,h3,_,_,rfl,?_,h5⟩;have h4:zbg ro (.sl (zL x.q).length .c (za4 (zL x.q))) f1:=h4;rw[zFH]at h4;exact h4.congr fun i hi=>(zc3 (fun x=>D.z .i64 x) 0 hi).symm
theorem zxp{P:Program}{f:FuncId}{args:List SV}{m:MS}{K:Out→MS→Prop}(id:Nat){v v':SV}(hc:zg6 m.c id=some v)(hs:v'.shape=v.shape)(hr:∀ro bl cs,zb5 ro bl v cs→zb5 ro bl v' cs)(h:Con P f args ⟨zmV m.c id v',m.t,m.o⟩ K):Con P f args m K:=by
 refine⟨h.1,fun E ro bl w xs hM hA=>?_⟩;rw[zdi]at hc;rw[zfy]at h;have hM':Mem E ro bl ⟨m.c.set id v',m.t,m.o⟩ w:=by
  refine⟨⟨by show bl.b.length=(m.c.set id v').length;rw[zHM];exact hM.len,hM.ver,fun i blk t u hb hu=>?_,hM.inj,hM.tail,hM.tinj,hM.known,hM.olen,hM.obj,hM.oinj,hM.bo⟩,hM.gh,hM.glob,hM.gno,hM.marks⟩;rcases zb1 hu with⟨rfl,rfl⟩|⟨_,hu⟩
  ·obtain⟨cells,e,g1,g2,g3,g4⟩:=hM.box i blk t v hb hc;exact⟨cells,e,g1,hr _ _ _ g2,by rw[hs];exact g3,g4⟩
  ·exact hM.box i blk t u hb hu
 exact h.2 E ro bl w xs hM' hA
abbrev CB(m:Mc)(a b:Nat)(c:Cnt):List SV:=[za9 m b,.d (zaH m.x.p),zaT m.x a,.d zBI.zero.d,.d i62.zero.d,.d (ziO c.n),.d (zuA c.v),.pt 0 [],.pt 5 [],zxs m.x]
attribute [local irreducible] Con zax zan zau zai zaw zbt zak zaC zbh zba I64
end Sx
namespace Sx
attribute [local irreducible] Con zax zan zau zai zaw zbt zak zaC zbh zba I64
theorem zls{l:List Rn}{i:Nat}(h:i<l.length):pgs (l.take (i+1))=pgs (l.take i)++pg (l.getD i rn0):=by
 have e:l.getD i rn0=l[i]'h:=by rw[zG9,zHa h];rfl
 rw[e,zHb,zHa h,zcP];show _++(pg l[i]++[])=_;rw[zHm]
theorem zmO{l:List Rn}{i j:Nat}(h:i<l.length)(hj:j<(l.getD i rn0).n.toNat):∃r,pgs l=(pgs (l.take i)++(pg (l.getD i rn0)).take j)++((l.getD i rn0).at_+(j:Int))::r:=by
 have e1:pgs l=pgs (l.take (i+1))++pgs (l.drop (i+1)):=by rw[←zcP,zG1]
 have e2:pg (l.getD i rn0)=(pg (l.getD i rn0)).take j++((l.getD i rn0).at_+(j:Int))::(pg (l.getD i rn0)).drop (j+1):=by have h1:=zhz (r:=l.getD i rn0) hj;have h2:=zG1 (j+1) (pg (l.getD i rn0));rw[h1,zG5]at h2;exact h2.symm
 refine⟨(pg (l.getD i rn0)).drop (j+1)++pgs (l.drop (i+1)),?_⟩;rw[e1,zls h,e2];simp only[zG5,zHP,←e2];rw[←zHP,←zG5 ((pg (l.getD i rn0)).take j),←e2]
section
variable {m:Mc} {a b:Nat} {asg body:Code} {N:Nat} {fr:List Ent}
theorem zCb{k:Nat}(hk:k<4){l:List Rn}(hl:l.length≤2147483648){c:Cnt}{R:List Int}(hfit:Fit c (pgs l++R))(hfr1:zbH 11 2 1 [.loop [13,14] asg body N fr .ready]=true)(hfr:zbH 12 2 1 [.loop [13,14] asg body N fr .ready]=true)
 (hround:∀(c:Cnt) (p:Int) (R:List Int) (r:Rn),Fit c (p::R)→zak Tryz.prog 0 [13,14] asg body N fr [I p,.pt 5 [k]] ⟨CB m a b c++[.ob (.yl 0),.d (zar r)],[a,b],[.loop [13,14] asg body N fr .ready]⟩ fun v m'=>v=B true∧m'=⟨CB m a b (zfd c k [p])++[.ob (.yl 0),.d (zar r)],[a,b],[.loop [13,14] asg body N fr .ready]⟩):
 Con Tryz.prog 95 [.d (RS l),.pt 5 [k],.pt 10 []] ⟨CB m a b c++[.ob (.yl 0)],[a,b],[.loop [13,14] asg body N fr .ready]⟩ fun o m'=>o=.ret (B true)∧m'=⟨CB m a b (zfd c k (pgs l))++[.ob (.yl 0)],[a,b],[.loop [13,14] asg body N fr .ready]⟩:=by
 refine zaM Tryz.func95 rfl (by kernel_rfl) rfl rfl ?_;conv=>whnf
 refine⟨zac (x:=(l.length:Int)) (by omega) (by omega),?_⟩;conv=>whnf
 refine zaB zaa (fun i=>i≤l.length) (fun i=>l.length - i) (fun i=>[(11,I i)]) (fun i=>⟨CB m a b (zfd c k (pgs (l.take i)))++[.ob (.yl 0)],[a,b],[.loop [13,14] asg body N fr .ready]⟩) 0 (zFV _) ⟨rfl,trivial⟩ (by rw[show pgs (l.take 0)=[] from rfl,zgz]) (fun i=>⟨zF5 _,zF5 _,zF5 _⟩) ?_;intro i hi;conv=>whnf
 refine⟨fun ht=>?_,fun ht=>?_⟩
 ·have hlt:i<l.length:=by
   have:(i:Int)<(l.length:Int):=by simpa using ht
   omega
  conv=>whnf
  refine⟨⟨(by omega:(0:Int)≤(i:Int)),(by omega:(i:Int)<(l.length:Int))⟩,?_⟩;conv=>whnf
  refine zaB zaa (fun j=>j≤(l.getD i rn0).n.toNat) (fun j=>(l.getD i rn0).n.toNat - j) (fun j=>[(17,I j)]) (fun j=>⟨CB m a b (zfd c k (pgs (l.take i)++(pg (l.getD i rn0)).take j))++[.ob (.yl 0),.d (zar (l.getD i rn0))],[a,b],[.loop [13,14] asg body N fr .ready]⟩) 0 (zFV _) ⟨rfl,trivial⟩ (by rw[show(pg (l.getD i rn0)).take 0=[] from rfl,zHm];rfl) (fun i=>⟨zF5 _,zF5 _,zF5 _⟩) ?_;intro j hj;conv=>whnf
  refine⟨fun ht2=>?_,fun ht2=>?_⟩
  ·have hlj:(j:Int)<(l.getD i rn0).n:=by simpa using ht2
   have hlj2:j<(l.getD i rn0).n.toNat:=by omega
   obtain⟨r,hr⟩:=zmO hlt hlj2;have hF:Fit (zfd c k (pgs (l.take i)++(pg (l.getD i rn0)).take j)) (((l.getD i rn0).at_+(j:Int))::(r++R)):=Fit.add (by rw[hr]at hfit;simpa using hfit);have hp:=hF.new.1;have hj64:j≤64:=by
    have h1:=hF.len;have h2:(pg (l.getD i rn0)).length=(l.getD i rn0).n.toNat:=by simp[pg]
    have h1:(c.v++(pgs (l.take i)++(pg (l.getD i rn0)).take j)).length≤64:=h1;rw[zFY,zFY,zHf,h2]at h1;omega
   conv=>whnf
   refine⟨zac (x:=(l.getD i rn0).at_+(j:Int)) (by omega) (by omega),?_⟩;conv=>whnf
   refine zdS (hround _ _ _ (l.getD i rn0) hF) ?_;rintro _ _ ⟨rfl,rfl⟩;conv=>whnf
   refine⟨(fun h=>by cases h),fun _=>?_⟩;conv=>whnf
   refine⟨zac (x:=(j:Int)+1) (by omega) (by omega),?_⟩;conv=>whnf
   refine⟨j+1,hlj2,by omega,⟨rfl,trivial⟩,⟨?_,(by show(_&&zbH 12 2 1 [_])=true;rw[hfr];rfl)⟩,rfl⟩;rw[zgy,zhz hlj2,zG5];rfl
  ·have hlj:j=(l.getD i rn0).n.toNat:=by
    have:¬(j:Int)<(l.getD i rn0).n:=by simpa using ht2
    omega
   conv=>whnf
   refine⟨zac (x:=(i:Int)+1) (by omega) (by omega),?_⟩;conv=>whnf
   refine⟨i+1,hlt,by omega,⟨rfl,trivial⟩,⟨?_,(by show(_&&zbH 11 2 1 [_])=true;rw[hfr1];rfl)⟩,rfl⟩;have e:(pg (l.getD i rn0)).take j=pg (l.getD i rn0):=zGN (by rw[hlj];simp[pg]);rw[e,zls hlt];rfl
 ·have hlt:i=l.length:=by
   have:¬(i:Int)<(l.length:Int):=by simpa using ht
   omega
  subst hlt;conv=>whnf
  exact⟨rfl,by rw[zHe]⟩
theorem zzI{z:D}{k:Nat}(hk:k<4){l:List Rn}(hl:l.length≤2147483648){c:Cnt}{R:List Int}(hfit:Fit c (pgs l++R))(hfr1:zbH 12 2 1 [.loop [13,14] asg body N fr .ready]=true)(hfr:zbH 13 2 1 [.loop [13,14] asg body N fr .ready]=true)
 (hround:∀(c:Cnt) (p:Int) (R:List Int) (r:Rn),Fit c (p::R)→zak Tryz.prog 0 [13,14] asg body N fr [I p,.pt 5 [k]] ⟨CB m a b c++[.ob (.yl 0),.d z,.d (zar r)],[a,b],[.loop [13,14] asg body N fr .ready]⟩ fun v m'=>v=B true∧m'=⟨CB m a b (zfd c k [p])++[.ob (.yl 0),.d z,.d (zar r)],[a,b],[.loop [13,14] asg body N fr .ready]⟩):
 Con Tryz.prog 95 [.d (RS l),.pt 5 [k],.pt 10 []] ⟨CB m a b c++[.ob (.yl 0),.d z],[a,b],[.loop [13,14] asg body N fr .ready]⟩ fun o m'=>o=.ret (B true)∧m'=⟨CB m a b (zfd c k (pgs l))++[.ob (.yl 0),.d z],[a,b],[.loop [13,14] asg body N fr .ready]⟩:=by
 refine zaM Tryz.func95 rfl (by kernel_rfl) rfl rfl ?_;conv=>whnf
 refine⟨zac (x:=(l.length:Int)) (by omega) (by omega),?_⟩;conv=>whnf
 refine zaB zaa (fun i=>i≤l.length) (fun i=>l.length - i) (fun i=>[(11,I i)]) (fun i=>⟨CB m a b (zfd c k (pgs (l.take i)))++[.ob (.yl 0),.d z],[a,b],[.loop [13,14] asg body N fr .ready]⟩) 0 (zFV _) ⟨rfl,trivial⟩ (by rw[show pgs (l.take 0)=[] from rfl,zgz]) (fun i=>⟨zF5 _,zF5 _,zF5 _⟩) ?_;intro i hi;conv=>whnf
 refine⟨fun ht=>?_,fun ht=>?_⟩
 ·have hlt:i<l.length:=by
   have:(i:Int)<(l.length:Int):=by simpa using ht
   omega
  conv=>whnf
  refine⟨⟨(by omega:(0:Int)≤(i:Int)),(by omega:(i:Int)<(l.length:Int))⟩,?_⟩;conv=>whnf
  refine zaB zaa (fun j=>j≤(l.getD i rn0).n.toNat) (fun j=>(l.getD i rn0).n.toNat - j) (fun j=>[(17,I j)]) (fun j=>⟨CB m a b (zfd c k (pgs (l.take i)++(pg (l.getD i rn0)).take j))++[.ob (.yl 0),.d z,.d (zar (l.getD i rn0))],[a,b],[.loop [13,14] asg body N fr .ready]⟩) 0 (zFV _) ⟨rfl,trivial⟩ (by rw[show(pg (l.getD i rn0)).take 0=[] from rfl,zHm];rfl) (fun i=>⟨zF5 _,zF5 _,zF5 _⟩) ?_;intro j hj;conv=>whnf
  refine⟨fun ht2=>?_,fun ht2=>?_⟩
  ·have hlj:(j:Int)<(l.getD i rn0).n:=by simpa using ht2
   have hlj2:j<(l.getD i rn0).n.toNat:=by omega
   obtain⟨r,hr⟩:=zmO hlt hlj2;have hF:Fit (zfd c k (pgs (l.take i)++(pg (l.getD i rn0)).take j)) (((l.getD i rn0).at_+(j:Int))::(r++R)):=Fit.add (by rw[hr]at hfit;simpa using hfit);have hp:=hF.new.1;have hj64:j≤64:=by
    have h1:=hF.len;have h2:(pg (l.getD i rn0)).length=(l.getD i rn0).n.toNat:=by simp[pg]
    have h1:(c.v++(pgs (l.take i)++(pg (l.getD i rn0)).take j)).length≤64:=h1;rw[zFY,zFY,zHf,h2]at h1;omega
   conv=>whnf
   refine⟨zac (x:=(l.getD i rn0).at_+(j:Int)) (by omega) (by omega),?_⟩;conv=>whnf
   refine zdS (hround _ _ _ (l.getD i rn0) hF) ?_;rintro _ _ ⟨rfl,rfl⟩;conv=>whnf
   refine⟨(fun h=>by cases h),fun _=>?_⟩;conv=>whnf
   refine⟨zac (x:=(j:Int)+1) (by omega) (by omega),?_⟩;conv=>whnf
   refine⟨j+1,hlj2,by omega,⟨rfl,trivial⟩,⟨?_,(by show(_&&zbH 13 2 1 [_])=true;rw[hfr];rfl)⟩,rfl⟩;rw[zgy,zhz hlj2,zG5];rfl
  ·have hlj:j=(l.getD i rn0).n.toNat:=by
    have:¬(j:Int)<(l.getD i rn0).n:=by simpa using ht2
    omega
   conv=>whnf
   refine⟨zac (x:=(i:Int)+1) (by omega) (by omega),?_⟩;conv=>whnf
   refine⟨i+1,hlt,by omega,⟨rfl,trivial⟩,⟨?_,(by show(_&&zbH 12 2 1 [_])=true;rw[hfr1];rfl)⟩,rfl⟩;have e:(pg (l.getD i rn0)).take j=pg (l.getD i rn0):=zGN (by rw[hlj];simp[pg]);rw[e,zls hlt];rfl
 ·have hlt:i=l.length:=by
   have:¬(i:Int)<(l.length:Int):=by simpa using ht
   omega
  subst hlt;conv=>whnf
  exact⟨rfl,by rw[zHe]⟩
end
end Sx
end Go.Proofs.YtfbhkfhbnkncoaaGreatDoor
