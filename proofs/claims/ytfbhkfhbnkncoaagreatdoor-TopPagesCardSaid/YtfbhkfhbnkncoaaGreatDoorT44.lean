import Derived.Test.YtfbhkfhbnkncoaaGreatDoorT42
import Derived.Test.YtfbhkfhbnkncoaaGreatDoorT43
set_option linter.all false
set_option maxRecDepth 100000
set_option maxHeartbeats 8000000
namespace Go.Proofs.YtfbhkfhbnkncoaaGreatDoor
open Go.RowKit
namespace Sx
attribute [local irreducible] Con zax zan zau zai zaw zbt zak zaC zbh zba I64
theorem zpx{at_:Int}:∀{l:List Rn} {b:Int},(∀y∈l,zbd y)→0≤(zjc at_ l b).getD 0∧(zjc at_ l b).getD 0≤4096
 |[],b,_=>⟨zFJ 0,(by decide:(0:Int)≤4096)⟩
 |y::l,b,h=>by
  have hy:=h y (zF3 ..);unfold zbd at hy;unfold zjc;cases hq:(decide (at_≥b)&&decide (at_<b+y.n*32))with
  |true=>
   simp only[zFR,zFS]at hq;show 0≤y.at_*32+at_ - b∧y.at_*32+at_ - b≤4096;omega
  |false=>exact zpx fun z hz=>h z (zF4 _ hz)
theorem zil{x:Cr}{l:List Rn}{i:Nat}(hi:i<l.length):zbn ((l.take i).foldl zbn x) (l.getD i zaO)=(l.take (i+1)).foldl zbn x:=by
 have hg:l.getD i zaO=l[i]'hi:=by rw[zG9,zHa hi];rfl
 rw[zHb,zHa hi,zHc,hg];rfl
theorem zlx(x:Cr)(l:List Rn)(i:Nat):((l.take i).foldl zbn x).q.length≤x.q.length+(pgs l).length:=by
 rw[(zd0 _ x).1,zFY];have h:(pgs l).length=(pgs (l.take i)).length+(pgs (l.drop i)).length:=by rw[←zFY];show(l.flatMap pg).length=((l.take i).flatMap pg++(l.drop i).flatMap pg).length;rw[←zFX,zG1]
 omega
section
variable {Z:SV} {a b:Nat} {x:Cr} {c:Rt} {r0:Rs} {e0:Bool} {b1 b2 b3:D}
theorem zBC{f:FuncId}{args:List SV}{c2:List SV}{t2:List Nat}{o2:List Ob}{p:Sp}(hz:Z.ids 3 2 0=true)(h:Con Tryz.prog f args (M7 Z b1 b2 b3 x c r0 e0 a b) fun o m=>o=unR∧∃a',m=M7 Z b1 b2 b3 p.x p.c p.r p.e a' b)(ha:zaG 7 2 0 args=true){K:Out→MS→Prop}(hK:∀a',K unR ⟨Z::.d (zaH p.x.p)::zaT p.x a'::.d b1::.d b2::.d b3::zp7 p.c p.r p.e::c2,a'::b::t2,o2⟩):Con Tryz.prog f args ⟨Z::.d (zaH x.p)::zaT x a::.d b1::.d b2::.d b3::zp7 c r0 e0::c2,a::b::t2,o2⟩ K:=
 zal (zcb c2 t2 o2 h ha (zcr hz (zFG rfl) rfl) fun o m hm=>by
  obtain⟨_,a',rfl⟩:=hm;exact⟨rfl,rfl,rfl⟩) fun o m ⟨m',⟨h1,a',h3⟩,h2⟩=>by
  subst h3 h2 h1;exact hK a'
theorem zCg{c2:List SV}{t2:List Nat}{o2:List Ob}(hz:Z.ids 3 2 0=true)(r:Rn)(hr:RnQ r)(hq:x.q.length≤1000000){K:Out→MS→Prop}(hK:∀a',K unR ⟨Z::.d (zaH (zbn x r).p)::zaT (zbn x r) a'::c2,a'::b::t2,o2⟩):Con Tryz.prog 133 [.pt 2 [],.d (zar r)] ⟨Z::.d (zaH x.p)::zaT x a::c2,a::b::t2,o2⟩ K:=
 zra (a:=a) (b:=b) hz (zsP hz r hr hq) rfl (fun o m ⟨_,a',h⟩=>⟨_,a',h⟩) fun o x' a' ⟨ho,a2,hm2⟩=>by have e1:=congrArg MS.c hm2;have e2:=congrArg MS.t hm2;simp only[zFD,zFE,zFF]at e1 e2;obtain⟨e3,e1⟩:=e1;subst ho e2;rw[e3,e1];exact hK a'
abbrev cmK(Z:SV)(b1 b2 b3:D)(b:Nat)(p:Sp):X→List Ent→MS→Prop:=zeJ tbl 7 2 0 Tryz.f196.results.toList (zpT Z b1 b2 b3 b p)
abbrev M9(Z:SV)(b1 b2 b3:D)(x:Cr)(c:Rt)(a b:Nat)(l:List SV):MS:=⟨Z::.d (zaH x.p)::zaT x a::.d b1::.d b2::.d b3::zp7 c rs0 false::.pt 6 []::.d (zaW c.c)::l,[a,b],[]⟩
theorem zCi{s2:St}{r:Rs}(hz:Z.ids 3 2 0=true)(hq:x.q.length≤1000000)(hm:zdA x.m)(hr:RnC c.run):Ok Tryz.prog Tryz.f196.ntmps false (zbR 9 (zbE Tryz.f196)) (zdx [(1,.pt 7 []),(7,.pt 10 [])] []) (M9 Z b1 b2 b3 x c a b [.d (za7 s2),.d (zaK r)]) (cmK Z b1 b2 b3 b ⟨zfU x c,c,r,true⟩):=by
 refine zab zaa ?_;conv=>whnf
 refine zBC (p:=⟨zfU x c,c,r,true⟩) hz (zj3 hz hq hm hr r) rfl fun a'=>?_;conv=>whnf
 exact⟨zfn hz (zFG rfl) rfl rfl,rfl,a',rfl⟩
theorem zCk{s2:St}{r:Rs}{bk:List Rn}(hz:Z.ids 3 2 0=true)(hq:x.q.length≤2000)(hm:zdA x.m)(hr:RnC c.run)(hB:∀y∈bk,RnQ y)(hn:(pgs bk).length≤3000)(hk:bk.length≤1000000):Ok Tryz.prog Tryz.f196.ntmps false (zbR 8 (zbE Tryz.f196)) (zdx [(1,.pt 7 []),(7,.pt 10 []),(8,.d (.sl bk.length zca fun i=>zar (bk.getD i zaO)))] []) (M9 Z b1 b2 b3 x c a b [.d (za7 s2),.d (zaK r)]) (cmK Z b1 b2 b3 b ⟨zfU (bk.foldl zbn x) c,c,r,true⟩):=by
 have hA:∀a,Ok Tryz.prog Tryz.f196.ntmps false (zbR 9 (zbE Tryz.f196)) (zdx [(1,.pt 7 []),(7,.pt 10 [])] []) (M9 Z b1 b2 b3 (bk.foldl zbn x) c a b [.d (za7 s2),.d (zaK r)]) (cmK Z b1 b2 b3 b ⟨zfU (bk.foldl zbn x) c,c,r,true⟩):=fun a=>zCi hz (by rw[(zd0 bk x).1,zFY];omega) (by rw[(zd0 bk x).2.2.2];exact hm) hr;refine zav (zab zaa ?_);conv=>whnf
 refine⟨zac (x:=(bk.length:Int)) (by omega) (by omega),?_⟩;conv=>whnf
 refine zaB zaa (fun j:Nat×Nat=>j.1≤bk.length) (fun j=>bk.length - j.1) (fun j=>[(130,I j.1)]) (fun j=>⟨Z::.d (zaH ((bk.take j.1).foldl zbn x).p)::zaT ((bk.take j.1).foldl zbn x) j.2::.d b1::.d b2::.d b3::zp7 c rs0 false::.pt 6 []::.d (zaW c.c)::[.d (za7 s2),.d (zaK r)],[j.2,b],[]⟩) (0,a) (zFV _) ⟨rfl,trivial⟩ rfl (fun j=>⟨zF5 _,zF5 _,zF5 _⟩) ?_;intro j hi;obtain⟨i,a⟩:=j;have hi:i≤bk.length:=hi;conv=>whnf
 refine⟨fun ht=>?_,fun ht=>?_⟩
 ·have hlt:i<bk.length:=by
   have:(i:Int)<(bk.length:Int):=by simpa using ht
   omega
  conv=>whnf
  refine⟨⟨(by omega:(0:Int)≤(i:Int)),(by omega:(i:Int)<(bk.length:Int))⟩,?_⟩;conv=>whnf
  refine zao zaa (by kernel_rfl) 5 (by kernel_rfl) ?_;conv=>whnf
  have hql:=zlx x bk i;have hmem:bk.getD i zaO∈bk:=by rw[zG9,zHa hlt];exact zHd hlt
  refine zCg (x:=(bk.take i).foldl zbn x) hz (bk.getD i zaO) (hB _ hmem) (by omega) fun a'=>?_;conv=>whnf
  refine⟨zac (x:=(i:Int)+1) (by omega) (by omega),?_⟩;conv=>whnf
  refine⟨(i+1,a'),by show i+1≤_;omega,by show bk.length -(i+1)<bk.length - i;omega,⟨rfl,trivial⟩,⟨?_,zcr hz (zFG rfl) rfl⟩,rfl⟩;have e:zbn ((bk.take i).foldl zbn x) (bk.getD i zaO)=(bk.take (i+1)).foldl zbn x:=zil hlt;exact zcn (ce rfl (ce (congrArg (fun y=>SV.d (zaH y.p)) e) (ce (congrArg (fun y=>zaT y a') e) rfl))) rfl rfl
 ·have hlt:i=bk.length:=by
   have:¬(i:Int)<(bk.length:Int):=by simpa using ht
   omega
  subst hlt;conv=>whnf
  refine zaD (l:=[(1,.pt 7 []),(7,.pt 10 [])]) ⟨rfl,rfl,trivial⟩ ?_ (hA a);show(⟨Z::.d (zaH ((bk.take bk.length).foldl zbn x).p)::zaT ((bk.take bk.length).foldl zbn x) a::_,_,_⟩:MS)=_;rw[zHe]
theorem zCm{s2:St}{r:Rs}{bk:List Rn}(hz:Z.ids 3 2 0=true)(hq:x.q.length≤2000)(hm:zdA x.m)(hB:∀y∈bk,RnQ y)(hn:(pgs bk).length≤3000)(hk:bk.length≤1000000):Ok Tryz.prog Tryz.f196.ntmps false (zbR 7 (zbE Tryz.f196)) (zdx [(1,.pt 7 []),(6,.pt 9 []),(7,.pt 10 []),(8,.d (.sl bk.length zca fun i=>zar (bk.getD i zaO)))] []) (M9 Z b1 b2 b3 x c a b [.d (za7 s2),.d (zaK r)]) (cmK Z b1 b2 b3 b ⟨zfU (bk.foldl zbn {x with s:=s2}) {c with run:=zaO},{c with run:=zaO},r,true⟩):=by
 have hC:=zCk (Z:=Z) (a:=a) (b:=b) (b1:=b1) (b2:=b2) (b3:=b3) (x:={x with s:=s2}) (c:={c with run:=zaO}) (s2:=s2) (r:=r) (bk:=bk) hz hq hm (.inl rfl) hB hn hk;refine zav (zab zaa ?_);conv=>whnf
 refine zaA zaa (by kernel_rfl) (List.range 14) [(9,80),(13,0)] (by kernel_rfl) ?_;conv=>whnf
 refine⟨(show _∧_ from⟨rfl,rfl⟩),zas ?_ ?_⟩;rotate_left
 ·repeat' (first|exact trivial|refine And.intro (show _∧_ from⟨rfl,rfl⟩) ?_)
 conv=>whnf
 refine zaD (l:=[(1,.pt 7 []),(7,.pt 10 []),(8,.d (.sl bk.length zca fun i=>zar (bk.getD i zaO)))]) ⟨rfl,rfl,rfl,trivial⟩ rfl hC
theorem zCo{s2:St}{r:Rs}{bk:List Rn}{pl:List Int}(hz:Z.ids 3 2 0=true)(hq:x.q.length≤2000)(hm:zdA x.m)(hf:∀y∈x.p.fr,zbd y)(hl:x.p.fr.length≤500)(hp:x.p.n≤64)(hpl:∀y∈pl,0≤y∧y≤4096)(h8:pl.length≤8)(hB:∀y∈bk,RnQ y)(hn:(pgs bk).length≤3000)(hk:bk.length≤1000000):Ok Tryz.prog Tryz.f196.ntmps false (zbR 6 (zbE Tryz.f196)) (zdx [(1,.pt 7 []),(3,.pt 8 []),(4,.d (.sl pl.length .c fun i=>.z .i64 (pl.getD i 0))),(6,.pt 9 []),(7,.pt 10 []),(8,.d (.sl bk.length zca fun i=>zar (bk.getD i zaO)))] []) (M9 Z b1 b2 b3 x c a b [.d (za7 s2),.d (zaK r)]) (cmK Z b1 b2 b3 b ⟨zfU (bk.foldl zbn {x with p:=(bif c.c.do_==4 then zbG c.c.v x.p pl 0 else x.p),s:=s2}) {c with run:=zaO},{c with run:=zaO},(bif c.c.do_==3 then{r with v:=zeM x.p r.v pl 0}else r),true⟩):=by
 have hD:∀p2 r2,(bif c.c.do_==4 then zbG c.c.v x.p pl 0 else x.p)=p2→(bif c.c.do_==3 then{r with v:=zeM x.p r.v pl 0}else r)=r2→Ok Tryz.prog Tryz.f196.ntmps false (zbR 7 (zbE Tryz.f196)) (zdx [(1,.pt 7 []),(6,.pt 9 []),(7,.pt 10 []),(8,.d (.sl bk.length zca fun i=>zar (bk.getD i zaO)))] []) (M9 Z b1 b2 b3 {x with p:=p2} c a b [.d (za7 s2),.d (zaK r2)]) (cmK Z b1 b2 b3 b ⟨zfU (bk.foldl zbn {x with p:=(bif c.c.do_==4 then zbG c.c.v x.p pl 0 else x.p),s:=s2}) {c with run:=zaO},{c with run:=zaO},(bif c.c.do_==3 then{r with v:=zeM x.p r.v pl 0}else r),true⟩):=fun p2 r2 e1 e2=>by rw[e1,e2];exact zCm (x:={x with p:=p2}) hz hq hm hB hn hk
 have htk:∀i,i<pl.length→pl.take (i+1)=pl.take i++[pl.getD i 0]:=fun i hlt=>by rw[zHb,zHa hlt,zG9,zHa hlt];rfl
 have htl:∀i,i<pl.length→0+(pl.take i).length=i:=fun i hlt=>by rw[zHf];omega
 have hgm:∀i,i<pl.length→pl.getD i 0∈pl:=fun i hlt=>by rw[zG9,zHa hlt];exact zHd hlt
 refine zav (zab zaa ?_);conv=>whnf
 refine⟨fun h1=>?_,fun h1=>?_⟩
 ·have h1:(c.c.do_==4)=true:=h1;conv=>whnf
  refine zaM Tryz.func240 rfl (by kernel_rfl) rfl rfl ?_;conv=>whnf
  refine⟨zac (x:=(pl.length:Int)) (by omega) (by omega),?_⟩;conv=>whnf
  refine zaB zaa (fun j:Nat=>j≤pl.length) (fun j=>pl.length - j) (fun j=>[(10,I j)]) (fun j=>M9 Z b1 b2 b3 {x with p:=zbG c.c.v x.p (pl.take j) 0} c a b [.d (za7 s2),.d (zaK r)]) 0 (zFV _) ⟨rfl,trivial⟩ rfl (fun j=>⟨zF5 _,zF5 _,zF5 _⟩) ?_;intro i hi;conv=>whnf
  refine⟨fun ht=>?_,fun ht=>?_⟩
  ·have hlt:i<pl.length:=by
    have:(i:Int)<(pl.length:Int):=by simpa using ht
    omega
   conv=>whnf
   refine⟨⟨(by omega:(0:Int)≤(i:Int)),(by omega:(i:Int)<(pl.length:Int))⟩,?_⟩;conv=>whnf
   refine zaM Tryz.func241 rfl (by kernel_rfl) rfl rfl ?_;conv=>whnf
   refine zao zaa (by kernel_rfl) 14 (by kernel_rfl) ?_;conv=>whnf
   refine⟨zac (x:=8*(i:Int)) (by omega) (by omega),?_⟩;conv=>whnf
   refine⟨(by omega:(0:Int)≤8*(i:Int)),?_⟩;conv=>whnf
   have hfs:=zfR c.c.v (pl.take i) x.p 0;have hin:=hpl _ (hgm i hlt);refine zpX (x:={x with p:=zbG c.c.v x.p (pl.take i) 0}) hz (R:=fun o=>∃e:Int,o=.ret (I e)) (zoy (p:=zbG c.c.v x.p (pl.take i) 0) (zg5 hz {x with p:=zbG c.c.v x.p (pl.take i) 0} a) (by rw[hfs.2];exact hf) (by rw[hfs.2];exact hl) (pl.getD i 0) (IntKind.u8.wrap (zba .u64 c.c.v (8*(i:Int)))) (by rw[hfs.1];exact hp) (by omega)) rfl fun o ho=>?_;obtain⟨e,rfl⟩:=ho;conv=>whnf
   refine⟨zac (x:=(i:Int)+1) (by omega) (by omega),?_⟩;conv=>whnf
   refine⟨i+1,hlt,by show pl.length -(i+1)<pl.length - i;omega,⟨rfl,trivial⟩,⟨?_,zcr hz (zFG rfl) rfl⟩,rfl⟩;have e2:=(zjq c.c.v (pl.getD i 0) (pl.take i) x.p 0).symm;rw[←htk i hlt,htl i hlt]at e2;exact zcn (ce rfl (ce (congrArg (fun y=>SV.d (zaH y)) e2) rfl)) rfl rfl
  ·have hlt:i=pl.length:=by
    have:¬(i:Int)<(pl.length:Int):=by simpa using ht
    omega
   subst hlt;conv=>whnf
   refine zaD (l:=[(1,.pt 7 []),(6,.pt 9 []),(7,.pt 10 []),(8,.d (.sl bk.length zca fun i=>zar (bk.getD i zaO)))]) ⟨rfl,rfl,rfl,rfl,trivial⟩ ?_ (hD (zbG c.c.v x.p pl 0) r (by rw[h1];rfl) (by rw[show(c.c.do_==3)=false by rw[zGG.1 h1];rfl];rfl));rw[zHe]
 ·have h1:(c.c.do_==4)=false:=h1;conv=>whnf
  refine⟨fun h2=>?_,fun h2=>?_⟩
  ·have h2:(c.c.do_==3)=true:=h2;conv=>whnf
   refine zaM Tryz.func240 rfl (by kernel_rfl) rfl rfl ?_;conv=>whnf
   refine⟨zac (x:=(pl.length:Int)) (by omega) (by omega),?_⟩;conv=>whnf
   refine zaB zaa (fun j:Nat=>j≤pl.length) (fun j=>pl.length - j) (fun j=>[(10,I j)]) (fun j=>M9 Z b1 b2 b3 x c a b [.d (za7 s2),.d (zaK {r with v:=zeM x.p r.v (pl.take j) 0})]) 0 (zFV _) ⟨rfl,trivial⟩ rfl (fun j=>⟨zF5 _,zF5 _,zF5 _⟩) ?_;intro i hi;conv=>whnf
   refine⟨fun ht=>?_,fun ht=>?_⟩
   ·have hlt:i<pl.length:=by
     have:(i:Int)<(pl.length:Int):=by simpa using ht
     omega
    conv=>whnf
    refine⟨⟨(by omega:(0:Int)≤(i:Int)),(by omega:(i:Int)<(pl.length:Int))⟩,?_⟩;conv=>whnf
    have hin:=hpl _ (hgm i hlt);refine zaM Tryz.func243 rfl (by kernel_rfl) rfl rfl ?_;conv=>whnf
    refine zpX hz (R:=fun o=>o=.ret (T2 (.d (.z .u8 (zly x.p (pl.getD i 0)))) (I (zeE x.p (pl.getD i 0))))) (zqU (zg5 hz x a) hf hl (pl.getD i 0) hp (by omega)) rfl fun o ho=>?_;subst ho;conv=>whnf
    refine zao zaa (by kernel_rfl) 9 (by kernel_rfl) ?_;conv=>whnf
    refine⟨zac (x:=8*(i:Int)) (by omega) (by omega),?_⟩;conv=>whnf
    refine⟨(by omega:(0:Int)≤8*(i:Int)),?_⟩;conv=>whnf
    refine⟨zac (x:=(i:Int)+1) (by omega) (by omega),?_⟩;conv=>whnf
    refine⟨i+1,hlt,by show pl.length -(i+1)<pl.length - i;omega,⟨rfl,trivial⟩,⟨?_,zcr hz (zFG rfl) rfl⟩,rfl⟩;have e2:=(zle x.p (pl.getD i 0) (pl.take i) r.v 0).symm;rw[←htk i hlt,htl i hlt]at e2;have e3:=congrArg (fun v=>SV.d (zaK {r with v:=v})) e2;exact zcn (ce rfl (ce rfl (ce rfl (ce rfl (ce rfl (ce rfl (ce rfl (ce rfl (ce rfl (ce rfl (ce e3 rfl))))))))))) rfl rfl
   ·have hlt:i=pl.length:=by
     have:¬(i:Int)<(pl.length:Int):=by simpa using ht
     omega
    subst hlt;conv=>whnf
    refine zaD (l:=[(1,.pt 7 []),(6,.pt 9 []),(7,.pt 10 []),(8,.d (.sl bk.length zca fun i=>zar (bk.getD i zaO)))]) ⟨rfl,rfl,rfl,rfl,trivial⟩ ?_ (hD x.p {r with v:=zeM x.p r.v pl 0} (by rw[h1];rfl) (by rw[h2];rfl));rw[zHe]
  ·have h2:(c.c.do_==3)=false:=h2;conv=>whnf
   exact zaD (l:=[(1,.pt 7 []),(6,.pt 9 []),(7,.pt 10 []),(8,.d (.sl bk.length zca fun i=>zar (bk.getD i zaO)))]) ⟨rfl,rfl,rfl,rfl,trivial⟩ rfl (hD x.p r (by rw[h1];rfl) (by rw[h2];rfl))
theorem zCq{s2:St}{r:Rs}{bk:List Rn}{pl:List Int}(hz:Z.ids 3 2 0=true)(hq:x.q.length≤2000)(hm:zdA x.m)(hr:RnC c.run)(hf:∀y∈x.p.fr,zbd y)(hl:x.p.fr.length≤500)(hp:x.p.n≤64)(hpl:∀y∈pl,0≤y∧y≤4096)(h8:pl.length≤8)(hB:∀y∈bk,RnQ y)(hn:(pgs bk).length≤3000)(hk:bk.length≤1000000):Ok Tryz.prog Tryz.f196.ntmps false (zbR 5 (zbE Tryz.f196)) (zdx [(1,.pt 7 []),(3,.pt 8 []),(4,.d (.sl pl.length .c fun i=>.z .i64 (pl.getD i 0))),(6,.pt 9 []),(7,.pt 10 []),(8,.d (.sl bk.length zca fun i=>zar (bk.getD i zaO)))] []) (M9 Z b1 b2 b3 x c a b [.d (za7 s2),.d (zaK r)]) (cmK Z b1 b2 b3 b (bif r.e != 0 then⟨zfU x c,c,r,true⟩else⟨zfU (bk.foldl zbn {x with p:=(bif c.c.do_==4 then zbG c.c.v x.p pl 0 else x.p),s:=s2}) {c with run:=zaO},{c with run:=zaO},(bif c.c.do_==3 then{r with v:=zeM x.p r.v pl 0}else r),true⟩)):=by
 have hD:=zCo (Z:=Z) (a:=a) (b:=b) (b1:=b1) (b2:=b2) (b3:=b3) (x:=x) (c:=c) (s2:=s2) (r:=r) (bk:=bk) (pl:=pl) hz hq hm hf hl hp hpl h8 hB hn hk;refine zav (zab zaa ?_);conv=>whnf
 refine⟨fun h1=>?_,fun h1=>?_⟩
 ·have h1:(r.e != 0)=true:=h1;rw[h1];conv=>whnf
  refine zBC (p:=⟨zfU x c,c,r,true⟩) hz (zj3 hz (zFU hq (by decide)) hm hr r) rfl fun a'=>?_;conv=>whnf
  exact⟨zfn hz (zFG rfl) rfl rfl,rfl,a',rfl⟩
 ·have h1:(r.e != 0)=false:=h1;rw[h1];conv=>whnf
  exact zaD (l:=[(1,.pt 7 []),(3,.pt 8 []),(4,.d (.sl pl.length .c fun i=>.z .i64 (pl.getD i 0))),(6,.pt 9 []),(7,.pt 10 []),(8,.d (.sl bk.length zca fun i=>zar (bk.getD i zaO)))]) ⟨rfl,rfl,rfl,rfl,rfl,rfl,trivial⟩ rfl hD
theorem zCj{s2:St}{r:Rs}(hz:Z.ids 3 2 0=true)(hq:x.q.length≤1000000)(hm:zdA x.m)(hr:RnC c.run):Ok Tryz.prog Tryz.f196.ntmps false (zbR 9 (zbE Tryz.f196)) (zdx [(1,.pt 7 []),(7,.pt 9 [])] []) (M9 Z b1 b2 b3 x c a b [.d (zaK r),.d (za7 s2)]) (cmK Z b1 b2 b3 b ⟨zfU x c,c,r,true⟩):=by
 refine zab zaa ?_;conv=>whnf
 refine zBC (p:=⟨zfU x c,c,r,true⟩) hz (zj3 hz hq hm hr r) rfl fun a'=>?_;conv=>whnf
 exact⟨zfn hz (zFG rfl) rfl rfl,rfl,a',rfl⟩
theorem zCl{s2:St}{r:Rs}{bk:List Rn}(hz:Z.ids 3 2 0=true)(hq:x.q.length≤2000)(hm:zdA x.m)(hr:RnC c.run)(hB:∀y∈bk,RnQ y)(hn:(pgs bk).length≤3000)(hk:bk.length≤1000000):Ok Tryz.prog Tryz.f196.ntmps false (zbR 8 (zbE Tryz.f196)) (zdx [(1,.pt 7 []),(7,.pt 9 []),(8,.d (.sl bk.length zca fun i=>zar (bk.getD i zaO)))] []) (M9 Z b1 b2 b3 x c a b [.d (zaK r),.d (za7 s2)]) (cmK Z b1 b2 b3 b ⟨zfU (bk.foldl zbn x) c,c,r,true⟩):=by
 have hA:∀a,Ok Tryz.prog Tryz.f196.ntmps false (zbR 9 (zbE Tryz.f196)) (zdx [(1,.pt 7 []),(7,.pt 9 [])] []) (M9 Z b1 b2 b3 (bk.foldl zbn x) c a b [.d (zaK r),.d (za7 s2)]) (cmK Z b1 b2 b3 b ⟨zfU (bk.foldl zbn x) c,c,r,true⟩):=fun a=>zCj hz (by rw[(zd0 bk x).1,zFY];omega) (by rw[(zd0 bk x).2.2.2];exact hm) hr;refine zav (zab zaa ?_);conv=>whnf
 refine⟨zac (x:=(bk.length:Int)) (by omega) (by omega),?_⟩;conv=>whnf
 refine zaB zaa (fun j:Nat×Nat=>j.1≤bk.length) (fun j=>bk.length - j.1) (fun j=>[(130,I j.1)]) (fun j=>⟨Z::.d (zaH ((bk.take j.1).foldl zbn x).p)::zaT ((bk.take j.1).foldl zbn x) j.2::.d b1::.d b2::.d b3::zp7 c rs0 false::.pt 6 []::.d (zaW c.c)::[.d (zaK r),.d (za7 s2)],[j.2,b],[]⟩) (0,a) (zFV _) ⟨rfl,trivial⟩ rfl (fun j=>⟨zF5 _,zF5 _,zF5 _⟩) ?_;intro j hi;obtain⟨i,a⟩:=j;have hi:i≤bk.length:=hi;conv=>whnf
 refine⟨fun ht=>?_,fun ht=>?_⟩
 ·have hlt:i<bk.length:=by
   have:(i:Int)<(bk.length:Int):=by simpa using ht
   omega
  conv=>whnf
  refine⟨⟨(by omega:(0:Int)≤(i:Int)),(by omega:(i:Int)<(bk.length:Int))⟩,?_⟩;conv=>whnf
  refine zao zaa (by kernel_rfl) 5 (by kernel_rfl) ?_;conv=>whnf
  have hql:=zlx x bk i;have hmem:bk.getD i zaO∈bk:=by rw[zG9,zHa hlt];exact zHd hlt
  refine zCg (x:=(bk.take i).foldl zbn x) hz (bk.getD i zaO) (hB _ hmem) (by omega) fun a'=>?_;conv=>whnf
  refine⟨zac (x:=(i:Int)+1) (by omega) (by omega),?_⟩;conv=>whnf
  refine⟨(i+1,a'),by show i+1≤_;omega,by show bk.length -(i+1)<bk.length - i;omega,⟨rfl,trivial⟩,⟨?_,zcr hz (zFG rfl) rfl⟩,rfl⟩;have e:zbn ((bk.take i).foldl zbn x) (bk.getD i zaO)=(bk.take (i+1)).foldl zbn x:=zil hlt;exact zcn (ce rfl (ce (congrArg (fun y=>SV.d (zaH y.p)) e) (ce (congrArg (fun y=>zaT y a') e) rfl))) rfl rfl
 ·have hlt:i=bk.length:=by
   have:¬(i:Int)<(bk.length:Int):=by simpa using ht
   omega
  subst hlt;conv=>whnf
  refine zaD (l:=[(1,.pt 7 []),(7,.pt 9 [])]) ⟨rfl,rfl,trivial⟩ ?_ (hA a);show(⟨Z::.d (zaH ((bk.take bk.length).foldl zbn x).p)::zaT ((bk.take bk.length).foldl zbn x) a::_,_,_⟩:MS)=_;rw[zHe]
theorem zCn{s2:St}{r:Rs}{bk:List Rn}(hz:Z.ids 3 2 0=true)(hq:x.q.length≤2000)(hm:zdA x.m)(hB:∀y∈bk,RnQ y)(hn:(pgs bk).length≤3000)(hk:bk.length≤1000000):Ok Tryz.prog Tryz.f196.ntmps false (zbR 7 (zbE Tryz.f196)) (zdx [(1,.pt 7 []),(6,.pt 10 []),(7,.pt 9 []),(8,.d (.sl bk.length zca fun i=>zar (bk.getD i zaO)))] []) (M9 Z b1 b2 b3 x c a b [.d (zaK r),.d (za7 s2)]) (cmK Z b1 b2 b3 b ⟨zfU (bk.foldl zbn {x with s:=s2}) {c with run:=zaO},{c with run:=zaO},r,true⟩):=by
 have hC:=zCl (Z:=Z) (a:=a) (b:=b) (b1:=b1) (b2:=b2) (b3:=b3) (x:={x with s:=s2}) (c:={c with run:=zaO}) (s2:=s2) (r:=r) (bk:=bk) hz hq hm (.inl rfl) hB hn hk;refine zav (zab zaa ?_);conv=>whnf
 refine zaA zaa (by kernel_rfl) (List.range 14) [(9,80),(13,0)] (by kernel_rfl) ?_;conv=>whnf
 refine⟨(show _∧_ from⟨rfl,rfl⟩),zas ?_ ?_⟩;rotate_left
 ·repeat' (first|exact trivial|refine And.intro (show _∧_ from⟨rfl,rfl⟩) ?_)
 conv=>whnf
 refine zaD (l:=[(1,.pt 7 []),(7,.pt 9 []),(8,.d (.sl bk.length zca fun i=>zar (bk.getD i zaO)))]) ⟨rfl,rfl,rfl,trivial⟩ rfl hC
theorem zCp{s2:St}{r:Rs}{bk:List Rn}{pl:List Int}(hz:Z.ids 3 2 0=true)(hq:x.q.length≤2000)(hm:zdA x.m)(hf:∀y∈x.p.fr,zbd y)(hl:x.p.fr.length≤500)(hp:x.p.n≤64)(hpl:∀y∈pl,0≤y∧y≤4096)(h8:pl.length≤8)(hB:∀y∈bk,RnQ y)(hn:(pgs bk).length≤3000)(hk:bk.length≤1000000):Ok Tryz.prog Tryz.f196.ntmps false (zbR 6 (zbE Tryz.f196)) (zdx [(1,.pt 7 []),(3,.pt 8 []),(4,.d (.sl pl.length .c fun i=>.z .i64 (pl.getD i 0))),(6,.pt 10 []),(7,.pt 9 []),(8,.d (.sl bk.length zca fun i=>zar (bk.getD i zaO)))] []) (M9 Z b1 b2 b3 x c a b [.d (zaK r),.d (za7 s2)]) (cmK Z b1 b2 b3 b ⟨zfU (bk.foldl zbn {x with p:=(bif c.c.do_==4 then zbG c.c.v x.p pl 0 else x.p),s:=s2}) {c with run:=zaO},{c with run:=zaO},(bif c.c.do_==3 then{r with v:=zeM x.p r.v pl 0}else r),true⟩):=by
 have hD:∀p2 r2,(bif c.c.do_==4 then zbG c.c.v x.p pl 0 else x.p)=p2→(bif c.c.do_==3 then{r with v:=zeM x.p r.v pl 0}else r)=r2→Ok Tryz.prog Tryz.f196.ntmps false (zbR 7 (zbE Tryz.f196)) (zdx [(1,.pt 7 []),(6,.pt 10 []),(7,.pt 9 []),(8,.d (.sl bk.length zca fun i=>zar (bk.getD i zaO)))] []) (M9 Z b1 b2 b3 {x with p:=p2} c a b [.d (zaK r2),.d (za7 s2)]) (cmK Z b1 b2 b3 b ⟨zfU (bk.foldl zbn {x with p:=(bif c.c.do_==4 then zbG c.c.v x.p pl 0 else x.p),s:=s2}) {c with run:=zaO},{c with run:=zaO},(bif c.c.do_==3 then{r with v:=zeM x.p r.v pl 0}else r),true⟩):=fun p2 r2 e1 e2=>by rw[e1,e2];exact zCn (x:={x with p:=p2}) hz hq hm hB hn hk
 have htk:∀i,i<pl.length→pl.take (i+1)=pl.take i++[pl.getD i 0]:=fun i hlt=>by rw[zHb,zHa hlt,zG9,zHa hlt];rfl
 have htl:∀i,i<pl.length→0+(pl.take i).length=i:=fun i hlt=>by rw[zHf];omega
 have hgm:∀i,i<pl.length→pl.getD i 0∈pl:=fun i hlt=>by rw[zG9,zHa hlt];exact zHd hlt
 refine zav (zab zaa ?_);conv=>whnf
 refine⟨fun h1=>?_,fun h1=>?_⟩
 ·have h1:(c.c.do_==4)=true:=h1;conv=>whnf
  refine zaM Tryz.func240 rfl (by kernel_rfl) rfl rfl ?_;conv=>whnf
  refine⟨zac (x:=(pl.length:Int)) (by omega) (by omega),?_⟩;conv=>whnf
  refine zaB zaa (fun j:Nat=>j≤pl.length) (fun j=>pl.length - j) (fun j=>[(10,I j)]) (fun j=>M9 Z b1 b2 b3 {x with p:=zbG c.c.v x.p (pl.take j) 0} c a b [.d (zaK r),.d (za7 s2)]) 0 (zFV _) ⟨rfl,trivial⟩ rfl (fun j=>⟨zF5 _,zF5 _,zF5 _⟩) ?_;intro i hi;conv=>whnf
  refine⟨fun ht=>?_,fun ht=>?_⟩
  ·have hlt:i<pl.length:=by
    have:(i:Int)<(pl.length:Int):=by simpa using ht
    omega
   conv=>whnf
   refine⟨⟨(by omega:(0:Int)≤(i:Int)),(by omega:(i:Int)<(pl.length:Int))⟩,?_⟩;conv=>whnf
   refine zaM Tryz.func241 rfl (by kernel_rfl) rfl rfl ?_;conv=>whnf
   refine zao zaa (by kernel_rfl) 14 (by kernel_rfl) ?_;conv=>whnf
   refine⟨zac (x:=8*(i:Int)) (by omega) (by omega),?_⟩;conv=>whnf
   refine⟨(by omega:(0:Int)≤8*(i:Int)),?_⟩;conv=>whnf
   have hfs:=zfR c.c.v (pl.take i) x.p 0;have hin:=hpl _ (hgm i hlt);refine zpX (x:={x with p:=zbG c.c.v x.p (pl.take i) 0}) hz (R:=fun o=>∃e:Int,o=.ret (I e)) (zoy (p:=zbG c.c.v x.p (pl.take i) 0) (zg5 hz {x with p:=zbG c.c.v x.p (pl.take i) 0} a) (by rw[hfs.2];exact hf) (by rw[hfs.2];exact hl) (pl.getD i 0) (IntKind.u8.wrap (zba .u64 c.c.v (8*(i:Int)))) (by rw[hfs.1];exact hp) (by omega)) rfl fun o ho=>?_;obtain⟨e,rfl⟩:=ho;conv=>whnf
   refine⟨zac (x:=(i:Int)+1) (by omega) (by omega),?_⟩;conv=>whnf
   refine⟨i+1,hlt,by show pl.length -(i+1)<pl.length - i;omega,⟨rfl,trivial⟩,⟨?_,zcr hz (zFG rfl) rfl⟩,rfl⟩;have e2:=(zjq c.c.v (pl.getD i 0) (pl.take i) x.p 0).symm;rw[←htk i hlt,htl i hlt]at e2;exact zcn (ce rfl (ce (congrArg (fun y=>SV.d (zaH y)) e2) rfl)) rfl rfl
  ·have hlt:i=pl.length:=by
    have:¬(i:Int)<(pl.length:Int):=by simpa using ht
    omega
   subst hlt;conv=>whnf
   refine zaD (l:=[(1,.pt 7 []),(6,.pt 10 []),(7,.pt 9 []),(8,.d (.sl bk.length zca fun i=>zar (bk.getD i zaO)))]) ⟨rfl,rfl,rfl,rfl,trivial⟩ ?_ (hD (zbG c.c.v x.p pl 0) r (by rw[h1];rfl) (by rw[show(c.c.do_==3)=false by rw[zGG.1 h1];rfl];rfl));rw[zHe]
 ·have h1:(c.c.do_==4)=false:=h1;conv=>whnf
  refine⟨fun h2=>?_,fun h2=>?_⟩
  ·have h2:(c.c.do_==3)=true:=h2;conv=>whnf
   refine zaM Tryz.func240 rfl (by kernel_rfl) rfl rfl ?_;conv=>whnf
   refine⟨zac (x:=(pl.length:Int)) (by omega) (by omega),?_⟩;conv=>whnf
   refine zaB zaa (fun j:Nat=>j≤pl.length) (fun j=>pl.length - j) (fun j=>[(10,I j)]) (fun j=>M9 Z b1 b2 b3 x c a b [.d (zaK {r with v:=zeM x.p r.v (pl.take j) 0}),.d (za7 s2)]) 0 (zFV _) ⟨rfl,trivial⟩ rfl (fun j=>⟨zF5 _,zF5 _,zF5 _⟩) ?_;intro i hi;conv=>whnf
   refine⟨fun ht=>?_,fun ht=>?_⟩
   ·have hlt:i<pl.length:=by
     have:(i:Int)<(pl.length:Int):=by simpa using ht
     omega
    conv=>whnf
    refine⟨⟨(by omega:(0:Int)≤(i:Int)),(by omega:(i:Int)<(pl.length:Int))⟩,?_⟩;conv=>whnf
    have hin:=hpl _ (hgm i hlt);refine zaM Tryz.func243 rfl (by kernel_rfl) rfl rfl ?_;conv=>whnf
    refine zpX hz (R:=fun o=>o=.ret (T2 (.d (.z .u8 (zly x.p (pl.getD i 0)))) (I (zeE x.p (pl.getD i 0))))) (zqU (zg5 hz x a) hf hl (pl.getD i 0) hp (by omega)) rfl fun o ho=>?_;subst ho;conv=>whnf
    refine zao zaa (by kernel_rfl) 9 (by kernel_rfl) ?_;conv=>whnf
    refine⟨zac (x:=8*(i:Int)) (by omega) (by omega),?_⟩;conv=>whnf
    refine⟨(by omega:(0:Int)≤8*(i:Int)),?_⟩;conv=>whnf
    refine⟨zac (x:=(i:Int)+1) (by omega) (by omega),?_⟩;conv=>whnf
    refine⟨i+1,hlt,by show pl.length -(i+1)<pl.length - i;omega,⟨rfl,trivial⟩,⟨?_,zcr hz (zFG rfl) rfl⟩,rfl⟩;have e2:=(zle x.p (pl.getD i 0) (pl.take i) r.v 0).symm;rw[←htk i hlt,htl i hlt]at e2;have e3:=congrArg (fun v=>SV.d (zaK {r with v:=v})) e2;exact zcn (ce rfl (ce rfl (ce rfl (ce rfl (ce rfl (ce rfl (ce rfl (ce rfl (ce rfl (ce e3 rfl)))))))))) rfl rfl
   ·have hlt:i=pl.length:=by
     have:¬(i:Int)<(pl.length:Int):=by simpa using ht
     omega
    subst hlt;conv=>whnf
    refine zaD (l:=[(1,.pt 7 []),(6,.pt 10 []),(7,.pt 9 []),(8,.d (.sl bk.length zca fun i=>zar (bk.getD i zaO)))]) ⟨rfl,rfl,rfl,rfl,trivial⟩ ?_ (hD x.p {r with v:=zeM x.p r.v pl 0} (by rw[h1];rfl) (by rw[h2];rfl));rw[zHe]
  ·have h2:(c.c.do_==3)=false:=h2;conv=>whnf
   exact zaD (l:=[(1,.pt 7 []),(6,.pt 10 []),(7,.pt 9 []),(8,.d (.sl bk.length zca fun i=>zar (bk.getD i zaO)))]) ⟨rfl,rfl,rfl,rfl,trivial⟩ rfl (hD x.p r (by rw[h1];rfl) (by rw[h2];rfl))
theorem zCr{s2:St}{r:Rs}{bk:List Rn}{pl:List Int}(hz:Z.ids 3 2 0=true)(hq:x.q.length≤2000)(hm:zdA x.m)(hr:RnC c.run)(hf:∀y∈x.p.fr,zbd y)(hl:x.p.fr.length≤500)(hp:x.p.n≤64)(hpl:∀y∈pl,0≤y∧y≤4096)(h8:pl.length≤8)(hB:∀y∈bk,RnQ y)(hn:(pgs bk).length≤3000)(hk:bk.length≤1000000):Ok Tryz.prog Tryz.f196.ntmps false (zbR 5 (zbE Tryz.f196)) (zdx [(1,.pt 7 []),(3,.pt 8 []),(4,.d (.sl pl.length .c fun i=>.z .i64 (pl.getD i 0))),(6,.pt 10 []),(7,.pt 9 []),(8,.d (.sl bk.length zca fun i=>zar (bk.getD i zaO)))] []) (M9 Z b1 b2 b3 x c a b [.d (zaK r),.d (za7 s2)]) (cmK Z b1 b2 b3 b (bif r.e != 0 then⟨zfU x c,c,r,true⟩else⟨zfU (bk.foldl zbn {x with p:=(bif c.c.do_==4 then zbG c.c.v x.p pl 0 else x.p),s:=s2}) {c with run:=zaO},{c with run:=zaO},(bif c.c.do_==3 then{r with v:=zeM x.p r.v pl 0}else r),true⟩)):=by
 have hD:=zCp (Z:=Z) (a:=a) (b:=b) (b1:=b1) (b2:=b2) (b3:=b3) (x:=x) (c:=c) (s2:=s2) (r:=r) (bk:=bk) (pl:=pl) hz hq hm hf hl hp hpl h8 hB hn hk;refine zav (zab zaa ?_);conv=>whnf
 refine⟨fun h1=>?_,fun h1=>?_⟩
 ·have h1:(r.e != 0)=true:=h1;rw[h1];conv=>whnf
  refine zBC (p:=⟨zfU x c,c,r,true⟩) hz (zj3 hz (zFU hq (by decide)) hm hr r) rfl fun a'=>?_;conv=>whnf
  exact⟨zfn hz (zFG rfl) rfl rfl,rfl,a',rfl⟩
 ·have h1:(r.e != 0)=false:=h1;rw[h1];conv=>whnf
  exact zaD (l:=[(1,.pt 7 []),(3,.pt 8 []),(4,.d (.sl pl.length .c fun i=>.z .i64 (pl.getD i 0))),(6,.pt 10 []),(7,.pt 9 []),(8,.d (.sl bk.length zca fun i=>zar (bk.getD i zaO)))]) ⟨rfl,rfl,rfl,rfl,rfl,rfl,trivial⟩ rfl hD
theorem zDY(hz:Z.ids 3 2 0=true)(hS:SInv x.s)(hc:CallOk x.s c.task c.c)(hA:x.s.alive c.task.toNat=true)(hca:U32 c.c.a)(hcb:U32 c.c.b)(hq:x.q.length≤2000)(hm:zdA x.m)(hr:RnC c.run)(hf:∀y∈x.p.fr,zbd y)(hl:x.p.fr.length≤500)(hp:x.p.n≤64)(hrn:zaE x.s c.task c.c>0→c.run.n=zaE x.s c.task c.c→zbd c.run):Ok Tryz.prog Tryz.f196.ntmps false (zbR 4 (zbE Tryz.f196)) (zdx [(1,.pt 7 []),(3,.pt 8 []),(4,.d (.sl (zbU x.s c.c).length .c fun i=>.z .i64 ((zbU x.s c.c).getD i 0)))] []) (M9 Z b1 b2 b3 x c a b []) (cmK Z b1 b2 b3 b (zeq x c)):=by
 obtain⟨d,hd⟩:=hS.std.ok;obtain⟨hB1,hB2,hB3⟩:=znz (run:=c.run) hS hc hrn;obtain⟨d2,ht2⟩:=hS.t;have hB4:=zoC ht2 (task:=c.task) (c:=c.c) (run:=c.run);have hpl:∀y∈zbU x.s c.c,0≤y∧y≤4096:=fun y hy=>by
  unfold zbU at hy;cases hq:(zdH x.s c.c==0)with
  |false=>rw[hq]at hy;cases hy
  |true=>
   rw[hq]at hy;obtain⟨i,_,rfl⟩:=zHg.1 (show y∈(List.range c.c.b.toNat).map _ from hy);exact zpx (zc1 ht2 c.c.r).ok
 have h8:(zbU x.s c.c).length≤8:=by
  unfold zbU;cases hq:(zdH x.s c.c==0)with
  |false=>exact zFV _
  |true=>
   show((List.range c.c.b.toNat).map _).length≤8;rw[zFH,zGx];unfold zdH at hq;cases h1:zah x.s.t.b c.c.r with
   |false=>rw[h1]at hq;cases hq
   |true=>
    rw[h1]at hq;cases h2:(((c.c.do_ != 3)&&(c.c.do_ != 4))||(decide (c.c.b<1)||decide (c.c.b>8)))with
    |true=>rw[h2]at hq;cases hq
    |false=>
     simp only[zFM,zFO]at h2;omega
 have hrun:zbd c.run∨c.run.n=0:=hr.symm;have hN:NE (zbu x.s c.task c.c c.run):=zkM hS hc;have hDo:=(zB1 (run:=c.run) hS.std hS.mail hc hrun hN).out (zq2 (a:=.d (za7 (doB x.s c.task c.c c.run).1)) (b:=.d (zaK (doB x.s c.task c.c c.run).2.1)) fun ro bl q h=>zbZ zca zar zaO (doB x.s c.task c.c c.run).2.2 ro bl q h);have h0:=zCq (Z:=Z) (a:=a) (b:=b) (b1:=b1) (b2:=b2) (b3:=b3) (x:=x) (c:=c) (s2:=(doB x.s c.task c.c c.run).1) (r:=(doB x.s c.task c.c c.run).2.1) (bk:=(doB x.s c.task c.c c.run).2.2) (pl:=zbU x.s c.c) hz hq hm hr hf hl hp hpl h8 hB2 hB3 (by omega);have h1:=zCr (Z:=Z) (a:=a) (b:=b) (b1:=b1) (b2:=b2) (b3:=b3) (x:=x) (c:=c) (s2:=(doB x.s c.task c.c c.run).1) (r:=(doB x.s c.task c.c c.run).2.1) (bk:=(doB x.s c.task c.c c.run).2.2) (pl:=zbU x.s c.c) hz hq hm hr hf hl hp hpl h8 hB2 hB3 (by omega);refine zav (zab zaa ?_);conv=>whnf
 refine zkU zaa (by kernel_rfl) 23 24 (by decide) (List.range 28) [(23,8388607),(24,8388607),(25,6291456),(26,4194304)] [0,1,2,3,4,5,6,7,8,9,10,11,12,13,14,15,16,17,18,19,20,21,22,24,23,25,26,27] [(23,8388607),(24,8388607),(25,6291456),(26,4194304)] (by kernel_rfl) (by kernel_rfl) ?_ ?_
 ·conv=>whnf
  refine zam hDo (fun _ h=>h) ?_;conv=>whnf
  refine⟨(show _∧_ from⟨rfl,rfl⟩),zas ?_ ?_⟩;rotate_left
  ·repeat' (first|exact trivial|refine And.intro (show _∧_ from⟨rfl,rfl⟩) ?_)
  conv=>whnf
  refine⟨(show _∧_ from⟨rfl,rfl⟩),zas ?_ ?_⟩;rotate_left
  ·repeat' (first|exact trivial|refine And.intro (show _∧_ from⟨rfl,rfl⟩) ?_)
  conv=>whnf
  exact zaD (l:=[(1,.pt 7 []),(3,.pt 8 []),(4,.d (.sl (zbU x.s c.c).length .c fun i=>.z .i64 ((zbU x.s c.c).getD i 0))),(6,.pt 9 []),(7,.pt 10 []),(8,.d (.sl (doB x.s c.task c.c c.run).2.2.length zca fun i=>zar ((doB x.s c.task c.c c.run).2.2.getD i zaO)))]) ⟨rfl,rfl,rfl,rfl,rfl,rfl,trivial⟩ rfl h0
 ·conv=>whnf
  refine zam hDo (fun _ h=>h) ?_;conv=>whnf
  refine⟨(show _∧_ from⟨rfl,rfl⟩),zas ?_ ?_⟩;rotate_left
  ·repeat' (first|exact trivial|refine And.intro (show _∧_ from⟨rfl,rfl⟩) ?_)
  conv=>whnf
  refine⟨(show _∧_ from⟨rfl,rfl⟩),zas ?_ ?_⟩;rotate_left
  ·repeat' (first|exact trivial|refine And.intro (show _∧_ from⟨rfl,rfl⟩) ?_)
  conv=>whnf
  exact zaD (l:=[(1,.pt 7 []),(3,.pt 8 []),(4,.d (.sl (zbU x.s c.c).length .c fun i=>.z .i64 ((zbU x.s c.c).getD i 0))),(6,.pt 10 []),(7,.pt 9 []),(8,.d (.sl (doB x.s c.task c.c c.run).2.2.length zca fun i=>zar ((doB x.s c.task c.c c.run).2.2.getD i zaO)))]) ⟨rfl,rfl,rfl,rfl,rfl,rfl,trivial⟩ rfl h1
theorem zDn(hz:Z.ids 3 2 0=true)(hS:SInv x.s)(hc:CallOk x.s c.task c.c)(hA:x.s.alive c.task.toNat=true)(hca:U32 c.c.a)(hcb:U32 c.c.b)(hq:x.q.length≤2000)(hm:zdA x.m)(hr:RnC c.run)(hf:∀y∈x.p.fr,zbd y)(hl:x.p.fr.length≤500)(hp:x.p.n≤64)(hrn:zaE x.s c.task c.c>0→c.run.n=zaE x.s c.task c.c→zbd c.run):Ok Tryz.prog Tryz.f196.ntmps false (zbR 3 (zbE Tryz.f196)) (zdx [(1,.pt 7 []),(3,.pt 8 [])] []) (M9 Z b1 b2 b3 x c a b []) (cmK Z b1 b2 b3 b (zeq x c)):=by
 obtain⟨d,hd⟩:=hS.std.ok;have h4:=zDY (Z:=Z) (a:=a) (b:=b) (b1:=b1) (b2:=b2) (b3:=b3) (x:=x) (c:=c) hz hS hc hA hca hcb hq hm hr hf hl hp hrn;refine zav (zab zaa ?_);conv=>whnf
 refine zao zaa (by kernel_rfl) 14 (by kernel_rfl) ?_;conv=>whnf
 refine zam ((ztY hd (c:=c.c) hca hcb).out (zhP (b:=I (zdH x.s c.c)) fun ro bl q h=>zbZ .c (fun i=>.z .i64 i) 0 (zbU x.s c.c) ro bl q h)) (fun _ h=>h) ?_;conv=>whnf
 exact zaD (l:=[(1,.pt 7 []),(3,.pt 8 []),(4,.d (.sl (zbU x.s c.c).length .c fun i=>.z .i64 ((zbU x.s c.c).getD i 0)))]) ⟨rfl,rfl,rfl,trivial⟩ rfl h4
theorem zrr{t:Nat}(hz:Z.ids 3 2 0=true)(hw:WOk x c t):Con Tryz.prog 196 [.pt 6 []] (M7 Z b1 b2 b3 x c rs0 false a b) (zpT Z b1 b2 b3 b (zcU x c)):=by
 have hfl:x.p.fr.length≤500:=zFU (zfK hw.fr) (by decide);have hq:=hw.q;have hpg:(pg c.run).length≤64:=by
  have e:(pg c.run).length=c.run.n.toNat:=by simp[pg]
  rcases hw.rn with h|h
  ·rw[e,h];decide
  ·unfold zbd at h;omega
 refine zcp Tryz.func196 rfl (by kernel_rfl) rfl rfl ?_;refine zav (zab zaa ?_);conv=>whnf
 refine zav (zab zaa ?_);conv=>whnf
 refine zaD (l:=[(1,.pt 7 []),(3,.pt 8 [])]) (m':=M9 Z b1 b2 b3 x c a b []) ⟨rfl,rfl,trivial⟩ rfl ?_;refine zav (zab zaa ?_);conv=>whnf
 refine zao zaa (by kernel_rfl) 30 (by kernel_rfl) ?_;conv=>whnf
 refine zam (ziu hw.s.std hw.s.mail hw.call hw.alive) (fun _ h _=>h) ?_;conv=>whnf
 refine⟨fun h1=>?_,fun h1=>?_⟩
 ·have h1:(decide (c.run.n>0)&&(zaE x.s c.task c.c != c.run.n))=true:=h1;have e:zcU x c=zeq (zbn x c.run) {c with run:=zaO}:=by unfold zcU;rw[h1];rfl
  rw[e];conv=>whnf
  refine zao zaa (by kernel_rfl) 9 (by kernel_rfl) ?_;conv=>whnf
  refine zCg hz c.run hw.rn.q (zFU hq (by decide)) fun a'=>?_;conv=>whnf
  exact zaD (l:=[(1,.pt 7 []),(3,.pt 8 [])]) ⟨rfl,rfl,trivial⟩ rfl (zDn (x:=zbn x c.run) (c:={c with run:=zaO}) hz hw.s hw.call hw.alive hw.ct.a hw.ct.b (by show(x.q++pg c.run).length≤2000;rw[zFY];omega) hw.mks (.inl rfl) hw.fr.ok hfl hw.n (fun h2 h3=>by have h3:(0:Int)=zaE x.s c.task c.c:=h3;have h2:zaE x.s c.task c.c>0:=h2;omega))
 ·have h1:(decide (c.run.n>0)&&(zaE x.s c.task c.c != c.run.n))=false:=h1;have e:zcU x c=zeq x c:=by unfold zcU;rw[h1];rfl
  rw[e];conv=>whnf
  exact zaD (l:=[(1,.pt 7 []),(3,.pt 8 [])]) ⟨rfl,rfl,trivial⟩ rfl (zDn hz hw.s hw.call hw.alive hw.ct.a hw.ct.b (zFU hq (by decide)) hw.mks hw.rn hw.fr.ok hfl hw.n (fun h2 h3=>by
   rcases hw.rn with h|h
   ·omega
   ·exact h))
end
end Sx
end Go.Proofs.YtfbhkfhbnkncoaaGreatDoor
