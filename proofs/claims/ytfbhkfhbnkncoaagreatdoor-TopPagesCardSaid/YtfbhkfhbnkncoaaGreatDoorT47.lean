import Derived.Test.YtfbhkfhbnkncoaaGreatDoorT46
set_option linter.all false
set_option maxRecDepth 100000
set_option maxHeartbeats 4000000
namespace Go.Proofs.YtfbhkfhbnkncoaaGreatDoor
open Go.RowKit
namespace Sx
attribute [local irreducible] Con zax zan zau zai zaw zbt zak zaC zbh zba I64
section
variable {m:Mc} {a b:Nat} {x:Cr} {s2:St} {r:Rs} {bk:List Rn}
theorem zCY{t:Nat}(hev:m.ev.length≤1000000):Ok Tryz.prog Tryz.f31.ntmps false (zbR 4 (zbE Tryz.f31)) (zdx [(0,.pt 0 []),(1,I t),(4,.pt 3 []),(6,.pt 5 [])] []) (⟨za9 m b::.d (zaH (x).p)::zaT (x) (a)::.d (zaW (zbo 20))::.d (za7 s2)::.d (zaK r)::[],[a,b],[]⟩) (zeJ tbl 3 2 0 Tryz.f31.results.toList fun o m'=>o=unR∧∃a2 b2,m'=MM ({m with x:=x,ev:=m.ev++[⟨t,zbo 20,zaO,r,m.now,m.now⟩]}) a2 b2):=by
 refine zab zaa ?_;conv=>whnf
 refine zaA zaa (by kernel_rfl) (List.range 23) [(18,31),(19,1),(22,0)] (by kernel_rfl) ?_;conv=>whnf
 refine Or.inl ?_;conv=>whnf
 refine⟨(show _∧_ from⟨rfl,rfl⟩),zas ?_ ?_⟩;rotate_left
 ·repeat' (first|exact trivial|refine And.intro (show _∧_ from⟨rfl,rfl⟩) ?_)
 conv=>whnf
 refine⟨⟨rfl,(by rw[zFH];omega:(zgJ m.ev).length+1≤2147483648)⟩,?_⟩;conv=>whnf
 refine⟨zaJ rfl (za6 rfl x a),rfl,a,b+1,?_⟩;have e:=zcq 2 (b+1) tEv (zgJ m.ev) [zeu ⟨t,zbo 20,zaO,r,m.now,m.now⟩];rw[←zHk,←zF6]at e;exact zcn (ce (congrArg (fun q=>SV.pr (.pt 2 []) (.pr (.d (zeI m.ts)) (.pr (I m.now) (.pr q (.d .un))))) e) rfl) rfl rfl
theorem zCW{t:Nat}(hev:m.ev.length≤1000000)(hq:x.q.length≤2000)(hB:∀y∈bk,RnQ y)(hn:(pgs bk).length≤3000)(hk:bk.length≤1000000):Ok Tryz.prog Tryz.f31.ntmps false (zbR 3 (zbE Tryz.f31)) (zdx [(0,.pt 0 []),(1,I t),(4,.pt 3 []),(6,.pt 5 []),(7,.d (.sl bk.length zca fun i=>zar (bk.getD i zaO)))] []) (⟨za9 m b::.d (zaH (x).p)::zaT (x) (a)::.d (zaW (zbo 20))::.d (za7 s2)::.d (zaK r)::[],[a,b],[]⟩) (zeJ tbl 3 2 0 Tryz.f31.results.toList fun o m'=>o=unR∧∃a2 b2,m'=MM ({m with x:=bk.foldl zbn x,ev:=m.ev++[⟨t,zbo 20,zaO,r,m.now,m.now⟩]}) a2 b2):=by
 have h4:=fun a=>zCY (m:=m) (a:=a) (b:=b) (x:=bk.foldl zbn x) (s2:=s2) (r:=r) (t:=t) hev;refine zav (zav (zab zaa ?_));conv=>whnf
 refine⟨zac (x:=(bk.length:Int)) (by omega) (by omega),?_⟩;conv=>whnf
 refine zab zaa ?_;conv=>whnf
 refine zaB zaa (fun j:Nat×Nat=>j.1≤bk.length) (fun j=>bk.length - j.1) (fun j=>[(36,I j.1)]) (fun j=>⟨za9 m b::.d (zaH ((bk.take j.1).foldl zbn x).p)::zaT ((bk.take j.1).foldl zbn x) (j.2)::.d (zaW (zbo 20))::.d (za7 s2)::.d (zaK r)::[],[j.2,b],[]⟩) (0,a) (zFV _) ⟨rfl,trivial⟩ rfl (fun j=>⟨zF5 _,zF5 _,zF5 _⟩) ?_;intro j hi;obtain⟨i,a⟩:=j;have hi:i≤bk.length:=hi;conv=>whnf
 refine⟨fun ht=>?_,fun ht=>?_⟩
 ·have hlt:i<bk.length:=by
   have:(i:Int)<(bk.length:Int):=by simpa using ht
   omega
  conv=>whnf
  refine⟨⟨(by omega:(0:Int)≤(i:Int)),(by omega:(i:Int)<(bk.length:Int))⟩,?_⟩;conv=>whnf
  have hql:=zlx x bk i;have hmem:bk.getD i zaO∈bk:=by rw[zG9,zHa hlt];exact zHd hlt
  have hy:=hB _ hmem;have hst:zbn ((bk.take i).foldl zbn x) (bk.getD i zaO)=(bk.take (i+1)).foldl zbn x:=zil hlt;have hn1:(bk.getD i zaO).n≤64∧((bk.getD i zaO).n≤0∨(0≤(bk.getD i zaO).at_∧(bk.getD i zaO).at_≤64)):=by
   rcases hy with h|h
   ·omega
   ·unfold zbd at h;omega
  have hpl:∀k,((pg (bk.getD i zaO)).take k).length≤64:=fun k=>by
   refine zFU (zHl _ _) ?_;have:(pg (bk.getD i zaO)).length=(bk.getD i zaO).n.toNat:=by simp[pg]
   omega
  refine zaB zaa (fun k=>k≤(bk.getD i zaO).n.toNat) (fun k=>(bk.getD i zaO).n.toNat - k) (fun k=>[(42,I k)]) (fun k=>⟨za9 m b::.d (zaH (qI ((bk.take i).foldl zbn x) (bk.getD i zaO) k).p)::zaT (qI ((bk.take i).foldl zbn x) (bk.getD i zaO) k) (a+k)::.d (zaW (zbo 20))::.d (za7 s2)::.d (zaK r)::.d (zar (bk.getD i zaO))::[],[a+k,b],[]⟩) 0 (zFV _) ⟨rfl,trivial⟩ ?_ (fun k=>⟨zF5 _,zF5 _,zF5 _⟩) ?_
  ·exact zcn (ce rfl (ce rfl (ce (congrArg (fun q=>zaT {(bk.take i).foldl zbn x with q:=q} a) (zHm ((bk.take i).foldl zbn x).q).symm) rfl))) rfl rfl
  intro k hk2;conv=>whnf
  refine⟨fun ht2=>?_,fun ht2=>?_⟩
  ·have hlt2:k<(bk.getD i zaO).n.toNat:=by
    have:(k:Int)<(bk.getD i zaO).n:=by simpa using ht2
    omega
   have hli:=hpl k;conv=>whnf
   refine zaA zaa (by kernel_rfl) (List.range 20) [(15,2047),(16,15),(19,0)] (by kernel_rfl) ?_;conv=>whnf
   refine⟨zac (x:=(bk.getD i zaO).at_+(k:Int)) (by omega) (by omega),?_⟩;conv=>whnf
   refine Or.inl ?_;conv=>whnf
   refine⟨(show _∧_ from⟨rfl,rfl⟩),zas ?_ ?_⟩;rotate_left
   ·repeat' (first|exact trivial|refine And.intro (show _∧_ from⟨rfl,rfl⟩) ?_)
   conv=>whnf
   refine⟨⟨rfl,(by rw[zFH];show(((bk.take i).foldl zbn x).q++(pg (bk.getD i zaO)).take k).length+1≤_;rw[zFY];omega:(zL (qI ((bk.take i).foldl zbn x) (bk.getD i zaO) k).q).length+1≤2147483648)⟩,?_⟩;conv=>whnf
   refine⟨(show _∧_ from⟨rfl,rfl⟩),zas ?_ ?_⟩;rotate_left
   ·repeat' (first|exact trivial|refine And.intro (show _∧_ from⟨rfl,rfl⟩) ?_)
   conv=>whnf
   refine⟨zac (x:=(k:Int)+1) (by omega) (by omega),?_⟩;conv=>whnf
   have eb:zL (qI ((bk.take i).foldl zbn x) (bk.getD i zaO) k).q++[D.z .i64 ((bk.getD i zaO).at_+(k:Int))]=zL (qI ((bk.take i).foldl zbn x) (bk.getD i zaO) (k+1)).q:=by show(((bk.take i).foldl zbn x).q++(pg (bk.getD i zaO)).take k).map _++_=(((bk.take i).foldl zbn x).q++(pg (bk.getD i zaO)).take (k+1)).map _;rw[zhz hlt2,←zG5];simp only[zF6,zGF,zHn]
   refine⟨k+1,hlt2,by omega,⟨rfl,trivial⟩,⟨?_,rfl⟩,rfl⟩;have e5:=zcq 1 (a+k+1) .c (zL (qI ((bk.take i).foldl zbn x) (bk.getD i zaO) k).q) [D.z .i64 ((bk.getD i zaO).at_+(k:Int))];rw[eb]at e5;exact zcn (ce rfl (ce rfl (ce (congrArg (fun q=>SV.pr (.d (za7 ((bk.take i).foldl zbn x).s)) (.pr (.pt 1 []) (.pr (.d (za8 ((bk.take i).foldl zbn x).m)) (.pr q (.d .un))))) e5) rfl))) rfl rfl
  ·have hlt2:k=(bk.getD i zaO).n.toNat:=by
    have:¬((k:Int)<(bk.getD i zaO).n):=by simpa using ht2
    omega
   subst hlt2;conv=>whnf
   refine⟨zac (x:=(i:Int)+1) (by omega) (by omega),?_⟩;conv=>whnf
   refine⟨(i+1,a+(bk.getD i zaO).n.toNat),hlt,by show bk.length -(i+1)<bk.length - i;omega,⟨rfl,trivial⟩,⟨?_,rfl⟩,rfl⟩;have ep:(pg (bk.getD i zaO)).take (bk.getD i zaO).n.toNat=pg (bk.getD i zaO):=by
    have:(pg (bk.getD i zaO)).length=(bk.getD i zaO).n.toNat:=by simp[pg]
    rw[←this,zHe]
   have eq:qI ((bk.take i).foldl zbn x) (bk.getD i zaO) (bk.getD i zaO).n.toNat=(bk.take (i+1)).foldl zbn x:=by rw[←hst];unfold qI zbn;rw[ep]
   exact zcn (ce rfl (ce (congrArg (fun y=>SV.d (zaH y.p)) eq) (ce (congrArg (fun y=>zaT y (a+(bk.getD i zaO).n.toNat)) eq) rfl))) rfl rfl
 ·have hlt:i=bk.length:=by
   have:¬(i:Int)<(bk.length:Int):=by simpa using ht
   omega
  subst hlt;conv=>whnf
  refine zaD (l:=[(0,.pt 0 []),(1,I t),(4,.pt 3 []),(6,.pt 5 [])]) ⟨rfl,rfl,rfl,rfl,trivial⟩ ?_ (h4 a);show(⟨_::.d (zaH ((bk.take bk.length).foldl zbn x).p)::zaT ((bk.take bk.length).foldl zbn x) a::_,_,_⟩:MS)=_;rw[zHe]
theorem zCZ{t:Nat}(hev:m.ev.length≤1000000):Ok Tryz.prog Tryz.f31.ntmps false (zbR 4 (zbE Tryz.f31)) (zdx [(0,.pt 0 []),(1,I t),(4,.pt 3 []),(6,.pt 4 [])] []) (⟨za9 m b::.d (zaH (x).p)::zaT (x) (a)::.d (zaW (zbo 20))::.d (zaK r)::.d (za7 s2)::[],[a,b],[]⟩) (zeJ tbl 3 2 0 Tryz.f31.results.toList fun o m'=>o=unR∧∃a2 b2,m'=MM ({m with x:=x,ev:=m.ev++[⟨t,zbo 20,zaO,r,m.now,m.now⟩]}) a2 b2):=by
 refine zab zaa ?_;conv=>whnf
 refine zaA zaa (by kernel_rfl) (List.range 23) [(18,31),(19,1),(22,0)] (by kernel_rfl) ?_;conv=>whnf
 refine Or.inl ?_;conv=>whnf
 refine⟨(show _∧_ from⟨rfl,rfl⟩),zas ?_ ?_⟩;rotate_left
 ·repeat' (first|exact trivial|refine And.intro (show _∧_ from⟨rfl,rfl⟩) ?_)
 conv=>whnf
 refine⟨⟨rfl,(by rw[zFH];omega:(zgJ m.ev).length+1≤2147483648)⟩,?_⟩;conv=>whnf
 refine⟨zaJ rfl (za6 rfl x a),rfl,a,b+1,?_⟩;have e:=zcq 2 (b+1) tEv (zgJ m.ev) [zeu ⟨t,zbo 20,zaO,r,m.now,m.now⟩];rw[←zHk,←zF6]at e;exact zcn (ce (congrArg (fun q=>SV.pr (.pt 2 []) (.pr (.d (zeI m.ts)) (.pr (I m.now) (.pr q (.d .un))))) e) rfl) rfl rfl
theorem zCX{t:Nat}(hev:m.ev.length≤1000000)(hq:x.q.length≤2000)(hB:∀y∈bk,RnQ y)(hn:(pgs bk).length≤3000)(hk:bk.length≤1000000):Ok Tryz.prog Tryz.f31.ntmps false (zbR 3 (zbE Tryz.f31)) (zdx [(0,.pt 0 []),(1,I t),(4,.pt 3 []),(6,.pt 4 []),(7,.d (.sl bk.length zca fun i=>zar (bk.getD i zaO)))] []) (⟨za9 m b::.d (zaH (x).p)::zaT (x) (a)::.d (zaW (zbo 20))::.d (zaK r)::.d (za7 s2)::[],[a,b],[]⟩) (zeJ tbl 3 2 0 Tryz.f31.results.toList fun o m'=>o=unR∧∃a2 b2,m'=MM ({m with x:=bk.foldl zbn x,ev:=m.ev++[⟨t,zbo 20,zaO,r,m.now,m.now⟩]}) a2 b2):=by
 have h4:=fun a=>zCZ (m:=m) (a:=a) (b:=b) (x:=bk.foldl zbn x) (s2:=s2) (r:=r) (t:=t) hev;refine zav (zav (zab zaa ?_));conv=>whnf
 refine⟨zac (x:=(bk.length:Int)) (by omega) (by omega),?_⟩;conv=>whnf
 refine zab zaa ?_;conv=>whnf
 refine zaB zaa (fun j:Nat×Nat=>j.1≤bk.length) (fun j=>bk.length - j.1) (fun j=>[(36,I j.1)]) (fun j=>⟨za9 m b::.d (zaH ((bk.take j.1).foldl zbn x).p)::zaT ((bk.take j.1).foldl zbn x) (j.2)::.d (zaW (zbo 20))::.d (zaK r)::.d (za7 s2)::[],[j.2,b],[]⟩) (0,a) (zFV _) ⟨rfl,trivial⟩ rfl (fun j=>⟨zF5 _,zF5 _,zF5 _⟩) ?_;intro j hi;obtain⟨i,a⟩:=j;have hi:i≤bk.length:=hi;conv=>whnf
 refine⟨fun ht=>?_,fun ht=>?_⟩
 ·have hlt:i<bk.length:=by
   have:(i:Int)<(bk.length:Int):=by simpa using ht
   omega
  conv=>whnf
  refine⟨⟨(by omega:(0:Int)≤(i:Int)),(by omega:(i:Int)<(bk.length:Int))⟩,?_⟩;conv=>whnf
  have hql:=zlx x bk i;have hmem:bk.getD i zaO∈bk:=by rw[zG9,zHa hlt];exact zHd hlt
  have hy:=hB _ hmem;have hst:zbn ((bk.take i).foldl zbn x) (bk.getD i zaO)=(bk.take (i+1)).foldl zbn x:=zil hlt;have hn1:(bk.getD i zaO).n≤64∧((bk.getD i zaO).n≤0∨(0≤(bk.getD i zaO).at_∧(bk.getD i zaO).at_≤64)):=by
   rcases hy with h|h
   ·omega
   ·unfold zbd at h;omega
  have hpl:∀k,((pg (bk.getD i zaO)).take k).length≤64:=fun k=>by
   refine zFU (zHl _ _) ?_;have:(pg (bk.getD i zaO)).length=(bk.getD i zaO).n.toNat:=by simp[pg]
   omega
  refine zaB zaa (fun k=>k≤(bk.getD i zaO).n.toNat) (fun k=>(bk.getD i zaO).n.toNat - k) (fun k=>[(42,I k)]) (fun k=>⟨za9 m b::.d (zaH (qI ((bk.take i).foldl zbn x) (bk.getD i zaO) k).p)::zaT (qI ((bk.take i).foldl zbn x) (bk.getD i zaO) k) (a+k)::.d (zaW (zbo 20))::.d (zaK r)::.d (za7 s2)::.d (zar (bk.getD i zaO))::[],[a+k,b],[]⟩) 0 (zFV _) ⟨rfl,trivial⟩ ?_ (fun k=>⟨zF5 _,zF5 _,zF5 _⟩) ?_
  ·exact zcn (ce rfl (ce rfl (ce (congrArg (fun q=>zaT {(bk.take i).foldl zbn x with q:=q} a) (zHm ((bk.take i).foldl zbn x).q).symm) rfl))) rfl rfl
  intro k hk2;conv=>whnf
  refine⟨fun ht2=>?_,fun ht2=>?_⟩
  ·have hlt2:k<(bk.getD i zaO).n.toNat:=by
    have:(k:Int)<(bk.getD i zaO).n:=by simpa using ht2
    omega
   have hli:=hpl k;conv=>whnf
   refine zaA zaa (by kernel_rfl) (List.range 20) [(15,2047),(16,15),(19,0)] (by kernel_rfl) ?_;conv=>whnf
   refine⟨zac (x:=(bk.getD i zaO).at_+(k:Int)) (by omega) (by omega),?_⟩;conv=>whnf
   refine Or.inl ?_;conv=>whnf
   refine⟨(show _∧_ from⟨rfl,rfl⟩),zas ?_ ?_⟩;rotate_left
   ·repeat' (first|exact trivial|refine And.intro (show _∧_ from⟨rfl,rfl⟩) ?_)
   conv=>whnf
   refine⟨⟨rfl,(by rw[zFH];show(((bk.take i).foldl zbn x).q++(pg (bk.getD i zaO)).take k).length+1≤_;rw[zFY];omega:(zL (qI ((bk.take i).foldl zbn x) (bk.getD i zaO) k).q).length+1≤2147483648)⟩,?_⟩;conv=>whnf
   refine⟨(show _∧_ from⟨rfl,rfl⟩),zas ?_ ?_⟩;rotate_left
   ·repeat' (first|exact trivial|refine And.intro (show _∧_ from⟨rfl,rfl⟩) ?_)
   conv=>whnf
   refine⟨zac (x:=(k:Int)+1) (by omega) (by omega),?_⟩;conv=>whnf
   have eb:zL (qI ((bk.take i).foldl zbn x) (bk.getD i zaO) k).q++[D.z .i64 ((bk.getD i zaO).at_+(k:Int))]=zL (qI ((bk.take i).foldl zbn x) (bk.getD i zaO) (k+1)).q:=by show(((bk.take i).foldl zbn x).q++(pg (bk.getD i zaO)).take k).map _++_=(((bk.take i).foldl zbn x).q++(pg (bk.getD i zaO)).take (k+1)).map _;rw[zhz hlt2,←zG5];simp only[zF6,zGF,zHn]
   refine⟨k+1,hlt2,by omega,⟨rfl,trivial⟩,⟨?_,rfl⟩,rfl⟩;have e5:=zcq 1 (a+k+1) .c (zL (qI ((bk.take i).foldl zbn x) (bk.getD i zaO) k).q) [D.z .i64 ((bk.getD i zaO).at_+(k:Int))];rw[eb]at e5;exact zcn (ce rfl (ce rfl (ce (congrArg (fun q=>SV.pr (.d (za7 ((bk.take i).foldl zbn x).s)) (.pr (.pt 1 []) (.pr (.d (za8 ((bk.take i).foldl zbn x).m)) (.pr q (.d .un))))) e5) rfl))) rfl rfl
  ·have hlt2:k=(bk.getD i zaO).n.toNat:=by
    have:¬((k:Int)<(bk.getD i zaO).n):=by simpa using ht2
    omega
   subst hlt2;conv=>whnf
   refine⟨zac (x:=(i:Int)+1) (by omega) (by omega),?_⟩;conv=>whnf
   refine⟨(i+1,a+(bk.getD i zaO).n.toNat),hlt,by show bk.length -(i+1)<bk.length - i;omega,⟨rfl,trivial⟩,⟨?_,rfl⟩,rfl⟩;have ep:(pg (bk.getD i zaO)).take (bk.getD i zaO).n.toNat=pg (bk.getD i zaO):=by
    have:(pg (bk.getD i zaO)).length=(bk.getD i zaO).n.toNat:=by simp[pg]
    rw[←this,zHe]
   have eq:qI ((bk.take i).foldl zbn x) (bk.getD i zaO) (bk.getD i zaO).n.toNat=(bk.take (i+1)).foldl zbn x:=by rw[←hst];unfold qI zbn;rw[ep]
   exact zcn (ce rfl (ce (congrArg (fun y=>SV.d (zaH y.p)) eq) (ce (congrArg (fun y=>zaT y (a+(bk.getD i zaO).n.toNat)) eq) rfl))) rfl rfl
 ·have hlt:i=bk.length:=by
   have:¬(i:Int)<(bk.length:Int):=by simpa using ht
   omega
  subst hlt;conv=>whnf
  refine zaD (l:=[(0,.pt 0 []),(1,I t),(4,.pt 3 []),(6,.pt 4 [])]) ⟨rfl,rfl,rfl,rfl,trivial⟩ ?_ (h4 a);show(⟨_::.d (zaH ((bk.take bk.length).foldl zbn x).p)::zaT ((bk.take bk.length).foldl zbn x) a::_,_,_⟩:MS)=_;rw[zHe]
theorem zyy{t:Nat}(ht:t<8)(hS:SInv m.x.s)(hA:m.x.s.alive t=true)(hev:m.ev.length≤1000000)(hq:m.x.q.length≤2000):Con Tryz.prog 31 [.pt 0 [],I t] (MM m a b) fun o m'=>o=unR∧∃a2 b2,m'=MM (zmZ m t) a2 b2:=by
 have hc:CallOk m.x.s t (zbo 20):=⟨by omega,by omega,⟨by decide,by decide⟩,⟨by decide,by decide⟩,⟨by decide,by decide⟩,⟨by decide,by decide⟩⟩;obtain⟨hB1,hB2,hB3⟩:=znz (run:=zaO) hS hc (fun h1 _=>by have h1:(0:Int)>0:=h1;omega);obtain⟨d2,ht2⟩:=hS.t;have hB4:=zoC ht2 (task:=t) (c:=zbo 20) (run:=zaO);have hDo:=(zB1 (run:=zaO) hS.std hS.mail hc (.inr rfl) (zkM hS hc)).out (zq2 (a:=.d (za7 (doB m.x.s t (zbo 20) zaO).1)) (b:=.d (zaK (doB m.x.s t (zbo 20) zaO).2.1)) fun ro bl q h=>zbZ zca zar zaO (doB m.x.s t (zbo 20) zaO).2.2 ro bl q h);have h0:=zCW (m:=m) (a:=a) (b:=b) (x:={m.x with s:=(doB m.x.s t (zbo 20) zaO).1}) (s2:=(doB m.x.s t (zbo 20) zaO).1) (r:=(doB m.x.s t (zbo 20) zaO).2.1) (bk:=(doB m.x.s t (zbo 20) zaO).2.2) (t:=t) hev hq hB2 hB3 (by omega);have h1:=zCX (m:=m) (a:=a) (b:=b) (x:={m.x with s:=(doB m.x.s t (zbo 20) zaO).1}) (s2:=(doB m.x.s t (zbo 20) zaO).1) (r:=(doB m.x.s t (zbo 20) zaO).2.1) (bk:=(doB m.x.s t (zbo 20) zaO).2.2) (t:=t) hev hq hB2 hB3 (by omega);refine zcp Tryz.func31 rfl (by kernel_rfl) rfl rfl ?_;refine zav (zab zaa ?_);conv=>whnf
 refine zaD (l:=[(0,.pt 0 []),(1,I t),(4,.pt 3 [])]) (m':=M6 m a b [.d (zaW (zbo 20))]) ⟨rfl,rfl,rfl,trivial⟩ rfl ?_;refine zav (zab zaa ?_);conv=>whnf
 refine zkU zaa (by kernel_rfl) 15 16 (by decide) (List.range 20) [(15,32767),(16,32767),(17,24576),(18,16384)] [0,1,2,3,4,5,6,7,8,9,10,11,12,13,14,16,15,17,18,19] [(15,32767),(16,32767),(17,24576),(18,16384)] (by kernel_rfl) (by kernel_rfl) ?_ ?_
 ·conv=>whnf
  refine zam hDo (fun _ h=>h) ?_;conv=>whnf
  refine⟨(show _∧_ from⟨rfl,rfl⟩),zas ?_ ?_⟩;rotate_left
  ·repeat' (first|exact trivial|refine And.intro (show _∧_ from⟨rfl,rfl⟩) ?_)
  conv=>whnf
  refine⟨(show _∧_ from⟨rfl,rfl⟩),zas ?_ ?_⟩;rotate_left
  ·repeat' (first|exact trivial|refine And.intro (show _∧_ from⟨rfl,rfl⟩) ?_)
  conv=>whnf
  refine zaD (l:=[(0,.pt 0 []),(1,I t),(4,.pt 3 []),(5,.pt 4 []),(6,.pt 5 []),(7,.d (.sl (doB m.x.s t (zbo 20) zaO).2.2.length zca fun i=>zar ((doB m.x.s t (zbo 20) zaO).2.2.getD i zaO)))]) (m':=M6 m a b (.d (zaW (zbo 20))::.d (za7 (doB m.x.s t (zbo 20) zaO).1)::.d (zaK (doB m.x.s t (zbo 20) zaO).2.1)::[])) ⟨rfl,rfl,rfl,rfl,rfl,rfl,trivial⟩ rfl ?_;refine zav (zab zaa ?_);conv=>whnf
  refine zao zaa (by kernel_rfl) 7 (by kernel_rfl) ?_;conv=>whnf
  exact zaD (l:=[(0,.pt 0 []),(1,I t),(4,.pt 3 []),(6,.pt 5 []),(7,.d (.sl (doB m.x.s t (zbo 20) zaO).2.2.length zca fun i=>zar ((doB m.x.s t (zbo 20) zaO).2.2.getD i zaO)))]) ⟨rfl,rfl,rfl,rfl,rfl,trivial⟩ rfl h0
 ·conv=>whnf
  refine zam hDo (fun _ h=>h) ?_;conv=>whnf
  refine⟨(show _∧_ from⟨rfl,rfl⟩),zas ?_ ?_⟩;rotate_left
  ·repeat' (first|exact trivial|refine And.intro (show _∧_ from⟨rfl,rfl⟩) ?_)
  conv=>whnf
  refine⟨(show _∧_ from⟨rfl,rfl⟩),zas ?_ ?_⟩;rotate_left
  ·repeat' (first|exact trivial|refine And.intro (show _∧_ from⟨rfl,rfl⟩) ?_)
  conv=>whnf
  refine zaD (l:=[(0,.pt 0 []),(1,I t),(4,.pt 3 []),(5,.pt 5 []),(6,.pt 4 []),(7,.d (.sl (doB m.x.s t (zbo 20) zaO).2.2.length zca fun i=>zar ((doB m.x.s t (zbo 20) zaO).2.2.getD i zaO)))]) (m':=M6 m a b (.d (zaW (zbo 20))::.d (zaK (doB m.x.s t (zbo 20) zaO).2.1)::.d (za7 (doB m.x.s t (zbo 20) zaO).1)::[])) ⟨rfl,rfl,rfl,rfl,rfl,rfl,trivial⟩ rfl ?_;refine zav (zab zaa ?_);conv=>whnf
  refine zao zaa (by kernel_rfl) 7 (by kernel_rfl) ?_;conv=>whnf
  exact zaD (l:=[(0,.pt 0 []),(1,I t),(4,.pt 3 []),(6,.pt 4 []),(7,.d (.sl (doB m.x.s t (zbo 20) zaO).2.2.length zca fun i=>zar ((doB m.x.s t (zbo 20) zaO).2.2.getD i zaO)))]) ⟨rfl,rfl,rfl,rfl,rfl,trivial⟩ rfl h1
end
end Sx
namespace Sx
structure ClrOk (m:Mc):Prop where
 mks:zdA m.x.m
 rn:∀i,i<8→RnC (m.ts i).c.run
 q:m.x.q.length≤2000
attribute [local irreducible] Con zax zan zau zai zaw zbt zak zaC zbh zba I64
section
variable {m:Mc} {a b:Nat}
theorem zzB{p:Int}(hp:0≤p∧p<256)(hnow:0≤m.now∧m.now≤1000000)(hev:m.ev.length≤1000000)(hQ:m.x.q.length≤2000)
 (hf:∀y∈m.x.p.fr,zbd y)(hfl:m.x.p.fr.length≤400)(hpn:m.x.p.n≤64)(hq64:∀y∈m.x.q,0≤y∧y<64)
 (hS:SInv m.x.s)(hT:∀t:Nat,t<8→TskOk (m.ts t).t)
 (hb:∀t:Nat,t<8→zfe m t=true→(m.ts t).busy=true→WOk m.x (m.ts t).c t)
 (hw:∀t:Nat,t<8→zfe m t=true→(m.ts t).busy=false→zda (m.ts t).t=true→WOk m.x {rt0 with task:=t,c:=zcw (m.ts t).t} t)
 (hq:∀(t:Nat) c,WOk m.x c t→(za1 m.x c).x.q.length≤1000000)
 (c8:ClrOk (zhY {m with x:=zdy m.x}))(cs:∀t:Nat,t<8→zfe m t=true→ClrOk (zmZ (zhY m) t))(ct:∀t:Nat,t<8→zfe m t=true→ClrOk (zjS (zhY m) t)):
 Con Tryz.prog 9 [.pt 0 [],.d (.z .u8 p)] (MM m a b) fun o m'=>o=.ret (I (zcQ m p))∧∃a2 b2,m'=MM (zbI m p) a2 b2:=by
 have h0:0≤p.tmod 8:=zHh _ hp.1;have h1:p.tmod 8<8:=zHi _ (by decide);obtain⟨t,ht⟩:∃t:Nat,p.tmod 8=t:=⟨(p.tmod 8).toNat,by omega⟩;have ht8:t<8:=by omega
 have hZ:∀m1 a1 b1,ClrOk m1→zcQ m p=0→zbI m p=zm9 m1→Ok Tryz.prog Tryz.f9.ntmps false (zbR 2 (zbE Tryz.f9)) (zdx [(0,.pt 0 [])] []) (MM m1 a1 b1) (zeJ tbl 3 2 0 Tryz.f9.results.toList fun o m'=>o=.ret (I (zcQ m p))∧∃a2 b2,m'=MM (zbI m p) a2 b2):=fun m1 a1 b1 hc hE hM=>by
  rw[hE,hM];refine zav (zab zaa ?_);conv=>whnf
  refine zal (zxk (m:=m1) (a:=a1) (b:=b1) hc.mks hc.rn hc.q) ?_;rintro o m' ⟨rfl,a2,rfl⟩;conv=>whnf
  refine zab zaa ?_;conv=>whnf
  exact⟨zaJ rfl (za6 rfl (zm9 m1).x a2),rfl,a2,b1,rfl⟩
 have hN:∀e:Int,e≠0→zcQ m p=e→zbI m p=m:=fun e he h=>by unfold zbI;rw[h,zFP.2 he];rfl
 refine zcp Tryz.func9 rfl (by kernel_rfl) rfl rfl ?_;refine zav (zab zaa ?_);conv=>whnf
 refine zav (zav (zab zaa ?_));conv=>whnf
 refine⟨⟨by decide,zbL (by simp only[zcB];omega) (fun _=>h0) (by simp only[zcB];omega)⟩,?_⟩;conv=>whnf
 refine zaD (l:=[(0,.pt 0 []),(1,.d (.z .u8 p)),(5,I t)]) (m':=MM m a b) ⟨rfl,rfl,congrArg (fun z:Int=>some (I z)) ht,trivial⟩ rfl ?_;refine zab zaa ?_;conv=>whnf
 refine⟨(fun h=>by cases h),fun _=>?_⟩;conv=>whnf
 refine⟨fun g1=>?_,fun g1=>?_⟩
 ·have g1:((decide (p>8)&&decide (p<16))||decide (p≥24))=true:=g1;have e:zcQ m p=2:=by unfold zcQ;rw[g1];rfl
  rw[hN 2 (by decide) e,e];conv=>whnf
  exact⟨zaJ rfl (za6 rfl m.x a),rfl,a,b,rfl⟩
 have g1:((decide (p>8)&&decide (p<16))||decide (p≥24))=false:=g1;conv=>whnf
 refine⟨fun g2=>?_,fun g2=>?_⟩
 ·have g2:p=8:=zGG.1 (show(p==8)=true from g2);conv=>whnf
  refine zal (zzC (Z:=za9 m b) (x:=m.x) (a:=a) (b:=b) rfl hf (zFU hfl (by decide)) hpn (zFU hQ (by decide))) ?_;rintro o m' ⟨rfl,rfl⟩;conv=>whnf
  refine⟨fun g3=>?_,fun g3=>?_⟩
  ·have g3:(!(!(m.x.q.length==0)))=true:=g3;rw[zHo]at g3;have e:zcQ m p=10:=by unfold zcQ;rw[g1,g2,g3];rfl
   have er:zdy m.x=m.x:=by have:m.x.q=[]:=zHp.1 (zGG.1 g3);unfold zdy;rw[this]
   rw[hN 10 (by decide) e,e,er];conv=>whnf
   exact⟨zaJ rfl (za6 rfl m.x a),rfl,a,b,rfl⟩
  ·have g3:(!(!(m.x.q.length==0)))=false:=g3;rw[zHo]at g3;have e:zcQ m p=0:=by unfold zcQ;rw[g1,g2,g3];rfl
   conv=>whnf
   refine⟨zac (x:=m.now+1) (by omega) (by omega),?_⟩;conv=>whnf
   exact zaD (l:=[(0,.pt 0 [])]) ⟨rfl,trivial⟩ rfl (hZ (zhY {m with x:=zdy m.x}) a b c8 e (by unfold zbI;rw[e,g2];rfl))
 have g2:p≠8:=fun h=>by rw[show(p==8)=true from zGG.2 h]at g2;cases g2
 conv=>whnf
 refine zal (zkC (m:=m) (a:=a) (b:=b) t) ?_;rintro o m' ⟨rfl,rfl⟩;conv=>whnf
 refine⟨fun g3=>?_,fun g3=>?_⟩
 ·have g3:(!zfe m t)=true:=g3;have e:zcQ m p=12:=by unfold zcQ;rw[g1,zHj g2,ht,g3];rfl
  rw[hN 12 (by decide) e,e];conv=>whnf
  exact⟨zaJ rfl (za6 rfl m.x a),rfl,a,b,rfl⟩
 have g3:(!zfe m t)=false:=g3;have e:zcQ m p=0:=by unfold zcQ;rw[g1,zHj g2,ht,g3];rfl
 have hal:zfe m t=true:=by simpa using g3
 have hA:m.x.s.alive t=true:=by unfold zfe at hal;simp only[zFR]at hal;exact hal.2
 conv=>whnf
 refine⟨fun g4=>?_,fun g4=>?_⟩
 ·have g4:decide (p≥16)=true:=g4;conv=>whnf
  refine⟨zac (x:=m.now+1) (by omega) (by omega),?_⟩;conv=>whnf
  refine zal (zyy (m:=zhY m) (a:=a) (b:=b) ht8 hS hA hev hQ) ?_;rintro o m' ⟨rfl,a2,b2,rfl⟩;conv=>whnf
  exact zaD (l:=[(0,.pt 0 [])]) ⟨rfl,trivial⟩ rfl (hZ (zmZ (zhY m) t) a2 b2 (cs t ht8 hal) e (by unfold zbI;rw[e,zHj g2,g4,ht];rfl))
 ·have g4:decide (p≥16)=false:=g4;conv=>whnf
  refine⟨zac (x:=m.now+1) (by omega) (by omega),?_⟩;conv=>whnf
  refine zal (zyH (m:=zhY m) (a:=a) (b:=b) ht8 (hT t ht8) hev (hb t ht8 hal) (hw t ht8 hal) (hq t)) ?_;rintro o m' ⟨rfl,a2,b2,rfl⟩;conv=>whnf
  exact zaD (l:=[(0,.pt 0 [])]) ⟨rfl,trivial⟩ rfl (hZ (zjS (zhY m) t) a2 b2 (ct t ht8 hal) e (by unfold zbI;rw[e,zHj g2,g4,ht];rfl))
end
end Sx
namespace Sx
attribute [local irreducible] Con zax zan zau zai zaw zbt zak zaC zbh zba I64
theorem ztK(n:Nat)(f:Nat→D)(hn:n≤2147483648):zay Tryz.prog 174 [.d (.sl n .c f)] (.d (.sl n .c f)):=by
 refine zat Tryz.func174 rfl (by kernel_rfl) rfl rfl rfl ?_;conv=>whnf
 intro b hb;conv=>whnf
 refine⟨fun hq=>?_,fun hq=>?_⟩
 ·have h0:n=0:=by
   rcases zHq n with h|h
   ·exact h
   ·have h1:=hb h;subst h1;cases hq
  subst h0;conv=>whnf
  exact⟨rfl,⟨_,rfl,zcO _ _ _ _⟩,rfl⟩
 ·conv=>whnf
  refine Or.inl ?_;conv=>whnf
  refine⟨hn,.inl ?_⟩;conv=>whnf
  exact⟨rfl,⟨_,rfl,zkG⟩,rfl⟩
section
variable {m:Mc} {a b:Nat}
theorem zB7:Con Tryz.prog 57 [.pt 0 []] (MM m a b) fun o m'=>o=.ret (I m.now)∧m'=MM m a b:=by
 refine za3 Tryz.func57 rfl (by kernel_rfl) rfl rfl ?_;conv=>whnf
 refine⟨(fun h=>by cases h),fun _=>?_⟩;conv=>whnf
 exact⟨zaJ rfl (za6 rfl m.x a),rfl,rfl⟩
def zpf(t:Int):Bool:=decide (t≥0)&&decide (t<8)
theorem zAl(t:Int):Con Tryz.prog 173 [.pt 0 [],I t] (MM m a b) fun o m'=>o=.ret (B (zpf t))∧m'=MM m a b:=by
 refine za3 Tryz.func173 rfl (by kernel_rfl) rfl rfl ?_;conv=>whnf
 exact⟨zaJ rfl (za6 rfl m.x a),rfl,rfl⟩
def zqF(m:Mc)(t:Int):Rt:=bif zpf t&&(m.ts t.toNat).busy then(m.ts t.toNat).c else rt0
def zBV(m:Mc)(t:Int):Bool:=zpf t&&(m.ts t.toNat).busy
theorem zq3(t:Int)(hr:∀i,i<8→(m.ts i).c.regs.length≤64):Con Tryz.prog 96 [.pt 0 [],I t] (MM m a b) fun o m'=>o=.ret (T2 (.d (zdL (zqF m t))) (B (zBV m t)))∧m'=MM m a b:=by
 refine zcp Tryz.func96 rfl (by kernel_rfl) rfl rfl ?_;refine zav (zab zaa ?_);conv=>whnf
 refine zab zaa ?_;conv=>whnf
 refine zal (zcb [_] [] [] (zAl (m:=m) (a:=a) (b:=b) t) rfl (by show(zaG 3 2 0 [za9 m b,.d (zaH m.x.p),zaT m.x a]&&zbH 3 2 0 [])=true;rw[za6 rfl m.x a];rfl) fun o m' hm=>⟨hm.2▸rfl,hm.2▸rfl,hm.2▸rfl⟩) ?_;rintro o m' ⟨m2,⟨rfl,rfl⟩,rfl⟩;conv=>whnf
 have hbnd:zpf t=true→0≤t∧t<8:=fun h=>by unfold zpf at h;simpa using h
 refine⟨fun hq=>hbnd (by have hq:(!zpf t)=false:=hq;simpa using hq),?_⟩;conv=>whnf
 refine⟨fun h1=>?_,fun h1=>?_⟩
 ·have h1:(!zpf t||!(m.ts t.toNat).busy)=true:=h1;have e:(zpf t&&(m.ts t.toNat).busy)=false:=by cases q1:zpf t<;>cases q2:(m.ts t.toNat).busy<;>first|rfl|(rw[q1,q2]at h1;cases h1)
  conv=>whnf
  refine⟨zaJ rfl (za6 rfl m.x a),?_,rfl⟩;rw[show zqF m t=rt0 by unfold zqF;rw[e];rfl,show zBV m t=false from e];rfl
 ·have h1:(!zpf t||!(m.ts t.toNat).busy)=false:=h1;have e:(zpf t&&(m.ts t.toNat).busy)=true:=by cases q1:zpf t<;>cases q2:(m.ts t.toNat).busy<;>first|rfl|(rw[q1,q2]at h1;cases h1)
  have e1:=hbnd (zHr.1 e).1;have hl:=hr t.toNat (by omega);rw[show zqF m t=(m.ts t.toNat).c by unfold zqF;rw[e];rfl,show zBV m t=true from e];conv=>whnf
  refine⟨e1,?_⟩;conv=>whnf
  generalize(m.ts t.toNat).c=c at hl;obtain⟨c1,c2,c3,regs,c5,c6⟩:=c;conv=>whnf
  refine zad (ztK (hL regs).length (za4 (hL regs)) (by rw[zFH];have hl:regs.length≤64:=hl;omega)) ?_;conv=>whnf
  exact⟨zaJ rfl (za6 rfl m.x a),rfl,rfl⟩
end
end Sx
namespace Sx
def zl9(x:Cr):SV:=.pr (.d (za7 x.s)) (.pr (.pt 1 []) (.pr (.d (za8 x.m)) (.pr (.d (sls .c (zL x.q))) (.d .un))))
attribute [local irreducible] Con zax zan zau zai zaw zbt zak zaC zbh zba I64
section
variable {m:Mc} {a b:Nat}
theorem zeB(hq:m.x.q.length≤1000000):Con Tryz.prog 14 [.pt 0 []] (MM m a b) fun o m'=>o=.ret (zl9 m.x)∧m'=MM m a b:=by
 refine zcp Tryz.func14 rfl (by kernel_rfl) rfl rfl ?_;refine zav (zab zaa ?_);conv=>whnf
 refine zab zaa ?_;conv=>whnf
 refine⟨(fun h=>by cases h),fun _=>?_⟩;conv=>whnf
 refine zad ((ztL (zL m.x.q).length (za4 (zL m.x.q)) (by rw[zFH];omega)).le ⟨zlo _ _ _ _ _,trivial⟩) ?_;conv=>whnf
 exact⟨zaJ rfl (za6 rfl m.x a),rfl,rfl⟩
end
end Sx
namespace Sx
attribute [local irreducible] Con zax zan zau zai zaw zbt zak zaC zbh zba I64
section
variable {m:Mc} {a b:Nat}
theorem zq4(hq:m.x.q.length≤1000000)(hf:m.x.p.fr=[⟨0,m.x.p.n⟩]):Con Tryz.prog 21 [.pt 0 []] (MM m a b) fun o m'=>o=.ret (B true)∧m'=MM m a b:=by
 refine zcp Tryz.func21 rfl (by kernel_rfl) rfl rfl ?_;refine zav (zab zaa ?_);conv=>whnf
 refine zab zaa ?_;conv=>whnf
 refine⟨(fun h=>by cases h),fun _=>?_⟩;conv=>whnf
 refine zal (zeB (m:=m) (a:=a) (b:=b) hq) ?_;rintro o m' ⟨rfl,rfl⟩;conv=>whnf
 refine zal (zng (Z:=za9 m b) (p:=m.x.p) (C:=zaT m.x a) (zg5 (zhU m b) m.x a)) ?_;rintro o m' ⟨rfl,rfl⟩;rw[hf];conv=>whnf
 refine zad (zvI [⟨0,m.x.p.n⟩] (zFG rfl)) ?_;conv=>whnf
 refine zao zaa (by kernel_rfl) 13 (by kernel_rfl) ?_;conv=>whnf
 refine⟨zac (x:=(1:Int)) (by decide) (by decide),?_⟩;conv=>whnf
 refine⟨fun _=>⟨(by decide:(0:Int)≤0),(by decide:(0:Int)<1)⟩,?_⟩;conv=>whnf
 refine zdO (v:=I m.x.p.n) (zox (Z:=za9 m b) (p:=m.x.p) (C:=zaT m.x a) (a:=a) (b:=b) (zg5 (zhU m b) m.x a)) (fun _ h _=>h) ?_;conv=>whnf
 refine zBG (zz9 ⟨0,m.x.p.n⟩ ⟨0,m.x.p.n⟩) (fun _ h _=>h) ?_;conv=>whnf
 refine⟨zaJ rfl (za6 rfl m.x a),?_,rfl⟩;exact congrArg (fun z=>Out.ret (B z)) (show((((rnL [⟨0,m.x.p.n⟩]).length:Int)==1)&&(((0:Int)==0)&&(m.x.p.n==m.x.p.n)))=true by simp)
end
end Sx
namespace Sx
attribute [local irreducible] Con zax zan zau zai zaw zbt zak zaC zbh zba I64
theorem ztJ(n:Nat)(f:Nat→D)(hn:n≤2147483648):zay Tryz.prog 34 [.d (.sl n tEv f)] (.d (.sl n tEv f)):=by
 refine zat Tryz.func34 rfl (by kernel_rfl) rfl rfl rfl ?_;conv=>whnf
 intro b hb;conv=>whnf
 refine⟨fun hq=>?_,fun hq=>?_⟩
 ·have h0:n=0:=by
   rcases zHq n with h|h
   ·exact h
   ·have h1:=hb h;subst h1;cases hq
  subst h0;conv=>whnf
  exact⟨rfl,⟨_,rfl,zcO _ _ _ _⟩,rfl⟩
 ·conv=>whnf
  refine Or.inl ?_;conv=>whnf
  refine⟨hn,.inl ?_⟩;conv=>whnf
  exact⟨rfl,⟨_,rfl,zkG⟩,rfl⟩
section
variable {m:Mc} {a b:Nat}
theorem zgt(hev:m.ev.length≤1000000):Con Tryz.prog 10 [.pt 0 []] (MM m a b) fun o m'=>o=.ret (.d (sls tEv (zgJ m.ev)))∧m'=MM m a b:=by
 refine za3 Tryz.func10 rfl (by kernel_rfl) rfl rfl ?_;conv=>whnf
 refine⟨(fun h=>by cases h),fun _=>?_⟩;conv=>whnf
 refine zad ((ztJ (zgJ m.ev).length (za4 (zgJ m.ev)) (by rw[zFH];omega)).le ⟨zlo _ _ _ _ _,trivial⟩) ?_;conv=>whnf
 exact⟨zaJ rfl (za6 rfl m.x a),rfl,rfl⟩
end
end Sx
namespace Sx
attribute [local irreducible] Con zax zan zau zai zaw zbt zak zaC zbh zba I64
theorem zqI:zay Tryz.prog 118 [] (.d (za7 st0)):=by
 refine zat Tryz.func118 rfl (by kernel_rfl) rfl rfl rfl ?_;conv=>whnf
 refine⟨⟨(by decide:(0:Int)≤0),(by decide:(0:Int)<8)⟩,?_⟩;conv=>whnf
 refine⟨.d (za7 {st0 with born:=fun _=>false}),congrArg (fun f=>SV.d (.pr (zgI st0) (.pr (.ar 8 zzh fun i=>zcc (st0.box i)) (.pr (.ar 8 .c f) (.pr (.ar 8 .c fun _=>.bo false) .un))))) (zaY D.bo (fun _=>false) 0 true),?_⟩;conv=>whnf
 refine⟨⟨(by decide:(0:Int)≤0),(by decide:(0:Int)<8)⟩,?_⟩;conv=>whnf
 refine⟨.d (za7 st0),congrArg (fun f=>SV.d (.pr (zgI st0) (.pr (.ar 8 zzh fun i=>zcc (st0.box i)) (.pr (.ar 8 .c fun i=>.bo (st0.alive i)) (.pr (.ar 8 .c f) .un))))) (zaY D.bo (fun _=>false) 0 true),?_⟩;conv=>whnf
 exact⟨rfl,zae rfl⟩
end Sx
end Go.Proofs.YtfbhkfhbnkncoaaGreatDoor
