import Derived.Test.YtfbhkfhbnkncoaaGreatDoorT41
set_option linter.all false
set_option maxRecDepth 100000
set_option maxHeartbeats 4000000
namespace Go.Proofs.YtfbhkfhbnkncoaaGreatDoor
open Go.RowKit
namespace Sx
attribute [local irreducible] Con zax zan zau zai zaw zbt zak zaC zbh zba I64
theorem ztX(l:Line)(n:Nat)(v:Int)(hn:n≤8):Con Tryz.prog 264 [.ob (.sb 0 [2] 0 n),.d (.z .u8 v)] ⟨[.d (zbq l)],[],[]⟩ fun o m=>o=.ret (I (zmu l.wait v n))∧m=⟨[.d (zbq l)],[],[]⟩:=by
 refine za3 Tryz.func264 rfl (by kernel_rfl) rfl rfl ?_;conv=>whnf
 refine⟨zac (x:=(n:Int)) (by omega) (by omega),?_⟩;conv=>whnf
 refine zaB zaa (fun i=>i≤n∧zmu l.wait v n=zmv l.wait v i (n - i)) (fun i=>n - i) (fun i=>[(8,I i)]) (fun _=>⟨[.d (zbq l)],[],[]⟩) 0 ⟨by omega,rfl⟩ ⟨rfl,trivial⟩ rfl (fun i=>⟨zF5 _,zF5 _,zF5 _⟩) ?_;rintro i ⟨hi,hf⟩;conv=>whnf
 refine⟨fun ht=>?_,fun ht=>?_⟩
 ·have hlt:i<n:=by
   have:(i:Int)<n:=by simpa using ht
   omega
  rw[show n - i=(n -(i+1))+1 by omega]at hf;conv=>whnf
  refine⟨⟨by omega,by omega⟩,?_⟩;conv=>whnf
  refine⟨fun h2=>?_,fun h2=>?_⟩
  ·have h2:(v==l.wait (0+i))=true:=h2;rw[zGt]at h2;simp only[zmv,h2]at hf;conv=>whnf
   refine⟨rfl,?_,rfl⟩;rw[hf];rfl
  ·have h2:(v==l.wait (0+i))=false:=h2;rw[zGt]at h2;simp only[zmv,h2]at hf;conv=>whnf
   refine⟨zac (x:=(i:Int)+1) (by omega) (by omega),?_⟩;conv=>whnf
   exact⟨i+1,⟨hlt,hf⟩,by omega,⟨rfl,trivial⟩,⟨rfl,rfl⟩,rfl⟩
 ·have hlt:i=n:=by
   have:¬((i:Int)<n):=by simpa using ht
   omega
  subst hlt;rw[zGd]at hf;conv=>whnf
  refine⟨rfl,?_,rfl⟩;rw[hf];rfl
theorem zsL(l:Line)(t:Int)(h0:0≤l.n)(h8:l.n≤8):zay Tryz.prog 244 [.d (zbq l),I t] (I (zde l t)):=by
 refine zat Tryz.func244 rfl (by kernel_rfl) rfl rfl rfl ?_;conv=>whnf
 refine⟨⟨zFJ 0,h0,h8⟩,?_⟩;conv=>whnf
 refine zal (zkO rfl (zhd rfl (ztX l l.n.toNat (tkB t) (by omega)))) fun o m h=>?_;obtain⟨rfl,rfl⟩:=h;conv=>whnf
 exact⟨rfl,zae rfl⟩
theorem zm7(l:Line)(t:Int)(hl:LnOk l)(h0:0≤t)(h8:t<8):zay Tryz.prog 200 [.d (zbq l),I t] (.d (zbq (woM l t))):=by
 refine zat Tryz.func200 rfl (by kernel_rfl) rfl rfl rfl ?_;conv=>whnf
 refine zad (zsL l t hl.n0 hl.n1) ?_;conv=>whnf
 have hn0:=hl.n0;have hn1:=hl.n1;rcases zfO l h0 h8 with⟨e,_⟩|⟨j,e,hj,hw⟩
 ·refine⟨fun _=>?_,fun h=>?_⟩
  ·conv=>whnf
   refine⟨rfl,zae ?_⟩;rw[woM,e];rfl
  ·rw[e]at h;cases h
 ·refine⟨fun h=>?_,fun _=>?_⟩
  ·have h:decide (zde l t<0)=true:=h;rw[e]at h;have:=zFL h;omega
  ·conv=>whnf
   refine zao zaa (by kernel_rfl) 7 (by kernel_rfl) ?_;conv=>whnf
   have hp:zde l t=(j:Int):=e;refine⟨⟨by rw[hp];exact zIA j,by show zde l t≤8;omega,zFJ _⟩,?_⟩;conv=>whnf
   refine⟨zac (x:=zde l t+1) (by omega) (by omega),?_⟩;conv=>whnf
   refine⟨⟨by show 0≤zde l t+1;omega,by show zde l t+1≤8;omega,zFJ _⟩,?_⟩;conv=>whnf
   refine⟨zac (zIM (by decide) (zIA _)) (zIM (Int.ofNat_le.2 (zFU (Nat.min_le_right _ _) (Nat.sub_le _ _))) (by decide)),?_⟩;conv=>whnf
   obtain⟨W,hW⟩:∃W:Nat→Int,W=fun i=>bif Nat.ble (zde l t).toNat i&&Nat.blt i 7 then l.wait (i+1)else l.wait i:=⟨_,rfl⟩
   refine⟨fun i=>.z .u8 (W i),?_,?_⟩
   ·funext i
    rw[hW,hp];show(bif Nat.ble j i&&Nat.blt i (j+Nat.min (8 -(j+1)) (8 - j))then D.z .u8 (l.wait (j+1+(i - j)))else D.z .u8 (l.wait i))=D.z .u8 (bif Nat.ble j i&&Nat.blt i 7 then l.wait (i+1)else l.wait i);have hm:j+Nat.min (8 -(j+1)) (8 - j)=7:=by show j+min (8 -(j+1)) (8 - j)=7;omega
    rw[hm];cases hq:Nat.ble j i&&Nat.blt i 7 with
    |true=>
     have hji:=zFG (zHr.1 hq).1;show D.z .u8 (l.wait (j+1+(i - j)))=D.z .u8 (l.wait (i+1));rw[show j+1+(i - j)=i+1 by omega]
    |false=>rfl
   conv=>whnf
   refine⟨zac (x:=l.n - 1) (by omega) (by omega),?_⟩;conv=>whnf
   refine⟨⟨by show 0≤l.n - 1;omega,by show l.n - 1<8;omega⟩,?_⟩;conv=>whnf
   refine⟨.d (zbq (woM l t)),?_,?_⟩
   ·have e3:woM l t=⟨l.has,l.n - 1,zaq W (l.n - 1).toNat 0⟩:=by unfold woM;rw[hW,hp,zFT (by omega)];rfl
    rw[e3];show SV.d (D.pr _ (D.pr _ (D.pr (D.ar 8 .c (zaq (fun i=>D.z .u8 (W i)) _ (D.z .u8 0))) .un)))=_;rw[zaY (fun x=>D.z .u8 x)];rfl
   ·conv=>whnf
    exact⟨rfl,zae rfl⟩
theorem zwe(m:Nat→Line)(k:Nat)(l:Line):SV.d ((za8 m).set [0,k] (zbq l))=.d (za8 (zaq m k l)):=by show SV.d (D.pr (D.ar 32 zqs (zaq (fun i=>zbq (m i)) k (zbq l))) .un)=_;rw[zaY zbq];rfl
theorem zx4(m:Nat→Line)(k:Nat)(l:Line)(v:Int):SV.d ((za8 (zaq m k l)).set [0,k,0] (.z .u8 v))=.d (za8 (zaq m k {l with has:=v})):=by
 have e:((zbq (zaq m k l k)).set [0] (.z .u8 v))=zbq {l with has:=v}:=by rw[zag];rfl
 show SV.d (D.pr (D.ar 32 zqs (zaq (fun i=>zbq (zaq m k l i)) k ((zbq (zaq m k l k)).set [0] (.z .u8 v)))) .un)=_;rw[e,zaY zbq,zm3];rfl
theorem zx5(m:Nat→Line)(k:Nat)(l:Line)(v:Int):SV.d ((za8 (zaq m k l)).set [0,k,1] (.z .i64 v))=.d (za8 (zaq m k {l with n:=v})):=by
 have e:((zbq (zaq m k l k)).set [1] (.z .i64 v))=zbq {l with n:=v}:=by rw[zag];rfl
 show SV.d (D.pr (D.ar 32 zqs (zaq (fun i=>zbq (zaq m k l i)) k ((zbq (zaq m k l k)).set [1] (.z .i64 v)))) .un)=_;rw[e,zaY zbq,zm3];rfl
theorem zx6(m:Nat→Line)(k n:Nat)(v:Int):SV.d ((za8 m).set [0,k,2,n] (.z .u8 v))=.d (za8 (zaq m k {m k with wait:=zaq (m k).wait n v})):=by
 have e:((zbq (m k)).set [2,n] (.z .u8 v))=zbq {m k with wait:=zaq (m k).wait n v}:=by show D.pr _ (D.pr _ (D.pr (D.ar 8 .c (zaq (fun i=>D.z .u8 ((m k).wait i)) n (D.z .u8 v))) .un))=_;rw[zaY (fun x=>D.z .u8 x)];rfl
 show SV.d (D.pr (D.ar 32 zqs (zaq (fun i=>zbq (m i)) k ((zbq (m k)).set [2,n] (.z .u8 v)))) .un)=_;rw[e,zaY zbq];rfl
theorem zB9(m:Nat→Line)(hm:zdA m)(s t:Int):zay Tryz.prog 236 [.d (za8 m),I s,I t] (T2 (.d (za8 (ztq m s t))) (B (zrY m s t))):=by
 refine zat Tryz.func236 rfl (by kernel_rfl) rfl rfl rfl ?_;conv=>whnf
 refine zad (zss s t) ?_;conv=>whnf
 refine⟨fun h1=>?_,fun h1=>?_⟩
 ·have h1:(!zmC s t)=true:=h1;have h1:zmC s t=false:=by simpa using h1
  conv=>whnf
  refine⟨rfl,zae ?_⟩;rw[ztq,zrY,h1];rfl
 ·have h1:(!zmC s t)=false:=h1;have h1:zmC s t=true:=by simpa using h1
  obtain⟨hs,h0,h8⟩:=zi3 h1;have hl:=hm s.toNat (by omega);conv=>whnf
  refine⟨hs,?_⟩;conv=>whnf
  refine zad (zsL (m s.toNat) t hl.n0 hl.n1) ?_;conv=>whnf
  refine⟨zac (x:=t+1) (by omega) (by omega),?_⟩;conv=>whnf
  refine⟨fun h2=>?_,fun h2=>?_⟩
  ·have h2:((m s.toNat).has==t+1)=true:=h2;conv=>whnf
   refine⟨rfl,zae ?_⟩;rw[ztq,zrY,h1,h2];rfl
  ·have h2:((m s.toNat).has==t+1)=false:=h2;conv=>whnf
   refine⟨fun h3=>?_,fun h3=>?_⟩
   ·have h3:zzi (m s.toNat) t=true:=h3;conv=>whnf
    refine zad (zm7 (m s.toNat) t hl h0 h8) ?_;conv=>whnf
    refine⟨_,zwe m s.toNat (woM (m s.toNat) t),?_⟩;conv=>whnf
    refine⟨zac (x:=t+1) (by omega) (by omega),?_⟩;conv=>whnf
    refine⟨_,zx4 m s.toNat (woM (m s.toNat) t) _,?_⟩;conv=>whnf
    refine⟨rfl,zae ?_⟩;rw[ztq,zrY,h1,h2,h3];rfl
   ·have h3:zzi (m s.toNat) t=false:=h3;conv=>whnf
    refine⟨fun h4=>?_,fun h4=>?_⟩
    ·have h4:decide (zde (m s.toNat) t<0)=true:=h4;have hn8:(m s.toNat).n<8:=by
      rcases zfO (m s.toNat) h0 h8 with⟨_,hn⟩|⟨j,e,_⟩
      ·exact zAv hl h0 h8 hn
      ·rw[e]at h4;have:=zFL h4;omega
     conv=>whnf
     refine zao zaa (by kernel_rfl) 10 (by kernel_rfl) ?_;conv=>whnf
     refine⟨⟨hl.n0,hn8⟩,?_⟩;conv=>whnf
     refine⟨_,zx6 m s.toNat (m s.toNat).n.toNat _,?_⟩;conv=>whnf
     refine⟨?_,?_⟩
     ·show I64 ((zaq m s.toNat {m s.toNat with wait:=zaq (m s.toNat).wait (m s.toNat).n.toNat (IntKind.u8.wrap t)} s.toNat).n+1);rw[zag];exact zac (x:=(m s.toNat).n+1) (by have:=hl.n0;omega) (by omega)
     conv=>whnf
     refine⟨_,zx5 m s.toNat {m s.toNat with wait:=zaq (m s.toNat).wait (m s.toNat).n.toNat (IntKind.u8.wrap t)} _,?_⟩;conv=>whnf
     refine⟨rfl,zae ?_⟩;rw[ztq,zrY,h1,h2,h3,h4,zag];rfl
    ·have h4:decide (zde (m s.toNat) t<0)=false:=h4;conv=>whnf
     refine⟨rfl,zae ?_⟩;rw[ztq,zrY,h1,h2,h3,h4];rfl
theorem zzt(m:Nat→Line)(hm:zdA m)(t:Int):zay Tryz.prog 134 [.d (za8 m),I t] (.d (za8 (zAj m t))):=by
 refine zat Tryz.func134 rfl (by kernel_rfl) rfl rfl rfl ?_;conv=>whnf
 have hz:zCG.zero.sv=.d (za8 fun _=>⟨0,0,fun _=>0⟩):=rfl;have step:∀i:Nat,i<32→(List.range (i+1)).foldl (zfl t) m=zfl t ((List.range i).foldl (zfl t) m) i:=fun i _=>by rw[zFW,zHc];rfl
 refine zaB zaa (fun i=>i≤32) (fun i=>32 - i) (fun i=>[(6,I i)]) (fun i=>⟨[.d (za8 ((List.range i).foldl (zfl t) m)),zCG.zero.sv],[],[]⟩) 0 (zFV _) ⟨rfl,trivial⟩ rfl (fun i=>⟨zF5 _,zF5 _,zF5 _⟩) ?_;intro i hi;conv=>whnf
 refine⟨fun ht=>?_,fun ht=>?_⟩
 ·have hlt:i<32:=by
   have:(i:Int)<32:=by simpa using ht
   omega
  have hk:=zgN t (List.range i) hm;have hs:=step i hlt;generalize(List.range i).foldl (zfl t) m=k at hk hs ⊢;conv=>whnf
  refine zad (zzq k i t) ?_;conv=>whnf
  have hf:=zk1 hk (i:Int) t;refine zad (zss (i:Int) t) ?_;conv=>whnf
  refine⟨fun h1=>?_,fun h1=>?_⟩
  ·have h1:zmC i t=true:=h1;obtain⟨_,h0,h8⟩:=zi3 h1;conv=>whnf
   refine⟨⟨by omega,by omega⟩,?_⟩;conv=>whnf
   refine zad (zm7 (zjI k i t ((i:Int)).toNat) t (hf _ (by omega)) h0 h8) ?_;conv=>whnf
   refine⟨⟨by omega,by omega⟩,?_⟩;conv=>whnf
   refine⟨_,zwe (zjI k i t) ((i:Int)).toNat _,?_⟩;conv=>whnf
   refine⟨zac (x:=(i:Int)+1) (by omega) (by omega),?_⟩;conv=>whnf
   exact⟨i+1,hlt,by omega,⟨rfl,trivial⟩,⟨by rw[hs,zfl,h1];rfl,rfl⟩,rfl⟩
  ·have h1:zmC i t=false:=h1;conv=>whnf
   refine⟨zac (x:=(i:Int)+1) (by omega) (by omega),?_⟩;conv=>whnf
   exact⟨i+1,hlt,by omega,⟨rfl,trivial⟩,⟨by rw[hs,zfl,h1];rfl,rfl⟩,rfl⟩
 ·have hlt:i=32:=by
   have:¬((i:Int)<32):=by simpa using ht
   omega
  subst hlt;conv=>whnf
  exact⟨rfl,zae rfl⟩
end Sx
namespace Sx
abbrev zL(l:List Int):List D:=l.map fun x=>.z .i64 x
def zaT(x:Cr)(a:Nat):SV:=.pr (.d (za7 x.s)) (.pr (.pt 1 []) (.pr (.d (za8 x.m)) (.pr (owl 1 a .c (zL x.q)) (.d .un))))
def zdL(c:Rt):D:=.pr (.z .i64 c.task) (.pr (zaW c.c) (.pr (.bo c.chk) (.pr (sls .c (hL c.regs)) (.pr (zar c.run) (.pr (.z .i64 c.clr) .un)))))
abbrev MC(Z:SV)(x:Cr)(a b:Nat):MS:=M3 Z (.d (zaH x.p)) (zaT x a) a b
theorem zz1(x:Cr)(a:Nat):(zaT x a).ids 3 2 0=true:=rfl
theorem zg5{Z:SV}(h:Z.ids 3 2 0=true)(x:Cr)(a:Nat):ZC Z (zaT x a):=⟨h,zz1 x a⟩
theorem za6{Z:SV}(h:Z.ids 3 2 0=true)(x:Cr)(a:Nat):zaG 3 2 0 [Z,.d (zaH x.p),zaT x a]=true:=(zg5 h x a).all _
attribute [local irreducible] Con zax zan zau zai zaw zbt zak zaC zbh zba I64
section
variable {Z:SV} {a b:Nat} {x:Cr}
theorem zra{f:FuncId}{args:List SV}{c2:List SV}{t2:List Nat}{o2:List Ob}{R:Out→MS→Prop}(hz:Z.ids 3 2 0=true)(h:Con Tryz.prog f args (MC Z x a b) R)(ha:zaG 3 2 0 args=true)(hQ:∀o m,R o m→∃x' a',m=MC Z x' a' b){K:Out→MS→Prop}(hK:∀o x' a',R o (MC Z x' a' b)→K o ⟨Z::.d (zaH x'.p)::zaT x' a'::c2,a'::b::t2,o2⟩):Con Tryz.prog f args ⟨Z::.d (zaH x.p)::zaT x a::c2,a::b::t2,o2⟩ K:=
 zal (zcb c2 t2 o2 h ha (by rw[show[Z,SV.d (zaH x.p),zaT x a].length=3 from rfl,show[a,b].length=2 from rfl,show([]:List Ob).length=0 from rfl,za6 hz];rfl) fun o m hm=>by
  obtain⟨x',a',rfl⟩:=hQ o m hm;exact⟨rfl,rfl,rfl⟩) fun o m ⟨m',h1,h2⟩=>by
  obtain⟨x',a',rfl⟩:=hQ o m' h1;subst h2;exact hK o x' a' h1
theorem zhz{r:Rn}{i:Nat}(hi:i<r.n.toNat):(pg r).take (i+1)=(pg r).take i++[r.at_+(i:Int)]:=by unfold pg;rw[zHb,zHz,List.getElem?_range hi];rfl
def RnQ(r:Rn):Prop:=r.n≤0∨zbd r
theorem RnC.q{r:Rn}(h:RnC r):RnQ r:=by
 rcases h with h|h
 ·exact .inl (by omega)
 ·exact .inr h
abbrev qI(x:Cr)(r:Rn)(i:Nat):Cr:={x with q:=x.q++(pg r).take i}
theorem zsP(hz:Z.ids 3 2 0=true)(r:Rn)(hr:RnQ r)(hq:x.q.length≤1000000):Con Tryz.prog 133 [.pt 2 [],.d (zar r)] (MC Z x a b) fun o m=>o=unR∧∃a',m=MC Z (zbn x r) a' b:=by
 have hn1:r.n≤64∧(r.n≤0∨(0≤r.at_∧r.at_≤64)):=by
  rcases hr with h|h
  ·omega
  ·unfold zbd at h;omega
 have hpl:∀i,((pg r).take i).length≤64:=fun i=>by
  refine zFU (zHl _ _) ?_;have:(pg r).length=r.n.toNat:=by simp[pg]
  omega
 refine za3 Tryz.func133 rfl (by kernel_rfl) rfl rfl ?_;conv=>whnf
 refine zaB zaa (fun i=>i≤r.n.toNat) (fun i=>r.n.toNat - i) (fun i=>[(7,I i)]) (fun i=>⟨[Z,.d (zaH x.p),zaT (qI x r i) (a+i),.d (zar r)],[a+i,b],[]⟩) 0 (zFV _) ⟨rfl,trivial⟩ ?_ (fun i=>⟨zF5 _,zF5 _,zF5 _⟩) ?_
 ·exact zcn (ce rfl (ce rfl (ce (congrArg (fun q=>zaT {x with q:=q} a) (zHm x.q).symm) (ce rfl rfl)))) rfl rfl
 intro i hi;conv=>whnf
 refine⟨fun ht=>?_,fun ht=>?_⟩
 ·have hlt:i<r.n.toNat:=by
   have:(i:Int)<r.n:=by simpa using ht
   omega
  have hli:=hpl i;conv=>whnf
  refine zaA zaa (by kernel_rfl) (List.range 14) [(9,31),(10,1),(13,0)] (by kernel_rfl) ?_;conv=>whnf
  refine⟨zac (x:=r.at_+(i:Int)) (by omega) (by omega),?_⟩;conv=>whnf
  refine Or.inl ?_;conv=>whnf
  refine⟨(show _∧_ from⟨rfl,rfl⟩),zas ?_ ?_⟩;rotate_left
  ·repeat' (first|exact trivial|refine And.intro (show _∧_ from⟨rfl,rfl⟩) ?_)
  conv=>whnf
  refine⟨⟨rfl,(by rw[zFH];show(x.q++(pg r).take i).length+1≤_;rw[zFY];omega:(zL (qI x r i).q).length+1≤2147483648)⟩,?_⟩;conv=>whnf
  refine⟨zac (x:=(i:Int)+1) (by omega) (by omega),?_⟩;conv=>whnf
  have eb:zL (qI x r i).q++[D.z .i64 (r.at_+(i:Int))]=zL (qI x r (i+1)).q:=by show(x.q++(pg r).take i).map _++_=(x.q++(pg r).take (i+1)).map _;rw[zhz hlt,←zG5];simp only[zF6,zGF,zHn]
  refine⟨i+1,by omega,by omega,⟨rfl,trivial⟩,⟨?_,zcr hz (zFG rfl) rfl⟩,rfl⟩;exact zcn (ce rfl (ce rfl (ce ((congrArg (fun q=>SV.pr (.d (za7 x.s)) (.pr (.pt 1 []) (.pr (.d (za8 x.m)) (.pr q (.d .un))))) (zcq 1 (a+i+1) .c (zL (qI x r i).q) [D.z .i64 (r.at_+(i:Int))])).trans (congrArg (fun L=>SV.pr (.d (za7 x.s)) (.pr (.pt 1 []) (.pr (.d (za8 x.m)) (.pr (owl 1 (a+(i+1)) .c L) (.d .un))))) eb)) (ce rfl rfl)))) rfl rfl
 ·have hlt:i=r.n.toNat:=by
   have:¬((i:Int)<r.n):=by simpa using ht
   omega
  subst hlt;have ep:(pg r).take r.n.toNat=pg r:=by
   have:(pg r).length=r.n.toNat:=by simp[pg]
   rw[←this,zHe]
  have eq:qI x r r.n.toNat=zbn x r:=by unfold qI zbn;rw[ep]
  rw[eq];conv=>whnf
  exact⟨zaJ rfl (za6 hz (zbn x r) (a+r.n.toNat)),rfl,a+r.n.toNat,rfl⟩
theorem zzm(hz:Z.ids 3 2 0=true)(c:Rt)(hr:RnC c.run)(hq:x.q.length≤1000000)(hm:zdA x.m):Con Tryz.prog 70 [.pt 2 [],.d (zdL c)] (MC Z x a b) fun o m=>o=unR∧∃a',m=MC Z (zfU x c) a' b:=by
 refine za3 Tryz.func70 rfl (by kernel_rfl) rfl rfl ?_;conv=>whnf
 refine zra (a:=a) (b:=b) hz (zsP hz c.run hr.q hq) rfl (fun o m ⟨_,a',h⟩=>⟨_,a',h⟩) fun o x' a' ⟨ho,a2,hm2⟩=>?_;have e1:=congrArg MS.c hm2;have e2:=congrArg MS.t hm2;simp only[zFD,zFE,zFF]at e1 e2;obtain⟨e0,e1⟩:=e1;subst ho e2;rw[e0,e1];conv=>whnf
 refine zao zaa (by kernel_rfl) 10 (by kernel_rfl) ?_;conv=>whnf
 refine zam (zzt x.m hm c.task) (fun _ h=>h) ?_;conv=>whnf
 exact⟨zaJ rfl (za6 hz (zfU x c) a'),rfl,a',rfl⟩
theorem zzC(hz:Z.ids 3 2 0=true)(hf:∀y∈x.p.fr,zbd y)(hl:x.p.fr.length≤500)(hp:x.p.n≤64)(hq:x.q.length≤1000000):Con Tryz.prog 29 [.pt 2 []] (MC Z x a b) fun o m=>o=.ret (B (!(x.q.length==0)))∧m=MC Z (zdy x) a b:=by
 obtain⟨s,p,mk,q⟩:=x;refine za3 Tryz.func29 rfl (by kernel_rfl) rfl rfl ?_;cases q with
 |nil=>
  conv=>whnf
  refine⟨zac (x:=(0:Int)) (by decide) (by decide),?_⟩;conv=>whnf
  refine⟨fun _=>?_,(fun h=>by cases h)⟩;conv=>whnf
  exact⟨zaJ rfl (za6 hz _ a),rfl,rfl⟩
 |cons p0 l=>
  conv=>whnf
  refine⟨zac (x:=((zL (p0::l)).length:Int)) (by omega) (by rw[zFH];show((p0::l).length:Int)≤_;have:(p0::l).length≤1000000:=hq;omega),?_⟩;conv=>whnf
  refine⟨fun h=>?_,fun _=>?_⟩
  ·have h:(((zL (p0::l)).length:Int)==0)=true:=h;simp at h;exact absurd h (by omega)
  conv=>whnf
  refine zao zaa (by kernel_rfl) 10 (by kernel_rfl) ?_;conv=>whnf
  refine⟨⟨zFJ 0,(by rw[zFH];show(0:Int)<((p0::l).length:Int);simp:(0:Int)<((zL (p0::l)).length:Int))⟩,?_⟩;conv=>whnf
  refine zal (zwZ (zg5 hz _ _) hf hl p0 hp) fun o m h=>?_;obtain⟨⟨e,rfl⟩,rfl⟩:=h;conv=>whnf
  refine⟨(by rw[zFH];show(0:Int)≤1∧(1:Int)≤((p0::l).length:Int);rw[zFI];omega:(0:Int)≤1∧(1:Int)≤((zL (p0::l)).length:Int)),?_⟩;conv=>whnf
  have e2:SV.ow 1 a ((zL (p0::l)).length - 1) .c (zbP (za4 (zL (p0::l))) 1)=owl 1 a .c (zL l):=by rw[zjn];rfl
  have e3:=congrArg (fun q=>SV.pr (.d (za7 s)) (.pr (.pt 1 []) (.pr (.d (za8 mk)) (.pr q (.d .un))))) e2;refine⟨?_,rfl,?_⟩
  ·have:=za6 hz (zdy ⟨s,p,mk,p0::l⟩) a;exact zaJ rfl this
  ·exact zcn (ce rfl (ce rfl (ce e3 rfl))) rfl rfl
end
end Sx
namespace Sx
attribute [local irreducible] Con zax zan zau zai zaw zbt zak zaC zbh zba I64
def zeN(s:St)(c:Call)(i:Nat):List Int:=(List.range i).map fun i:Nat=>(zhW (zaj s.t c.r).rs (c.a+(i:Int))).getD 0
theorem zqm(s:St)(c:Call)(i:Nat):(zL (zeN s c i)).length=i:=by unfold zeN;simp
theorem zn8(s:St)(c:Call)(i:Nat):zL (zeN s c i)++[D.z .i64 ((zhW (zaj s.t c.r).rs (c.a+(i:Int))).getD 0)]=zL (zeN s c (i+1)):=by unfold zeN;rw[zFW];simp only[zF6,zGF,zHn]
theorem ztY{s:St}{d:Int→Nat}(hs:StOk s d){c:Call}(ha:U32 c.a)(hb:U32 c.b):zay Tryz.prog 239 [.d (za7 s),.d (zaW c)] (T2 (.d (sls .c (zL (zbU s c)))) (I (zdH s c))):=by
 have hR:=zc1 hs.t c.r;have hRl:=zsY hR;have hRn:=zdu hR.ok;have hRp:=hR.pg;have hRq:=hR.q1;have a0:=ha.1;have a1:=ha.2;have b0:=hb.1;have b1:=hb.2;have nil:∀e:Int,zdH s c=e→e≠0→(T2 (zqE .c (za4 [])) (I e)).le (T2 (.d (sls .c (zL (zbU s c)))) (I (zdH s c))):=fun e he hn=>by
  have:zbU s c=[]:=by unfold zbU;rw[he,zFN.2 hn];rfl
  rw[this,he];exact zhP fun ro bl x h=>zcO _ _ _ _ ro bl x h
 refine zat Tryz.func239 rfl (by kernel_rfl) rfl rfl rfl ?_;conv=>whnf
 refine zad (zlS s.t c.r) ?_;conv=>whnf
 refine⟨fun h1=>?_,fun h1=>?_⟩
 ·have h1:((bif zah s.t.b c.r then(0:Int)else 4) != 0)=true:=h1;have hg:zah s.t.b c.r=false:=by
   cases hq:zah s.t.b c.r with
   |false=>rfl
   |true=>rw[hq]at h1;cases h1
  have e:zdH s c=4:=by unfold zdH;rw[hg];rfl
  conv=>whnf
  rw[hg];exact⟨rfl,zeU (nil 4 e (by decide))⟩
 ·have h1:((bif zah s.t.b c.r then(0:Int)else 4) != 0)=false:=h1;have hg:zah s.t.b c.r=true:=by
   cases hq:zah s.t.b c.r with
   |true=>rfl
   |false=>rw[hq]at h1;cases h1
  conv=>whnf
  refine⟨fun h2=>?_,fun h2=>?_⟩
  ·have h2:((((c.do_ != 3)&&(c.do_ != 4))||decide (c.b<1))||decide (c.b>8))=true:=h2;have e:zdH s c=2:=by unfold zdH;rw[hg,←zIW,h2];rfl
   conv=>whnf
   exact⟨rfl,zeU (nil 2 e (by decide))⟩
  ·have h2:((((c.do_ != 3)&&(c.do_ != 4))||decide (c.b<1))||decide (c.b>8))=false:=h2;have hb8:¬c.b<1∧¬c.b>8:=by simp only[zFM,zFO]at h2;exact⟨h2.1.2,h2.2⟩
   conv=>whnf
   refine⟨zac (x:=(zaj s.t c.r).len - c.b) (by omega) (by omega),?_⟩;conv=>whnf
   refine⟨fun h3=>?_,fun h3=>?_⟩
   ·have h3:decide (c.a>(zaj s.t c.r).len - c.b)=true:=h3;have e:zdH s c=9:=by unfold zdH;rw[hg,←zIW,h2,h3];rfl
    conv=>whnf
    exact⟨rfl,zeU (nil 9 e (by decide))⟩
   ·have h3:decide (c.a>(zaj s.t c.r).len - c.b)=false:=h3;have h4:¬c.a>(zaj s.t c.r).len - c.b:=zFK h3;have e:zdH s c=0:=by unfold zdH;rw[hg,←zIW,h2,h3];rfl
    have eS:zbU s c=zeN s c c.b.toNat:=by unfold zbU;rw[e];rfl
    conv=>whnf
    refine zcJ 8 .c (za4 []) rfl ?_;refine zaB zaa (fun i:Nat=>(i:Int)≤c.b) (fun i=>8 - i) (fun i=>[(59,I i),(8,owl 1 i .c (zL (zeN s c i)))]) (fun i=>⟨[.d (za7 s),.d (zaW c),.d (zdX (zaj s.t c.r))],[i],[]⟩) 0 b0 ⟨rfl,rfl,trivial⟩ rfl (fun i=>⟨zF5 _,zF5 _,zF5 _⟩) ?_;intro i hi;have hpl:=zqm s c i;conv=>whnf
    refine⟨fun hq=>?_,fun hq=>?_⟩
    ·have hlt:(i:Int)<c.b:=by simpa using hq
     conv=>whnf
     refine⟨zac (x:=c.a+(i:Int)) (by omega) (by omega),?_⟩;conv=>whnf
     refine zad (zw0 (l:=(zaj s.t c.r).rs) hR.ok (by omega) (zaj s.t c.r).len (c.a+(i:Int)) (by omega)) ?_;conv=>whnf
     refine Or.inl ?_;conv=>whnf
     refine⟨⟨rfl,(by omega:(zL (zeN s c i)).length+1≤2147483648)⟩,?_⟩;conv=>whnf
     refine⟨zac (x:=(i:Int)+1) (by omega) (by omega),?_⟩;conv=>whnf
     refine⟨i+1,by omega,by omega,⟨rfl,?_,trivial⟩,⟨rfl,rfl⟩,rfl⟩;refine congrArg some (show SV.ow 1 (i+1) ((zL (zeN s c i)).length+[D.z .i64 ((zhW (zaj s.t c.r).rs (c.a+(i:Int))).getD 0)].length) .c (zdc (zL (zeN s c i)).length (za4 (zL (zeN s c i))) (za4 [D.z .i64 ((zhW (zaj s.t c.r).rs (c.a+(i:Int))).getD 0)]))=owl 1 (i+1) .c (zL (zeN s c (i+1))) from ?_);rw[zcq,zn8]
    ·have hlt:(i:Int)=c.b:=by
      have:¬((i:Int)<c.b):=by simpa using hq
      omega
     have en:c.b.toNat=i:=by omega
     rw[eS,e,en];generalize zL (zeN s c i)=L at hpl ⊢;conv=>whnf
     refine zaM Tryz.func262 rfl (by kernel_rfl) rfl rfl ?_;conv=>whnf
     refine⟨zac (x:=(L.length:Int)) (by omega) (by omega),?_⟩;conv=>whnf
     refine⟨zac (x:=(L.length:Int)) (by omega) (by omega),?_⟩;conv=>whnf
     refine⟨⟨zFJ 0,(by omega:(0:Int)≤(L.length:Int)),zFJ _,rfl⟩,?_⟩;conv=>whnf
     have e2:zbP (za4 L) 0=za4 L:=by funext j;simp[zbP]
     refine⟨rfl,zeU ?_⟩;show SV.le (T2 (.ow 0 0 L.length .c (zbP (za4 L) 0)) (I 0)) _;rw[e2];exact zhP fun ro bl x h=>zlo _ _ _ _ _ ro bl x h
end Sx
namespace Sx
def zp7(c:Rt)(r:Rs)(e:Bool):SV:=.pr (.pt 2 []) (.d (.pr (zdL c) (.pr (zaK r) (.pr (.bo e) .un))))
abbrev M7(Z:SV)(b1 b2 b3:D)(x:Cr)(c:Rt)(r:Rs)(e:Bool)(a b:Nat):MS:=⟨[Z,.d (zaH x.p),zaT x a,.d b1,.d b2,.d b3,zp7 c r e],[a,b],[]⟩
structure WOk (x:Cr) (c:Rt) (t:Nat):Prop where
 s:SInv x.s
 fr:FreeOk x.p.fr
 n:x.p.n≤64
 q:x.q.length≤1000
 mks:zdA x.m
 ct:CtOk t c
 ht:t<8
 al:x.s.alive t=true
 rn:RnC c.run
 rx:RtX c
theorem zfK{l:List Rn}(h:FreeOk l):l.length≤64:=by
 have h1:=zi7 (l:=pgs l) (m:=zjF 64) (zfJ h) fun p hp=>by obtain⟨y,hy,hp⟩:=zeZ.1 hp;have:=h.ok y hy;have:=zbF.1 hp;unfold zbd at*;exact zee.2 (by omega)
 have h2:=zlr h.ok;have h3:=zdu h.ok;have h4:(zjF 64).length=64:=by decide
 omega
theorem zx7(s:St)(task:Int)(c:Call):0≤zaE s task c∧zaE s task c≤4:=by
 have z:(0:Int)≤0∧(0:Int)≤4:=by decide
 have key:∀n,zh6 s task c=.ok n→0≤n∧n≤4:=fun n h=>by
  unfold zh6 at h;obtain⟨_,h⟩:=zaF h;obtain⟨_,h⟩:=zaF h;obtain⟨_,h⟩:=zaF h;cases hf:zjD (zaj s.t c.r).rs (zaj s.t c.r).len (zbs c.a 129) (zbs c.b 9)with
  |true=>
   rw[hf]at h;cases hp:zlO s c (zaj s.t c.r)with
   |ok y=>
    rw[hp]at h;have h:(Except.ok 0:Except Int Int)=.ok n:=h;cases h;exact z
   |error e=>rw[hp]at h;cases h
  |false=>
   rw[hf]at h;obtain⟨_,h⟩:=zaF (show thn _ _=_ from h);cases h;exact zuY _ _
 unfold zaE;cases(c.do_==2)with
 |false=>exact z
 |true=>
  cases hq:zh6 s task c with
  |ok n=>exact key n hq
  |error e=>exact z
theorem WOk.call{x:Cr}{c:Rt}{t:Nat}(h:WOk x c t):CallOk x.s c.task c.c:=h.ct.call h.ht x.s
theorem WOk.alive{x:Cr}{c:Rt}{t:Nat}(h:WOk x c t):x.s.alive c.task.toNat=true:=by rw[h.ct.t,zFC];exact h.al
theorem zfn{Z:SV}(hz:Z.ids 3 2 0=true){l:List SV}{n:Nat}(hn:3≤n)(hl:zaG n 2 0 l=true){v:SV}(hv:v.ids n 2 0=true):(v.ids n 2 0&&(zaG n 2 0 (Z::l)&&zbH n 2 0 []))=true:=by rw[hv,zcr hz hn hl];rfl
attribute [local irreducible] Con zax zan zau zai zaw zbt zak zaC zbh zba I64
section
variable {Z:SV} {a b:Nat} {x:Cr} {c:Rt} {r0:Rs} {e0:Bool} {b1 b2 b3:D}
theorem zpX{f:FuncId}{args:List SV}(hz:Z.ids 3 2 0=true){p':Pl}{R:Out→Prop}(h:Con Tryz.prog f args (MC Z x a b) fun o m=>R o∧m=M3 Z (.d (zaH p')) (zaT x a) a b)(ha:zaG 3 2 0 args=true){c2:List SV}{t2:List Nat}{o2:List Ob}{K:Out→MS→Prop}(hK:∀o,R o→K o ⟨Z::.d (zaH p')::zaT x a::c2,a::b::t2,o2⟩):Con Tryz.prog f args ⟨Z::.d (zaH x.p)::zaT x a::c2,a::b::t2,o2⟩ K:=
 zDX h ha ((zg5 hz x a).all _) (fun o m ⟨_,hm⟩=>⟨_,_,_,_,_,hm⟩) fun o Z' Q' C' a' b' ⟨h1,hm⟩=>by have e1:=congrArg MS.c hm;have e2:=congrArg MS.t hm;simp only[zFD,zFE]at e1 e2;obtain⟨e3,e4,e5⟩:=e1;obtain⟨e6,e7⟩:=e2;rw[e3,e4,e5,e6,e7];exact hK o h1
theorem zj3(hz:Z.ids 3 2 0=true)(hq:x.q.length≤1000000)(hm:zdA x.m)(hr:RnC c.run)(r:Rs):Con Tryz.prog 234 [.pt 6 [],.d (zaK r)] (M7 Z b1 b2 b3 x c r0 e0 a b) fun o m=>o=unR∧∃a',m=M7 Z b1 b2 b3 (zfU x c) c r true a' b:=by
 refine za3 Tryz.func234 rfl (by kernel_rfl) rfl rfl ?_;conv=>whnf
 refine zao zaa (by kernel_rfl) 8 (by kernel_rfl) ?_;conv=>whnf
 refine zra (a:=a) (b:=b) hz (zzm hz c hr hq hm) rfl (fun o m ⟨_,a',h⟩=>⟨_,a',h⟩) fun o x' a' ⟨ho,a2,hm2⟩=>?_;have e1:=congrArg MS.c hm2;have e2:=congrArg MS.t hm2;simp only[zFD,zFE,zFF]at e1 e2;obtain⟨e3,e1⟩:=e1;subst ho e2;rw[e3,e1];conv=>whnf
 exact⟨zfn hz (zFG rfl) rfl rfl,rfl,a',rfl⟩
theorem zyx(g:Int)(l:List Int):D.sl ((hL (g::l)).length - 1) .c (zbP (za4 (hL (g::l))) 1)=sls .c (hL l):=by rw[zjn];rfl
def zpT(Z:SV)(b1 b2 b3:D)(b:Nat)(p:Sp)(o:Out)(m:MS):Prop:=o=.ret (B true)∧∃a',m=M7 Z b1 b2 b3 p.x p.c p.r p.e a' b
theorem zuW(hz:Z.ids 3 2 0=true)(hr:c.regs=[]):Con Tryz.prog 193 [.pt 6 []] (M7 Z b1 b2 b3 x c r0 e0 a b) fun o m=>o=.ret (B false)∧m=M7 Z b1 b2 b3 x c r0 e0 a b:=by
 obtain⟨task,cc,chk,regs,run,clr⟩:=c;have hr:regs=[]:=hr;subst hr;refine za3 Tryz.func193 rfl (by kernel_rfl) rfl rfl ?_;conv=>whnf
 refine⟨zac (x:=(0:Int)) (by decide) (by decide),?_⟩;conv=>whnf
 refine⟨fun _=>?_,(fun h=>by cases h)⟩;conv=>whnf
 exact⟨zfn hz (zFG rfl) rfl rfl,rfl,rfl⟩
theorem zx1(hz:Z.ids 3 2 0=true)(hm:zdA x.m){g:Int}{l:List Int}(hr:c.regs=g::l)(hl:l.length≤1000):Con Tryz.prog 193 [.pt 6 []] (M7 Z b1 b2 b3 x c rs0 false a b) (zpT Z b1 b2 b3 b (zhT x c g l)):=by
 obtain⟨task,cc,chk,regs,run,clr⟩:=c;have hr:regs=g::l:=hr;subst hr;refine za3 Tryz.func193 rfl (by kernel_rfl) rfl rfl ?_;conv=>whnf
 refine⟨zac (x:=((hL (g::l)).length:Int)) (by omega) (by rw[zFH,zFI];omega),?_⟩;conv=>whnf
 refine⟨fun h=>?_,fun _=>?_⟩
 ·have h:(((hL (g::l)).length:Int)==0)=true:=h;simp at h;exact absurd h (by omega)
 conv=>whnf
 refine⟨⟨zFJ 0,(by rw[zFH,zFI];omega:(0:Int)<((hL (g::l)).length:Int))⟩,?_⟩;conv=>whnf
 refine zad (zeC g) ?_;conv=>whnf
 refine zaA zaa (by kernel_rfl) (List.range 20) [(17,131071),(18,65536)] (by kernel_rfl) ?_;conv=>whnf
 refine zam (zB9 x.m hm (slX g) task) (fun _ h=>h) ?_;conv=>whnf
 refine⟨(show _∧_ from⟨rfl,rfl⟩),zas ?_ ?_⟩;rotate_left
 ·repeat' (first|exact trivial|refine And.intro (show _∧_ from⟨rfl,rfl⟩) ?_)
 conv=>whnf
 refine zao zaa (by kernel_rfl) 7 (by kernel_rfl) ?_;conv=>whnf
 refine⟨fun h1=>?_,fun h1=>?_⟩
 ·have h1:zrY x.m (slX g) task=true:=h1;conv=>whnf
  refine⟨(by rw[zFH,zFI];omega:(0:Int)≤1∧(1:Int)≤((hL (g::l)).length:Int)),?_⟩;conv=>whnf
  have e3:=congrArg (fun q=>SV.pr (.pt 2 []) (.d (.pr (.pr (.z .i64 task) (.pr (zaW cc) (.pr (.bo chk) (.pr q (.pr (zar run) (.pr (.z .i64 clr) .un)))))) (.pr (zaK rs0) (.pr (.bo false) .un))))) (zyx g l);have e4:(zhT x ⟨task,cc,chk,g::l,run,clr⟩ g l)=⟨{x with m:=ztq x.m (slX g) task},⟨task,cc,chk,l,run,clr⟩,rs0,false⟩:=by unfold zhT;rw[h1];rfl
  rw[e4];refine⟨?_,rfl,a,?_⟩
  ·exact zfn hz (zFG rfl) rfl rfl
  ·exact zcn (ce rfl (ce rfl (ce rfl (ce rfl (ce rfl (ce rfl (ce e3 rfl))))))) rfl rfl
 ·have h1:zrY x.m (slX g) task=false:=h1;conv=>whnf
  have e4:(zhT x ⟨task,cc,chk,g::l,run,clr⟩ g l)=⟨{x with m:=ztq x.m (slX g) task},⟨task,cc,chk,g::l,run,clr⟩,rs0,false⟩:=by unfold zhT;rw[h1];rfl
  rw[e4];exact⟨zfn hz (zFG rfl) rfl rfl,rfl,a,rfl⟩
theorem zrk(hz:Z.ids 3 2 0=true)(h:decide (c.clr<c.run.n)=false):Con Tryz.prog 195 [.pt 6 []] (M7 Z b1 b2 b3 x c r0 e0 a b) fun o m=>o=.ret (B false)∧m=M7 Z b1 b2 b3 x c r0 e0 a b:=by
 have hn:¬c.clr<c.run.n:=zFK h;refine za3 Tryz.func195 rfl (by kernel_rfl) rfl rfl ?_;conv=>whnf
 refine zao zaa (by kernel_rfl) 12 (by kernel_rfl) ?_;conv=>whnf
 refine⟨fun _=>?_,fun h1=>?_⟩
 ·conv=>whnf
  exact⟨zfn hz (zFG rfl) rfl rfl,rfl,rfl⟩
 ·have h1:decide (c.clr≥c.run.n)=false:=h1;have:=zFK h1;omega
theorem zuq(hz:Z.ids 3 2 0=true)(hf:∀y∈x.p.fr,zbd y)(hl:x.p.fr.length≤500)(hp:x.p.n≤64)(hr:zbd c.run)(h0:0≤c.clr)(h:decide (c.clr<c.run.n)=true):Con Tryz.prog 195 [.pt 6 []] (M7 Z b1 b2 b3 x c rs0 false a b) (zpT Z b1 b2 b3 b (zd9 x c)):=by
 have hn:c.clr<c.run.n:=zFL h;obtain⟨r1,r2,r3⟩:=hr;refine za3 Tryz.func195 rfl (by kernel_rfl) rfl rfl ?_;conv=>whnf
 refine zao zaa (by kernel_rfl) 12 (by kernel_rfl) ?_;conv=>whnf
 refine⟨fun h1=>?_,fun _=>?_⟩
 ·have h1:decide (c.clr≥c.run.n)=true:=h1;have:=zFL h1;omega
 conv=>whnf
 refine zao zaa (by kernel_rfl) 19 (by kernel_rfl) ?_;conv=>whnf
 refine⟨zac (x:=c.run.at_+c.clr) (by omega) (by omega),?_⟩;conv=>whnf
 refine zpX hz (R:=fun o=>∃e:Int,o=.ret (I e)) (ztZ (zg5 hz x a) hf hl (c.run.at_+c.clr) hp) rfl fun o ho=>?_;obtain⟨e,rfl⟩:=ho;conv=>whnf
 refine⟨zac (x:=c.clr+1) (by omega) (by omega),?_⟩;conv=>whnf
 exact⟨zfn hz (zFG rfl) rfl rfl,rfl,a,rfl⟩
theorem zrj{t:Nat}(hz:Z.ids 3 2 0=true)(hw:WOk x c t)(h:((zaE x.s c.task c.c != 0)&&decide (c.run.n≤0))=false):Con Tryz.prog 194 [.pt 6 []] (M7 Z b1 b2 b3 x c r0 e0 a b) fun o m=>o=.ret (B false)∧m=M7 Z b1 b2 b3 x c r0 e0 a b:=by
 refine za3 Tryz.func194 rfl (by kernel_rfl) rfl rfl ?_;conv=>whnf
 refine zao zaa (by kernel_rfl) 19 (by kernel_rfl) ?_;conv=>whnf
 refine zam (ziu hw.s.std hw.s.mail hw.call hw.alive) (fun _ h=>h) ?_;conv=>whnf
 refine⟨fun _=>?_,fun h1=>?_⟩
 ·conv=>whnf
  exact⟨zfn hz (zFG rfl) rfl rfl,rfl,rfl⟩
 ·exfalso;have h1:((zaE x.s c.task c.c==0)||decide (c.run.n>0))=false:=h1;simp only[zFM,zFN,zFO]at h1;rw[zFP.2 h1.1,zFQ (by omega)]at h;cases h
theorem zup{t:Nat}(hz:Z.ids 3 2 0=true)(hw:WOk x c t)(h:((zaE x.s c.task c.c != 0)&&decide (c.run.n≤0))=true):Con Tryz.prog 194 [.pt 6 []] (M7 Z b1 b2 b3 x c rs0 false a b) (zpT Z b1 b2 b3 b (zbJ x c (zaE x.s c.task c.c))):=by
 have hN:I64 (zaE x.s c.task c.c):=by have:=zx7 x.s c.task c.c;exact zac (by omega) (by omega)
 refine za3 Tryz.func194 rfl (by kernel_rfl) rfl rfl ?_;conv=>whnf
 refine zao zaa (by kernel_rfl) 19 (by kernel_rfl) ?_;conv=>whnf
 refine zam (ziu hw.s.std hw.s.mail hw.call hw.alive) (fun _ h=>h) ?_;conv=>whnf
 refine⟨fun h1=>?_,fun _=>?_⟩
 ·exfalso;have h1:((zaE x.s c.task c.c==0)||decide (c.run.n>0))=true:=h1;simp only[zFR,zFP,zFS]at h;rw[zFN.2 h.1,zFT (by omega)]at h1;cases h1
 conv=>whnf
 refine zpX hz (R:=fun o=>o=.ret (T2 (I (zgD x.p (zaE x.s c.task c.c))) (I (zb4 x.p (zaE x.s c.task c.c))))) (zwD (zg5 hz x a) hw.fr.ok (zFU (zfK hw.fr) (by decide)) hN) rfl fun o ho=>?_;subst ho;conv=>whnf
 refine⟨fun h1=>?_,fun h1=>?_⟩
 ·have h1:(zb4 x.p (zaE x.s c.task c.c) != 0)=true:=h1;have e:zf0 x.p (zaE x.s c.task c.c)=x.p:=by unfold zf0;rw[zFN.2 (zFP.1 h1)];rfl
  rw[e];conv=>whnf
  refine zal (zj3 hz (zFU hw.q (by decide)) hw.mks hw.rn ⟨zb4 x.p (zaE x.s c.task c.c),0,0⟩) fun o m h=>?_;obtain⟨rfl,a',rfl⟩:=h;conv=>whnf
  refine⟨zfn hz (zFG rfl) rfl rfl,?_⟩;rw[zbJ,h1];exact⟨rfl,a',rfl⟩
 ·have h1:(zb4 x.p (zaE x.s c.task c.c) != 0)=false:=h1;conv=>whnf
  refine⟨zfn hz (zFG rfl) rfl rfl,?_⟩;rw[zbJ,h1];exact⟨rfl,a,rfl⟩
theorem zuo(hz:Z.ids 3 2 0=true)(h:c.chk=true):Con Tryz.prog 192 [.pt 6 []] (M7 Z b1 b2 b3 x c r0 e0 a b) fun o m=>o=.ret (B false)∧m=M7 Z b1 b2 b3 x c r0 e0 a b:=by
 obtain⟨task,cc,chk,regs,run,clr⟩:=c;have h:chk=true:=h;subst h;refine za3 Tryz.func192 rfl (by kernel_rfl) rfl rfl ?_;conv=>whnf
 refine⟨fun _=>?_,(fun h=>by cases h)⟩;conv=>whnf
 exact⟨zfn hz (zFG rfl) rfl rfl,rfl,rfl⟩
theorem zxg{t:Nat}(hz:Z.ids 3 2 0=true)(hw:WOk x c t)(h:c.chk=false)(hR:zay Tryz.prog 235 [.d (za7 x.s),.d (zaW c.c)] (HS (zb0 x.s c.c))):Con Tryz.prog 192 [.pt 6 []] (M7 Z b1 b2 b3 x c rs0 false a b) (zpT Z b1 b2 b3 b (zcZ x c)):=by
 obtain⟨task,cc,chk,regs,run,clr⟩:=c;have h:chk=false:=h;subst h;refine za3 Tryz.func192 rfl (by kernel_rfl) rfl rfl ?_;conv=>whnf
 refine⟨(fun h=>by cases h),fun _=>?_⟩;conv=>whnf
 refine zao zaa (by kernel_rfl) 18 (by kernel_rfl) ?_;conv=>whnf
 refine zam (zw5 hw.s hw.call hw.alive) (fun _ h=>h) ?_;conv=>whnf
 refine⟨fun h1=>?_,fun h1=>?_⟩
 ·have h1:zg4 x.s task cc=true:=h1;conv=>whnf
  refine⟨zfn hz (zFG rfl) rfl rfl,?_⟩;rw[zcZ,h1];exact⟨rfl,a,rfl⟩
 ·have h1:zg4 x.s task cc=false:=h1;conv=>whnf
  refine zao zaa (by kernel_rfl) 19 (by kernel_rfl) ?_;conv=>whnf
  refine zam (zqJ hw.s hw.call hw.alive) (fun _ h=>h) ?_;conv=>whnf
  refine⟨fun h2=>?_,fun h2=>?_⟩
  ·have h2:(zns x.s task cc != 0)=true:=h2;conv=>whnf
   refine zal (zj3 hz (zFU hw.q (by decide)) hw.mks hw.rn ⟨zns x.s task cc,0,0⟩) fun o m h=>?_;obtain⟨rfl,a',rfl⟩:=h;conv=>whnf
   refine⟨zfn hz (zFG rfl) rfl rfl,?_⟩;rw[zcZ,h1,h2];exact⟨rfl,a',rfl⟩
  ·have h2:(zns x.s task cc != 0)=false:=h2;conv=>whnf
   refine zaA zaa (by kernel_rfl) (List.range 23) [(18,2),(22,0)] (by kernel_rfl) ?_;conv=>whnf
   refine zam hR (fun _ h=>h) ?_;conv=>whnf
   refine⟨zfn hz (zFG rfl) rfl rfl,?_⟩;rw[zcZ,h1,h2];exact⟨rfl,a,rfl⟩
end
end Sx
end Go.Proofs.YtfbhkfhbnkncoaaGreatDoor
