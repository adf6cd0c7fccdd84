import Derived.Test.YtfbhkfhbnkncoaaGreatDoorT28
set_option linter.all false
namespace Go.Proofs.YtfbhkfhbnkncoaaGreatDoor
open Go.RowKit
namespace Sx
def pg(r:Rn):List Int:=(List.range r.n.toNat).map fun j:Nat=>r.at_+(j:Int)
def pgs(l:List Rn):List Int:=l.flatMap pg
theorem zbF{r:Rn}{p:Int}:p∈pg r↔r.at_≤p∧p<r.at_+r.n:=by
 unfold pg;rw[zHg];constructor
 ·rintro⟨j,hj,rfl⟩;have:=zF1.1 hj;omega
 ·rintro⟨h1,h2⟩;exact⟨(p - r.at_).toNat,zF1.2 (by omega),by omega⟩
theorem zdN{α β:Type}{f:α→β}:∀{l:List α},(∀x∈l,∀y∈l,f x=f y→x=y)→l.Nodup→(l.map f).Nodup
 |[],_,_=>zHV
 |a::l,hf,h=>by rw[zGF,zIp];rw[zIp]at h;refine⟨fun hm=>?_,zdN (fun x hx y hy=>hf x (zF4 _ hx) y (zF4 _ hy)) h.2⟩;obtain⟨y,hy,e⟩:=zHg.1 hm;have:=hf y (zF4 _ hy) a (zF3 ..) e;exact h.1 (this▸hy)
theorem zlq(r:Rn):(pg r).Nodup:=zdN (fun x _ y _ (h:r.at_+(x:Int)=r.at_+(y:Int))=>by omega) zID
structure FreeOk (l:List Rn):Prop where
 ap:l.Pairwise fun a b=>a.at_+a.n<b.at_
 ok:∀y∈l,zbd y
def Dj(a b:Rn):Prop:=a.at_+a.n≤b.at_∨b.at_+b.n≤a.at_
theorem zrZ{x:Rn}:∀{l out:List Rn},(∀y∈l,y.at_>x.at_+x.n∧1≤y.n)→0≤x.n→zgg ⟨x,true,out⟩ l=some ⟨x,true,out++l⟩
 |[],out,_,_=>by simp[zgg]
 |y::l,out,h,hx=>by
  obtain⟨hy,hn⟩:=h y (zF3 ..);have e1:decide (y.at_+y.n<x.at_)=false:=zFT (by omega);have e2:decide (y.at_>x.at_+x.n)=true:=zFQ hy;have e:zbT ⟨x,true,out⟩ y=some ⟨x,true,out++[y]⟩:=by unfold zbT;simp only[e1,e2,zHH,zHJ,Gv.fin]
  rw[zgg,e];simp only;rw[zrZ (fun z hz=>h z (zF4 _ hz)) hx,zG5];rfl
theorem zk7:∀{l out:List Rn} {x:Rn},FreeOk (out++l)→(∀y∈out,y.at_+y.n<x.at_)→zbd x→(∀y∈l,Dj x y)→
 ∃g,zgg ⟨x,false,out⟩ l=some g∧FreeOk g.fin∧∀p,p∈pgs g.fin↔(p∈pgs out∨p∈pg x)∨p∈pgs l
 |[],out,x,hf,ho,hx,_=>by
  refine⟨_,rfl,⟨?_,?_⟩,fun p=>?_⟩
  ·show List.Pairwise _ (out++[x]);rw[zHm]at hf;exact zIE.2 ⟨hf.ap,by simp,fun a ha b hb=>by rw[zHW.1 hb];exact ho a ha⟩
  ·intro y hy;rcases zF2.1 hy with hy|hy
   ·exact hf.ok y (zF2.2 (.inl hy))
   ·rw[zHW.1 hy];exact hx
  ·show p∈pgs (out++[x])↔_;simp[pgs]
 |y::l,out,x,hf,ho,hx,hd=>by
  have hy:=hf.ok y (zF2.2 (.inr (zF3 ..)));have hp:=zIE.1 hf.ap;have hpl:=zIF.1 hp.2.1;have hdy:=hd y (zF3 ..);unfold zbd at hx hy;unfold Dj at hdy;by_cases c1:y.at_+y.n<x.at_
  ·have e:zbT ⟨x,false,out⟩ y=some ⟨x,false,out++[y]⟩:=by unfold zbT;simp only[zFQ c1,zHH]
   have ha:out++y::l=out++[y]++l:=by simp
   obtain⟨g,h1,h2,h3⟩:=zk7 (l:=l) (out:=out++[y]) (x:=x) (ha▸hf) (fun z hz=>by
    rcases zF2.1 hz with hz|hz
    ·exact ho z hz
    ·rw[zHW.1 hz];exact c1) hx (fun z hz=>hd z (zF4 _ hz))
   refine⟨g,by rw[zgg,e];exact h1,h2,fun p=>?_⟩;rw[h3 p];simp only[pgs,zFX,zIG,zIH,zHm,zF2]
   grind
  ·by_cases c2:y.at_>x.at_+x.n
   ·have e:zbT ⟨x,false,out⟩ y=some ⟨x,true,(out++[x])++[y]⟩:=by unfold zbT;simp only[zFT c1,zFQ c2,zHH,zHJ,Gv.fin]
    have ht:=zrZ (x:=x) (l:=l) (out:=(out++[x])++[y]) (fun z hz=>by
     have:=hpl.1 z hz;have:=hf.ok z (zF2.2 (.inr (zF4 _ hz)));unfold zbd at this;omega) (by omega)
    refine⟨_,by rw[zgg,e];exact ht,⟨?_,?_⟩,fun p=>?_⟩
    ·show List.Pairwise _ (((out++[x])++[y])++l);have e3:((out++[x])++[y])++l=out++x::(y::l):=by simp
     rw[e3];refine zIE.2 ⟨hp.1,zIF.2 ⟨fun z hz=>?_,hp.2.1⟩,fun a ha b hb=>?_⟩
     ·rcases zGm.1 hz with hz|hz
      ·rw[hz];exact c2
      ·have:=hpl.1 z hz;omega
     ·rcases zGm.1 hb with hb|hb
      ·rw[hb];exact ho a ha
      ·exact hp.2.2 a ha b hb
    ·intro z hz;simp only[Gv.fin,zHH,zF2,zHW]at hz;rcases hz with((hz|hz)|hz)|hz
     ·exact hf.ok z (zF2.2 (.inl hz))
     ·rw[hz];exact hx
     ·rw[hz];exact hy
     ·exact hf.ok z (zF2.2 (.inr (zF4 _ hz)))
    ·simp only[pgs,Gv.fin,zHH,zFX,zIG,zIH,zHm,zF2]
     grind
   ·by_cases c3:y.at_+y.n=x.at_
    ·have e:zbT ⟨x,false,out⟩ y=some ⟨⟨y.at_,y.n+x.n⟩,false,out⟩:=by unfold zbT;simp only[zFT c1,zFT c2,zHJ,zGG.2 c3,zHH]
     obtain⟨g,h1,h2,h3⟩:=zk7 (l:=l) (out:=out) (x:=⟨y.at_,y.n+x.n⟩) ⟨zIE.2 ⟨hp.1,hpl.2,fun a ha b hb=>hp.2.2 a ha b (zF4 _ hb)⟩,fun z hz=>hf.ok z (by
      rcases zF2.1 hz with hz|hz
      ·exact zF2.2 (.inl hz)
      ·exact zF2.2 (.inr (zF4 _ hz)))⟩ (fun z hz=>hp.2.2 z hz y (zF3 ..)) (by unfold zbd;simp only;omega) (fun z hz=>by
      have h4:=hpl.1 z hz;have h5:=hd z (zF4 _ hz);have h6:=hf.ok z (zF2.2 (.inr (zF4 _ hz)));unfold Dj at h5 ⊢;unfold zbd at h6;simp only;omega)
     refine⟨g,by rw[zgg,e];exact h1,h2,fun p=>?_⟩;rw[h3 p];have:p∈pg ⟨y.at_,y.n+x.n⟩↔p∈pg y∨p∈pg x:=by rw[zbF,zbF,zbF];simp only;omega
     rw[this];simp only[pgs,zIG,zF2]
     grind
    ·by_cases c4:y.at_=x.at_+x.n
     ·have e:zbT ⟨x,false,out⟩ y=some ⟨⟨x.at_,x.n+y.n⟩,false,out⟩:=by unfold zbT;simp only[zFT c1,zFT c2,zHJ,zFN.2 c3,zGG.2 c4,zHH]
      obtain⟨g,h1,h2,h3⟩:=zk7 (l:=l) (out:=out) (x:=⟨x.at_,x.n+y.n⟩) ⟨zIE.2 ⟨hp.1,hpl.2,fun a ha b hb=>hp.2.2 a ha b (zF4 _ hb)⟩,fun z hz=>hf.ok z (by
       rcases zF2.1 hz with hz|hz
       ·exact zF2.2 (.inl hz)
       ·exact zF2.2 (.inr (zF4 _ hz)))⟩ ho (by unfold zbd;simp only;omega) (fun z hz=>by
       have h4:=hpl.1 z hz;have h5:=hd z (zF4 _ hz);have h6:=hf.ok z (zF2.2 (.inr (zF4 _ hz)));unfold Dj at h5 ⊢;unfold zbd at h6;simp only;omega)
      refine⟨g,by rw[zgg,e];exact h1,h2,fun p=>?_⟩;rw[h3 p];have:p∈pg ⟨x.at_,x.n+y.n⟩↔p∈pg x∨p∈pg y:=by rw[zbF,zbF,zbF];simp only;omega
      rw[this];simp only[pgs,zIG,zF2]
      grind
     ·exfalso;omega
theorem zrU{l:List Rn}{x:Rn}(hf:FreeOk l)(hx:zbd x)(hd:∀y∈l,Dj x y):∃l',zfk l x=some l'∧FreeOk l'∧∀p,p∈pgs l'↔p∈pgs l∨p∈pg x:=by
 obtain⟨g,h1,h2,h3⟩:=zk7 (l:=l) (out:=[]) (x:=x) hf (fun y hy=>by cases hy) hx hd;refine⟨g.fin,by rw[zfk,zi4.2 hx,zHH,h1];rfl,h2,fun p=>?_⟩;rw[h3 p];simp only[pgs,zIH,List.not_mem_nil]
 grind
theorem zCy{a b:Rn}(ha:zbd a)(hb:zbd b)(h:∀p,p∈pg a→p∈pg b→False):Dj a b:=by
 unfold Dj;unfold zbd at ha hb;by_cases c:a.at_+a.n≤b.at_∨b.at_+b.n≤a.at_
 ·exact c
 ·exfalso;by_cases d:a.at_≤b.at_
  ·exact h b.at_ (zbF.2 ⟨d,by omega⟩) (zbF.2 ⟨by omega,by omega⟩)
  ·exact h a.at_ (zbF.2 ⟨by omega,by omega⟩) (zbF.2 ⟨by omega,by omega⟩)
theorem zeZ{l:List Rn}{p:Int}:p∈pgs l↔∃y∈l,p∈pg y:=zF0
theorem zcP(l m:List Rn):pgs (l++m)=pgs l++pgs m:=zFX
theorem zfJ:∀{l:List Rn},FreeOk l→(pgs l).Nodup
 |[],_=>zHV
 |y::l,h=>by have hp:=zIF.1 h.ap;show(pg y++pgs l).Nodup;refine zHO.2 ⟨zlq y,zfJ ⟨hp.2,fun z hz=>h.ok z (zF4 _ hz)⟩,fun p hp1 q hq e=>?_⟩;subst e;obtain⟨z,hz,hpz⟩:=zeZ.1 hq;have:=hp.1 z hz;rw[zbF]at hp1 hpz;omega
theorem zjb{l m:List Int}(h1:l.Nodup)(h2:m.Nodup)(h:∀p,p∈l↔p∈m):l.Perm m:=(List.perm_ext_iff_of_nodup h1 h2).2 h
theorem zrT{l:List Rn}{x:Rn}(hf:FreeOk l)(hx:zbd x)(hd:∀p,p∈pg x→p∈pgs l→False):∃l',zfk l x=some l'∧FreeOk l'∧(pgs l').Perm (pgs l++pg x):=by obtain⟨l',h1,h2,h3⟩:=zrU hf hx fun y hy=>zCy hx (hf.ok y hy) fun p h1 h2=>hd p h1 (zeZ.2 ⟨y,hy,h2⟩);refine⟨l',h1,h2,zjb (zfJ h2) (zHO.2 ⟨zfJ hf,zlq x,fun p hp q hq e=>hd p (e▸hq) hp⟩) fun p=>?_⟩;rw[h3 p,zF2]
theorem zjl(p:Rn→Bool):∀(l:List Rn) (k:Nat),(zhC p l k= -1∧∀y∈l,p y=false)∨∃A y B,l=A++y::B∧zhC p l k=((k+A.length:Nat):Int)∧p y=true
 |[],k=>.inl ⟨rfl,fun _ h=>by cases h⟩
 |y::l,k=>by
  cases hy:p y with
  |true=>exact .inr ⟨[],y,l,rfl,by simp[zhC,hy],hy⟩
  |false=>
   have e:zhC p (y::l) k=zhC p l (k+1):=by simp[zhC,hy]
   rcases zjl p l (k+1)with⟨h1,h2⟩|⟨A,z,B,h1,h2,h3⟩
   ·exact .inl ⟨by rw[e,h1],fun z hz=>by
     rcases zGm.1 hz with hz|hz
     ·rw[hz];exact hy
     ·exact h2 z hz⟩
   ·exact .inr ⟨y::A,z,B,by rw[h1];rfl,by rw[e,h2];simp only[zFI];omega,h3⟩
theorem zfm{y x:Rn}:zcl y x=true↔y.at_≤x.at_∧x.at_+x.n≤y.at_+y.n∨x.at_=y.at_∧x.n=y.n:=by unfold zcl;simp only[zGD,zFR,zGG,zFS];omega
theorem zxV{y x:Rn}(hy:zbd y)(hx:zbd x)(h:zcl y x=true):FreeOk (zc9 y x)∧(∀z∈zc9 y x,y.at_≤z.at_∧z.at_+z.n≤y.at_+y.n)∧(∀p,p∈pgs (zc9 y x)↔p∈pg y∧¬p∈pg x):=by
 have h:=zfm.1 h;unfold zbd at hy hx;unfold zc9;have hm:∀p,p∈pg y↔y.at_≤p∧p<y.at_+y.n:=fun p=>zbF;have hm2:∀p,p∈pg x↔x.at_≤p∧p<x.at_+x.n:=fun p=>zbF;by_cases c1:x.at_>y.at_<;>by_cases c2:x.at_+x.n<y.at_+y.n
 ·rw[zFQ c1,zFQ c2];refine⟨⟨?_,?_⟩,?_,fun p=>?_⟩
  ·simp;omega
  ·intro z hz;simp at hz;rcases hz with rfl|rfl<;>unfold zbd<;>simp only<;>omega
  ·intro z hz;simp at hz;rcases hz with rfl|rfl<;>simp only<;>omega
  ·simp only[zHH,pgs,zHP,zG4,zIG,zIH,zHm,zF2,zbF];omega
 ·rw[zFQ c1,zFT c2];refine⟨⟨?_,?_⟩,?_,fun p=>?_⟩
  ·simp
  ·intro z hz;simp at hz;subst hz;unfold zbd;simp only;omega
  ·intro z hz;simp at hz;subst hz;simp only;omega
  ·simp only[zHH,zHJ,pgs,zHP,zG4,zIG,zIH,zHm,zbF];omega
 ·rw[zFT c1,zFQ c2];refine⟨⟨?_,?_⟩,?_,fun p=>?_⟩
  ·simp
  ·intro z hz;simp at hz;subst hz;unfold zbd;simp only;omega
  ·intro z hz;simp at hz;subst hz;simp only;omega
  ·simp only[zHH,zHJ,pgs,zHP,zG4,zIG,zIH,zHm,zbF];omega
 ·rw[zFT c1,zFT c2];refine⟨⟨?_,?_⟩,?_,fun p=>?_⟩
  ·simp
  ·intro z hz;simp at hz
  ·intro z hz;simp at hz
  ·rw[zbF,zbF];constructor
   ·intro hq;cases hq
   ·rintro⟨h1,h2⟩;exact absurd ⟨by omega,by omega⟩ h2
theorem ztm{l:List Rn}{x:Rn}(hf:FreeOk l)(hx:zbd x)(hh:∃y∈l,zcl y x=true):∃l',zjr l x=some l'∧FreeOk l'∧(pgs l).Perm (pgs l'++pg x):=by
 rcases zjl (fun y=>zcl y x) l 0 with⟨_,h2⟩|⟨A,y,B,h1,h2,h3⟩
 ·obtain⟨y,hy,hb⟩:=hh;have:zcl y x=false:=h2 y hy;rw[hb]at this;cases this
 ·have hi:(zhC (fun y=>zcl y x) l 0).toNat=A.length:=by rw[h2];simp
  have hn:decide (zhC (fun y=>zcl y x) l 0<0)=false:=by rw[h2];exact zFT (by omega)
  have e:zjr l x=some (A++zc9 y x++B):=by
   unfold zjr;rw[zi4.2 hx,hn,hi];subst h1;simp only[zHH,zHJ]
   congr 1
   rw[List.take_left' rfl,zG9,zHY (zF5 _),zGd,zGI];simp
  subst h1;have hyo:=hf.ok y (zF2.2 (.inr (zF3 ..)));obtain⟨l1,l2,l3⟩:=zxV hyo hx h3;have hp:=zIE.1 hf.ap;have hpl:=zIF.1 hp.2.1;have hyo':=hyo;unfold zbd at hyo';have hfr:FreeOk (A++zc9 y x++B):=by
   refine⟨zIE.2 ⟨zIE.2 ⟨hp.1,l1.ap,fun a ha b hb=>?_⟩,hpl.2,fun a ha b hb=>?_⟩,fun z hz=>?_⟩
   ·have:=hp.2.2 a ha y (zF3 ..);have:=l2 b hb;omega
   ·rcases zF2.1 ha with ha|ha
    ·exact hp.2.2 a ha b (zF4 _ hb)
    ·have:=hpl.1 b hb;have:=l2 a ha;omega
   ·rcases zF2.1 hz with hz|hz
    ·rcases zF2.1 hz with hz|hz
     ·exact hf.ok z (zF2.2 (.inl hz))
     ·exact l1.ok z hz
    ·exact hf.ok z (zF2.2 (.inr (zF4 _ hz)))
  have hnd:=zfJ hf;have hxy:∀p,p∈pg x→p∈pg y:=fun p hp=>by have:=zfm.1 h3;rw[zbF]at hp ⊢;omega
  refine⟨_,e,hfr,?_⟩;refine zjb hnd (zHO.2 ⟨zfJ hfr,zlq x,fun p hp1 q hq ee=>?_⟩) fun p=>?_
  ·subst ee;rw[zcP,zcP,zF2,zF2,l3]at hp1;rw[zcP]at hnd;have hn2:=zHO.1 hnd;have hn3:(pg y++pgs B).Nodup:=hn2.2.1;rcases hp1 with(h|h)|h
   ·exact hn2.2.2 _ h _ (show p∈pg y++pgs B from zF2.2 (.inl (hxy p hq))) rfl
   ·exact h.2 hq
   ·exact(zHO.1 hn3).2.2 _ (hxy p hq) _ h rfl
  ·rw[zcP,zF2,show pgs (y::B)=pg y++pgs B from rfl,zF2,zF2,zcP,zcP,zF2,zF2,l3];have:=hxy p
   grind
theorem zrJ{l:List Rn}{n:Int}{y:Rn}(h:zdM l n=some y):y∈l∧1≤n∧n≤y.n:=by have h1:=List.find?_some h;have h2:=List.mem_of_find?_eq_some h;simp only[zFR,zFS]at h1;exact⟨h2,h1.1,h1.2⟩
theorem zp1{l:List Rn}{n:Int}{y:Rn}(hf:FreeOk l)(h:zdM l n=some y):zbd ⟨y.at_,n⟩∧∃l',zjr l ⟨y.at_,n⟩=some l'∧FreeOk l'∧(pgs l).Perm (pgs l'++pg ⟨y.at_,n⟩):=by
 obtain⟨h1,h2,h3⟩:=zrJ h;have hy:=hf.ok y h1;unfold zbd at hy;have hx:zbd ⟨y.at_,n⟩:=by unfold zbd;simp only;omega
 exact⟨hx,ztm hf hx ⟨y,h1,zfm.2 (by simp only;omega)⟩⟩
theorem zxO{l:List Rn}(hf:∀y∈l,zbd y){p:Int}:zpe l p=true↔p∈pgs l:=by
 unfold zpe;rw[zFR,zi4,zFS,zeZ];rcases zjl (fun y=>zcl y ⟨p,1⟩) l 0 with⟨h1,h2⟩|⟨A,y,B,h1,h2,h3⟩
 ·constructor
  ·rintro⟨_,h⟩;omega
  ·rintro⟨y,hy,hp⟩;have:zcl y ⟨p,1⟩=false:=h2 y hy;rw[zbF]at hp;have:zcl y ⟨p,1⟩=true:=zfm.2 (by simp only;omega)
   simp_all
 ·have hy:y∈l:=by rw[h1];exact zF2.2 (.inr (zF3 ..))
  have hyo:=hf y hy;unfold zbd at hyo;have h3:=zfm.1 h3;simp only at h3;constructor
  ·rintro⟨hp,_⟩;exact⟨y,hy,zbF.2 (by omega)⟩
  ·rintro _;exact⟨by unfold zbd;simp only;omega,by omega⟩
theorem ztu{l:List Rn}{N:Int}(hf:FreeOk l)(hN:1≤N)(h:∀p,p∈pgs l↔0≤p∧p<N):l=[⟨0,N⟩]:=by
 cases l with
 |nil=>exact absurd ((h 0).2 (by omega)) (by simp[pgs])
 |cons y l=>
  have hp:=zIF.1 hf.ap;have hy:=hf.ok y (zF3 ..);have hin:∀z∈y::l,∀p,p∈pg z→0≤p∧p<N:=fun z hz p hp=>(h p).1 (zeZ.2 ⟨z,hz,hp⟩);have hget:∀p,0≤p→p<N→p∈pg y∨∃z∈l,p∈pg z:=fun p h1 h2=>by
   obtain⟨z,hz,hpz⟩:=zeZ.1 ((h p).2 ⟨h1,h2⟩);rcases zGm.1 hz with hz|hz
   ·exact .inl (hz▸hpz)
   ·exact .inr ⟨z,hz,hpz⟩
  unfold zbd at hy;have h0:y.at_=0:=by
   rcases hget 0 (by omega) (by omega)with hq|⟨z,hz,hq⟩
   ·rw[zbF]at hq;omega
   ·rw[zbF]at hq;have:=hp.1 z hz;omega
  have h1:=hin y (zF3 ..) (y.at_+y.n - 1) (zbF.2 (by omega));have h2:y.n=N:=by
   by_cases c:y.n<N
   ·rcases hget y.n (by omega) c with hq|⟨z,hz,hq⟩
    ·rw[zbF]at hq;omega
    ·rw[zbF]at hq;have:=hp.1 z hz;omega
   ·omega
  cases l with
  |nil=>cases y;simp_all
  |cons z l=>
   have:=hp.1 z (zF3 ..);have hz:=hf.ok z (zF4 _ (zF3 ..));unfold zbd at hz;have:=hin z (zF4 _ (zF3 ..)) z.at_ (zbF.2 (by omega));omega
theorem zlr:∀{l:List Rn},(∀y∈l,zbd y)→((pgs l).length:Int)=zaS l
 |[],_=>rfl
 |y::l,h=>by have hy:=h y (zF3 ..);unfold zbd at hy;have:=zlr (l:=l) fun z hz=>h z (zF4 _ hz);show(((pg y++pgs l).length:Nat):Int)=y.n+zaS l;rw[zFY,show(pg y).length=y.n.toNat by simp[pg]];omega
theorem zag{α:Type}(f:Nat→α)(i:Nat)(x:α):zaq f i x i=x:=if_pos rfl
theorem zaf{α:Type}{f:Nat→α}{i j:Nat}{x:α}(h:j≠i):zaq f i x j=f j:=if_neg h
theorem zeL{b:zc7}(hb:zlK b){x:Int}(hu:U32 x):zah b x=true↔slN x<32∧(b (slN x)).iss=true∧(b (slN x)).ret=false∧x=hOf (slN x) (b (slN x)).gen:=by
 constructor
 ·intro h;obtain⟨h1,h2⟩:=zcd h;obtain⟨h3,h4⟩:=zrX hu h;exact⟨h1,h2,h4,h3⟩
 ·rintro⟨h1,h2,h3,h4⟩;obtain⟨g1,g2,g3⟩:=zhE h1 (hb _ h1);unfold zah;rw[h2,h3];have e1:slB x=false:=by rw[h4];exact g2
  have e2:zba .u32 x 8=(b (slN x)).gen:=by rw[h4,g3,g1]
  rw[e1,e2];simp
theorem zdn{b:zc7}(hb:zlK b){x y:Int}(hx:U32 x)(hy:U32 y)(gx:zah b x=true)(gy:zah b y=true)(h:slN x=slN y):x=y:=by rw[((zeL hb hx).1 gx).2.2.2,((zeL hb hy).1 gy).2.2.2,h]
theorem zhn{b:zc7}{i:Nat}{s:Slot}{x:Int}(h:slN x≠i):zah (zaq b i s) x=zah b x:=by unfold zah;rw[zaf h]
theorem zei(x:Int):slN x<32:=by have:=zc5 x;unfold slN;omega
theorem zj5{b:zc7}:∀{k i j:Nat},znE b i k=some j→i≤j∧j<i+k∧(b j).iss=false∧(b j).ret=false
 |0,_,_,h=>by cases h
 |k+1,i,j,h=>by
  simp only[znE]at h;split at h
  ·obtain⟨g1,g2,g3⟩:=zj5 h;exact⟨by omega,by omega,g3⟩
  ·rename_i h1;cases h;simp only[zFM]at h1;exact⟨zF5 _,by omega,h1⟩
theorem zmn{b:zc7}{j:Nat}(h:ze9 b=some j):j<32∧(b j).iss=false∧(b j).ret=false:=by obtain⟨g1,g2,g3⟩:=zj5 h;exact⟨by omega,g3⟩
theorem zpl{b:zc7}(h1:zlK b)(h2:zg7 b)(h:(ze9 b).isSome=true):∃i,ze9 b=some i∧zc8 b=hOf i (b i).gen∧slN (zc8 b)=i∧i<32∧(b i).iss=false∧U32 (zc8 b)∧zah b (zc8 b)=false∧zah (zey b) (zc8 b)=true∧zlK (zey b)∧zg7 (zey b)∧∀x,U32 x→(zah (zey b) x=true↔zah b x=true∨x=zc8 b):=by
 obtain⟨i,hi⟩:=zH7.1 h;obtain⟨f1,f2,f3⟩:=zmn hi;have eH:zc8 b=hOf i (b i).gen:=by unfold zc8;rw[hi]
 have eB:zey b=zaq b i ⟨(b i).gen,true,(b i).ret⟩:=by unfold zey;rw[hi]
 have hs:slN (zc8 b)=i:=by rw[eH];exact(zhE f1 (h1 i f1)).1
 have hu:U32 (zc8 b):=by rw[eH];exact ziU ⟨by omega,by omega⟩ (h1 i f1)
 have o1:zlK (zey b):=fun j hj=>by
  rw[eB];by_cases c:j=i
  ·subst c;rw[zag];exact h1 j hj
  ·rw[zaf c];exact h1 j hj
 have o2:zg7 (zey b):=fun j hj hq=>by
  rw[eB]at hq ⊢;by_cases c:j=i
  ·subst c;rw[zag];exact f3
  ·rw[zaf c]at hq ⊢;exact h2 j hj hq
 have g1:zah b (zc8 b)=false:=by
  cases hq:zah b (zc8 b)with
  |false=>rfl
  |true=>have:=(zcd hq).2;rw[hs,f2]at this;cases this
 have g2:zah (zey b) (zc8 b)=true:=by rw[zeL o1 hu,hs,eB,zag];exact⟨f1,rfl,f3,eH⟩
 refine⟨i,hi,eH,hs,f1,f2,hu,g1,g2,o1,o2,fun x hx=>?_⟩;by_cases c:slN x=i
 ·constructor
  ·intro hg
   right
   exact zdn o1 hx hu hg g2 (by rw[c,hs])
  ·rintro(hg|rfl)
   ·have:=(zcd hg).2;rw[c,f2]at this;cases this
   ·exact g2
 ·rw[eB,zhn c];constructor
  ·exact .inl
  ·rintro(hg|rfl)
   ·exact hg
   ·exact absurd hs c
theorem zoq{b:zc7}(h1:zlK b)(h2:zg7 b){h:Int}(hu:U32 h):zlK (zbw b h)∧zg7 (zbw b h)∧∀x,U32 x→(zah (zbw b h) x=true↔zah b x=true∧x≠h):=by
 cases hg:zah b h with
 |false=>
  have e:zbw b h=b:=by unfold zbw;rw[hg];rfl
  rw[e];refine⟨h1,h2,fun x _=>⟨fun hx=>⟨hx,fun e=>?_⟩,fun hx=>hx.1⟩⟩;subst e;rw[hg]at hx;cases hx
 |true=>
  obtain⟨c1,c2,c3,c4⟩:=(zeL h1 hu).1 hg;have hgen:=h1 _ c1;have e:∃s:Slot,zbw b h=zaq b (slN h) s∧s.iss=false∧(0≤s.gen∧s.gen≤8388607):=by
   unfold zbw;rw[hg];cases hq:((b (slN h)).gen==8388607)with
   |true=>exact⟨_,rfl,rfl,hgen⟩
   |false=>
    have:(b (slN h)).gen≠8388607:=by simpa using hq
    refine⟨_,rfl,rfl,?_⟩;have:IntKind.u32.wrap ((b (slN h)).gen+1)=(b (slN h)).gen+1:=zcC (zbL (by simp[zcB];omega) (fun _=>by omega) (by simp[zcB];omega));show 0≤IntKind.u32.wrap ((b (slN h)).gen+1)∧IntKind.u32.wrap ((b (slN h)).gen+1)≤8388607;rw[this];omega
  obtain⟨s,e,e1,e2⟩:=e;rw[e];refine⟨fun j hj=>?_,fun j hj hq=>?_,fun x hx=>?_⟩
  ·by_cases c:j=slN h
   ·subst c;rw[zag];exact e2
   ·rw[zaf c];exact h1 j hj
  ·by_cases c:j=slN h
   ·subst c;rw[zag,e1]at hq;cases hq
   ·rw[zaf c]at hq ⊢;exact h2 j hj hq
  ·by_cases c:slN x=slN h
   ·constructor
    ·intro hq;have:=(zcd hq).2;rw[c,zag,e1]at this;cases this
    ·rintro⟨hq,hne⟩;exact absurd (zdn h1 hx hu hq hg c) hne
   ·rw[zhn c];exact⟨fun hq=>⟨hq,fun e=>c (by rw[e])⟩,fun hq=>hq.1⟩
structure RgI (r:Rg):Prop where
 q0:0≤r.quota
 q1:r.quota≤64
 ok:∀y∈r.rs,zbd y
 pg:zaS r.rs≤r.quota
 mx:zmD r.rs r.len=true
structure TInv (t:Tb) (d:Int→Nat):Prop where
 ok:TbOk t
 fr:∀i,i<32→(t.b i).iss=false→t.r i=rg0
 up:∀i,i<32→(t.r i).up=0∨zah t.b (t.r i).up=true
 d5:∀x,d x≤5
 ds:∀x,upT t x≠0→d x=d (upT t x)+1
 d0:∀x,upT t x=0→d x=0
 rg:∀i,i<32→RgI (t.r i)
def IsR(t:Tb)(h:Int):Prop:=U32 h∧zah t.b h=true
def zf8(t:Tb)(h:Int):Prop:=IsR t h∧upT t h=0
theorem TInv.rk{t:Tb}{d:Int→Nat}(h:TInv t d):Rk t d:=⟨fun x=>by have:=h.d5 x;omega,fun x hx=>by rw[h.ds x hx];exact zF9 _⟩
theorem znG(b:zc7):zah b 0=false:=by
 cases h:zah b 0 with
 |false=>rfl
 |true=>exact absurd rfl (zb2 h)
theorem zir{t:Tb}{x y:Int}(h:slN x=slN y):upT t x=upT t y:=by unfold upT;rw[h]
theorem zwA{t:Tb}(ht:TbOk t)(x:Int):U32 (upT t x):=by
 unfold upT;cases zah t.b (t.r (slN x)).up with
 |true=>exact ht.up _ (zei x)
 |false=>exact(show U32 0 from⟨by decide,by decide⟩)
theorem zyV{t:Tb}{d:Int→Nat}(h:TInv t d){x:Int}(hx:(t.b (slN x)).iss=false):upT t x=0:=by unfold upT;rw[h.fr _ (zei x) hx];show(bif zah t.b 0 then(0:Int)else 0)=0;rw[znG];rfl
theorem zjw{t:Tb}{d:Int→Nat}(h:TInv t d){x:Int}(hx:upT t x≠0):IsR t (upT t x):=⟨zwA h.ok x,zjv hx⟩
theorem zyW{t:Tb}{d:Int→Nat}(h:TInv t d)(x:Int):upT t x=(t.r (slN x)).up:=by
 unfold upT;rcases h.up _ (zei x)with hu|hu
 ·rw[hu,znG];rfl
 ·rw[hu];rfl
theorem zig{t:Tb}(ht:TbOk t){i:Nat}(hi:i<32)(hq:(t.b i).iss=true):IsR t (hOf i (t.b i).gen)∧slN (hOf i (t.b i).gen)=i:=by have hs:=(zhE hi (ht.bk i hi)).1;refine⟨⟨ziU ⟨by omega,by omega⟩ (ht.bk i hi),?_⟩,hs⟩;rw[zeL ht.bk (ziU ⟨by omega,by omega⟩ (ht.bk i hi)),hs];exact⟨hi,hq,ht.ret i hi hq,rfl⟩
theorem zrz{t:Tb}{d:Int→Nat}(h:TInv t d):∀{k:Nat} {x:Int},d x<k→zvX t k x=d x
 |0,_,hk=>by omega
 |k+1,x,hk=>by
  rw[zvX];cases hq:(upT t x==0)with
  |true=>rw[h.d0 x (by simpa using hq)];rfl
  |false=>
   have hq:upT t x≠0:=by simpa using hq
   rw[zHJ,zrz h (by have:=h.ds x hq;omega),h.ds x hq]
theorem zoR{t:Tb}{d:Int→Nat}(h:TInv t d){x:Int}(hg:zah t.b x=true):zeQ t x=d x+1:=by unfold zeQ;rw[hg,zHH,zrz h (by have:=h.d5 x;omega)]
theorem zs2{t:Tb}{d:Int→Nat}(h:TInv t d):∀{k:Nat} {x:Int},d x<k→IsR t x→zf8 t (zlC t k x)∧Anc t (zlC t k x) x
 |0,_,hk,_=>by omega
 |k+1,x,hk,hx=>by
  rw[zlC];cases hq:(upT t x==0)with
  |true=>exact⟨⟨hx,by simpa using hq⟩,.refl _⟩
  |false=>
   have hq:upT t x≠0:=by simpa using hq
   have:=zs2 h (k:=k) (x:=upT t x) (by have:=h.ds x hq;omega) (zjw h hq);exact⟨this.1,.up hq this.2⟩
theorem zs1{t:Tb}{d:Int→Nat}(h:TInv t d){x:Int}(hx:IsR t x):zf8 t (zbN t x)∧Anc t (zbN t x) x:=by unfold zbN;rw[hx.2,zHH];exact zs2 h (by have:=h.d5 x;omega) hx
theorem zdz{t:Tb}{d:Int→Nat}(h:TInv t d){x:Int}(hx:IsR t x):zbN t x=x↔upT t x=0:=by
 constructor
 ·intro e;have:=(zs1 h hx).1.2
  rwa [e]at this
 ·intro e;unfold zbN;rw[hx.2,zHH,zlC,e];rfl
theorem zlX{t:Tb}{x z:Int}(h:Anc t x z):z=x∨upT t z≠0∧Anc t x (upT t z):=by
 cases h with
 |refl=>exact .inl rfl
 |up h1 h2=>exact .inr ⟨h1,h2⟩
theorem znk{t:Tb}{x z:Int}(h:Anc t x z)(hz:upT t z=0):z=x:=by
 rcases zlX h with h|h
 ·exact h
 ·exact absurd hz h.1
theorem zsz{t:Tb}{d:Int→Nat}(h:TInv t d){up n:Int}(hu:U32 up)(he:zjO t up n=0):
 ∃d',TInv (zdj t up n) d'∧IsR (zdj t up n) (zdw t up n)∧zah t.b (zdw t up n)=false∧upT (zdj t up n) (zdw t up n)=up∧(up=0∨IsR t up)∧
  (∀x,U32 x→(zah (zdj t up n).b x=true↔zah t.b x=true∨x=zdw t up n))∧(∀x,slN x≠slN (zdw t up n)→upT (zdj t up n) x=upT t x)∧(∀i,i<32→((zdj t up n).r i).rs=(t.r i).rs):=by
 have hb:zmF t up n=false:=by
  cases hq:zmF t up n with
  |false=>rfl
  |true=>unfold zjO at he;rw[hq]at he;cases he
 have hE:zne t up n=0:=by unfold zjO at he;rwa [hb]at he
 have hdep:zeQ t up<6:=by unfold zmF at hb;rw[hE]at hb;simpa using hb
 have hE0:=hE;unfold zne at hE;have c1:((up != 0)&&!zah t.b up)=false:=by
  cases hq:((up != 0)&&!zah t.b up)with
  |false=>rfl
  |true=>rw[hq]at hE;cases hE
 have c2:(decide (n≥0)&&decide (n≤64))=true:=by
  cases hq:(decide (n≥0)&&decide (n≤64))with
  |true=>rfl
  |false=>rw[c1,hq]at hE;cases hE
 have c3:(ze9 t.b).isSome=true:=by
  cases hq:(ze9 t.b).isSome with
  |true=>rfl
  |false=>rw[c1,c2,hq]at hE;cases hE
 have hn:0≤n∧n≤64:=by simpa using c2
 obtain⟨i,hi,eH,hs,hi32,hiss,huH,hgo,hgn,o1,o2,hgi⟩:=zpl h.ok.bk h.ok.ret c3;have eT:zdj t up n=⟨zey t.b,zaq t.r i ⟨up,n,[],0,fun _=>0⟩⟩:=by unfold zdj zx9;rw[hb,hE0,hs];rfl
 have eF:zdw t up n=zc8 t.b:=by unfold zdw zx8;rw[hb,hE0];rfl
 rw[eT,eF];have hup:up=0∨IsR t up:=by
  by_cases c:up=0
  ·exact .inl c
  ·have:zah t.b up=true:=by
    cases hq:zah t.b up with
    |true=>rfl
    |false=>rw[hq]at c1;simp at c1;exact absurd c1 c
   exact .inr ⟨hu,this⟩
 have hup':∀x,slN x≠i→upT ⟨zey t.b,zaq t.r i ⟨up,n,[],0,fun _=>0⟩⟩ x=upT t x:=fun x hx=>by
  rw[zyW h x];unfold upT;simp only[zaf hx];rcases h.up _ (zei x)with hq|hq
  ·rw[hq,znG];rfl
  ·rw[(hgi _ (h.ok.up _ (zei x))).2 (.inl hq)];rfl
 have hupi:∀x,slN x=i→upT ⟨zey t.b,zaq t.r i ⟨up,n,[],0,fun _=>0⟩⟩ x=up:=fun x hx=>by
  unfold upT;simp only[hx,zag];rcases hup with hq|hq
  ·rw[hq,znG];rfl
  ·rw[(hgi _ hq.1).2 (.inl hq.2)];rfl
 have hne:∀y,IsR t y→slN y≠i:=fun y hy e=>by have:=(zcd hy.2).2;rw[e,hiss]at this;cases this
 refine⟨fun x=>if slN x=i then(if up=0 then 0 else d up+1)else d x,⟨⟨o1,o2,fun j hj=>?_⟩,fun j hj hq=>?_,fun j hj=>?_,fun x=>?_,fun x hx=>?_,fun x hx=>?_,fun j hj=>?_⟩,⟨huH,hgn⟩,hgo,hupi _ hs,hup,hgi,fun x hx=>hup' x (by rw[hs]at hx;exact hx),fun j hj=>?_⟩
 ·by_cases c:j=i
  ·subst c;simp only[zag];exact hu
  ·simp only[zaf c];exact h.ok.up j hj
 ·by_cases c:j=i
  ·subst c;have:zey t.b=zaq t.b j ⟨(t.b j).gen,true,(t.b j).ret⟩:=by unfold zey;rw[hi]
   simp only[this,zag]at hq;cases hq
  ·have:zey t.b=zaq t.b i ⟨(t.b i).gen,true,(t.b i).ret⟩:=by unfold zey;rw[hi]
   simp only[this,zaf c]at hq;simp only[zaf c];exact h.fr j hj hq
 ·by_cases c:j=i
  ·subst c;simp only[zag];rcases hup with hq|hq
   ·exact .inl hq
   ·exact .inr ((hgi _ hq.1).2 (.inl hq.2))
  ·simp only[zaf c];rcases h.up j hj with hq|hq
   ·exact .inl hq
   ·exact .inr ((hgi _ (h.ok.up j hj)).2 (.inl hq))
 ·show(if slN x=i then(if up=0 then 0 else d up+1)else d x)≤5;split
  ·split
   ·omega
   ·rcases hup with hq|hq
    ·contradiction
    ·have:=zoR h hq.2;omega
  ·exact h.d5 x
 ·by_cases c:slN x=i
  ·rw[hupi x c]at hx ⊢;rcases hup with hq|hq
   ·exact absurd hq hx
   ·simp only[if_pos c,if_neg hx,if_neg (hne up hq)]
  ·rw[hup' x c]at hx ⊢;simp only[if_neg c,if_neg (hne _ (zjw h hx))];exact h.ds x hx
 ·by_cases c:slN x=i
  ·rw[hupi x c]at hx;simp only[if_pos c,if_pos hx]
  ·rw[hup' x c]at hx;simp only[if_neg c];exact h.d0 x hx
 ·by_cases c:j=i
  ·subst c;simp only[zag];exact⟨hn.1,hn.2,(fun y hy=>by cases hy),hn.1,rfl⟩
  ·simp only[zaf c];exact h.rg j hj
 ·by_cases c:j=i
  ·subst c;show(zaq t.r j (⟨up,n,[],0,fun _=>0⟩:Rg) j).rs=(t.r j).rs;rw[zag,h.fr j hj hiss];rfl
  ·show(zaq t.r i (⟨up,n,[],0,fun _=>0⟩:Rg) j).rs=(t.r j).rs;rw[zaf c]
theorem zoW{t:Tb}{x:Int}(hx:zah t.b x=true):∃s:Slot,zdB t x=⟨zaq t.b (slN x) s,zaq t.r (slN x) rg0⟩∧s.iss=false:=by
 unfold zdB zbw;rw[hx];cases((t.b (slN x)).gen==8388607)with
 |true=>exact⟨_,rfl,rfl⟩
 |false=>exact⟨_,rfl,rfl⟩
structure Drops (t t':Tb) (l:List Int):Prop where
 bk:zlK t'.b
 ret:zg7 t'.b
 good:∀x,U32 x→(zah t'.b x=true↔zah t.b x=true∧x∉l)
 rin:∀j,j∈l.map slN→t'.r j=rg0∧(t'.b j).iss=false
 rout:∀j,j∉l.map slN→t'.r j=t.r j∧t'.b j=t.b j
theorem zkV:∀{l:List Int} {t:Tb},zlK t.b→zg7 t.b→l.Nodup→(∀x∈l,IsR t x)→Drops t (zbv t l) l
 |[],t,h1,h2,_,_=>⟨h1,h2,(fun x _=>by simp[zbv]),(fun j hj=>by cases hj),fun j _=>⟨rfl,rfl⟩⟩
 |x::l,t,h1,h2,hn,hl=>by
  have hx:=hl x (zF3 ..);have hn:=zIp.1 hn;obtain⟨v1,v2,v3⟩:=zoq h1 h2 hx.1;have eb:(zdB t x).b=zbw t.b x:=by unfold zdB;rw[hx.2];rfl
  obtain⟨s,es,hs⟩:=zoW hx.2;have ih:=zkV (l:=l) (t:=zdB t x) (eb▸v1) (eb▸v2) hn.2 fun y hy=>⟨(hl y (zF4 _ hy)).1,by
   rw[eb];exact(v3 y (hl y (zF4 _ hy)).1).2 ⟨(hl y (zF4 _ hy)).2,fun e=>hn.1 (e▸hy)⟩⟩
  have hnx:slN x∉l.map slN:=fun hm=>by obtain⟨y,hy,e⟩:=zHg.1 hm;have hy':=hl y (zF4 _ hy);have:=zdn h1 hy'.1 hx.1 hy'.2 hx.2 e;exact hn.1 (this▸hy)
  refine⟨ih.bk,ih.ret,fun y hy=>?_,fun j hj=>?_,fun j hj=>?_⟩
  ·show zah (zbv (zdB t x) l).b y=true↔_;rw[ih.good y hy,eb,v3 y hy,zGm];constructor
   ·rintro⟨⟨a,b⟩,c⟩;exact⟨a,fun h=>h.elim b c⟩
   ·rintro⟨a,b⟩;exact⟨⟨a,fun h=>b (.inl h)⟩,fun h=>b (.inr h)⟩
  ·show(zbv (zdB t x) l).r j=rg0∧((zbv (zdB t x) l).b j).iss=false;by_cases c:j∈l.map slN
   ·exact ih.rin j c
   ·have:j=slN x:=by
     rcases zGm.1 hj with h|h
     ·exact h
     ·exact absurd h c
    subst this;rw[(ih.rout _ c).1,(ih.rout _ c).2,es];simp only[zag];exact⟨trivial,hs⟩
  ·show(zbv (zdB t x) l).r j=t.r j∧(zbv (zdB t x) l).b j=t.b j;rw[zGF,zGm,not_or]at hj;rw[(ih.rout j hj.2).1,(ih.rout j hj.2).2,es];exact⟨zaf hj.1,zaf hj.1⟩
theorem zm2{t:Tb}(ht:TbOk t){rk:Int→Nat}(hr:Rk t rk):∀(n:Nat) {x y z:Int},40≤n+rk x→x≠0→y∈zaV t x→z∈zcz t y→z∈zaV t x
 |0,x,_,_,hn,_,_,_=>by have:=hr.le x;omega
 |n+1,x,y,z,hn,hx,hy,hz=>by
  rw[zio ht hr hx]at hy ⊢;refine zF4 _ (zF0.2 ?_);rcases zGm.1 hy with rfl|hy
  ·exact⟨z,hz,by rw[zio ht hr (zgO ht hz)];exact zF3 ..⟩
  ·obtain⟨k,hk,hyk⟩:=zF0.1 hy;exact⟨k,hk,zm2 ht hr n (by have:=zmy ht hr hx hk;omega) (zgO ht hk) hyk hz⟩
theorem zvt{t:Tb}{d:Int→Nat}(h:TInv t d){a z:Int}(ha:IsR t a)(hz:IsR t z)(hA:Anc t a z):z∈zaV t a:=by
 induction hA with
 |refl=>rw[zio h.ok h.rk (zb2 ha.2)];exact zF3 ..
 |up h1 h2 ih=>
  have h3:=zjw h h1;exact zm2 h.ok h.rk 40 (by omega) (zb2 ha.2) (ih h3) ((zgi h.ok).2 ⟨hz,rfl⟩)
theorem zce{t:Tb}{d:Int→Nat}(h:TInv t d){a z:Int}(ha:IsR t a):z∈zaV t a↔IsR t z∧Anc t a z:=by
 constructor
 ·intro hm;refine⟨?_,zjd h.ok (zb2 ha.2) hm⟩;rcases zlu h.ok hm with rfl|hg
  ·exact ha
  ·exact hg
 ·exact fun hz=>zvt h ha hz.1 hz.2
theorem zwz{t:Tb}{h:Int}(hh:zah t.b h=true):zbW t h=zaV t h:=by unfold zbW;rw[hh];rfl
theorem zeV{t:Tb}{d:Int→Nat}(h:TInv t d){a:Int}(ha:IsR t a):Drops t (zbv t (zbW t a)) (zaV t a)∧∃d',TInv (zbv t (zbW t a)) d'∧∀x,IsR (zbv t (zbW t a)) x→upT (zbv t (zbW t a)) x=upT t x:=by
 rw[zwz ha.2];have hD:Drops t (zbv t (zaV t a)) (zaV t a):=zkV h.ok.bk h.ok.ret (zgS h.ok h.rk (zb2 ha.2)) fun x hx=>((zce h ha).1 hx).1;generalize zbv t (zaV t a)=t' at hD ⊢;refine⟨hD,?_⟩;have hin:∀x,slN x∈(zaV t a).map slN→IsR t x→x∈zaV t a:=fun x hm hx=>by obtain⟨y,hy,e⟩:=zHg.1 hm;have hy':=((zce h ha).1 hy).1;rw[zdn h.ok.bk hx.1 hy'.1 hx.2 hy'.2 e.symm];exact hy
 have hU:∀j,j<32→U32 (t'.r j).up∧((t'.r j).up=0∨zah t'.b (t'.r j).up=true)∧(j∉(zaV t a).map slN→(t'.r j).up=(t.r j).up):=fun j hj=>by
  by_cases c:j∈(zaV t a).map slN
  ·rw[(hD.rin j c).1];exact⟨⟨by decide,by decide⟩,.inl rfl,fun h=>absurd c h⟩
  ·rw[(hD.rout j c).1];refine⟨h.ok.up j hj,?_,fun _=>rfl⟩;rcases h.up j hj with hu|hu
   ·exact .inl hu
   ·refine .inr ((hD.good _ (h.ok.up j hj)).2 ⟨hu,fun hm=>c ?_⟩);have hiss:(t.b j).iss=true:=by
     cases hq:(t.b j).iss with
     |true=>rfl
     |false=>rw[h.fr j hj hq]at hu;rw[show rg0.up=0 from rfl,znG]at hu;cases hu
    obtain⟨g1,g2⟩:=zig h.ok hj hiss;have hup:upT t (hOf j (t.b j).gen)=(t.r j).up:=by rw[zyW h,g2]
    have:hOf j (t.b j).gen∈zaV t a:=(zce h ha).2 ⟨g1,.up (by rw[hup];exact zb2 hu) (by rw[hup];exact((zce h ha).1 hm).2)⟩;rw[←g2];exact zHg.2 ⟨_,this,rfl⟩
 have hup':∀x,upT t' x=(t'.r (slN x)).up:=fun x=>by
  unfold upT;rcases(hU _ (zei x)).2.1 with hu|hu
  ·rw[hu,znG];rfl
  ·rw[hu];rfl
 have hsame:∀x,slN x∉(zaV t a).map slN→upT t' x=upT t x:=fun x hx=>by rw[hup',zyW h,(hU _ (zei x)).2.2 hx]
 have hz:∀x,slN x∈(zaV t a).map slN→upT t' x=0:=fun x hx=>by rw[hup',(hD.rin _ hx).1];rfl
 refine⟨fun x=>if slN x∈(zaV t a).map slN then 0 else d x,⟨⟨hD.bk,hD.ret,fun j hj=>(hU j hj).1⟩,fun j hj hq=>?_,fun j hj=>(hU j hj).2.1,fun x=>?_,fun x hx=>?_,fun x hx=>?_,fun j hj=>?_⟩,fun x hx=>hsame x fun hm=>?_⟩
 ·by_cases c:j∈(zaV t a).map slN
  ·exact(hD.rin j c).1
  ·rw[(hD.rout j c).1];rw[(hD.rout j c).2]at hq;exact h.fr j hj hq
 ·show(if _ then _ else _)≤5;split
  ·omega
  ·exact h.d5 x
 ·by_cases c:slN x∈(zaV t a).map slN
  ·exact absurd (hz x c) hx
  ·rw[hsame x c]at hx ⊢;have c2:slN (upT t x)∉(zaV t a).map slN:=fun hm=>by
    have h1:=hin _ hm (zjw h hx);have h2:=(hsame x c).symm;have h3:zah t'.b (upT t x)=true:=by rw[h2];exact zjv (by rw[←h2];exact hx)
    exact((hD.good _ (zwA h.ok x)).1 h3).2 h1
   simp only[if_neg c,if_neg c2];exact h.ds x hx
 ·by_cases c:slN x∈(zaV t a).map slN
  ·simp only[if_pos c]
  ·rw[hsame x c]at hx;simp only[if_neg c];exact h.d0 x hx
 ·by_cases c:j∈(zaV t a).map slN
  ·rw[(hD.rin j c).1];exact⟨by decide,by decide,(fun y hy=>by cases hy),by decide,by decide⟩
  ·rw[(hD.rout j c).1];exact h.rg j hj
 ·have h1:=(hD.good x hx.1).1 hx.2;exact h1.2 (hin x hm ⟨hx.1,h1.1⟩)
end Sx
end Go.Proofs.YtfbhkfhbnkncoaaGreatDoor
