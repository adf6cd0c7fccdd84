import Derived.Test.YtfbhkfhbnkncoaaGreatDoorT38
set_option linter.all false
namespace Go.Proofs.YtfbhkfhbnkncoaaGreatDoor
open Go.RowKit
namespace Sx
def zjF(N:Int):List Int:=(List.range N.toNat).map fun i:Nat=>(i:Int)
theorem zee{N p:Int}:p∈zjF N↔0≤p∧p<N:=by
 unfold zjF;rw[zHg];constructor
 ·rintro⟨j,hj,rfl⟩;have:=zF1.1 hj;omega
 ·rintro⟨h1,h2⟩;exact⟨p.toNat,zF1.2 (by omega),by omega⟩
theorem zkc(N:Int):(zjF N).Nodup:=zdN (fun x _ y _ (h:(x:Int)=(y:Int))=>by omega) zID
theorem ze0{l m:List Int}(h:∀a,List.count a l=List.count a m):l.Perm m:=List.perm_iff_count.2 h
theorem zeG{l m:List Int}(h:l.Perm m)(a:Int):List.count a l=List.count a m:=h.count_eq a
theorem pg0{r:Rn}(h:r.n≤0):pg r=[]:=by unfold pg;rw[show r.n.toNat=0 by omega];rfl
def RnC(r:Rn):Prop:=r.n=0∨zbd r
theorem RnC.nn{r:Rn}(h:RnC r):0≤r.n:=by
 rcases h with h|h
 ·omega
 ·unfold zbd at h;omega
theorem RnC.ok{r:Rn}(h:RnC r)(hn:0<r.n):zbd r:=by
 rcases h with h|h
 ·omega
 ·exact h
structure CI (N:Int) (U:List Int) (x:Cr) (r:Rn):Prop where
 n:x.p.n=N
 fr:FreeOk x.p.fr
 s:SInv x.s
 rn:RnC r
 pp:(pgs x.p.fr++(zch x.s.t++(pg r++(x.q++U)))).Perm (zjF N)
theorem CI.que{N:Int}{U:List Int}{x:Cr}{r:Rn}(h:CI N U x r):CI N U (zbn x r) zaO:=by refine⟨h.n,h.fr,h.s,.inl rfl,ze0 fun a=>?_⟩;have:=zeG h.pp a;rw[pg0 (r:=zaO) (by decide)];show List.count a (pgs x.p.fr++(zch x.s.t++([]++((x.q++pg r)++U))))=_;simp only[zII,zIJ]at this ⊢;omega
structure SameC (x y:Cr):Prop where
 n:y.p.n=x.p.n
 fr:y.p.fr=x.p.fr
 s:y.s=x.s
 q:y.q=x.q
theorem CI.same{N:Int}{U:List Int}{x y:Cr}{r:Rn}(h:CI N U x r)(k:SameC x y):CI N U y r:=
 ⟨k.n.trans h.n,by rw[k.fr];exact h.fr,by rw[k.s];exact h.s,h.rn,by rw[k.fr,k.s,k.q];exact h.pp⟩
theorem CI.cut{N:Int}{U:List Int}{x:Cr}{c:Rt}(h:CI N U x c.run):CI N U (zfU x c) zaO:=h.que.same ⟨rfl,rfl,rfl,rfl⟩
theorem zd0:∀(b:List Rn) (x:Cr),(b.foldl zbn x).q=x.q++pgs b∧(b.foldl zbn x).p=x.p∧(b.foldl zbn x).s=x.s∧(b.foldl zbn x).m=x.m
 |[],x=>⟨by simp[pgs],rfl,rfl,rfl⟩
 |r::b,x=>by obtain⟨h1,h2,h3,h4⟩:=zd0 b (zbn x r);refine⟨?_,h2,h3,h4⟩;rw[zH4,h1];show(x.q++pg r)++pgs b=x.q++pgs (r::b);rw[zG5];rfl
theorem zfR(v:Int):∀(l:List Int) (p:Pl) (i:Nat),(zbG v p l i).n=p.n∧(zbG v p l i).fr=p.fr
 |[],p,i=>⟨rfl,rfl⟩
 |a::l,p,i=>by
  obtain⟨h1,h2⟩:=zfR v l (zdI p a (IntKind.u8.wrap (zba .u64 v (8*(i:Int))))) (i+1);have:(zdI p a (IntKind.u8.wrap (zba .u64 v (8*(i:Int))))).n=p.n∧(zdI p a (IntKind.u8.wrap (zba .u64 v (8*(i:Int))))).fr=p.fr:=by unfold zdI;cases(zeE p a==0)<;>exact⟨rfl,rfl⟩
  exact⟨h1.trans this.1,h2.trans this.2⟩
structure CtOk (t:Nat) (c:Rt):Prop where
 t:c.task=t
 r:U32 c.c.r
 s:U32 c.c.s
 a:U32 c.c.a
 b:U32 c.c.b
theorem CtOk.call{t:Nat}{c:Rt}(h:CtOk t c)(ht:t<8)(s:St):CallOk s c.task c.c:=⟨by rw[h.t];omega,by rw[h.t];omega,h.r,h.s,h.a,h.b⟩
def zix(N:Int)(U:List Int)(p:Sp):Prop:=match p.e with
 |true=>CI N U p.x zaO
 |false=>CI N U p.x p.c.run
section
variable {N:Int} {U:List Int} {x:Cr} {c:Rt} {t:Nat}
theorem zuC(h:CI N U x c.run)(r:Rs):zix N U (zuB x c r):=h.cut
theorem zxh(h:CI N U x c.run):zix N U (zcZ x c):=by
 unfold zcZ;cases zg4 x.s c.task c.c with
 |true=>exact h
 |false=>
  cases(zns x.s c.task c.c != 0)with
  |true=>exact zuC h _
  |false=>exact h
theorem zAD(h:CI N U x c.run)(g:Int)(l:List Int):zix N U (zhT x c g l):=h.same ⟨rfl,rfl,rfl,rfl⟩
theorem zvZ{l:List Rn}{n:Int}{y:Rn}(h:zdM l n=some y):zmm l n=y.at_:=by unfold zmm;rw[h]
theorem zxj(h:CI N U x c.run)(hr:c.run.n≤0)(n:Int):zix N U (zbJ x c n):=by
 unfold zbJ;cases hq:(zb4 x.p n != 0)with
 |true=>exact zuC h _
 |false=>
  have hE:zb4 x.p n=0:=by simpa using hq
  have hf:∃y,zdM x.p.fr n=some y:=by
   unfold zb4 at hE;cases h1:decide (n<1)with
   |true=>rw[h1]at hE;exact absurd (show(2:Int)=0 from hE) (by decide)
   |false=>
    rw[h1]at hE;cases h2:zdM x.p.fr n with
    |some y=>exact⟨y,rfl⟩
    |none=>rw[h2]at hE;exact absurd (show(6:Int)=0 from hE) (by decide)
  obtain⟨y,hf⟩:=hf;obtain⟨g1,l',g2,g3,g4⟩:=zp1 h.fr hf;have hA:zgD x.p n=y.at_:=by unfold zgD;rw[hE];exact zvZ hf
  have hP:zf0 x.p n={x.p with fr:=l'}:=by unfold zf0;rw[hE,zvZ hf];show{x.p with fr:=zyM x.p.fr ⟨y.at_,n⟩}=_;unfold zyM;rw[g2];rfl
  show CI N U {x with p:=zf0 x.p n} ⟨zgD x.p n,n⟩;rw[hA,hP];refine⟨h.n,g3,h.s,.inr g1,ze0 fun a=>?_⟩;have h1:=zeG h.pp a;have h2:=zeG g4 a;rw[pg0 hr]at h1;show List.count a (pgs l'++(zch x.s.t++(pg ⟨y.at_,n⟩++(x.q++U))))=_;simp only[zII,zIJ]at h1 h2 ⊢;omega
theorem zjZ(p:Pl)(a:Int):(zgE p a).n=p.n∧(zgE p a).fr=p.fr:=by unfold zgE;cases(zdv p a==0)<;>exact⟨rfl,rfl⟩
theorem zxl(h:CI N U x c.run):zix N U (zd9 x c):=h.same ⟨(zjZ _ _).1,(zjZ _ _).2,rfl,rfl⟩
theorem zrq(h:CI N U x c.run)(ht:t<8)(hc:CtOk t c)(hn:zaE x.s c.task c.c≤0→c.run.n≤0):zix N U (zeq x c):=by
 unfold zeq;cases hq:((doB x.s c.task c.c c.run).2.1.e != 0)with
 |true=>exact zuC h _
 |false=>
  have hq:(doB x.s c.task c.c c.run).2.1.e=0:=by simpa using hq
  show zix N U (zkN x c _ _ _);obtain⟨k1,k2⟩:=zjX (run:=c.run) h.s (hc.call ht x.s) (fun _ hr=>h.rn.ok (by omega));have hk:SInv (doB x.s c.task c.c c.run).1∧(zch x.s.t++pg c.run).Perm (zch (doB x.s c.task c.c c.run).1.t++pgs (doB x.s c.task c.c c.run).2.2):=by
   unfold doB at hq ⊢;cases hX:zbu x.s c.task c.c c.run with
   |ok y=>
    obtain⟨s',r,b⟩:=y;obtain⟨g1,g2⟩:=k1 s' r b hX;refine⟨g1,?_⟩;by_cases hp:zaE x.s c.task c.c>0
    ·rw[zFQ hp]at g2;exact g2
    ·rw[zFT hp]at g2;rw[pg0 (hn (by omega))];exact g2
   |error e=>
    rw[hX]at hq;have hq:e=0:=hq;rw[hq]at hX;exact absurd hX (zkM h.s (hc.call ht x.s))
  generalize doB x.s c.task c.c c.run=R at hk;unfold zkN;have hA:=zd0 R.2.2 {x with s:=R.1,p:=bif c.c.do_==4 then zbG c.c.v x.p (zbU x.s c.c) 0 else x.p};obtain⟨q1,q2,q3,q4⟩:=hA;have hp:∀b:Bool,(bif b then zbG c.c.v x.p (zbU x.s c.c) 0 else x.p).n=x.p.n∧(bif b then zbG c.c.v x.p (zbU x.s c.c) 0 else x.p).fr=x.p.fr:=fun b=>by
   cases b with
   |true=>exact zfR _ _ _ _
   |false=>exact⟨rfl,rfl⟩
  refine zuC (c:={c with run:=zaO}) ⟨?_,?_,?_,.inl rfl,?_⟩ _
  ·rw[q2];exact(hp _).1.trans h.n
  ·rw[q2];show FreeOk (bif c.c.do_==4 then zbG c.c.v x.p (zbU x.s c.c) 0 else x.p).fr;rw[(hp _).2];exact h.fr
  ·rw[q3];exact hk.1
  ·rw[q1,q2,q3];show(pgs (bif c.c.do_==4 then zbG c.c.v x.p (zbU x.s c.c) 0 else x.p).fr++(zch R.1.t++(pg zaO++((x.q++pgs R.2.2)++U)))).Perm (zjF N);rw[(hp _).2];refine ze0 fun a=>?_;have h1:=zeG h.pp a;have h2:=zeG hk.2 a;rw[pg0 (r:=zaO) (by decide)];simp only[zII,zIJ]at h1 h2 ⊢;omega
end
end Sx
namespace Sx
section
variable {N:Int} {U:List Int} {x:Cr} {c:Rt} {t:Nat}
theorem zz0(h:CI N U x c.run)(ht:t<8)(hc:CtOk t c):zix N U (zcU x c):=by
 unfold zcU;cases hq:(decide (c.run.n>0)&&(zaE x.s c.task c.c != c.run.n))with
 |true=>
  exact zrq (c:={c with run:=zaO}) h.que ht ⟨hc.t,hc.r,hc.s,hc.a,hc.b⟩ fun _=>zFJ 0
 |false=>
  refine zrq h ht hc fun hn=>?_;have:=h.rn.nn;by_cases c0:c.run.n>0
  ·rw[zFQ c0,zF7]at hq;have:zaE x.s c.task c.c=c.run.n:=by simpa using hq
   omega
  ·omega
theorem zBb(h:CI N U x c.run)(ht:t<8)(hc:CtOk t c):zix N U (za1 x c):=by
 unfold za1;cases c.chk with
 |false=>exact zxh h
 |true=>
  cases hr:c.regs with
  |cons g l=>exact zAD h g l
  |nil=>
   show zix N U (bif (zaE x.s c.task c.c != 0)&&decide (c.run.n≤0)then zbJ x c (zaE x.s c.task c.c)else bif decide (c.clr<c.run.n)then zd9 x c else zcU x c);cases hq:((zaE x.s c.task c.c != 0)&&decide (c.run.n≤0))with
   |true=>
    simp only[zFR,zFS]at hq;exact zxj h hq.2 _
   |false=>
    cases decide (c.clr<c.run.n)with
    |true=>exact zxl h
    |false=>exact zz0 h ht hc
theorem zvm(h6:(za1 x c).r.e=6)(hn:zaE x.s c.task c.c>0)(he:(za1 x c).e=true):(za1 x c).x.s=x.s∧(za1 x c).x.p=x.p∧zdM x.p.fr (zaE x.s c.task c.c)=none:=by
 unfold za1 at h6 he ⊢;cases hk:c.chk with
 |false=>
  rw[hk]at h6 he;exfalso;have h6:(zcZ x c).r.e=6:=h6;have he:(zcZ x c).e=true:=he;have hz:zns x.s c.task c.c=0:=by unfold zns;rw[zFQ hn];rfl
  unfold zcZ at h6 he;rw[hz]at h6 he;cases hw:zg4 x.s c.task c.c with
  |true=>rw[hw]at he;cases he
  |false=>rw[hw]at he;cases he
 |true=>
  rw[hk]at h6 he;cases hr:c.regs with
  |cons g l=>rw[hr]at he;cases he
  |nil=>
   rw[hr]at h6 he;have key:∀b1 b2:Bool,(bif b1 then zbJ x c (zaE x.s c.task c.c)else bif b2 then zd9 x c else zcU x c).r.e=6→(bif b1 then zbJ x c (zaE x.s c.task c.c)else bif b2 then zd9 x c else zcU x c).e=true→(bif b1 then zbJ x c (zaE x.s c.task c.c)else bif b2 then zd9 x c else zcU x c).x.s=x.s∧(bif b1 then zbJ x c (zaE x.s c.task c.c)else bif b2 then zd9 x c else zcU x c).x.p=x.p∧zdM x.p.fr (zaE x.s c.task c.c)=none:=by
    intro b1 b2 h6 he;cases b1 with
    |true=>
     have h6:(zbJ x c (zaE x.s c.task c.c)).r.e=6:=h6;have he:(zbJ x c (zaE x.s c.task c.c)).e=true:=he;show(zbJ x c (zaE x.s c.task c.c)).x.s=x.s∧(zbJ x c (zaE x.s c.task c.c)).x.p=x.p∧_;unfold zbJ at h6 he ⊢;cases hq:(zb4 x.p (zaE x.s c.task c.c) != 0)with
     |true=>
      rw[hq]at h6;have h6:zb4 x.p (zaE x.s c.task c.c)=6:=h6;refine⟨rfl,rfl,?_⟩;unfold zb4 at h6;rw[zFT (by omega)]at h6;cases hf:zdM x.p.fr (zaE x.s c.task c.c)with
      |none=>rfl
      |some y=>rw[hf]at h6;exact absurd (show(0:Int)=6 from h6) (by decide)
     |false=>rw[hq]at he;cases he
    |false=>
     cases b2 with
     |true=>cases(show false=true from he)
     |false=>
      exfalso;have h6:(zcU x c).r.e=6:=h6;have hc0:∀(y:Cr) (d:Rt),y.s=x.s→d.task=c.task→d.c=c.c→(zeq y d).r.e≠6:=by
       intro y d e1 e2 e3;have hm:=zuX (run:=d.run) hn;rw[←e1,←e2,←e3]at hm;unfold zeq;cases hq:((doB y.s d.task d.c d.run).2.1.e != 0)with
       |true=>exact hm
       |false=>
        have hq:(doB y.s d.task d.c d.run).2.1.e=0:=by simpa using hq
        show(zkN y d (doB y.s d.task d.c d.run).2.1 _ _).r.e≠6;unfold zkN;show(bif d.c.do_==3 then({(doB y.s d.task d.c d.run).2.1 with v:=zeM y.p (doB y.s d.task d.c d.run).2.1.v (zbU y.s d.c) 0}:Rs)else(doB y.s d.task d.c d.run).2.1).e≠6;cases(d.c.do_==3)<;>(show(doB y.s d.task d.c d.run).2.1.e≠6;rw[hq];decide)
      unfold zcU at h6;cases hq:(decide (c.run.n>0)&&(zaE x.s c.task c.c != c.run.n))with
      |true=>rw[hq]at h6;exact hc0 (zbn x c.run) {c with run:=zaO} rfl rfl rfl h6
      |false=>rw[hq]at h6;exact hc0 x c rfl rfl rfl h6
   exact key _ _ h6 he
theorem zwy:(za1 x c).c.c=c.c∧(za1 x c).c.task=c.task:=by
 have hk:∀y d,(zeq y d).c.c=d.c∧(zeq y d).c.task=d.task:=fun y d=>by unfold zeq;cases((doB y.s d.task d.c d.run).2.1.e != 0)<;>exact⟨rfl,rfl⟩
 unfold za1;cases c.chk with
 |false=>
  show(zcZ x c).c.c=c.c∧(zcZ x c).c.task=c.task;unfold zcZ;cases zg4 x.s c.task c.c with
  |true=>exact⟨rfl,rfl⟩
  |false=>cases(zns x.s c.task c.c != 0)<;>exact⟨rfl,rfl⟩
 |true=>
  cases hr:c.regs with
  |cons g l=>exact⟨rfl,rfl⟩
  |nil=>
   show(bif (zaE x.s c.task c.c != 0)&&decide (c.run.n≤0)then zbJ x c (zaE x.s c.task c.c)else bif decide (c.clr<c.run.n)then zd9 x c else zcU x c).c.c=c.c∧(bif (zaE x.s c.task c.c != 0)&&decide (c.run.n≤0)then zbJ x c (zaE x.s c.task c.c)else bif decide (c.clr<c.run.n)then zd9 x c else zcU x c).c.task=c.task;cases((zaE x.s c.task c.c != 0)&&decide (c.run.n≤0))with
   |true=>
    show(zbJ x c (zaE x.s c.task c.c)).c.c=c.c∧(zbJ x c (zaE x.s c.task c.c)).c.task=c.task;unfold zbJ;cases(zb4 x.p (zaE x.s c.task c.c) != 0)<;>exact⟨rfl,rfl⟩
   |false=>
    cases decide (c.clr<c.run.n)with
    |true=>exact⟨rfl,rfl⟩
    |false=>
     show(zcU x c).c.c=c.c∧(zcU x c).c.task=c.task;unfold zcU;cases(decide (c.run.n>0)&&(zaE x.s c.task c.c != c.run.n))<;>exact hk _ _
end
end Sx
namespace Sx
structure RrI (i:Nat) (r:Rr):Prop where
 busy:r.busy=true→CtOk i r.c
 idle:r.busy=false→r.c=rt0
def zjW(ts:Nat→Rr):List Int:=(List.range 8).flatMap fun i=>pg (ts i).c.run
structure MI (N:Int) (m:Mc):Prop where
 hN:1≤N∧N≤64
 n:m.x.p.n=N
 fr:FreeOk m.x.p.fr
 s:SInv m.x.s
 run:∀i,i<8→RnC (m.ts i).c.run
 rr:∀i,i<8→RrI i (m.ts i)
 pp:(pgs m.x.p.fr++(zch m.x.s.t++(zjW m.ts++m.x.q))).Perm (zjF N)
def zlL(m:Mc):Prop:=∀i,i<8→(m.ts i).busy=true→m.x.s.alive i=true
theorem zui{ts:Nat→Rr}{i:Nat}(hi:i<8)(r:Rr):(zjW (zaq ts i r)++pg (ts i).c.run).Perm (zjW ts++pg r.c.run):=by
 have:zjW (zaq ts i r)=(List.range 8).flatMap (zaq (fun j=>pg (ts j).c.run) i (pg r.c.run)):=zc0 fun j hj=>by
  by_cases c:j=i
  ·subst c;rw[zag,zag]
  ·rw[zaf c,zaf c]
 rw[this];exact zib hi
theorem zoG(ts:Nat→Rr){i:Nat}(hi:i<8):(zjW ts).Perm (pg (ts i).c.run++zjW (zaq ts i {ts i with c:=rt0})):=by have:=zui (ts:=ts) hi {ts i with c:=rt0};have h0:pg ({ts i with c:=rt0}:Rr).c.run=[]:=rfl;rw[h0,zHm]at this;exact this.symm.trans zIK
section
variable {N:Int} {m:Mc} {t:Nat}
theorem MI.ci(h:MI N m)(ht:t<8):CI N (zjW (zaq m.ts t {m.ts t with c:=rt0})) m.x (m.ts t).c.run:=by refine⟨h.n,h.fr,h.s,h.run t ht,ze0 fun a=>?_⟩;have h1:=zeG h.pp a;have h2:=zeG (zoG m.ts ht) a;simp only[zII]at h1 h2 ⊢;omega
theorem MI.go{ts:Nat→Rr}{x:Cr}{r:Rr}(hN:1≤N∧N≤64)(hts:∀i,i<8→i≠t→RnC (ts i).c.run∧RrI i (ts i))(ht:t<8)(hr:RrI t r)(hc:CI N (zjW (zaq ts t {ts t with c:=rt0})) x r.c.run){now:Int}{ev:List Ev}:MI N ⟨x,zaq ts t r,now,ev⟩:=by
 refine⟨hN,hc.n,hc.fr,hc.s,fun i hi=>?_,fun i hi=>?_,ze0 fun a=>?_⟩
 ·show RnC (zaq ts t r i).c.run;by_cases c:i=t
  ·rw[c,zag];exact hc.rn
  ·rw[zaf c];exact(hts i hi c).1
 ·show RrI i (zaq ts t r i);by_cases c:i=t
  ·rw[c,zag];exact hr
  ·rw[zaf c];exact(hts i hi c).2
 ·have h1:=zeG hc.pp a;have h2:=zeG (zoG (zaq ts t r) ht) a;have e1:zaq (zaq ts t r) t {zaq ts t r t with c:=rt0}=zaq ts t {r with c:=rt0}:=by
   funext j
   by_cases c:j=t
   ·rw[c,zag,zag,zag]
   ·rw[zaf c,zaf c,zaf c]
  have e2:zjW (zaq ts t {r with c:=rt0})=zjW (zaq ts t {ts t with c:=rt0}):=zc0 fun j hj=>by
   by_cases c:j=t
   ·rw[c,zag,zag]
   ·rw[zaf c,zaf c]
  rw[e1,e2,zag]at h2;show List.count a (pgs x.p.fr++(zch x.s.t++(zjW (zaq ts t r)++x.q)))=_;simp only[zII]at h1 h2 ⊢;omega
theorem MI.rest(h:MI N m):∀i,i<8→i≠t→RnC (m.ts i).c.run∧RrI i (m.ts i):=fun i hi _=>⟨h.run i hi,h.rr i hi⟩
theorem zlD(i:Nat){r:Rr}(hb:r.busy=false)(hc:r.c=rt0):RrI i r:=⟨fun h=>(by rw[hb]at h;cases h),fun _=>hc⟩
theorem zm3{α:Type}(f:Nat→α)(i:Nat)(x y:α):zaq (zaq f i x) i y=zaq f i y:=by
 funext j
 by_cases c:j=i
 ·rw[c,zag,zag]
 ·rw[zaf c,zaf c,zaf c]
theorem zzR(h:MI N m)(ht:t<8)(hb:(m.ts t).busy=true):MI N (zkL m t):=by
 have hS:=zBb (h.ci ht) ht ((h.rr t ht).busy hb);have hc:=zwy (x:=m.x) (c:=(m.ts t).c);have hk:=(h.rr t ht).busy hb;unfold zkL zBD;unfold zix at hS;cases he:(za1 m.x (m.ts t).c).e with
 |true=>
  rw[he]at hS;show MI N (znb {m with x:=(za1 m.x (m.ts t).c).x,ts:=zaq m.ts t {m.ts t with c:=(za1 m.x (m.ts t).c).c}} t _ _ _);unfold znb;show MI N ⟨_,zaq (zaq m.ts t _) t _,_,_⟩;rw[zm3];exact MI.go h.hN h.rest ht (zlD t rfl rfl) hS
 |false=>
  rw[he]at hS;show MI N ⟨_,zaq m.ts t {m.ts t with c:=(za1 m.x (m.ts t).c).c},_,_⟩;exact MI.go h.hN h.rest ht ⟨fun _=>⟨by rw[show({m.ts t with c:=(za1 m.x (m.ts t).c).c}:Rr).c=(za1 m.x (m.ts t).c).c from rfl,hc.2];exact hk.t,by show U32 (za1 m.x (m.ts t).c).c.c.r;rw[hc.1];exact hk.r,by show U32 (za1 m.x (m.ts t).c).c.c.s;rw[hc.1];exact hk.s,by show U32 (za1 m.x (m.ts t).c).c.c.a;rw[hc.1];exact hk.a,by show U32 (za1 m.x (m.ts t).c).c.c.b;rw[hc.1];exact hk.b⟩,fun hf=>by rw[show({m.ts t with c:=(za1 m.x (m.ts t).c).c}:Rr).busy=(m.ts t).busy from rfl,hb]at hf;cases hf⟩ hS
theorem zis(x:Int):U32 (IntKind.u32.wrap x):=by obtain⟨_,h2,h3⟩:=zkb (zcI .u32 x);have h2:=h2 rfl;simp only[zcB]at h3;exact⟨h2,by omega⟩
theorem zyY(k:Tsk):U32 (zcw k).r∧U32 (zcw k).s∧U32 (zcw k).a∧U32 (zcw k).b:=by
 have z:U32 0:=⟨by decide,by decide⟩;unfold zcw;cases(!zid k||((zcN k).op==0))with
 |true=>exact⟨z,z,z,z⟩
 |false=>
  cases decide ((zcN k).op≤16)with
  |true=>exact⟨z,z,z,z⟩
  |false=>exact⟨zis _,zis _,zis _,zis _⟩
theorem zuc(h:MI N m)(ht:t<8)(hb:(m.ts t).busy=false):MI N (zoD m t):=by have hc:=h.ci ht;have hi:=(h.rr t ht).idle hb;obtain⟨w1,w2,w3,w4⟩:=zyY (m.ts t).t;unfold zoD;refine MI.go h.hN h.rest ht ⟨fun _=>⟨rfl,w1,w2,w3,w4⟩,fun hf=>by cases hf⟩ ?_;rw[hi]at hc;exact hc
theorem zej(h:MI N m):MI N (zhY m):=⟨h.hN,h.n,h.fr,h.s,h.run,h.rr,h.pp⟩
theorem zBg(h:MI N m)(ht:t<8):MI N (zjS m t):=by
 unfold zjS;cases hb:(m.ts t).busy with
 |true=>exact zzR h ht hb
 |false=>
  cases zda (m.ts t).t with
  |true=>exact zzR (zuc h ht hb) ht (by unfold zoD;simp only[zag])
  |false=>
   show MI N ⟨m.x,zaq m.ts t {m.ts t with t:=zhG (m.ts t).t},m.now,m.ev⟩;have hi:=(h.rr t ht).idle hb;refine MI.go (r:={m.ts t with t:=zhG (m.ts t).t}) h.hN h.rest ht (zlD t hb hi) ?_;exact h.ci ht
theorem zvj(h:MI N m)(ht:t<8)(hA:m.x.s.alive t=true):MI N (zmZ m t)∧(zmZ m t).x.s.alive=zaq m.x.s.alive t false∧(zmZ m t).x.p=m.x.p:=by
 obtain⟨s',b,h1,h2,h3,h4⟩:=zxB (run:=zaO) h.s (task:=(t:Int)) (by omega) (by omega) hA;unfold zmZ;rw[h1];obtain⟨q1,q2,q3,q4⟩:=zd0 b {m.x with s:=s'};refine⟨⟨h.hN,?_,?_,?_,h.run,h.rr,?_⟩,?_,?_⟩
 ·show(b.foldl zbn {m.x with s:=s'}).p.n=N;rw[q2];exact h.n
 ·show FreeOk (b.foldl zbn {m.x with s:=s'}).p.fr;rw[q2];exact h.fr
 ·show SInv (b.foldl zbn {m.x with s:=s'}).s;rw[q3];exact h2
 ·show(pgs (b.foldl zbn {m.x with s:=s'}).p.fr++(zch (b.foldl zbn {m.x with s:=s'}).s.t++(zjW m.ts++(b.foldl zbn {m.x with s:=s'}).q))).Perm (zjF N);rw[q1,q2,q3];refine ze0 fun a=>?_;have g1:=zeG h.pp a;have g2:=zeG h3 a;simp only[zII]at g1 g2 ⊢;omega
 ·show(b.foldl zbn {m.x with s:=s'}).s.alive=_;rw[q3];exact h4
 ·show(b.foldl zbn {m.x with s:=s'}).p=_;rw[q2]
theorem zzW(h:MI N m)(ht:t<8):MI N (zga m t):=by
 unfold zga;cases hq:((m.ts t).busy&&!zfe m t)with
 |false=>exact h
 |true=>
  show MI N ⟨zfU m.x (m.ts t).c,zaq m.ts t {m.ts t with c:=rt0,busy:=false},m.now,m.ev⟩;exact MI.go h.hN h.rest ht (zlD t rfl rfl) (h.ci ht).cut
theorem zvU(m:Mc)(t:Nat):(zga m t).x.s=m.x.s∧(zga m t).x.p=m.x.p∧(zga m t).ev=m.ev∧(zga m t).now=m.now∧(∀i,((zga m t).ts i).busy=true→(m.ts i).busy=true):=by
 unfold zga;cases((m.ts t).busy&&!zfe m t)with
 |false=>exact⟨rfl,rfl,rfl,rfl,fun _ h=>h⟩
 |true=>
  refine⟨rfl,rfl,rfl,rfl,fun i hi=>?_⟩;have hi:(zaq m.ts t {m.ts t with c:=rt0,busy:=false} i).busy=true:=hi;by_cases c:i=t
  ·rw[c,zag]at hi;cases hi
  ·rw[zaf c]at hi;exact hi
theorem zrl(m:Mc)(t:Nat)(ht:t<8):((zga m t).ts t).busy=true→m.x.s.alive t=true:=fun hb=>by
 have hb0:=(zvU m t).2.2.2.2 t hb;unfold zga at hb;cases hq:((m.ts t).busy&&!zfe m t)with
 |false=>
  rw[hb0,zF7]at hq;have hq:zfe m t=true:=by simpa using hq
  unfold zfe at hq;simp only[zFR]at hq;exact hq.2
 |true=>
  rw[hq]at hb;have hb:(zaq m.ts t {m.ts t with c:=rt0,busy:=false} t).busy=true:=hb;rw[zag]at hb;cases hb
theorem znu:∀(l:List Nat) (m:Mc),(∀i∈l,i<8)→(MI N m→MI N (l.foldl zga m))∧(l.foldl zga m).x.s=m.x.s∧(l.foldl zga m).x.p=m.x.p∧(l.foldl zga m).ev=m.ev∧(l.foldl zga m).now=m.now∧(∀i,((l.foldl zga m).ts i).busy=true→(m.ts i).busy=true)∧∀i∈l,((l.foldl zga m).ts i).busy=true→m.x.s.alive i=true
 |[],m,_=>⟨fun h=>h,rfl,rfl,rfl,rfl,fun _ h=>h,fun i hi=>by cases hi⟩
 |t::l,m,hl=>by
  obtain⟨g1,g2,g3,g4,g5,g6,g7⟩:=znu l (zga m t) (fun i hi=>hl i (zF4 _ hi));obtain⟨k1,k2,k3,k4,k5⟩:=zvU m t;have ht:=hl t (zF3 ..);refine⟨fun h=>g1 (zzW h ht),g2.trans k1,g3.trans k2,g4.trans k3,g5.trans k4,fun i hi=>k5 i (g6 i hi),fun i hi hb=>?_⟩;rcases zGm.1 hi with rfl|hi
  ·exact zrl m i ht (g6 i hb)
  ·have:=g7 i hi hb;rw[k1]at this;exact this
theorem zzX(h:MI N m):MI N (zm9 m)∧zlL (zm9 m):=by obtain⟨g1,g2,_,_,_,_,g7⟩:=znu (N:=N) (List.range 8) m (fun i hi=>zF1.1 hi);exact⟨g1 h,fun i hi hb=>by show(List.foldl zga m (List.range 8)).x.s.alive i=true;rw[g2];exact g7 i (zF1.2 hi) hb⟩
theorem zrm(m:Mc):(zm9 m).x.s=m.x.s∧(zm9 m).x.p=m.x.p∧(zm9 m).ev=m.ev∧(zm9 m).now=m.now:=by obtain⟨_,g2,g3,g4,g5,_⟩:=znu (N:=0) (List.range 8) m (fun i hi=>zF1.1 hi);exact⟨g2,g3,g4,g5⟩
theorem zur(hL:zlL m):zm9 m=m:=by
 have:∀(l:List Nat),(∀i∈l,i<8)→l.foldl zga m=m:=fun l=>by
  induction l with
  |nil=>intro _;rfl
  |cons t l ih=>
   intro hl;have ht:=hl t (zF3 ..);have:zga m t=m:=by
    unfold zga;cases hb:(m.ts t).busy with
    |false=>rfl
    |true=>
     have:zfe m t=true:=by unfold zfe;rw[zFQ (by omega),zFQ (by omega)];exact hL t ht hb
     rw[this];rfl
   rw[zH4,this];exact ih fun i hi=>hl i (zF4 _ hi)
 exact this (List.range 8) (fun i hi=>zF1.1 hi)
theorem zsU(h:MI N m){a:Int}{l:List Int}(hq:m.x.q=a::l):MI N {m with x:=zdy m.x}∧(zdy m.x).q=l∧(zdy m.x).s=m.x.s:=by
 have hmem:a∈zjF N:=h.pp.mem_iff.1 (by rw[hq];simp);have ha:=zee.1 hmem;have hnd:=h.pp.nodup_iff.2 (zkc N);have hna:a∉pgs m.x.p.fr:=fun hf=>by rw[zHO]at hnd;exact hnd.2.2 a hf a (by rw[hq];simp) rfl
 have hh:zpe m.x.p.fr a=false:=by
  cases hq:zpe m.x.p.fr a with
  |false=>rfl
  |true=>exact absurd ((zxO h.fr.ok).1 hq) hna
 have hE:zdv m.x.p a=0:=by unfold zdv;rw[hh,h.n,zFT (by omega),zFT (by omega)];rfl
 have hone:pg ⟨a,1⟩=[a]:=by simp[pg]
 have hR:zbd ⟨a,1⟩:=by unfold zbd;have:=h.hN;simp only;omega
 obtain⟨l',g1,g2,g3⟩:=zrT h.fr hR (fun p hp hf=>by
  rw[hone,zHW]at hp;exact hna (hp▸hf))
 have hP:znp m.x.p a={m.x.p with fr:=l'}:=by unfold znp;rw[hE];show{m.x.p with fr:=zxG m.x.p.fr ⟨a,1⟩}=_;unfold zxG;rw[g1];rfl
 have hC:zdy m.x={m.x with p:={m.x.p with fr:=l'},q:=l}:=by unfold zdy;rw[hq,←hP]
 rw[hC];refine⟨⟨h.hN,h.n,g2,h.s,h.run,h.rr,ze0 fun b=>?_⟩,rfl,rfl⟩;have k1:=zeG h.pp b;have k2:=zeG g3 b;rw[hone]at k2;rw[hq]at k1;show List.count b (pgs l'++(zch m.x.s.t++(zjW m.ts++l)))=_;rw[show a::l=[a]++l from rfl]at k1;simp only[zII]at k1 k2 ⊢;omega
theorem zpw(h:MI N m)(hL:zlL m){b:Int}(hb:0≤b):MI N (zbI m b)∧zlL (zbI m b):=by
 unfold zbI;cases hq:(zcQ m b != 0)with
 |true=>exact⟨h,hL⟩
 |false=>
  have hE:zcQ m b=0:=by simpa using hq
  unfold zcQ at hE;have h1:((decide (b>8)&&decide (b<16))||decide (b≥24))=false:=by
   cases h1:((decide (b>8)&&decide (b<16))||decide (b≥24))with
   |false=>rfl
   |true=>rw[h1]at hE;exact absurd (show(2:Int)=0 from hE) (by decide)
  rw[h1]at hE;have hb8:0≤b.tmod 8∧b.tmod 8<8:=by rw[zGa hb];omega
  cases h8:(b==8)with
  |true=>
   rw[h8]at hE;refine zzX ?_;cases hqq:m.x.q with
   |nil=>rw[hqq]at hE;exact absurd (show(10:Int)=0 from hE) (by decide)
   |cons a l=>exact zej (m:={m with x:=zdy m.x}) (zsU h hqq).1
  |false=>
   rw[h8]at hE;have hA:zfe m (b.tmod 8)=true:=by
    cases hA:zfe m (b.tmod 8)with
    |true=>rfl
    |false=>rw[hA]at hE;exact absurd (show(12:Int)=0 from hE) (by decide)
   unfold zfe at hA;simp only[zFR]at hA;refine zzX ?_;show MI N (bif decide (b≥16)then zmZ (zhY m) (b.tmod 8).toNat else zjS (zhY m) (b.tmod 8).toNat);cases decide (b≥16)with
   |true=>exact(zvj (zej h) (by omega) hA.2).1
   |false=>exact zBg (zej h) (by omega)
end
end Sx
namespace Sx
structure EvI (m m':Mc) (e:Ev):Prop where
 t:(0≤e.task∧e.task<8)∧m.x.s.alive e.task.toNat=true
 c:U32 e.c.r∧U32 e.c.s∧U32 e.c.a∧U32 e.c.b
 mem:e.r.e=6→zaE m.x.s e.task e.c>0→m'.x.s=m.x.s∧zdM m'.x.p.fr (zaE m.x.s e.task e.c)=none
section
variable {N:Int} {m:Mc} {t:Nat}
theorem zvT(h:MI N m)(ht:t<8)(hA:m.x.s.alive t=true)(hb:(m.ts t).busy=true):(zkL m t).ev=m.ev∨∃e,(zkL m t).ev=m.ev++[e]∧EvI m (zkL m t) e:=by
 have hk:=(h.rr t ht).busy hb;have hc:=zwy (x:=m.x) (c:=(m.ts t).c);have hm:= @zvm m.x (m.ts t).c;unfold zkL zBD;cases he:(za1 m.x (m.ts t).c).e with
 |false=>exact .inl rfl
 |true=>
  refine .inr ⟨_,rfl,⟨⟨by show(0:Int)≤(t:Int);omega,by show(t:Int)<8;omega⟩,by show m.x.s.alive ((t:Int)).toNat=true;rw[zFC];exact hA⟩,?_,fun h6 hn=>?_⟩
  ·show U32 (za1 m.x (m.ts t).c).c.c.r∧U32 (za1 m.x (m.ts t).c).c.c.s∧U32 (za1 m.x (m.ts t).c).c.c.a∧U32 (za1 m.x (m.ts t).c).c.c.b;rw[hc.1];exact⟨hk.r,hk.s,hk.a,hk.b⟩
  ·have h6:(za1 m.x (m.ts t).c).r.e=6:=h6;have hn:zaE m.x.s t (za1 m.x (m.ts t).c).c.c>0:=hn;show(za1 m.x (m.ts t).c).x.s=m.x.s∧zdM (za1 m.x (m.ts t).c).x.p.fr (zaE m.x.s t (za1 m.x (m.ts t).c).c.c)=none;rw[hc.1]at hn ⊢;rw[←hk.t]at hn ⊢;obtain⟨g1,g2,g3⟩:=hm h6 hn he;rw[g2];exact⟨g1,g3⟩
theorem zBf(h:MI N m)(ht:t<8)(hA:m.x.s.alive t=true):(zjS m t).ev=m.ev∨∃e,(zjS m t).ev=m.ev++[e]∧EvI m (zjS m t) e:=by
 unfold zjS;cases hb:(m.ts t).busy with
 |true=>exact zvT h ht hA hb
 |false=>
  cases zda (m.ts t).t with
  |true=>
   have hb':((zoD m t).ts t).busy=true:=by unfold zoD;simp only[zag]
   rcases zvT (zuc h ht hb) ht hA hb' with g|⟨e,g1,g2⟩
   ·exact .inl g
   ·exact .inr ⟨e,g1,g2.t,g2.c,g2.mem⟩
  |false=>exact .inl rfl
theorem zA6(ht:t<8)(hA:m.x.s.alive t=true):∃e,(zmZ m t).ev=m.ev++[e]∧EvI m (zmZ m t) e:=by have z:U32 0:=⟨by decide,by decide⟩;refine⟨_,rfl,⟨⟨by show(0:Int)≤(t:Int);omega,by show(t:Int)<8;omega⟩,by show m.x.s.alive ((t:Int)).toNat=true;rw[zFC];exact hA⟩,⟨z,z,z,z⟩,fun _ hn=>?_⟩;have:zaE m.x.s t (zbo 20)=0:=rfl;have hn:zaE m.x.s t (zbo 20)>0:=hn;rw[this]at hn;exact absurd hn (by decide)
theorem zhB{b:Int}(hb:0≤b):zbI m b=m∨(b=8∧(∃a l,m.x.q=a::l)∧zcQ m b=0∧zbI m b=zm9 (zhY {m with x:=zdy m.x}))∨∃t:Nat,t<8∧b.tmod 8=t∧m.x.s.alive t=true∧zcQ m b=0∧((b≥16∧zbI m b=zm9 (zmZ (zhY m) t))∨(b<16∧zbI m b=zm9 (zjS (zhY m) t))):=by
 unfold zbI;cases hq:(zcQ m b != 0)with
 |true=>exact .inl rfl
 |false=>
  right
  have hE0:zcQ m b=0:=by simpa using hq
  have hE:=hE0;unfold zcQ at hE;have h1:((decide (b>8)&&decide (b<16))||decide (b≥24))=false:=by
   cases h1:((decide (b>8)&&decide (b<16))||decide (b≥24))with
   |false=>rfl
   |true=>rw[h1]at hE;exact absurd (show(2:Int)=0 from hE) (by decide)
  rw[h1]at hE;have hb8:0≤b.tmod 8∧b.tmod 8<8:=by rw[zGa hb];omega
  cases h8:(b==8)with
  |true=>
   rw[h8]at hE;cases hqq:m.x.q with
   |nil=>rw[hqq]at hE;exact absurd (show(10:Int)=0 from hE) (by decide)
   |cons a l=>exact .inl ⟨by simpa using h8,⟨a,l,rfl⟩,hE0,rfl⟩
  |false=>
   rw[h8]at hE;have hA:zfe m (b.tmod 8)=true:=by
    cases hA:zfe m (b.tmod 8)with
    |true=>rfl
    |false=>rw[hA]at hE;exact absurd (show(12:Int)=0 from hE) (by decide)
   unfold zfe at hA;simp only[zFR]at hA;refine .inr ⟨(b.tmod 8).toNat,by omega,by omega,hA.2,hE0,?_⟩;by_cases c:b≥16
   ·refine .inl ⟨c,?_⟩;rw[zFQ c];rfl
   ·refine .inr ⟨by omega,?_⟩;rw[zFT c];rfl
theorem zsK(h:MI N m){b:Int}(hb:0≤b):(zbI m b).ev=m.ev∨∃e,(zbI m b).ev=m.ev++[e]∧EvI m (zbI m b) e:=by
 rcases zhB (m:=m) hb with e|⟨_,_,_,e⟩|⟨t,ht,_,hA,_,⟨_,e⟩|⟨_,e⟩⟩
 ·rw[e];exact .inl rfl
 ·rw[e];exact .inl (zrm _).2.2.1
 ·rw[e];obtain⟨x1,x2,x3,_⟩:=zrm (zmZ (zhY m) t);obtain⟨e,g1,g2⟩:=zA6 (m:=zhY m) ht hA;exact .inr ⟨e,x3.trans g1,g2.t,g2.c,fun h6 hn=>by rw[x1,x2];exact g2.mem h6 hn⟩
 ·rw[e];obtain⟨x1,x2,x3,_⟩:=zrm (zjS (zhY m) t);rcases zBf (zej h) ht hA with g|⟨e,g1,g2⟩
  ·exact .inl (x3.trans g)
  ·exact .inr ⟨e,x3.trans g1,g2.t,g2.c,fun h6 hn=>by rw[x1,x2];exact g2.mem h6 hn⟩
theorem ztf(h:MI N m)(ht:t<8):(zbI m (16+(t:Int))).x.s.alive t=false∧∀i,i<8→m.x.s.alive i=false→(zbI m (16+(t:Int))).x.s.alive i=false:=by
 have hmod:((16:Int)+(t:Int)).tmod 8=t:=by rw[zGa (by omega)];omega
 rcases zhB (m:=m) (b:=16+(t:Int)) (by omega)with e|⟨e8,_⟩|⟨t',ht',hm,hA,_,⟨_,e⟩|⟨hlt,_⟩⟩
 ·rw[e];refine⟨?_,fun _ _ h=>h⟩;cases hA:m.x.s.alive t with
  |false=>rfl
  |true=>
   exfalso;have hE:zcQ m (16+(t:Int))=0:=by
    unfold zcQ;have hal:zfe m t=true:=by unfold zfe;rw[zFQ (by omega),zFQ (by omega)];exact hA
    rw[zFQ (show(16+(t:Int))>8 by omega),zFT (show¬(16+(t:Int))<16 by omega),zFT (show¬(16+(t:Int))≥24 by omega),zFN.2 (show(16+(t:Int))≠8 by omega),hmod,hal];rfl
   unfold zbI at e;rw[hE,zFN.2 (show(16+(t:Int))≠8 by omega),zFQ (show(16+(t:Int))≥16 by omega),hmod]at e;have e:zm9 (zmZ (zhY m) t)=m:=e;have g:=(zvj (zej h) ht hA).2.1;have:m.x.s.alive=(zmZ (zhY m) t).x.s.alive:=by have e2:=(zrm (zmZ (zhY m) t)).1;rw[e]at e2;rw[e2]
   rw[this,g,zag]at hA;cases hA
 ·omega
 ·rw[hmod]at hm;have:t'=t:=by omega
  subst this;rw[e,(zrm _).1,(zvj (zej h) ht' hA).2.1];refine⟨zag _ _ _,fun i _ hi=>?_⟩;by_cases c:i=t'
  ·rw[c,zag]
  ·rw[zaf c];exact hi
 ·omega
theorem zsA{s:St}(hs:SInv s)(hd:∀i,i<8→s.alive i=false):(∀x,¬IsR s.t x)∧zch s.t=[]:=by
 obtain⟨d,ht⟩:=hs.t;have hno:∀x,¬IsR s.t x:=fun x hx=>by
  obtain⟨hr,_⟩:=zs1 ht hx;rcases(hs.o.rt _ hr).2 with⟨_,k1,k2⟩|⟨_,k⟩|⟨_,_,⟨a,ha,hb⟩,k⟩
  ·rw[hd _ (by omega)]at k2;cases k2
  ·rw[zG4]at k;unfold FL at k;obtain⟨a,ha,hm⟩:=zF0.1 k;have hn:=hs.o.dead a (zF1.1 ha) (hd a (zF1.1 ha));have:zfb (s.box a)=[]:=by unfold zfb;rw[hn];rfl
   rw[this]at hm;cases hm
  ·have:=k a ha hb;rw[hd a ha]at this;cases this
 refine⟨hno,?_⟩;unfold zch;rw[zIL];intro i hi;have hi:=zF1.1 hi;have hiss:(s.t.b i).iss=false:=by
  cases hq:(s.t.b i).iss with
  |false=>rfl
  |true=>exact absurd (zig ht.ok hi hq).1 (hno _)
 rw[ht.fr i hi hiss];rfl
theorem zuj(h:MI N m)(hL:zlL m)(hd:∀i,i<8→m.x.s.alive i=false):zjW m.ts=[]:=by
 unfold zjW;rw[zIL];intro i hi;have hi:=zF1.1 hi;have hb:(m.ts i).busy=false:=by
  cases hq:(m.ts i).busy with
  |false=>rfl
  |true=>have:=hL i hi hq;rw[hd i hi]at this;cases this
 rw[(h.rr i hi).idle hb];rfl
theorem zsT(h:MI N m)(hL:zlL m){a:Int}{l:List Int}(hq:m.x.q=a::l):zcQ m 8=0∧MI N (zbI m 8)∧zlL (zbI m 8)∧(zbI m 8).x.q=l∧(zbI m 8).x.s=m.x.s:=by
 have hE:zcQ m 8=0:=by unfold zcQ;rw[hq];rfl
 obtain⟨g1,g2,g3⟩:=zsU h hq;have e:zbI m 8=zm9 (zhY {m with x:=zdy m.x}):=by unfold zbI;rw[hE];rfl
 have hL2:zlL (zhY {m with x:=zdy m.x}):=fun i hi hb=>by show(zdy m.x).s.alive i=true;rw[g3];exact hL i hi hb
 rw[e,zur hL2];exact⟨hE,zej (m:={m with x:=zdy m.x}) g1,hL2,g2,g3⟩
theorem ztt(h:MI N m)(hL:zlL m)(hd:∀i,i<8→m.x.s.alive i=false)(hq:m.x.q=[]):m.x.p.fr=[⟨0,N⟩]:=by have hp:=h.pp;rw[(zsA h.s hd).2,zuj h hL hd,hq,zG4,zHm,zHm]at hp;exact ztu h.fr h.hN.1 fun p=>(hp.mem_iff).trans zee
theorem zsI(h:MI N m):(pgs m.x.p.fr++(pgs (zbC m.x.s.t (zb6 m.x.s.t.b))++(zjW m.ts++m.x.q))).Perm (zjF N):=by
 obtain⟨d,ht⟩:=h.s.t;have hall:∀x∈zb6 m.x.s.t.b,IsR m.x.s.t x:=fun x hx=>(zcX ht.ok.bk ht.ok.ret).1 hx;have hnd:=ziB ht.ok.bk;have hP:=zge ht.ok.bk ht.ok.ret hnd hall;have hD:=zkV ht.ok.bk ht.ok.ret hnd hall;have h0:zch (zbv m.x.s.t (zb6 m.x.s.t.b))=[]:=by
  unfold zch;rw[zIL];intro i hi;have hi:=zF1.1 hi;by_cases c:i∈(zb6 m.x.s.t.b).map slN
  ·rw[(hD.rin i c).1];rfl
  ·rw[(hD.rout i c).1];have:(m.x.s.t.b i).iss=false:=by
    cases hq:(m.x.s.t.b i).iss with
    |false=>rfl
    |true=>
     obtain⟨g1,g2⟩:=zig ht.ok hi hq;exact absurd (zHg.2 ⟨_,(zcX ht.ok.bk ht.ok.ret).2 g1,g2⟩) c
   rw[ht.fr i hi this];rfl
 rw[h0,zG4,←zrW fun x hx=>(hall x hx).2]at hP;exact((hP.symm.append_right _).append_left _).trans h.pp
end
end Sx
end Go.Proofs.YtfbhkfhbnkncoaaGreatDoor
