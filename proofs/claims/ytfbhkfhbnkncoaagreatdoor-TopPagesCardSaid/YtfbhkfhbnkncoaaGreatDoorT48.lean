import Derived.Test.YtfbhkfhbnkncoaaGreatDoorT47
set_option linter.all false
set_option maxRecDepth 100000
set_option maxHeartbeats 4000000
namespace Go.Proofs.YtfbhkfhbnkncoaaGreatDoor
open Go.RowKit
namespace Sx
theorem zAU{r:Rn}(h:RnC r):(pg r).length≤64:=by
 have e:(pg r).length=r.n.toNat:=by simp[pg]
 rcases h with h|h
 ·rw[e,h];decide
 ·unfold zbd at h;omega
theorem zz2(x:Cr){c:Rt}(h:RnC c.run):(zfU x c).q.length≤x.q.length+64:=by have:=zAU h;show(x.q++pg c.run).length≤_;rw[zFY];omega
theorem zvV{x:Cr}{c:Rt}(hS:SInv x.s)(hc:CallOk x.s c.task c.c)(hr:RnC c.run)(hrn:zaE x.s c.task c.c>0→c.run.n=zaE x.s c.task c.c→zbd c.run):(zeq x c).x.q.length≤x.q.length+3100:=by
 obtain⟨_,_,h3⟩:=znz (run:=c.run) hS hc hrn;unfold zeq;generalize doB x.s c.task c.c c.run=D at h3;cases hq:(D.2.1.e != 0)with
 |true=>
  have:=zz2 x hr;show(zfU x c).q.length≤_;omega
 |false=>
  show((D.2.2.foldl zbn _).q++pg zaO).length≤_;rw[zFY,(zd0 D.2.2 _).1,zFY];have:(pg zaO).length=0:=rfl;have h3:(pgs D.2.2).length≤3000:=h3;show x.q.length+(pgs D.2.2).length+(pg zaO).length≤_;omega
theorem zBc{x:Cr}{c:Rt}{t:Nat}(hw:WOk x c t):(za1 x c).x.q.length≤1000000:=by
 have hq:=hw.q;have hcut:=zz2 x hw.rn;have hE:∀r,(zuB x c r).x.q.length≤1000000:=fun r=>by show(zfU x c).q.length≤_;omega
 have hX:x.q.length≤1000000:=by omega
 unfold za1;cases c.chk with
 |false=>
  show(zcZ x c).x.q.length≤_;unfold zcZ;cases zg4 x.s c.task c.c with
  |true=>exact hX
  |false=>
   cases(zns x.s c.task c.c != 0)with
   |true=>exact hE _
   |false=>exact hX
 |true=>
  show(match c.regs with
   |h::l=>zhT x c h l
   |[]=>bif (zaE x.s c.task c.c != 0)&&decide (c.run.n≤0)then zbJ x c (zaE x.s c.task c.c)
    else bif decide (c.clr<c.run.n)then zd9 x c else zcU x c).x.q.length≤_
  cases c.regs with
  |cons h l=>exact hX
  |nil=>
   cases((zaE x.s c.task c.c != 0)&&decide (c.run.n≤0))with
   |true=>
    show(zbJ x c (zaE x.s c.task c.c)).x.q.length≤_;unfold zbJ;cases(zb4 x.p (zaE x.s c.task c.c) != 0)with
    |true=>exact hE _
    |false=>exact hX
   |false=>
    cases decide (c.clr<c.run.n)with
    |true=>exact hX
    |false=>
     show(zcU x c).x.q.length≤_;unfold zcU;cases(decide (c.run.n>0)&&(zaE x.s c.task c.c != c.run.n))with
     |true=>
      have h1:=zvV (x:=zbn x c.run) (c:={c with run:=zaO}) hw.s hw.call (.inl rfl) (fun h2 h3=>by have h3:(0:Int)=zaE x.s c.task c.c:=h3;have h2:zaE x.s c.task c.c>0:=h2;omega);have h2:=zAU hw.rn;have h3:(zbn x c.run).q.length=x.q.length+(pg c.run).length:=zFY;show(zeq (zbn x c.run) {c with run:=zaO}).x.q.length≤_;omega
     |false=>
      have h1:=zvV (x:=x) (c:=c) hw.s hw.call hw.rn (fun h2 h3=>by
       rcases hw.rn with h|h
       ·omega
       ·exact h)
      show(zeq x c).x.q.length≤_;omega
section
variable {N A B:Int} {m:Mc}
theorem MI.q64(h:MI N m):m.x.q.length≤64:=by
 have h1:=h.pp.length_eq;have h2:(zjF N).length=N.toNat:=by simp[zjF]
 have h3:=h.hN;simp only[zFY]at h1;omega
theorem MI.wok(h:MI N m)(hx:MX2 A B m){t:Nat}(ht:t<8)(hb:(m.ts t).busy=true)(hA:m.x.s.alive t=true):WOk m.x (m.ts t).c t:=
 ⟨h.s,h.fr,by rw[h.n];exact h.hN.2,zFU h.q64 (by decide),hx.mks,(h.rr t ht).busy hb,ht,hA,h.run t ht,hx.rt t ht⟩
theorem MI.wbeg(h:MI N m)(hx:MX2 A B m){t:Nat}(ht:t<8)(hb:(m.ts t).busy=false)(hA:m.x.s.alive t=true):WOk m.x {rt0 with task:=t,c:=zcw (m.ts t).t} t:=by have e:(zoD m t).ts t={m.ts t with c:={rt0 with task:=t,c:=zcw (m.ts t).t},busy:=true,frm:=m.now}:=zag _ _ _;have h1:=(zuc h ht hb).wok (zzP hx ht) ht (by rw[e]) hA;rw[e]at h1;exact h1
theorem MI.clr(h:MI N m)(hx:MX2 A B m):ClrOk m:=⟨hx.mks,h.run,zFU h.q64 (by decide)⟩
theorem zq6{t:Nat}(h:zfe m t=true):m.x.s.alive t=true:=by unfold zfe at h;simp only[zFR]at h;exact h.2
theorem zlU(h:MI N m)(hx:MX2 A B m)(hA:A≤900000)(hB:B≤900000){p:Int}(hp:0≤p∧p<256){a b:Nat}:Con Tryz.prog 9 [.pt 0 [],.d (.z .u8 p)] (MM m a b) fun o m'=>o=.ret (I (zcQ m p))∧∃a2 b2,m'=MM (zbI m p) a2 b2:=by
 have hnow:=hx.now;have hev:=hx.ev;have hfl:=zfK h.fr;refine zzB hp ⟨hnow.1,by omega⟩ (by omega) (zFU h.q64 (by decide)) h.fr.ok (by omega) (by rw[h.n];exact h.hN.2) ?_ h.s hx.ts (fun t ht hal hb=>h.wok hx ht hb (zq6 hal)) (fun t ht hal hb _=>h.wbeg hx ht hb (zq6 hal)) (fun t c hw=>zBc hw) ?_ ?_ ?_
 ·intro y hy;have:=h.pp.mem_iff.1 (zF2.2 (.inr (zF2.2 (.inr (zF2.2 (.inr hy))))));have h1:=zee.1 this;have h2:=h.hN;omega
 ·cases hq:m.x.q with
  |nil=>
   have e:zdy m.x=m.x:=by unfold zdy;rw[hq]
   rw[e];exact(zej h).clr (zkv hx)
  |cons y l=>
   have h1:=(zsU h hq).1;refine⟨?_,(zej h1).run,zFU (zej h1).q64 (by decide)⟩;show zdA (zdy m.x).m;have e:(zdy m.x).m=m.x.m:=by unfold zdy;rw[hq]
   rw[e];exact hx.mks
 ·intro t ht hal;exact((zvj (zej h) ht (zq6 hal)).1).clr (zA7 (zkv hx))
 ·intro t ht hal;exact(zBg (zej h) ht).clr (zBh (zej h) (zkv hx) ht)
end
end Sx
namespace Sx
theorem zxz(f g:Nat→Bool):zvy Tryz.prog 56 (.ar 8 .c fun i=>.bo (f i)) (.ar 8 .c fun i=>.bo (g i)) (f 0==g 0&&(f 1==g 1&&(f 2==g 2&&(f 3==g 3&&(f 4==g 4&&(f 5==g 5&&(f 6==g 6&&f 7==g 7))))))):=by
 intro ro bl x y X Y w op hx hy;obtain⟨c1,h1,rfl⟩:=hx.1 rfl;obtain⟨c2,h2,rfl⟩:=hy.1 rfl;obtain⟨g1,rfl,k1⟩:=h1;obtain⟨g2,rfl,k2⟩:=h2;have e1:(List.range 8).flatMap g1=[.bool (f 0),.bool (f 1),.bool (f 2),.bool (f 3),.bool (f 4),.bool (f 5),.bool (f 6),.bool (f 7)]:=by show g1 0++(g1 1++(g1 2++(g1 3++(g1 4++(g1 5++(g1 6++(g1 7++[])))))))=_;rw[show g1 0=[.bool (f 0)] from(k1 0 (by decide)).2,show g1 1=[.bool (f 1)] from(k1 1 (by decide)).2,show g1 2=[.bool (f 2)] from(k1 2 (by decide)).2,show g1 3=[.bool (f 3)] from(k1 3 (by decide)).2,show g1 4=[.bool (f 4)] from(k1 4 (by decide)).2,show g1 5=[.bool (f 5)] from(k1 5 (by decide)).2,show g1 6=[.bool (f 6)] from(k1 6 (by decide)).2,show g1 7=[.bool (f 7)] from(k1 7 (by decide)).2];rfl
 have e2:(List.range 8).flatMap g2=[.bool (g 0),.bool (g 1),.bool (g 2),.bool (g 3),.bool (g 4),.bool (g 5),.bool (g 6),.bool (g 7)]:=by show g2 0++(g2 1++(g2 2++(g2 3++(g2 4++(g2 5++(g2 6++(g2 7++[])))))))=_;rw[show g2 0=[.bool (g 0)] from(k2 0 (by decide)).2,show g2 1=[.bool (g 1)] from(k2 1 (by decide)).2,show g2 2=[.bool (g 2)] from(k2 2 (by decide)).2,show g2 3=[.bool (g 3)] from(k2 3 (by decide)).2,show g2 4=[.bool (g 4)] from(k2 4 (by decide)).2,show g2 5=[.bool (g 5)] from(k2 5 (by decide)).2,show g2 6=[.bool (g 6)] from(k2 6 (by decide)).2,show g2 7=[.bool (g 7)] from(k2 7 (by decide)).2];rfl
 rw[e1,e2];refine⟨?_,?_⟩
 ·have hg:Tryz.prog.eqGuardType Tryz.prog.depth 56=false:=by kernel_rfl
  unfold eqGuard;cases op<;>simp[hg]
 ·have h4:∀w,(isAgg 4).run Tryz.prog w=.ok false w:=fun w=>by kernel_rfl
  have hs:∀w,(sizeOf 4).run Tryz.prog w=.ok 1 w:=fun w=>by kernel_rfl
  unfold Op.equal Op.maxDepth Op.equalIn;simp only[Sem.run_bind,run_underlying Tryz.underlying56,Result.andThen_ok,hs];rw[zHs];simp only[show(List.range' ([:8]:Std.Legacy.Range).start ([:8]:Std.Legacy.Range).size ([:8]:Std.Legacy.Range).step)=[0,1,2,3,4,5,6,7] from rfl,List.forIn_cons,List.forIn_nil];by_cases q0:f 0=g 0;rotate_left
  ·simp[part,h4,zew (d:=9998) Tryz.underlying4,q0]
  by_cases q1:f 1=g 1;rotate_left
  ·simp[part,h4,zew (d:=9998) Tryz.underlying4,q0,q1]
  by_cases q2:f 2=g 2;rotate_left
  ·simp[part,h4,zew (d:=9998) Tryz.underlying4,q0,q1,q2]
  by_cases q3:f 3=g 3;rotate_left
  ·simp[part,h4,zew (d:=9998) Tryz.underlying4,q0,q1,q2,q3]
  by_cases q4:f 4=g 4;rotate_left
  ·simp[part,h4,zew (d:=9998) Tryz.underlying4,q0,q1,q2,q3,q4]
  by_cases q5:f 5=g 5;rotate_left
  ·simp[part,h4,zew (d:=9998) Tryz.underlying4,q0,q1,q2,q3,q4,q5]
  by_cases q6:f 6=g 6;rotate_left
  ·simp[part,h4,zew (d:=9998) Tryz.underlying4,q0,q1,q2,q3,q4,q5,q6]
  by_cases q7:f 7=g 7;rotate_left
  ·simp[part,h4,zew (d:=9998) Tryz.underlying4,q0,q1,q2,q3,q4,q5,q6,q7]
  simp[part,h4,zew (d:=9998) Tryz.underlying4,q0,q1,q2,q3,q4,q5,q6,q7]
end Sx
namespace Sx
attribute [local irreducible] Con zax zan zau zai zaw zbt zak zaC zbh zba I64
section
variable {m:Mc} {a b:Nat}
theorem zqW(hq:m.x.q=[])(hA:∀i,i<8→m.x.s.alive i=false):Con Tryz.prog 20 [.pt 0 []] (MM m a b) fun o m'=>o=.ret (B true)∧m'=MM m a b:=by
 refine za3 Tryz.func20 rfl (by kernel_rfl) rfl rfl ?_;conv=>whnf
 refine zdO (v:=zl9 m.x) (zeB (m:=m) (a:=a) (b:=b) (by rw[hq];exact zFV _)) (fun _ h _=>h) ?_;conv=>whnf
 refine zBG (zxz m.x.s.alive fun _=>false) (fun _ h _=>h) ?_;conv=>whnf
 refine zdO (v:=zl9 m.x) (zeB (m:=m) (a:=a) (b:=b) (by rw[hq];exact zFV _)) (fun _ h _=>h) ?_;conv=>whnf
 refine⟨fun _=>zac (x:=((zL m.x.q).length:Int)) (by omega) (by rw[hq];decide),?_⟩;conv=>whnf
 refine⟨zaJ rfl (za6 rfl m.x a),?_,rfl⟩;rw[hA 0 (by decide),hA 1 (by decide),hA 2 (by decide),hA 3 (by decide),hA 4 (by decide),hA 5 (by decide),hA 6 (by decide),hA 7 (by decide),hq];rfl
end
end Sx
namespace Sx
structure Lst where
 n:Int
 ps:List ByteArray
 pk:ByteArray
def zaZ(l:Lst):D:=.pr (.z .i64 l.n) (.pr (.sl l.ps.length .c fun i=>.st (l.ps.getD i ByteArray.empty)) (.pr (.st l.pk) .un))
def zqc(l:Lst):Bool:=(decide ((l.ps.length:Int)>20)||decide ((l.pk.size:Int)>6000))||l.ps.any fun p=>decide ((p.size:Int)>1000)
attribute [local irreducible] Con zax zan zau zai zaw zbt zak zaC zbh zba I64
theorem zqO(l:Lst)(h1:I64 (l.ps.length:Int))(h2:I64 (l.pk.size:Int))(h3:∀p∈l.ps,I64 (p.size:Int)):zay Tryz.prog 54 [.d (zaZ l)] (B (zqc l)):=by
 refine zat Tryz.func54 rfl (by kernel_rfl) rfl rfl rfl ?_;conv=>whnf
 refine⟨h1,?_⟩;conv=>whnf
 refine⟨fun _=>h2,?_⟩;conv=>whnf
 refine⟨fun g1=>?_,fun g1=>?_⟩
 ·have g1:(decide ((l.ps.length:Int)>20)||decide ((l.pk.size:Int)>6000))=true:=g1;conv=>whnf
  exact⟨rfl,zae (by unfold zqc;rw[g1];rfl)⟩
 have g1:(decide ((l.ps.length:Int)>20)||decide ((l.pk.size:Int)>6000))=false:=g1;have hlen:l.ps.length≤20:=by simp only[zFM,zFO]at g1;omega
 conv=>whnf
 refine zaB zaa (fun i:Nat=>i≤l.ps.length∧∀p∈l.ps.take i,decide ((p.size:Int)>1000)=false) (fun i=>l.ps.length - i) (fun i=>[(3,I i)]) (fun _=>⟨[.d (zaZ l)],[],[]⟩) 0 ⟨zFV _,fun p hp=>by cases hp⟩ ⟨rfl,trivial⟩ rfl (fun i=>⟨zF5 _,zF5 _,zF5 _⟩) ?_;intro i ⟨hi,hall⟩;conv=>whnf
 refine⟨h1,?_⟩;conv=>whnf
 refine⟨fun ht=>?_,fun ht=>?_⟩
 ·have hlt:i<l.ps.length:=by
   have:(i:Int)<(l.ps.length:Int):=by simpa using ht
   omega
  have hg:l.ps.getD i ByteArray.empty=l.ps[i]'hlt:=by rw[zG9,zHa hlt];rfl
  have hmem:l.ps.getD i ByteArray.empty∈l.ps:=by rw[hg];exact zHd hlt
  conv=>whnf
  refine⟨⟨(by omega:(0:Int)≤(i:Int)),(by omega:(i:Int)<(l.ps.length:Int))⟩,?_⟩;conv=>whnf
  refine⟨h3 _ hmem,?_⟩;conv=>whnf
  refine⟨fun g2=>?_,fun g2=>?_⟩
  ·have g2:decide (((l.ps.getD i ByteArray.empty).size:Int)>1000)=true:=g2;conv=>whnf
   refine⟨rfl,zae ?_⟩;have:(l.ps.any fun p=>decide ((p.size:Int)>1000))=true:=zHt.2 ⟨_,hmem,g2⟩;unfold zqc;rw[this,zHu];rfl
  ·have g2:decide (((l.ps.getD i ByteArray.empty).size:Int)>1000)=false:=g2;conv=>whnf
   refine⟨zac (x:=(i:Int)+1) (by omega) (by omega),?_⟩;conv=>whnf
   refine⟨i+1,⟨hlt,fun p hp=>?_⟩,by omega,⟨rfl,trivial⟩,⟨rfl,rfl⟩,rfl⟩;rw[zHb,zHa hlt]at hp;rcases zF2.1 hp with hp|hp
   ·exact hall p hp
   ·have:p=l.ps[i]'hlt:=by simpa using hp
    rw[this,←hg];exact g2
 ·have hlt:i=l.ps.length:=by
   have:¬(i:Int)<(l.ps.length:Int):=by simpa using ht
   omega
  subst hlt;conv=>whnf
  refine⟨rfl,zae ?_⟩;rw[zHe]at hall;have:(l.ps.any fun p=>decide ((p.size:Int)>1000))=false:=by rw[Bool.eq_false_iff];intro h;obtain⟨p,hp,h2⟩:=zHt.1 h;rw[hall p hp]at h2;cases h2
  unfold zqc;rw[g1,this];rfl
end Sx
namespace Sx
def zqd(l:Lst):Bool:=zqc l||decide ((l.pk.size:Int)>1500)
attribute [local irreducible] Con zax zan zau zai zaw zbt zak zaC zbh zba I64
theorem zqP(l:Lst)(h1:I64 (l.ps.length:Int))(h2:I64 (l.pk.size:Int))(h3:∀p∈l.ps,I64 (p.size:Int)):zay Tryz.prog 22 [.d (zaZ l)] (B (zqd l)):=by
 refine zat Tryz.func22 rfl (by kernel_rfl) rfl rfl rfl ?_;conv=>whnf
 refine zad (zqO l h1 h2 h3) ?_;conv=>whnf
 refine⟨fun _=>h2,?_⟩;conv=>whnf
 exact⟨rfl,zae rfl⟩
end Sx
namespace Sx
theorem zep(s:ByteArray)(i:Int):0≤zaL s i∧zaL s i<256:=by unfold zaL;have:=(s.data.toList.getD i.toNat 0).toNat_lt;omega
def zcy(b:ByteArray)(k:Nat):ByteArray:=b.extract k b.size
theorem zfS(b:ByteArray)(k:Nat):(zcy b k).data.toList=b.data.toList.drop k:=by unfold zcy;rw[zHv,zHw,zHx];rw[zGN];rw[zGY];show b.data.size - k≤b.size - k;exact zF5 _
theorem zpH(b:ByteArray)(k:Nat):(zcy b k).size=b.size - k:=by have:=congrArg List.length (zfS b k);rw[zGY]at this;exact this
theorem zcM(b:ByteArray)(k j:Nat):zaL (zcy b k) (j:Int)=zaL b ((k+j:Nat):Int):=by unfold zaL;rw[zfS,zFC,zFC,zG9,zG9,zHy]
theorem zBi(b:ByteArray):zcy b 0=b:=by have:=zfS b 0;rw[zGX]at this;exact ByteArray.ext (Array.toList_inj.1 this)
theorem zti(b:ByteArray)(k:Nat):(zcy b k).extract 6 (zcy b k).size=zcy b (k+6):=by refine ByteArray.ext (Array.toList_inj.1 ?_);show(zcy (zcy b k) 6).data.toList=_;rw[zfS,zfS,zfS,zGV]
def znN(b:ByteArray)(i:Nat):Ins:=⟨zaL b (6*i:Nat),zaL b (6*i+1:Nat),zaL b (6*i+2:Nat),zaL b (6*i+3:Nat),zaL b (6*i+4:Nat)+256*zaL b (6*i+5:Nat)⟩
def zia(b:ByteArray)(n:Nat):List Ins:=(List.range n).map (znN b)
def zmc(b:ByteArray):List Ins:=zia b (b.size / 6)
theorem zuO(b:ByteArray)(i:Nat):InsOk (znN b i):=by have:=zep b (6*i+4:Nat);have:=zep b (6*i+5:Nat);exact⟨zep _ _,zep _ _,zep _ _,zep _ _,by show 0≤zaL b _+256*zaL b _;omega,by show zaL b _+256*zaL b _<65536;omega⟩
theorem zmd(b:ByteArray)(n:Nat):zia b (n+1)=zia b n++[znN b n]:=by unfold zia;rw[zFW,zF6];rfl
theorem zgG(b:ByteArray)(n:Nat):(zia b n).length=n:=by simp[zia]
theorem zrw(b:ByteArray):∀x∈zmc b,InsOk x:=fun x hx=>by obtain⟨i,_,rfl⟩:=zHg.1 hx;exact zuO b i
theorem zFh{a b:Int}(ha:0≤a∧a<256)(hb:0≤b∧b<256):zaC .or .u16 a (zbh .u16 b 8)=a+256*b:=by
 obtain⟨x,rfl⟩:=zHA ha.1;obtain⟨y,rfl⟩:=zHA hb.1;have e1:zbh .u16 (y:Int) 8=((256*y:Nat):Int):=by unfold zbh;rw[show(2:Int) ^(min (8:Int).toNat IntKind.u16.bits)=256 from rfl,zcC (zbL (by simp only[zcB];omega) (fun _=>by omega) (by simp only[zcB];omega))];omega
 rw[e1];unfold zaC;have e2:(BitVec.ofInt 16 (x:Int)|||BitVec.ofInt 16 ((256*y:Nat):Int)).toNat=x+256*y:=by rw[zHB,zHB,BitVec.toNat_or,BitVec.toNat_ofNat,BitVec.toNat_ofNat,zHC (by omega),zHC (by omega),Nat.or_comm,←Nat.two_pow_add_eq_or_of_lt (i:=8) (by omega) y];omega
 show IntKind.u16.wrap ((BitVec.ofInt 16 (x:Int)|||BitVec.ofInt 16 ((256*y:Nat):Int)).toNat:Int)=_;rw[e2,zcC (zbL (by simp only[zcB];omega) (fun _=>by omega) (by simp only[zcB];omega))];omega
def ziN(x:Ins):D:=.pr (.z .i64 x.op) (.pr (.z .i64 x.a) (.pr (.z .i64 x.b) (.pr (.z .i64 x.c) (.pr (.z .i64 x.n) .un))))
def tI5:Ty:=(ziN zh0).shape
def zxb(n:Nat)(x:Ins):Bool:=(((((decide (x.op>6)&&decide (x.op<17))||decide (x.op>38))||decide (x.a>7))||decide (x.b>7))||decide (x.c>7))||(((x.op==5)||(x.op==6))&&decide (x.n≥(n:Int)))
def zf3(l:List Ins):Bool:=!decide ((l.length:Int)>64)&&!(l.any (zxb l.length))
attribute [local irreducible] Con zax zan zau zai zaw zbt zak zaC zbh zba I64
theorem zkF{α:Type}{p:α→Bool}{l:List α}{i:Nat}(hi:i<l.length){z:α}(h:∀x∈l.take i,p x=false)(hp:p (l.getD i z)=false):∀x∈l.take (i+1),p x=false:=fun x hx=>by
 have hg:l.getD i z=l[i]'hi:=by rw[zG9,zHa hi];rfl
 rw[zHb,zHa hi]at hx;rcases zF2.1 hx with hx|hx
 ·exact h x hx
 ·have:x=l[i]'hi:=by simpa using hx
  rw[this,←hg];exact hp
theorem zq8{α:Type}{p:α→Bool}{l:List α}(h:∀x∈l.take l.length,p x=false):l.any p=false:=by rw[zHe]at h;rw[Bool.eq_false_iff];intro hh;obtain⟨x,hx,h2⟩:=zHt.1 hh;rw[h x hx]at h2;cases h2
theorem znl{α:Type}{p:α→Bool}{l:List α}{i:Nat}(hi:i<l.length){z:α}(hp:p (l.getD i z)=true):l.any p=true:=by
 have hg:l.getD i z=l[i]'hi:=by rw[zG9,zHa hi];rfl
 exact zHt.2 ⟨_,zHd hi,hg▸hp⟩
theorem zwV(l:List Ins)(h:I64 (l.length:Int)):zay Tryz.prog 102 [.d (sls tI5 (l.map ziN))] (B (zf3 l)):=by
 refine zay.le (b:=[.d (.sl l.length tI5 fun i=>ziN (l.getD i zh0))]) ?_ ⟨zbZ tI5 ziN zh0 l,trivial⟩;refine zat Tryz.func102 rfl (by kernel_rfl) rfl rfl rfl ?_;conv=>whnf
 refine⟨h,?_⟩;conv=>whnf
 refine⟨fun g1=>?_,fun g1=>?_⟩
 ·have g1:decide ((l.length:Int)>64)=true:=g1;conv=>whnf
  exact⟨rfl,zae (by unfold zf3;rw[g1];rfl)⟩
 have g1:decide ((l.length:Int)>64)=false:=g1;have hlen:l.length≤64:=by have:=zFK g1;omega
 conv=>whnf
 refine zaB zaa (fun i:Nat=>i≤l.length∧∀p∈l.take i,zxb l.length p=false) (fun i=>l.length - i) (fun i=>[(3,I i)]) (fun _=>⟨[],[],[]⟩) 0 ⟨zFV _,fun p hp=>by cases hp⟩ ⟨rfl,trivial⟩ rfl (fun i=>⟨zF5 _,zF5 _,zF5 _⟩) ?_;intro i ⟨hi,hall⟩;conv=>whnf
 refine⟨h,?_⟩;conv=>whnf
 refine⟨fun ht=>?_,fun ht=>?_⟩
 ·have hlt:i<l.length:=by
   have:(i:Int)<(l.length:Int):=by simpa using ht
   omega
  conv=>whnf
  refine⟨⟨(by omega:(0:Int)≤(i:Int)),(by omega:(i:Int)<(l.length:Int))⟩,?_⟩;conv=>whnf
  refine⟨fun _ _=>h,?_⟩;conv=>whnf
  refine⟨fun g2=>?_,fun g2=>?_⟩
  ·have g2:zxb l.length (l.getD i zh0)=true:=g2;conv=>whnf
   refine⟨rfl,zae ?_⟩;unfold zf3;rw[znl hlt g2,zGB,zHD];rfl
  ·have g2:zxb l.length (l.getD i zh0)=false:=g2;conv=>whnf
   refine⟨zac (x:=(i:Int)+1) (by omega) (by omega),?_⟩;conv=>whnf
   exact⟨i+1,⟨hlt,zkF hlt hall g2⟩,by omega,⟨rfl,trivial⟩,⟨rfl,rfl⟩,rfl⟩
 ·have hlt:i=l.length:=by
   have:¬(i:Int)<(l.length:Int):=by simpa using ht
   omega
  subst hlt;conv=>whnf
  refine⟨rfl,zae ?_⟩;unfold zf3;rw[g1,zq8 hall];rfl
def zpk(b:ByteArray):Bool:=!(decide (((b.size % 6:Nat):Int)>0)||!zf3 (zmc b))
theorem zpR(b:ByteArray)(h:b.size≤1000000):zay Tryz.prog 55 [.d (.st b)] (T2 (bif zpk b then .d (sls tI5 ((zmc b).map ziN))else zqE .c (za4 [])) (B (zpk b))):=by
 refine zat Tryz.func55 rfl (by kernel_rfl) rfl rfl rfl ?_;conv=>whnf
 refine zcJ 4 tI5 (za4 []) rfl ?_;refine zaB zaa (fun i:Nat=>6*i≤b.size) (fun i=>b.size - 6*i) (fun i=>[(0,.d (.st (zcy b (6*i)))),(4,owl 1 i tI5 ((zia b i).map ziN))]) (fun i=>⟨[],[i],[]⟩) 0 (zFV _) ⟨by rw[Nat.mul_zero,zBi];rfl,rfl,trivial⟩ rfl (fun i=>⟨zF5 _,zF5 _,zF5 _⟩) ?_;intro i hi;have hsz:=zpH b (6*i);conv=>whnf
 refine⟨zac (x:=((zcy b (6*i)).size:Int)) (by omega) (by omega),?_⟩;conv=>whnf
 refine⟨fun ht=>?_,fun ht=>?_⟩
 ·have hlt:6*i+6≤b.size:=by
   have:((zcy b (6*i)).size:Int)≥6:=by simpa using ht
   omega
  have hb:=fun j=>zep (zcy b (6*i)) j;conv=>whnf
  refine zaA zaa (by kernel_rfl) (List.range 25) [(22,1),(23,0)] (by kernel_rfl) ?_;conv=>whnf
  refine⟨⟨(by decide:(0:Int)≤0),(by omega:(0:Int)<((zcy b (6*i)).size:Int))⟩,?_⟩;conv=>whnf
  refine⟨⟨(by decide:(0:Int)≤1),(by omega:(1:Int)<((zcy b (6*i)).size:Int))⟩,?_⟩;conv=>whnf
  refine⟨⟨(by decide:(0:Int)≤2),(by omega:(2:Int)<((zcy b (6*i)).size:Int))⟩,?_⟩;conv=>whnf
  refine⟨⟨(by decide:(0:Int)≤3),(by omega:(3:Int)<((zcy b (6*i)).size:Int))⟩,?_⟩;conv=>whnf
  refine⟨⟨(by decide:(0:Int)≤4),(by omega:(4:Int)<((zcy b (6*i)).size:Int))⟩,?_⟩;conv=>whnf
  refine⟨⟨(by decide:(0:Int)≤5),(by omega:(5:Int)<((zcy b (6*i)).size:Int))⟩,?_⟩;conv=>whnf
  have b4:=hb 4;have b5:=hb 5;refine⟨zac (x:=256*zaL (zcy b (6*i)) 5) (by omega) (by omega),?_⟩;conv=>whnf
  refine⟨zac (x:=zaL (zcy b (6*i)) 4+256*zaL (zcy b (6*i)) 5) (by omega) (by omega),?_⟩;conv=>whnf
  refine Or.inl ?_;conv=>whnf
  conv=>whnf
  have hlen:((zia b i).map ziN).length=i:=by rw[zFH,zgG]
  refine⟨⟨rfl,by rw[hlen];omega⟩,?_⟩;conv=>whnf
  refine⟨⟨(by decide:(0:Int)≤6),(by omega:(6:Int)≤((zcy b (6*i)).size:Int)),(by omega:((zcy b (6*i)).size:Int)≤((zcy b (6*i)).size:Int))⟩,?_⟩;conv=>whnf
  refine⟨i+1,(by omega:6*(i+1)≤b.size),by omega,⟨?_,?_,trivial⟩,⟨rfl,rfl⟩,rfl⟩
  ·exact congrArg (fun s=>some (SV.d (.st s))) (zti b (6*i))
  ·have e:ziN ⟨zaL (zcy b (6*i)) 0,zaL (zcy b (6*i)) 1,zaL (zcy b (6*i)) 2,zaL (zcy b (6*i)) 3,zaL (zcy b (6*i)) 4+256*zaL (zcy b (6*i)) 5⟩=ziN (znN b i):=by have h0:zaL (zcy b (6*i)) 0=zaL b (6*i:Nat):=zcM b (6*i) 0;unfold znN;rw[h0,←zcM b (6*i) 1,←zcM b (6*i) 2,←zcM b (6*i) 3,←zcM b (6*i) 4,←zcM b (6*i) 5];rfl
   rw[zmd,zF6,←zcq];show some (SV.ow 1 (i+1) _ tI5 (zdc _ (za4 ((zia b i).map ziN)) (za4 [ziN ⟨zaL (zcy b (6*i)) 0,zaL (zcy b (6*i)) 1,zaL (zcy b (6*i)) 2,zaL (zcy b (6*i)) 3,zaL (zcy b (6*i)) 4+256*zaL (zcy b (6*i)) 5⟩])))=_;rw[e];rfl
 ·have hge:b.size<6*i+6:=by
   have:¬((zcy b (6*i)).size:Int)≥6:=by simpa using ht
   omega
  have hi6:b.size / 6=i:=by omega
  have hmod:b.size % 6=(zcy b (6*i)).size:=by omega
  have hd:zmc b=zia b i:=by unfold zmc;rw[hi6]
  conv=>whnf
  refine⟨zac (x:=((zcy b (6*i)).size:Int)) (by omega) (by omega),?_⟩;conv=>whnf
  refine zam ((zwV (zia b i) (by rw[zgG];exact zac (by omega) (by omega))).le ⟨zlo _ _ _ _ _,trivial⟩) (fun _ h _=>h) ?_;conv=>whnf
  refine⟨fun g=>?_,fun g=>?_⟩
  ·have g:(decide (((zcy b (6*i)).size:Int)>0)||!zf3 (zia b i))=true:=g;conv=>whnf
   refine⟨rfl,?_⟩;have e:zpk b=false:=by unfold zpk;rw[hmod,hd,g];rfl
   rw[e];exact zae rfl
  ·have g:(decide (((zcy b (6*i)).size:Int)>0)||!zf3 (zia b i))=false:=g;conv=>whnf
   have e:zpk b=true:=by unfold zpk;rw[hmod,hd,g];rfl
   rw[e,hd];exact⟨rfl,zae rfl⟩
end Sx
namespace Sx
def ztD(l:Lst):Bool:=(((decide (l.n<1)||decide (l.n>64))||decide ((l.ps.length:Int)<1))||decide ((l.ps.length:Int)>8))||decide ((l.pk.size:Int)>4000)
def zhA(x:Int):Bool:=(decide (x>8)&&decide (x<16))||decide (x>23)
def pkL(s:ByteArray):List Int:=(List.range s.size).map fun i:Nat=>zaL s i
def zlh(l:Lst):Bool:=!ztD l&&(!(l.ps.any fun p=>!zpk p)&&!((pkL l.pk).any zhA))
theorem zlt(s:ByteArray):(pkL s).length=s.size:=by simp[pkL]
theorem zn7(s:ByteArray){i:Nat}(h:i<s.size):(pkL s).getD i 0=zaL s i:=by unfold pkL;rw[zG9,zHz,List.getElem?_range h];rfl
attribute [local irreducible] Con zax zan zau zai zaw zbt zak zaC zbh zba I64
theorem zwW(l:Lst)(h1:l.ps.length≤20)(h2:l.pk.size≤6000)(h3:∀p∈l.ps,p.size≤1000):zay Tryz.prog 23 [.d (zaZ l)] (B (zlh l)):=by
 have i1:I64 (l.ps.length:Int):=zac (by omega) (by omega);have i2:I64 (l.pk.size:Int):=zac (by omega) (by omega);refine zat Tryz.func23 rfl (by kernel_rfl) rfl rfl rfl ?_;conv=>whnf
 refine⟨fun _=>i1,?_⟩;conv=>whnf
 refine⟨fun _=>i1,?_⟩;conv=>whnf
 refine⟨fun _=>i2,?_⟩;conv=>whnf
 refine⟨fun g1=>?_,fun g1=>?_⟩
 ·have g1:ztD l=true:=g1;conv=>whnf
  exact⟨rfl,zae (by unfold zlh;rw[g1];rfl)⟩
 have g1:ztD l=false:=g1;conv=>whnf
 refine zaB zaa (fun i:Nat=>i≤l.ps.length∧∀p∈l.ps.take i,(!zpk p)=false) (fun i=>l.ps.length - i) (fun i=>[(3,I i)]) (fun _=>⟨[.d (zaZ l)],[],[]⟩) 0 ⟨zFV _,fun p hp=>by cases hp⟩ ⟨rfl,trivial⟩ rfl (fun i=>⟨zF5 _,zF5 _,zF5 _⟩) ?_;intro i ⟨hi,hall⟩;conv=>whnf
 refine⟨i1,?_⟩;conv=>whnf
 refine⟨fun ht=>?_,fun ht=>?_⟩
 ·have hlt:i<l.ps.length:=by
   have:(i:Int)<(l.ps.length:Int):=by simpa using ht
   omega
  have hmem:l.ps.getD i ByteArray.empty∈l.ps:=by rw[zG9,zHa hlt];exact zHd hlt
  have hz:=h3 _ hmem;conv=>whnf
  refine⟨⟨(by omega:(0:Int)≤(i:Int)),(by omega:(i:Int)<(l.ps.length:Int))⟩,?_⟩;conv=>whnf
  refine zad (zpR (l.ps.getD i ByteArray.empty) (by omega)) ?_;conv=>whnf
  refine⟨fun g2=>?_,fun g2=>?_⟩
  ·have g2:(!zpk (l.ps.getD i ByteArray.empty))=true:=g2;conv=>whnf
   refine⟨rfl,zae ?_⟩;unfold zlh;rw[znl (p:=fun p=>!zpk p) hlt g2,zGB,Bool.false_and,zHD];rfl
  ·have g2:(!zpk (l.ps.getD i ByteArray.empty))=false:=g2;conv=>whnf
   refine⟨zac (x:=(i:Int)+1) (by omega) (by omega),?_⟩;conv=>whnf
   exact⟨i+1,⟨hlt,zkF (p:=fun p=>!zpk p) hlt hall g2⟩,by omega,⟨rfl,trivial⟩,⟨rfl,rfl⟩,rfl⟩
 ·have hlt:i=l.ps.length:=by
   have:¬(i:Int)<(l.ps.length:Int):=by simpa using ht
   omega
  subst hlt;have e1:=zq8 hall;conv=>whnf
  refine zaB zaa (fun i:Nat=>i≤l.pk.size∧∀p∈(pkL l.pk).take i,zhA p=false) (fun i=>l.pk.size - i) (fun i=>[(6,I i)]) (fun _=>⟨[.d (zaZ l)],[],[]⟩) 0 ⟨zFV _,fun p hp=>by cases hp⟩ ⟨rfl,trivial⟩ rfl (fun i=>⟨zF5 _,zF5 _,zF5 _⟩) ?_;intro i ⟨hi,hall⟩;conv=>whnf
  refine⟨i2,?_⟩;conv=>whnf
  refine⟨fun ht=>?_,fun ht=>?_⟩
  ·have hlt:i<l.pk.size:=by
    have:(i:Int)<(l.pk.size:Int):=by simpa using ht
    omega
   have hlt2:i<(pkL l.pk).length:=by rw[zlt];exact hlt
   conv=>whnf
   refine⟨⟨(by omega:(0:Int)≤(i:Int)),(by omega:(i:Int)<(l.pk.size:Int))⟩,?_⟩;conv=>whnf
   refine⟨fun g2=>?_,fun g2=>?_⟩
   ·have g2:zhA (zaL l.pk i)=true:=g2;rw[←zn7 _ hlt]at g2;conv=>whnf
    refine⟨rfl,zae ?_⟩;unfold zlh;rw[znl hlt2 g2,zGB,zHD,zHD];rfl
   ·have g2:zhA (zaL l.pk i)=false:=g2;rw[←zn7 _ hlt]at g2;conv=>whnf
    refine⟨zac (x:=(i:Int)+1) (by omega) (by omega),?_⟩;conv=>whnf
    exact⟨i+1,⟨hlt,zkF hlt2 hall g2⟩,by omega,⟨rfl,trivial⟩,⟨rfl,rfl⟩,rfl⟩
  ·have hlt:i=l.pk.size:=by
    have:¬(i:Int)<(l.pk.size:Int):=by simpa using ht
    omega
   subst hlt;rw[←zlt]at hall;have e2:=zq8 hall;conv=>whnf
   refine⟨rfl,zae ?_⟩;unfold zlh;rw[g1,e1,e2];rfl
def zpc(l:Lst):Bool:=zqd l||!zlh l
theorem zv1{l:Lst}(h:zqd l=false):l.ps.length≤20∧l.pk.size≤1500∧∀p∈l.ps,p.size≤1000:=by unfold zqd zqc at h;simp only[zFM,zFO]at h;obtain⟨⟨⟨a,_⟩,c⟩,d⟩:=h;refine⟨by omega,by omega,fun p hp=>?_⟩;have:=zHE.1 c p hp;simp only[zFS]at this;omega
theorem zxM(l:Lst)(h1:I64 (l.ps.length:Int))(h2:I64 (l.pk.size:Int))(h3:∀p∈l.ps,I64 (p.size:Int)):zay Tryz.prog 5 [.d (zaZ l)] (B (zpc l)):=by
 refine zat Tryz.func5 rfl (by kernel_rfl) rfl rfl rfl ?_;conv=>whnf
 refine zad (zqP l h1 h2 h3) ?_;conv=>whnf
 refine zsN (B (zlh l)) (fun hg=>?_) ?_
 ·have hg:zqd l=false:=hg;obtain⟨g1,g2,g3⟩:=zv1 hg;exact zwW l g1 (by omega) g3
 conv=>whnf
 exact⟨rfl,zae rfl⟩
end Sx
end Go.Proofs.YtfbhkfhbnkncoaaGreatDoor
