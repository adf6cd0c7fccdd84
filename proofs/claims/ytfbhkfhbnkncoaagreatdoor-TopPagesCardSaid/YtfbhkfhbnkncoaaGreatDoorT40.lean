import Derived.Test.YtfbhkfhbnkncoaaGreatDoorT39
set_option linter.all false
set_option maxRecDepth 100000
set_option maxHeartbeats 4000000
namespace Go.Proofs.YtfbhkfhbnkncoaaGreatDoor
open Go.RowKit
namespace Sx
def sl0:Slot:=⟨0,false,false⟩
def st0:St:=⟨⟨fun _=>sl0,fun _=>rg0⟩,fun _=>⟨0,ow0⟩,⟨fun _=>sl0,fun _=>tk0⟩,fun _=>⟨fun _=>mz,0,0,false⟩,zaq (fun _=>false) 0 true,zaq (fun _=>false) 0 true⟩
theorem zpr(x:Int):zah (fun _=>sl0) x=false:=by unfold zah;simp[sl0]
theorem zn3:zcE (fun _=>sl0)=[]:=by rw[zhr];decide
theorem zA9:SInv st0:=by
 have hup:∀x,upT st0.t x=0:=fun x=>by unfold upT;show(bif zah (fun _=>sl0) _ then _ else(0:Int))=0;rw[zpr];rfl
 have hRg:RgI rg0:=⟨by decide,by decide,(fun y hy=>by cases hy),by decide,rfl⟩;have hb:zlK (fun _=>sl0):=fun i _=>(show(0:Int)≤0∧(0:Int)≤8388607 by decide);have hr:zg7 (fun _=>sl0):=fun i _ h=>by cases h
 refine⟨⟨fun _=>0,⟨⟨hb,hr,fun i _=>(show(0:Int)≤0∧(0:Int)<4294967296 by decide)⟩,fun _ _ _=>rfl,fun _ _=>.inl rfl,fun _=>zFV _,fun x hx=>absurd (hup x) hx,fun _ _=>rfl,fun _ _=>hRg⟩⟩,⟨hb,hr,fun _ _=>rfl,⟨⟨fun _=>0,1,fun _=>zF9 _,fun x y _ hy=>?_⟩,fun x y hy=>?_⟩,fun y hy=>?_⟩,⟨fun x hx=>?_,?_,?_,fun _ _ _=>rfl,fun a _=>⟨⟨(show(0:Int)≤0 by decide),(show(0:Int)<4 by decide),(show(0:Int)≤0 by decide),(show(0:Int)≤4 by decide)⟩,fun m hm=>?_⟩⟩⟩
 ·unfold zdg zaN at hy;have hy:=(zGH.1 hy).1;rw[show zcE st0.k.b=[] from zn3]at hy;cases hy
 ·unfold zdg zaN at hy;have hy:=(zGH.1 hy).1;rw[show zcE st0.k.b=[] from zn3]at hy;cases hy
 ·rw[show zcE st0.k.b=[] from zn3]at hy;cases hy
 ·have:=hx.1.2;rw[show zah st0.t.b x=false from zpr x]at this;cases this
 ·rw[zG4,show FL st0.box=[] from rfl];exact zHV
 ·intro x hx;rw[zG4,show FL st0.box=[] from rfl]at hx;cases hx
 ·rw[show zfb (st0.box a)=[] from rfl]at hm;cases hm
def mc0(n:Int)(code:Nat→List Ins):Mc:=⟨⟨st0,pl0 n,fun _=>⟨0,0,fun _=>0⟩,[]⟩,fun i=>⟨⟨code i,0,fun _=>0⟩,rt0,false,0⟩,0,[]⟩
theorem zwg{n:Int}(h:1≤n∧n≤64):ofR n=[⟨0,n⟩]:=by unfold ofR;rw[zFT (show¬(64:Int)<n by omega)];show(bif decide (n<1)then[]else[(⟨0,n⟩:Rn)])=_;rw[zFT (show¬n<1 by omega)];rfl
theorem zst{n:Int}(h:1≤n∧n≤64)(code:Nat→List Ins):MI n (mc0 n code)∧zlL (mc0 n code):=by
 have hR:zbd ⟨0,n⟩:=by unfold zbd;simp only;omega
 refine⟨⟨h,rfl,?_,zA9,fun _ _=>.inl rfl,fun i _=>zlD i rfl rfl,?_⟩,fun i _ hb=>by cases hb⟩
 ·show FreeOk (ofR n);rw[zwg h];exact⟨List.pairwise_singleton _ _,fun y hy=>by rw[zHW.1 hy];exact hR⟩
 ·show(pgs (ofR n)++(zch st0.t++(zjW (mc0 n code).ts++[]))).Perm (zjF n);rw[zwg h,show zch st0.t=[] from rfl,show zjW (mc0 n code).ts=[] from rfl,zHm,zHm,zHm];unfold pgs pg zjF;simp
def zm4(l:Line):List Int:=(List.range l.n.toNat).map l.wait
structure LnOk (l:Line):Prop where
 n0:0≤l.n
 n1:l.n≤8
 nd:(zm4 l).Nodup
 el:∀x∈zm4 l,0≤x∧x<8
theorem zmw{x:Nat→Int}{v:Int}:∀{k i:Nat},(zmv x v i k= -1∧∀j,i≤j→j<i+k→x j≠v)∨∃j,zmv x v i k=(j:Nat)∧i≤j∧j<i+k∧x j=v
 |0,i=>.inl ⟨rfl,fun j h1 h2=>by omega⟩
 |k+1,i=>by
  unfold zmv;cases hq:(v==x i)with
  |true=>exact .inr ⟨i,rfl,zF5 _,by omega,(zGG.1 hq).symm⟩
  |false=>
   have hne:x i≠v:=fun e=>by rw[e]at hq;simp at hq
   rcases zmw (x:=x) (v:=v) (k:=k) (i:=i+1)with⟨h1,h2⟩|⟨j,h1,h2,h3,h4⟩
   ·refine .inl ⟨h1,fun j g1 g2=>?_⟩;by_cases c:j=i
    ·rw[c];exact hne
    ·exact h2 j (by omega) (by omega)
   ·exact .inr ⟨j,h1,by omega,by omega,h4⟩
theorem zfO(l:Line){t:Int}(h0:0≤t)(h8:t<8):(zde l t= -1∧t∉zm4 l)∨∃j:Nat,zde l t=j∧j<l.n.toNat∧l.wait j=t:=by
 unfold zde zmu;rw[zjt h0 (by omega)];rcases zmw (x:=l.wait) (v:=t) (k:=l.n.toNat) (i:=0)with⟨h1,h2⟩|⟨j,h1,h2,h3,h4⟩
 ·refine .inl ⟨h1,fun hm=>?_⟩;obtain⟨j,hj,e⟩:=zHg.1 hm;exact h2 j (zFV _) (by have:=zF1.1 hj;omega) e
 ·exact .inr ⟨j,h1,by omega,h4⟩
theorem zAw{l:Line}(h0:0≤l.n)(h8:l.n≤8)(hi:∀a b,a<l.n.toNat→b<l.n.toNat→l.wait a=l.wait b→a=b)(he:∀a,a<l.n.toNat→0≤l.wait a∧l.wait a<8):LnOk l:=
 ⟨h0,h8,zdN (fun a ha b hb e=>hi a b (zF1.1 ha) (zF1.1 hb) e) zID,fun x hx=>by
  obtain⟨a,ha,rfl⟩:=zHg.1 hx;exact he a (zF1.1 ha)⟩
theorem zv8{l:Line}(h:LnOk l){a b:Nat}(ha:a<l.n.toNat)(hb:b<l.n.toNat)(e:l.wait a=l.wait b):a=b:=by
 have hn:=h.nd;unfold zm4 at hn;unfold List.Nodup at hn;rw[List.pairwise_iff_getElem]at hn;have key:∀a b,a<b→b<l.n.toNat→l.wait a≠l.wait b:=fun a b hab hb e=>by refine hn a b (by simp;omega) (by simpa using hb) hab ?_;simp[e]
 rcases Nat.lt_trichotomy a b with h|h|h
 ·exact absurd e (key a b h hb)
 ·exact h
 ·exact absurd e.symm (key b a h ha)
theorem zAu{l:Line}(h:LnOk l){a:Nat}(ha:a<l.n.toNat):0≤l.wait a∧l.wait a<8:=h.el _ (zHg.2 ⟨a,zF1.2 ha,rfl⟩)
theorem zBt{l:Line}(h:LnOk l){t:Int}(h0:0≤t)(h8:t<8):LnOk (woM l t):=by
 unfold woM;rcases zfO l h0 h8 with⟨e,_⟩|⟨j,e,hj,hw⟩
 ·rw[e];exact h
 ·rw[e,zFT (by omega)];have hn0:=h.n0;have hn1:=h.n1;show LnOk ⟨l.has,l.n - 1,zaq (fun i=>bif Nat.ble ((j:Int)).toNat i&&Nat.blt i 7 then l.wait (i+1)else l.wait i) (l.n - 1).toNat 0⟩;generalize hW:zaq (fun i=>bif Nat.ble ((j:Int)).toNat i&&Nat.blt i 7 then l.wait (i+1)else l.wait i) (l.n - 1).toNat 0=W;have hv:∀a,a<(l.n - 1).toNat→W a=l.wait (if j≤a then a+1 else a):=fun a ha=>by
   rw[←hW,zaf (by omega),zFC];show(bif Nat.ble j a&&Nat.blt a 7 then l.wait (a+1)else l.wait a)=_;by_cases c:j≤a
   ·rw[zHN c,show Nat.blt a 7=true from zHN (by omega),if_pos c];rfl
   ·have:Nat.ble j a=false:=by
     cases hq:Nat.ble j a with
     |false=>rfl
     |true=>exact absurd (zFG hq) c
    rw[this,if_neg c];rfl
  refine zAw (by show 0≤l.n - 1;omega) (by show l.n - 1≤8;omega) (fun a b ha hb e=>?_) fun a ha=>?_
  ·have ha:a<(l.n - 1).toNat:=ha;have hb:b<(l.n - 1).toNat:=hb;have e:W a=W b:=e;rw[hv a ha,hv b hb]at e;have:=zv8 h (a:=if j≤a then a+1 else a) (b:=if j≤b then b+1 else b) (by split<;>omega) (by split<;>omega) e;split at this<;>split at this<;>omega
  ·have ha:a<(l.n - 1).toNat:=ha;show 0≤W a∧W a<8;rw[hv a ha];exact zAu h (by split<;>omega)
theorem zAv{l:Line}(h:LnOk l){t:Int}(h0:0≤t)(h8:t<8)(hn:t∉zm4 l):l.n<8:=by
 have h1:(t::zm4 l).Nodup:=zIp.2 ⟨hn,h.nd⟩;have h2:=zi7 (m:=zjF 8) h1 fun x hx=>by
  rcases zGm.1 hx with rfl|hx
  ·exact zee.2 ⟨h0,h8⟩
  ·exact zee.2 (h.el x hx)
 have h3:(zm4 l).length=l.n.toNat:=by unfold zm4;simp
 have h4:(zjF 8).length=8:=by decide
 rw[zFI,h3,h4]at h2;have:=h.n0;omega
theorem zv2{l:Line}(h:LnOk l)(k:Int):LnOk {l with has:=k}:=⟨h.n0,h.n1,h.nd,h.el⟩
def zdA(m:Nat→Line):Prop:=∀i,i<32→LnOk (m i)
theorem zpq{m:Nat→Line}(h:zdA m){i:Nat}{l:Line}(hl:LnOk l):zdA (zaq m i l):=fun j hj=>by
 by_cases c:j=i
 ·rw[c,zag];exact hl
 ·rw[zaf c];exact h j hj
theorem zi3{s t:Int}(h:zmC s t=true):(0≤s∧s<32)∧0≤t∧t<8:=by unfold zmC at h;simp only[zFR,zFS]at h;omega
theorem zBl{m:Nat→Line}(h:zdA m)(s t:Int):zdA (ztq m s t):=by
 unfold ztq;cases hm:zmC s t with
 |false=>exact h
 |true=>
  obtain⟨hs,h0,h8⟩:=zi3 hm;have hl:=h s.toNat (by omega);show zdA (bif (m s.toNat).has==t+1 then m else _);cases((m s.toNat).has==t+1)with
  |true=>exact h
  |false=>
   show zdA (bif zzi (m s.toNat) t then _ else _);cases zzi (m s.toNat) t with
   |true=>exact zpq h (zv2 (zBt hl h0 h8) _)
   |false=>
    show zdA (bif decide (zde (m s.toNat) t<0)then _ else m);rcases zfO (m s.toNat) h0 h8 with⟨e,hn⟩|⟨j,e,hj,hw⟩
    ·rw[e];have hlt:=zAv hl h0 h8 hn;have hn0:=hl.n0;refine zpq h ?_;rw[zjt h0 (by omega)];generalize hW:zaq (m s.toNat).wait (m s.toNat).n.toNat t=W;have hv:∀a,a<(m s.toNat).n.toNat+1→W a=if a=(m s.toNat).n.toNat then t else(m s.toNat).wait a:=fun a ha=>by
      by_cases c:a=(m s.toNat).n.toNat
      ·rw[←hW,if_pos c,c,zag]
      ·rw[←hW,if_neg c,zaf c]
     have hne:∀a,a<(m s.toNat).n.toNat→(m s.toNat).wait a≠t:=fun a ha e=>hn (zHg.2 ⟨a,zF1.2 ha,e⟩);refine zAw (by show 0≤(m s.toNat).n+1;omega) (by show(m s.toNat).n+1≤8;omega) (fun a b ha hb e=>?_) fun a ha=>?_
     ·have ha:a<((m s.toNat).n+1).toNat:=ha;have hb:b<((m s.toNat).n+1).toNat:=hb;have e:W a=W b:=e;rw[hv a (by omega),hv b (by omega)]at e;by_cases c1:a=(m s.toNat).n.toNat<;>by_cases c2:b=(m s.toNat).n.toNat
      ·omega
      ·rw[if_pos c1,if_neg c2]at e;exact absurd e.symm (hne b (by omega))
      ·rw[if_neg c1,if_pos c2]at e;exact absurd e (hne a (by omega))
      ·rw[if_neg c1,if_neg c2]at e;exact zv8 hl (by omega) (by omega) e
     ·have ha:a<((m s.toNat).n+1).toNat:=ha;show 0≤W a∧W a<8;rw[hv a (by omega)];by_cases c:a=(m s.toNat).n.toNat
      ·rw[if_pos c];exact⟨h0,h8⟩
      ·rw[if_neg c];exact zAu hl (by omega)
    ·rw[e,zFT (by omega)];exact h
theorem zk1{m:Nat→Line}(h:zdA m)(s t:Int):zdA (zjI m s t):=by
 unfold zjI;cases hq:zzb m s t with
 |false=>exact h
 |true=>
  unfold zzb at hq;simp only[zFR]at hq;exact zpq h (zv2 (h _ (by have:=zi3 hq.1;omega)) _)
theorem zuH{m:Nat→Line}(h:zdA m)(t:Int)(i:Nat):zdA (zfl t m i):=by
 unfold zfl;cases hm:zmC i t with
 |false=>exact zk1 h _ _
 |true=>
  obtain⟨hs,h0,h8⟩:=zi3 hm;exact zpq (zk1 h _ _) (zBt (zk1 h _ _ i (by omega)) h0 h8)
theorem zgN(t:Int):∀(l:List Nat) {m:Nat→Line},zdA m→zdA (l.foldl (zfl t) m)
 |[],_,h=>h
 |i::l,_,h=>zgN t l (zuH h t i)
structure InsOk (x:Ins):Prop where
 op:0≤x.op∧x.op<256
 a:0≤x.a∧x.a<256
 b:0≤x.b∧x.b<256
 c:0≤x.c∧x.c<256
 n:0≤x.n∧x.n<65536
structure TskOk (t:Tsk):Prop where
 len:t.code.length≤64
 ins:∀x∈t.code,InsOk x
 n0:0≤t.next
 n1:t.next≤65536
structure RtX (c:Rt):Prop where
 rg:c.regs.length≤64
 c0:0≤c.clr
 c1:c.clr≤c.run.n
structure MX2 (a b:Int) (m:Mc):Prop where
 mks:zdA m.x.m
 ts:∀i,i<8→TskOk (m.ts i).t
 rt:∀i,i<8→RtX (m.ts i).c
 ev:m.ev.length≤a
 now:0≤m.now∧m.now≤b
theorem zqp:RtX rt0:=⟨by decide,by decide,by decide⟩
theorem zla{t:Tsk}(h:TskOk t):InsOk (zcN t):=by
 unfold zcN;cases hb:zid t with
 |false=>exact(show InsOk zh0 from⟨by decide,by decide,by decide,by decide,by decide⟩)
 |true=>
  unfold zid at hb;simp only[zGC,zFM,zFO]at hb;have h1:t.next.toNat<t.code.length:=by omega
  show InsOk (t.code.getD t.next.toNat zh0);rw[zG9,zHa h1];exact h.ins _ (zHd h1)
theorem zsa{t:Tsk}(h:TskOk t)(hb:zid t=true):0≤t.next∧t.next<t.code.length∧t.next<64:=by unfold zid at hb;simp only[zGC,zFM,zFO]at hb;have:=h.len;omega
theorem zvl{t:Tsk}(h:TskOk t):TskOk (zhG t):=by
 unfold zhG;cases hw:zda t with
 |true=>exact h
 |false=>
  have hb:zid t=true:=by unfold zda at hw;simp only[zFM,zGy]at hw;exact hw.1.1
  have hn:=zsa h hb;have hi:=(zla h).n;have key:0≤zvk t∧zvk t≤65536:=by
   unfold zvk;cases(((zcN t).op==5)||(((zcN t).op==6)&&(zf6 t (zcN t).a != 0)))with
   |true=>show 0≤(zcN t).n∧(zcN t).n≤65536;omega
   |false=>show 0≤t.next+1∧t.next+1≤65536;omega
  exact⟨h.len,h.ins,key.1,key.2⟩
theorem zvp{t:Tsk}(h:TskOk t)(r:Rs):TskOk (zgp t r):=by
 unfold zgp;cases hw:(!zid t||!zda t)with
 |true=>exact h
 |false=>
  simp only[zFM,zGy]at hw;have hn:=zsa h hw.1;exact⟨h.len,h.ins,by show 0≤t.next+1;omega,by show t.next+1≤65536;omega⟩
theorem zvb{s:St}(h:∃d,TInv s.t d){c:Call}(hr:U32 c.r):(zb0 s c).length≤64:=by
 obtain⟨d,ht⟩:=h;have hu:(zbW s.t c.r).length≤33:=by
  unfold zbW;cases hg:zah s.t.b c.r with
  |true=>exact zd3 ht.ok ht.rk (zb2 hg)
  |false=>exact zFV _
 have ho:∀x,(zpu s x).length≤1:=fun x=>by
  unfold zpu;cases zah s.t.b x with
  |true=>exact zF5 1
  |false=>exact zFV 1
 unfold zb0;cases(((c.do_==6)||(c.do_==7)||(c.do_==9))||(c.do_==11))with
 |true=>exact zFU hu (by decide)
 |false=>
  show(bif c.do_==8 then _ else _:List Int).length≤64;cases(c.do_==8)with
  |true=>
   show(bif ((zbW s.t c.r).length==0)||!zah s.t.b c.s then[]else bif (zbW s.t c.r).contains c.s then zbW s.t c.r else zbW s.t c.r++[c.s]:List Int).length≤64;cases(((zbW s.t c.r).length==0)||!zah s.t.b c.s)with
   |true=>exact zFV 64
   |false=>
    cases(zbW s.t c.r).contains c.s with
    |true=>exact zFU hu (by decide)
    |false=>show(zbW s.t c.r++[c.s]).length≤64;rw[zFY,zIk];omega
  |false=>
   show(bif c.do_==13 then _ else _:List Int).length≤64;cases(c.do_==13)with
   |true=>
    show(bif zah s.k.b c.s then zpu s (zcg s.k c.s).reg else[]:List Int).length≤64;cases zah s.k.b c.s with
    |true=>exact zFU (ho _) (by decide)
    |false=>exact zFV 64
   |false=>
    show(bif c.do_==14 then _ else _:List Int).length≤64;cases(c.do_==14)with
    |true=>
     show(bif c.b==1 then zpu s c.r else zbW s.t c.r:List Int).length≤64;cases(c.b==1)with
     |true=>exact zFU (ho _) (by decide)
     |false=>exact zFU hu (by decide)
    |false=>
     show(bif _ then zpu s c.r else[]:List Int).length≤64;cases(((((decide (1≤c.do_)&&decide (c.do_≤5))||(c.do_==10))||(c.do_==12))||(c.do_==18))||(c.do_==19))with
     |true=>exact zFU (ho _) (by decide)
     |false=>exact zFV 64
theorem zBd{x:Cr}{c:Rt}(h:zdA x.m)(hs:∃d,TInv x.s.t d)(hu:U32 c.c.r)(hc:RtX c)(hr:RnC c.run):zdA (za1 x c).x.m∧((za1 x c).e=false→RtX (za1 x c).c):=by
 have hend:∀(y:Cr) (d:Rt) (r:Rs),zdA y.m→zdA (zuB y d r).x.m∧((zuB y d r).e=false→RtX (zuB y d r).c):=fun y d r hy=>⟨zgN d.task _ hy,fun h=>by cases h⟩;have hcm:∀(y:Cr) (d:Rt),zdA y.m→zdA (zeq y d).x.m∧((zeq y d).e=false→RtX (zeq y d).c):=fun y d hy=>by
  unfold zeq;cases((doB y.s d.task d.c d.run).2.1.e != 0)with
  |true=>exact hend y d _ hy
  |false=>
   show zdA (zkN y d _ _ _).x.m∧((zkN y d _ _ _).e=false→RtX (zkN y d _ _ _).c);unfold zkN;refine hend _ _ _ ?_;rw[(zd0 _ _).2.2.2];exact hy
 unfold za1;cases c.chk with
 |false=>
  show zdA (zcZ x c).x.m∧((zcZ x c).e=false→RtX (zcZ x c).c);unfold zcZ;cases zg4 x.s c.task c.c with
  |true=>exact⟨h,fun _=>hc⟩
  |false=>
   cases(zns x.s c.task c.c != 0)with
   |true=>exact hend _ _ _ h
   |false=>exact⟨h,fun _=>⟨zvb hs hu,hc.c0,hc.c1⟩⟩
 |true=>
  cases hq:c.regs with
  |cons g l=>
   refine⟨zBl h _ _,fun _=>⟨?_,hc.c0,hc.c1⟩⟩;have hl:=hc.rg;rw[hq]at hl;show(bif zrY x.m (slX g) c.task then l else c.regs).length≤64;cases zrY x.m (slX g) c.task with
   |true=>rw[zFI]at hl;show l.length≤64;omega
   |false=>exact hc.rg
  |nil=>
   show zdA (bif _ then zbJ x c (zaE x.s c.task c.c)else bif _ then zd9 x c else zcU x c).x.m∧((bif _ then zbJ x c (zaE x.s c.task c.c)else bif _ then zd9 x c else zcU x c).e=false→RtX (bif _ then zbJ x c (zaE x.s c.task c.c)else bif _ then zd9 x c else zcU x c).c);cases h1:((zaE x.s c.task c.c != 0)&&decide (c.run.n≤0))with
   |true=>
    show zdA (zbJ x c (zaE x.s c.task c.c)).x.m∧((zbJ x c (zaE x.s c.task c.c)).e=false→RtX (zbJ x c (zaE x.s c.task c.c)).c);simp only[zFR,zFS]at h1;unfold zbJ;cases h2:(zb4 x.p (zaE x.s c.task c.c) != 0)with
    |true=>exact hend _ _ _ h
    |false=>
     refine⟨h,fun _=>⟨hc.rg,hc.c0,?_⟩⟩;have hE:zb4 x.p (zaE x.s c.task c.c)=0:=by simpa using h2
     have:¬zaE x.s c.task c.c<1:=fun hlt=>by unfold zb4 at hE;rw[zFQ hlt]at hE;exact absurd (show(2:Int)=0 from hE) (by decide)
     have:=hc.c1;show c.clr≤zaE x.s c.task c.c;omega
   |false=>
    cases h2:decide (c.clr<c.run.n)with
    |true=>
     have:=zFL h2;exact⟨h,fun _=>⟨hc.rg,by have:=hc.c0;show 0≤c.clr+1;omega,by show c.clr+1≤c.run.n;omega⟩⟩
    |false=>
     show zdA (zcU x c).x.m∧((zcU x c).e=false→RtX (zcU x c).c);unfold zcU;cases(decide (c.run.n>0)&&(zaE x.s c.task c.c != c.run.n))with
     |true=>exact hcm _ _ h
     |false=>exact hcm _ _ h
section
variable {N:Int} {m:Mc} {t:Nat}
theorem ze3{Q:Rr→Prop}{ts:Nat→Rr}{r:Rr}(h:∀i,i<8→Q (ts i))(hr:Q r):∀i,i<8→Q (zaq ts t r i):=fun i hi=>by
 by_cases c:i=t
 ·rw[c,zag];exact hr
 ·rw[zaf c];exact h i hi
variable {a b:Int}
theorem zzS(h:MI N m)(hx:MX2 a b m)(ht:t<8)(hb:(m.ts t).busy=true):MX2 (a+1) b (zkL m t):=by
 obtain⟨g1,g2⟩:=zBd hx.mks h.s.t ((h.rr t ht).busy hb).r (hx.rt t ht) (h.run t ht);have hev:=hx.ev;unfold zkL zBD;cases he:(za1 m.x (m.ts t).c).e with
 |true=>
  refine⟨g1,fun i hi=>?_,fun i hi=>?_,?_,hx.now⟩
  ·show TskOk (zaq (zaq m.ts t _) t _ i).t;rw[zm3];exact ze3 (Q:=fun r=>TskOk r.t) hx.ts (by show TskOk (zgp (zaq m.ts t {m.ts t with c:=(za1 m.x (m.ts t).c).c} t).t (za1 m.x (m.ts t).c).r);exact zvp (by rw[zag];exact hx.ts t ht) _) i hi
  ·show RtX (zaq (zaq m.ts t _) t _ i).c;rw[zm3];exact ze3 (Q:=fun r=>RtX r.c) hx.rt zqp i hi
  ·show(((m.ev++[_]:List Ev).length:Nat):Int)≤a+1;rw[zFY,zIk];omega
 |false=>
  refine⟨g1,fun i hi=>ze3 (r:={m.ts t with c:=(za1 m.x (m.ts t).c).c}) (Q:=fun r=>TskOk r.t) hx.ts (hx.ts t ht) i hi,fun i hi=>ze3 (r:={m.ts t with c:=(za1 m.x (m.ts t).c).c}) (Q:=fun r=>RtX r.c) hx.rt (g2 he) i hi,?_,hx.now⟩;show((m.ev.length:Nat):Int)≤a+1;omega
theorem zzP(hx:MX2 a b m)(ht:t<8):MX2 a b (zoD m t):=
 ⟨hx.mks,fun i hi=>ze3 (r:={m.ts t with c:={rt0 with task:=t,c:=zcw (m.ts t).t},busy:=true,frm:=m.now}) (Q:=fun r=>TskOk r.t) hx.ts (hx.ts t ht) i hi,fun i hi=>ze3 (r:={m.ts t with c:={rt0 with task:=t,c:=zcw (m.ts t).t},busy:=true,frm:=m.now}) (Q:=fun r=>RtX r.c) hx.rt ⟨zqp.rg,zqp.c0,zqp.c1⟩ i hi,hx.ev,hx.now⟩
theorem MX2.more(hx:MX2 a b m):MX2 (a+1) b m:=⟨hx.mks,hx.ts,hx.rt,by have:=hx.ev;omega,hx.now⟩
theorem zkv(hx:MX2 a b m):MX2 a (b+1) (zhY m):=⟨hx.mks,hx.ts,hx.rt,hx.ev,by have:=hx.now;show 0≤m.now+1∧m.now+1≤b+1;omega⟩
theorem zBh(h:MI N m)(hx:MX2 a b m)(ht:t<8):MX2 (a+1) b (zjS m t):=by
 unfold zjS;cases hb:(m.ts t).busy with
 |true=>exact zzS h hx ht hb
 |false=>
  cases zda (m.ts t).t with
  |true=>exact zzS (zuc h ht hb) (zzP hx ht) ht (by unfold zoD;simp only[zag])
  |false=>exact MX2.more ⟨hx.mks,fun i hi=>ze3 (r:={m.ts t with t:=zhG (m.ts t).t}) (Q:=fun r=>TskOk r.t) hx.ts (zvl (hx.ts t ht)) i hi,fun i hi=>ze3 (r:={m.ts t with t:=zhG (m.ts t).t}) (Q:=fun r=>RtX r.c) hx.rt (hx.rt t ht) i hi,hx.ev,hx.now⟩
theorem zA7(hx:MX2 a b m):MX2 (a+1) b (zmZ m t):=by
 refine⟨?_,hx.ts,hx.rt,?_,hx.now⟩
 ·show zdA (List.foldl zbn _ _).m;rw[(zd0 _ _).2.2.2];exact hx.mks
 ·show(((m.ev++[_]:List Ev).length:Nat):Int)≤a+1;rw[zFY,zIk];have:=hx.ev;omega
theorem zxn(hx:MX2 a b m)(t:Nat):MX2 a b (zga m t):=by
 unfold zga;cases((m.ts t).busy&&!zfe m t)with
 |false=>exact hx
 |true=>exact⟨zgN _ _ hx.mks,fun i hi=>by
  show TskOk (zaq m.ts t _ i).t;by_cases c:i=t
  ·rw[c,zag];exact hx.ts t (c▸hi)
  ·rw[zaf c];exact hx.ts i hi,fun i hi=>ze3 (Q:=fun r=>RtX r.c) hx.rt zqp i hi,hx.ev,hx.now⟩
theorem zoM:∀(l:List Nat) {m:Mc},MX2 a b m→MX2 a b (l.foldl zga m)
 |[],_,h=>h
 |t::l,_,h=>zoM l (zxn h t)
theorem zmP(h:MI N m)(hx:MX2 a b m){k:Int}(hk:0≤k):MX2 (a+1) (b+1) (zbI m k):=by
 rcases zhB (m:=m) hk with e|⟨_,⟨a,l,hq⟩,_,e⟩|⟨t,ht,_,hA,_,⟨_,e⟩|⟨_,e⟩⟩
 ·rw[e];exact⟨hx.mks,hx.ts,hx.rt,by have:=hx.ev;omega,by have:=hx.now;omega⟩
 ·rw[e];refine zoM _ (MX2.more (zkv (m:={m with x:=zdy m.x}) ⟨?_,hx.ts,hx.rt,hx.ev,hx.now⟩));show zdA (zdy m.x).m;unfold zdy;rw[hq];exact hx.mks
 ·rw[e];exact zoM _ (zA7 (zkv hx))
 ·rw[e];exact zoM _ (zBh (zej h) (zkv hx) ht)
end
end Sx
namespace Sx
attribute [local irreducible] Con zax zan zau zai zaw zbt zak zaC zbh zba I64
theorem SInv.std{s:St}(h:SInv s):StD s:=⟨h.t,h.k.ok,h.k.t⟩
theorem SInv.mail{s:St}(h:SInv s):zit s:=fun a ha=>⟨(h.o.bx a ha).1,fun m hm=>⟨((h.o.bx a ha).2 m hm).2,((h.o.bx a ha).2 m hm).1⟩⟩
section
variable {s:St} {task:Int} {c:Call}
theorem zqJ(hs:SInv s)(hc:CallOk s task c)(hA:s.alive task.toNat=true):zay Tryz.prog 223 [.d (za7 s),I task,.d (zaW c)] (I (zns s task c)):=by
 refine zat Tryz.func223 rfl (by kernel_rfl) rfl rfl rfl ?_;conv=>whnf
 refine zad (ziu hs.std hs.mail hc hA) ?_;conv=>whnf
 refine⟨fun h1=>?_,fun h1=>?_⟩
 ·have h1:decide (zaE s task c>0)=true:=h1;conv=>whnf
  refine⟨rfl,zae ?_⟩;rw[zns,h1];rfl
 ·have h1:decide (zaE s task c>0)=false:=h1;conv=>whnf
  refine zad (zB1 (run:=zaO) hs.std hs.mail hc (.inr rfl) (zkM hs hc)) ?_;conv=>whnf
  refine⟨rfl,zae ?_⟩;rw[zns,h1];rfl
theorem zw5(hs:SInv s)(hc:CallOk s task c)(hA:s.alive task.toNat=true):zay Tryz.prog 177 [.d (za7 s),I task,.d (zaW c)] (B (zg4 s task c)):=by
 refine zat Tryz.func177 rfl (by kernel_rfl) rfl rfl rfl ?_;conv=>whnf
 refine zam (zqJ hs hc hA) (fun _ h _=>h) ?_;conv=>whnf
 exact⟨rfl,zae rfl⟩
end
end Sx
namespace Sx
variable {P:Program}
def zvC(P:Program)(f:FuncId)(args:List SV)(n:Nat)(t:Ty)(F:Nat→D):Prop:=∀m K,(∀v,K (.ret (.ow (m.t.length+1) v n t F)) ⟨m.c,m.t++[v],m.o⟩)→Con P f args m K
theorem zrO{f:FuncId}{args:List SV}{n:Nat}{t:Ty}{F:Nat→D}(ha:zaG 0 0 0 args=true)(h:Con P f args ⟨[],[],[]⟩ fun o m=>∃v,o=.ret (.ow 1 v n t F)∧m=⟨[],[v],[]⟩):zvC P f args n t F:=fun m K hK=>by
 refine⟨h.1,fun E ro bl w xs hM hA=>?_⟩;refine(h.2 _ ro _ w xs (zj4 hM) (zgB hA ha)).mono ?_;rintro e w' ⟨ro',bl',m',out,hM',hG,ho,v,rfl,rfl⟩;obtain⟨x,rfl,hx⟩:=ho;have hd:=hM'.drop (n:=0) (k:=0) (j:=0) rfl rfl;obtain⟨bl2,hM2,hG2,_,hb2⟩:=zhj hM hd (hG.drop (zGO (by simp[Bl.take])) (zGO (by simp[Bl.take])) (zGO (by simp[Bl.take]))) ⟨⟨zFV _,zFV _,zFV _⟩,rfl,rfl,rfl⟩;simp only[MS.take,List.take_nil,zG2,zGX,zG4]at hM2;obtain⟨y,q,hxy,hq,hv,hT,hcs⟩:=hx.2 rfl;have hq:bl'.t[0]?=some q:=hq;have hqv:q.2.1=v:=by
  have:=hM'.ver;have h2:(bl'.t.map (·.2.1))[0]?=some v:=by rw[this];rfl
  rw[zHz,hq]at h2;simpa using h2
 have hob:∀k,q.1=some k→bl'.hb k:=fun k hk=>Bl.hb_t hq hk;have hnb:∀k,q.1=some k→¬bl2.hb k:=fun k hk hb=>by
  rcases(hb2 k).1 hb with h1|h1
  ·exact zmG h1
  ·exact(hM'.gh.1 k h1).2.2.2 (.inl (hob k hk))
 have hle:Le ro' bl2 ro' (bl2.tadd q):=Le.tadd ro' bl2 _;have hhb:∀k,(bl2.tadd q).hb k→bl2.hb k∨q.1=some k:=fun k hk=>by
  rcases hk with hk|⟨i,z,hz,e⟩|hk
  ·exact .inl (.inl hk)
  ·rcases zbB hz with⟨_,rfl⟩|hz
   ·exact .inr e
   ·exact .inl (Bl.hb_t hz e)
  ·exact .inl (.inr (.inr hk))
 have hGf:Gr ro bl w ro' (bl2.tadd q) w':=⟨hG2.os,hG2.tape,hG2.output,hG2.size,hG2.old,hG2.le.trans hle,fun k hk=>by
  rcases hhb k hk with h1|h1
  ·exact hG2.new k h1
  ·exact(hG.new k (hob k h1)).elim (fun h=>(zmG h).elim) .inr,hG2.k⟩
 have hlen:bl2.t.length=m.t.length:=by have:=congrArg List.length hM2.ver;simpa using this
 have hC:MemC ro' (bl2.tadd q) ⟨m.c,m.t++[v],m.o⟩ w':=by
  refine⟨hM2.len,?_,fun i blk t u hb hc=>?_,hM2.inj,fun i e blk he hb=>?_,fun i j e e' blk he he' hb hb'=>?_,hM2.known,hM2.olen,fun i y x hy hx=>(hM2.obj i y x hy hx).to hle fun _ _=>⟨rfl,rfl⟩,hM2.oinj,hM2.bo⟩
  ·show(bl2.t++[q]).map (·.2.1)=m.t++[v];rw[zF6,hM2.ver,zHk,hqv]
  ·obtain⟨cl,e',h1,h2,h3⟩:=hM2.box i blk t u hb hc;exact⟨cl,e',h1,h2.mono hle,h3⟩
  ·rcases zbB he with⟨_,rfl⟩|he
   ·exact hM'.tail 0 _ _ hq hb
   ·exact hM2.tail i e blk he hb
  ·rcases zbB he with⟨e1,e2⟩|g1<;>rcases zbB he' with⟨e3,e4⟩|g2
   ·exact e1.trans e3.symm
   ·exact(hnb blk (e2▸hb) (Bl.hb_t g2 hb')).elim
   ·exact(hnb blk (e4▸hb') (Bl.hb_t g1 hb)).elim
   ·exact hM2.tinj _ _ _ _ _ g1 g2 hb hb'
 refine⟨ro',bl2.tadd q,_,.ret (.ow (m.t.length+1) v n t F),hM.to hGf hC,hGf,⟨x,rfl,⟨(fun h=>by cases h),fun _=>⟨y,q,hxy,?_,hv,hT,hcs⟩⟩⟩,hK v⟩;show(bl2.t++[q])[m.t.length]?=some q;rw[←hlen];exact zbl
end Sx
namespace Sx
attribute [local irreducible] Con zax zan zau zai zaw zbt zak zaC zbh zba I64
theorem zw4{t:Tb}(ht:TbOk t){rk:Int→Nat}(hr:Rk t rk){h:Int}(hu:U32 h)(hg:zah t.b h=true):zvC Tryz.prog 110 [.d (zaU t),H h] (hL (zbW t h)).length .c (za4 (hL (zbW t h))):=by
 refine zrO rfl (zeb 0 1 0 ⟨zF5 _,zFV _,zF5 _⟩ ?_);refine zaM Tryz.func110 rfl (by kernel_rfl) rfl rfl ?_;conv=>whnf
 refine zad (zbz t.b h) ?_;conv=>whnf
 refine⟨fun hq=>?_,fun hq=>?_⟩
 ·have hq:(!zah t.b h)=true:=hq;rw[hg]at hq;cases hq
 ·conv=>whnf
  refine zaM Tryz.func184 rfl (by kernel_rfl) rfl rfl ?_;conv=>whnf
  refine zaM Tryz.func183 rfl (by kernel_rfl) rfl rfl ?_;conv=>whnf
  refine zaM Tryz.func224 rfl (by kernel_rfl) rfl rfl ?_;conv=>whnf
  refine zfP 3 [] .c (za4 []) rfl rfl rfl ⟨_,_,rfl⟩ (zcs rfl rfl ?_);refine ziq ht hr hg hu (σ:=List Int) (fun o=>[.d (zaU t),.d (zaU t),H h,owl 1 (hL o).length .c (hL o)]) (fun o=>[(hL o).length]) id (fun _=>True) 2 1 4 1 [] (fun _=>rfl) (fun _=>rfl) (fun _=>⟨rfl,rfl,rfl⟩) trivial rfl rfl ?_ ?_
  ·intro s x r _ ho hgx rv rn rf;have hn:s.length≤33:=by have h1:=congrArg List.length ho;have h2:=zd3 ht hr (zb2 hg);simp only[zFY,zFI,id]at h1;omega
   refine zct zaa rfl (by decide) ?_;conv=>whnf
   refine Or.inl ?_;conv=>whnf
   refine⟨⟨rfl,by simp;omega⟩,?_⟩;conv=>whnf
   refine⟨rfl,s++[x],⟨trivial,rfl⟩,?_⟩;show(⟨[.d (zaU t),.d (zaU t),H h,.ow 1 ((hL s).length+1) ((hL s).length+[hD x].length) .c (zdc (hL s).length (za4 (hL s)) (za4 [hD x]))],[(hL s).length+1],_⟩:MS)=⟨[.d (zaU t),.d (zaU t),H h,owl 1 (hL (s++[x])).length .c (hL (s++[x]))],[(hL (s++[x])).length],_⟩;rw[zcq,show hL s++[hD x]=hL (s++[x]) by simp,show(hL s).length+1=(hL (s++[x])).length by simp];rfl
  ·intro s os _ ho;have ho:s=zaV t h:=ho;subst ho;have e:zbW t h=zaV t h:=by rw[zbW,hg];rfl
   rw[e];generalize zaV t h=l;conv=>whnf
   exact⟨_,SV.le_refl _,rfl,_,rfl,rfl⟩
end Sx
namespace Sx
variable {P:Program} {tb:TT}
theorem zCA(hP:tb.ok P)(hm:P.follows .mixedOrders=true){N id:Nat}{ir:Bool}{ops ops1:Array Oper}(hw:zcx ops1.toList=zby (.region id ops true)){ord:List Nat}{im:List (Nat×Nat)}{fr:List Ent}{m:MS}{K:X→List Ent→MS→Prop}{sw:Nat→Nat}(hok:zgd sw ops1.toList ord im=true)
 (h:sxD P tb N ops1.toList im fr ord [] [] m (fun fr' m'=>K .nor fr' m') (fun d m'=>K (.pan d) fr m'))
 {E:Gh}{r:Option Nat}{nn:Nat}{ro:Ro}{bl:Bl}{a0:Act}{w0:World}(hS:Sim E ro bl fr m N a0 w0):wpAnyIn (FR r) nn P .any ops1 (QK E ro bl N ir (zby (.region id ops true)) a0 w0 K) ops1.size (Array.replicate ops1.size false) a0 {w0 with drawn:=w0.drawn+1}:=by
 have dk:=zCz hok;have hl0:∀j,zd5 (Array.replicate ops1.size false) j=false:=fun j=>by unfold zd5;simp only[zGe,zGv];split<;>rfl
 have hcnt:cnt ops1.size (zd5 (Array.replicate ops1.size false))=ops1.size:=by unfold cnt;rw[zGw.2 (fun j _=>by simp[hl0]),zGx]
 have hG0:Gr ro bl w0 ro bl {w0 with drawn:=w0.drawn+1}:=⟨rfl,rfl,rfl,zF5 _,fun _ _ _=>⟨rfl,rfl⟩,Le.refl _ _,fun _ h=>.inl h,rfl⟩;have hM0:Mem E ro bl m {w0 with drawn:=w0.drawn+1}:=hS.m.to hG0 ⟨hS.m.len,hS.m.ver,hS.m.box,hS.m.inj,hS.m.tail,hS.m.tinj,hS.m.known,hS.m.olen,fun i y x hy hx=>(hS.m.obj i y x hy hx).to (Le.refl _ _) fun _ _=>⟨rfl,rfl⟩,hS.m.oinj,hS.m.bo⟩;exact zrD hP dk hS.l (Q:=QK E ro bl N ir (zby (.region id ops true)) a0 w0 K) (K:=fun fr' m'=>K .nor fr' m') (Kp:=fun d m'=>K (.pan d) fr m')
  ⟨fun ro2 bl2 fr' m' a' w' h1 h2 h3 h4 h5 h6=>QK.put (x:=.nor) h1 trivial h3 (fun _=>h2) h2.size h4 h5 (hw▸h6),
   fun ro2 bl2 m' a' w' d x h1 h2 h3 h4 h5 h6 h7=>QK.put (x:=.pan d) h1 ⟨x,rfl,h2⟩ h3 (fun hd=>absurd rfl (hd d)) h5 h4 h6 (hw▸h7)⟩
  ops1.size (Array.replicate ops1.size false) ro bl a0 _ 0 (fun _=>([],.d .un)) [] m (by simp) hcnt (fun j o ho hl=>by rw[hl0]at hl;cases hl)
  ⟨zFV _,fun k _ _ hk=>absurd hk (zIn _),fun k _ _ _ hk=>absurd hk (zIn _),fun k _ _ hk=>absurd hk (zIn _),fun k _ _ hk=>absurd hk (zIn _)⟩
  ⟨hM0,hG0,hS.l.size,rfl,zdJ.refl _ _,fun k _ hk=>absurd hk (zIn _),(fun j hl=>by rw[hl0]at hl;cases hl),fun k _ _ _ hk=>absurd hk (zIn _),fun k _ _ _ hk=>absurd hk (zIn _),fun _ _=>rfl,fun k _ _ hk=>absurd hk (zIn _)⟩ h
inductive Ext (ops:Array Oper):Array Oper→Prop
 |refl:Ext ops ops
 |add {o1 o2:Array Oper} (y x:Nat):Ext ops o1→o2.toList=zf9 o1.toList y x→Ext ops o2
theorem Ext.ops{ops o1:Array Oper}(h:Ext ops o1){F:Fence}{n:Nat}{Q:Exit→Act→World→Prop}{l:List Nat}{a:Act}{w:World}(hw:wpOpsIn F n P o1 Q l a w):wpOpsIn F n P ops Q l a w:=by
 induction h with
 |refl=>exact hw
 |add y x _ he ih=>exact ih (zgR he hw)
theorem Ext.wr{ops o1:Array Oper}(h:Ext ops o1):zcx o1.toList=zcx ops.toList:=by
 induction h with
 |refl=>rfl
 |add y x _ he ih=>rw[he,zhL];exact ih
theorem Ext.size{ops o1:Array Oper}(h:Ext ops o1):o1.size=ops.size:=by
 induction h with
 |refl=>rfl
 |add y x _ he ih=>
  have:=congrArg List.length he;rw[zh5]at this;exact(by simpa using this:_=_).trans ih
def zzl(P:Program)(N id:Nat)(ir:Bool)(ops o1:Array Oper)(fr:List Ent)(m:MS)(K:X→List Ent→MS→Prop):Prop:=
 ∀E r nn ro bl a0 w0,(ir=false→r=none)→Sim E ro bl fr m N a0 w0→∀l,Lin o1 ops.size (Array.replicate ops.size false) l→
  wpOpsIn (FR r) nn P ops (QK E ro bl N ir (zby (.region id ops true)) a0 w0 K) l a0 {w0 with drawn:=w0.drawn+1}
theorem zfD(hP:tb.ok P)(hm:P.follows .mixedOrders=true)(sw:Nat→Nat)(ord:List Nat)(im:List (Nat×Nat)){N id:Nat}{ir:Bool}{ops o1:Array Oper}{fr:List Ent}{m:MS}{K:X→List Ent→MS→Prop}(hx:Ext ops o1)(hok:zgd sw o1.toList ord im=true)
 (h:sxD P tb N o1.toList im fr ord [] [] m (fun fr' m'=>K .nor fr' m') (fun d m'=>K (.pan d) fr m')):zzl P N id ir ops o1 fr m K:=by
 intro E r nn ro bl a0 w0 hrr hS l hl;have hw:=zCA hP hm (id:=id) (ir:=ir) (hx.wr.trans rfl) hok h (r:=r) (nn:=nn) hS;rw[hx.size]at hw;exact hx.ops (zkE hw hl)
theorem zff(x y:Nat)(hxy:x≠y){N id:Nat}{ir:Bool}{ops o1:Array Oper}{fr:List Ent}{m:MS}{K:X→List Ent→MS→Prop}(h1:zzl P N id ir ops ⟨zf9 o1.toList y x⟩ fr m K)(h2:zzl P N id ir ops ⟨zf9 o1.toList x y⟩ fr m K):zzl P N id ir ops o1 fr m K:=by
 intro E r nn ro bl a0 w0 hrr hS l hl;rcases zrH x y hxy hl with ha|ha
 ·exact h1 E r nn ro bl a0 w0 hrr hS l (ziZ rfl hl ha)
 ·exact h2 E r nn ro bl a0 w0 hrr hS l (ziZ rfl hl ha)
theorem zux(hm:P.follows .mixedOrders=true){N id:Nat}{ir:Bool}{ops:Array Oper}{fr:List Ent}{m:MS}{K:X→List Ent→MS→Prop}(h:zzl P N id ir ops ops fr m K):zaw P N ir id ops fr m K:=by intro E r nn ro bl a0 w0 hrr hS;refine wpIn_region_draw fun t=>?_;simp only[Region.schedule,hm,zIo,zG7];exact h E r nn ro bl a0 w0 hrr hS _ (zsj ops ops.size t (Array.replicate ops.size false))
end Sx
end Go.Proofs.YtfbhkfhbnkncoaaGreatDoor
