import Derived.Test.YtfbhkfhbnkncoaaGreatDoorT37
set_option linter.all false
set_option maxRecDepth 100000
set_option maxHeartbeats 8000000
namespace Go.Proofs.YtfbhkfhbnkncoaaGreatDoor
open Go.RowKit
namespace Sx
theorem zyq(t:Tb)(x:Int)(r:Rg):zfx t x r≠6:=by
 unfold zfx;cases zah t.b x with
 |false=>exact(show(4:Int)≠6 by decide)
 |true=>
  cases(!(decide (r.quota≥0)&&decide (r.quota≤64))||!zmD r.rs r.len)with
  |true=>exact(show(2:Int)≠6 by decide)
  |false=>exact(show(0:Int)≠6 by decide)
theorem zp3{s:St}(hs:SInv s){t:Int}(h0:0≤t)(h8:t<8):∃s' b,zet s t=.ok (s',b)∧SInv s'∧(zch s.t).Perm (zch s'.t++pgs b)∧s'.alive=zaq s.alive t.toNat false:=by
 have ht8:t.toNat<8:=by omega
 obtain⟨d,ht⟩:=hs.t;have hA:∀a,a<8→zaq s.alive t.toNat false a=true→zaq s.alive t.toNat true a=true:=fun a _ h=>by
  by_cases c:a=t.toNat
  ·rw[c,zag]
  ·rw[zaf c]at h ⊢;exact h
 have hA2:∀a,a<8→s.alive a=true→zaq s.alive t.toNat true a=true:=fun a _ h=>by
  by_cases c:a=t.toNat
  ·rw[c,zag]
  ·rw[zaf c];exact h
 have hms:zfb (⟨fun _=>mz,0,0,true⟩:MBox)=[]:=rfl;have hF:=zqM ht8 (⟨fun _=>mz,0,0,true⟩:MBox) (box:=s.box);rw[hms,show flL []=[] from rfl,zHm]at hF;have hF:(flL (zfb (s.box t.toNat))++FL (zaq s.box t.toNat ⟨fun _=>mz,0,0,true⟩)).Perm (FL s.box):=zIK.trans hF;have D0:DInv (zaq s.alive t.toNat false) (zaq s.alive t.toNat true) (zaq s.box t.toNat ⟨fun _=>mz,0,0,true⟩) (zhe s t) (flL (zfb (s.box t.toNat))):=by
  refine⟨⟨d,ht⟩,hs.k,⟨fun x hx=>⟨(hs.o.rt x hx).1,(hs.o.rt x hx).2.sub hA2 fun h=>hF.mem_iff.2 h⟩,hF.nodup_iff.2 hs.o.nd,fun x hx=>hs.o.fr x (hF.mem_iff.1 hx),fun i hi hd=>?_,zoF (Q:=zBx) ⟨⟨by decide,by decide,by decide,by decide⟩,fun m hm=>by rw[hms]at hm;cases hm⟩ hs.o.bx⟩,rfl,rfl⟩;by_cases c:i=t.toNat
  ·rw[c,zag]
  ·rw[zaf c]at hd ⊢;exact hs.o.dead i hi hd
 obtain⟨s1,b1,e1,⟨D1,_⟩,p1⟩:=zkZ (J:=fun s' l=>DInv (zaq s.alive t.toNat false) (zaq s.alive t.toNat true) (zaq s.box t.toNat ⟨fun _=>mz,0,0,true⟩) s' (flL l)∧∀x∈l,(0≤x.frm∧x.frm<8)∧U32 x.reg) (f:=zdW) (fun s' m l h=>zqj hA s' m l h) (zfb (s.box t.toNat)) (zhe s t) [] ⟨D0,(hs.o.bx _ ht8).2⟩;have D2:DInv (zaq s.alive t.toNat false) (zaq s.alive t.toNat true) (zaq s.box t.toNat ⟨fun _=>mz,0,0,true⟩) (zbQ s1 t) []:=by
  have hk:=TkI.rets (zaN s1.k (toP t) (zcE s1.k.b)) D1.k;have ho:=D1.o;generalize hK:(zaN s1.k (toP t) (zcE s1.k.b)).foldl zim s1.k=K at hk;have e:zbQ s1 t={s1 with k:=K}:=by unfold zbQ;rw[hK]
  rw[e];exact⟨D1.t,hk,ho,D1.ea,D1.eb⟩
 have hown:∀w,zfa t w=true→w.kind=1:=fun w hw=>by unfold zfa at hw;simp only[zFR,zGG]at hw;exact hw.1
 obtain⟨D3,L3,p2⟩:=zmq (p:=zfa t) (fun w hw=>by rw[hown w hw];decide) _ (zbQ s1 t) b1 D2 (zz3 D2 (zfa t));have H3:=zz3 D3 (zeR t);obtain⟨s',b',e3,⟨D4,L4,L5⟩,p3⟩:=zkZ (J:=fun s' l=>DInv (zaq s.alive t.toNat false) (zaq s.alive t.toNat true) (zaq s.box t.toNat ⟨fun _=>mz,0,0,true⟩) s' []∧DL (zeR t) s' l∧DL (zfa t) s' []) (f:=ze8 t) (zr2 h0 h8 (zfa t) (fun w hw=>by rw[hown w hw];decide)) _ _ (ze7 (zbQ s1 t) (za2 (zbQ s1 t).o (zbQ s1 t).t (zfa t) (zb6 (zbQ s1 t).t.b)) b1).2 ⟨D3,H3,L3⟩;refine⟨s',b',?_,⟨D4.t,D4.k,?_⟩,?_,D4.ea⟩
 ·unfold zet;unfold zfb at e1;rw[e1];exact e3
 ·rw[D4.ea,D4.eb];refine⟨fun x hx=>⟨(D4.o.rt x hx).1,?_⟩,D4.o.nd,D4.o.fr,D4.o.dead,D4.o.bx⟩;rcases(D4.o.rt x hx).2 with⟨k1,k2,k3⟩|k|⟨k1,k2,k3,k4⟩
  ·refine .inl ⟨k1,k2,?_⟩;by_cases c:(s'.o (slN x)).own.task=t
   ·have:zfa t (s'.o (slN x)).own=true:=by unfold zfa;rw[k1,c];simp
    cases L5.all x hx this
   ·rw[zaf (by omega)]at k3 ⊢;exact k3
  ·exact .inr (.inl k)
  ·refine .inr (.inr ⟨k1,k2,k3,fun a ha hb=>?_⟩);have h4:=k4 a ha hb;by_cases c:a=t.toNat
   ·exfalso;have:zeR t (s'.o (slN x)).own=true:=by rw[c]at hb;unfold zho at hb;rw[show((t.toNat:Nat):Int)=t by omega]at hb;unfold zeR;rw[k1,zFQ h0,zFQ h8,hb];rfl
    cases L4.all x hx this
   ·rw[zaf c]at h4 ⊢;exact h4
 ·have e:zch s.t=zch (zhe s t).t:=by unfold zhe;rfl
  rw[e];rw[show pgs ([]:List Rn)=[] from rfl,zHm]at p1;have e2:zch (zbQ s1 t).t=zch s1.t:=by unfold zbQ;rfl
  rw[e2]at p2;exact p1.trans (p2.trans p3)
theorem zhg{s:St}(hs:SInv s){t:Int}(h0:0≤t)(h8:t<8):∃s' b,exX (zet s t)=.ok (s',⟨0,0,0⟩,b)∧SInv s'∧(zch s.t).Perm (zch s'.t++pgs b)∧s'.alive=zaq s.alive t.toNat false:=by obtain⟨s',b,h1,h2⟩:=zp3 hs h0 h8;exact⟨s',b,by rw[h1];rfl,h2⟩
section
variable {s:St} {task:Int} {c:Call} {run:Rn}
theorem zmj(hs:SInv s){t:Int}(h0:0≤t)(h8:t<8):zdh s [] (exX (zet s t)):=fun s' r b h=>by obtain⟨s1,b1,h1,h2,h3,_⟩:=zhg hs h0 h8;rw[h1]at h;cases h;exact⟨h2,by rw[zHm];exact h3⟩
theorem zqg(hs:SInv s)(hc:CallOk s task c):zdh s [] (zmz s c):=by refine zaz fun h1=>zmj hs hc.a.1 ?_;have:=zjP (by decide) h1;simp only[zFR,zFS]at this;exact this.1
theorem zrf{x:St×Rs×List Rn}(h:zbu s task c run=.ok x):(0≤task∧task<8)∧s.alive task.toNat=true:=by unfold zbu at h;obtain⟨h1,_⟩:=zaF h;have:=zjP (by decide) h1;simp only[zFR,zFS]at this;exact this
theorem zsx(h:zaE s task c>0):c.do_=2:=by
 unfold zaE at h;cases hq:(c.do_==2)with
 |true=>simpa using hq
 |false=>rw[hq]at h;exact absurd (show(0:Int)>0 from h) (by decide)
theorem zjX(hs:SInv s)(hc:CallOk s task c)(hr:zaE s task c>0→run.n=zaE s task c→zbd run):zdh s (bif decide (zaE s task c>0)then pg run else[]) (zbu s task c run)∧(∀x,zbu s task c run=.ok x→zaE s task c>0→run.n=zaE s task c):=by
 have hA:∀x,zbu s task c run=.ok x→s.alive task.toNat=true:=fun x h=>(zrf h).2;have hn:c.do_≠2→(bif decide (zaE s task c>0)then pg run else[])=[]:=fun h=>by
  cases hq:decide (zaE s task c>0)with
  |true=>exact absurd (zsx (zFL hq)) h
  |false=>rfl
 refine⟨fun s' r b h=>?_,fun x h hp=>?_⟩
 ·have hA:=hA _ h;have key:∀R:Ex,R=.ok (s',r,b)→(c.do_≠2∧zdh s [] R)∨(c.do_=2∧zdh s (bif decide (zaE s task c>0)then pg run else[]) R)→SInv s'∧(zch s.t++(bif decide (zaE s task c>0)then pg run else[])).Perm (zch s'.t++pgs b):=by
   rintro R e (⟨h1,h2⟩|⟨h1,h2⟩)
   ·rw[hn h1];exact h2 _ _ _ e
   ·exact h2 _ _ _ e
  unfold zbu at h;obtain⟨_,h⟩:=zaF h;have step:∀{k:Int} {X Y:Ex},(bif c.do_==k then X else Y)=.ok (s',r,b)→(c.do_=k∧X=.ok (s',r,b))∨Y=.ok (s',r,b):=fun{k X Y} h=>by
   cases hq:(c.do_==k)with
   |true=>rw[hq]at h;exact .inl ⟨by simpa using hq,h⟩
   |false=>rw[hq]at h;exact .inr h
  rcases step h with⟨e,h⟩|h; ·exact key _ h (.inl ⟨by omega,zsy hs hc hA⟩)
  rcases step h with⟨e,h⟩|h; ·exact key _ h (.inr ⟨e,(ziC hs hr e).1⟩)
  rcases step h with⟨e,h⟩|h; ·exact key _ h (.inl ⟨by omega,zke hs 0⟩)
  rcases step h with⟨e,h⟩|h; ·exact key _ h (.inl ⟨by omega,zke hs 1⟩)
  rcases step h with⟨e,h⟩|h; ·exact key _ h (.inl ⟨by omega,zoh hs⟩)
  rcases step h with⟨e,h⟩|h; ·exact key _ h (.inl ⟨by omega,zme hs hc⟩)
  rcases step h with⟨e,h⟩|h; ·exact key _ h (.inl ⟨by omega,zrv hs hc hA⟩)
  rcases step h with⟨e,h⟩|h; ·exact key _ h (.inl ⟨by omega,znI hs hc⟩)
  rcases step h with⟨e,h⟩|h; ·exact key _ h (.inl ⟨by omega,zmo hs hc hA⟩)
  rcases step h with⟨e,h⟩|h; ·exact key _ h (.inl ⟨by omega,zok hs hc⟩)
  rcases step h with⟨e,h⟩|h; ·exact key _ h (.inl ⟨by omega,zp4 hs hc⟩)
  rcases step h with⟨e,h⟩|h; ·exact key _ h (.inl ⟨by omega,zqi hs⟩)
  rcases step h with⟨e,h⟩|h; ·exact key _ h (.inl ⟨by omega,zpY hs⟩)
  rcases step h with⟨e,h⟩|h; ·exact key _ h (.inl ⟨by omega,zqr hs hc⟩)
  rcases step h with⟨e,h⟩|h; ·exact key _ h (.inl ⟨by omega,zkl hs hc hA⟩)
  rcases step h with⟨e,h⟩|h; ·exact key _ h (.inl ⟨by omega,zkl hs hc hA⟩)
  rcases step h with⟨e,h⟩|h; ·exact key _ h (.inl ⟨by omega,znt hs hc⟩)
  rcases step h with⟨e,h⟩|h; ·exact key _ h (.inl ⟨by omega,zsV hs⟩)
  rcases step h with⟨e,h⟩|h; ·exact key _ h (.inl ⟨by omega,zny hs⟩)
  rcases step h with⟨e,h⟩|h; ·exact key _ h (.inl ⟨by omega,zmj hs hc.t0 hc.t1⟩)
  rcases step h with⟨e,h⟩|h; ·exact key _ h (.inl ⟨by omega,zqg hs hc⟩)
  rcases step h with⟨e,h⟩|h; ·exact key _ h (.inl ⟨by omega,zom hs⟩)
  cases h
 ·have hd:=zsx hp;unfold zbu at h;obtain⟨_,h⟩:=zaF h;rw[hd]at h;have h:zdq s task c run=.ok x:=h;exact(ziC hs hr hd).2 x h hp
theorem zxB(hs:SInv s)(h0:0≤task)(h8:task<8)(hA:s.alive task.toNat=true):∃s' b,doB s task (zbo 20) run=(s',⟨0,0,0⟩,b)∧SInv s'∧(zch s.t).Perm (zch s'.t++pgs b)∧s'.alive=zaq s.alive task.toNat false:=by
 obtain⟨s',b,h1,h2⟩:=zhg hs h0 h8;refine⟨s',b,?_,h2⟩;unfold doB;have:zbu s task (zbo 20) run=exX (zet s task):=by unfold zbu;rw[zFQ h0,zFQ h8,hA];rfl
 rw[this,h1]
theorem zuX(hn:zaE s task c>0):(doB s task c run).2.1.e≠6:=by
 have hd:=zsx hn;have hk:∃n,zh6 s task c=.ok n∧n>0:=by
  unfold zaE at hn;rw[hd]at hn;have hn:(match zh6 s task c with
   | .ok n=>n
   | .error _=>0)>0:=hn
  cases hq:zh6 s task c with
  |ok n=>rw[hq]at hn;exact⟨n,rfl,hn⟩
  |error e=>rw[hq]at hn;exact absurd (show(0:Int)>0 from hn) (by decide)
 obtain⟨n,hk,hn⟩:=hk;unfold doB;cases hc:zbu s task c run with
 |ok x=>
  unfold zbu at hc;obtain⟨_,h⟩:=zaF hc;rw[hd]at h;have h:zdq s task c run=.ok x:=h;unfold zdq at h;obtain⟨_,h⟩:=zaF h;obtain⟨_,h⟩:=zaF h;obtain⟨_,h⟩:=zaF h;have hp:∀r,zlO s c r=.ok x→x.2.1.e=0:=fun r h=>by obtain⟨_,h⟩:=zaF h;cases h;rfl
  cases hf:zjD (zaj s.t c.r).rs (zaj s.t c.r).len (zbs c.a 129) (zbs c.b 9)with
  |true=>rw[hf]at h;have:=hp _ h;show x.2.1.e≠6;rw[this];decide
  |false=>
   rw[hf]at h;obtain⟨_,h⟩:=zaF h;obtain⟨_,h⟩:=zaF h;have:=hp _ h;show x.2.1.e≠6;rw[this];decide
 |error e=>
  show e≠6;intro he;subst he;have er:∀{α:Type} {e e':Int} {k:Except Int α},thn e k=.error e'→(e≠0∧e=e')∨(e=0∧k=.error e'):=fun{α e e' k} h=>by
   by_cases c:e=0
   ·rw[zap c]at h;exact .inr ⟨c,h⟩
   ·rw[zaP c]at h;cases h;exact .inl ⟨c,rfl⟩
  have no12:∀{b:Bool} {k:Int},k≠6→no b k≠6:=fun{b k} h=>by
   cases b with
   |true=>exact(show(0:Int)≠6 by decide)
   |false=>exact h
  unfold zbu at hc;rcases er hc with⟨_,h⟩|⟨_,h⟩
  ·exact no12 (by decide) h
  rw[hd]at h;have h:zdq s task c run=.error 6:=h;unfold zdq at h;unfold zh6 at hk;obtain⟨a1,hk⟩:=zaF hk;obtain⟨a2,hk⟩:=zaF hk;obtain⟨a3,hk⟩:=zaF hk;rw[zap a1,zap a2,zap a3]at h;cases hf:zjD (zaj s.t c.r).rs (zaj s.t c.r).len (zbs c.a 129) (zbs c.b 9)with
  |true=>
   rw[hf]at h hk;have h:zlO s c (zaj s.t c.r)=.error 6:=h;rw[h]at hk;cases hk
  |false=>
   rw[hf]at h hk;obtain⟨a4,hk⟩:=zaF hk;have h:thn (no (decide (zaS (zaj s.t c.r).rs+zbm (zbs c.a 129) (zbs c.b 9)≤(zaj s.t c.r).quota)) 6) (thn (no ((run.n==zbm (zbs c.a 129) (zbs c.b 9))&&zmD (zcV (zaj s.t c.r) run).rs (zcV (zaj s.t c.r) run).len) 2) (zlO s c (zcV (zaj s.t c.r) run)))=.error 6:=h;rw[zap a4]at h;rcases er h with⟨_,h⟩|⟨_,h⟩
   ·exact no12 (by decide) h
   ·rcases er h with⟨_,h⟩|⟨_,h⟩
    ·exact absurd h (zyq _ _ _)
    ·cases h
end
def NE(R:Ex):Prop:=R≠.error 0
theorem zaR{e:Int}{R:Ex}(h:NE R):NE (thn e R):=fun hk=>by
 by_cases c:e=0
 ·rw[zap c]at hk;exact h hk
 ·rw[zaP c]at hk;cases hk;exact c rfl
theorem zdF(x:St×Rs×List Rn):NE (.ok x):=fun h=>by cases h
theorem zbY{b:Bool}{R Q:Ex}(h:NE R)(k:NE Q):NE (bif b then R else Q):=by cases b<;>assumption
theorem zlk(s:St)(c:Call)(m:Msg):NE (zqq s c m):=zaR (zdF _)
theorem zkM{s:St}{task:Int}{c:Call}{run:Rn}(hs:SInv s)(hc:CallOk s task c):NE (zbu s task c run):=by
 have hx:∀t:Int,0≤t→t<8→NE (exX (zet s t)):=fun t h0 h8=>by obtain⟨s',b,h,_⟩:=zhg hs h0 h8;rw[h];exact zdF _
 have hk:NE (zmz s c):=fun hk=>by
  unfold zmz at hk;by_cases c0:znS s c.a=0
  ·rw[zap c0]at hk;have:=zjP (by decide) c0;simp only[zFR,zFS]at this;exact hx c.a hc.a.1 this.1 hk
  ·rw[zaP c0]at hk;exact c0 (by injection hk)
 refine zaR ?_;refine zbY (zaR (zaR (zbY (zaR (zdF _)) (zdF _)))) ?_;refine zbY (zaR (zaR (zaR (zbY (zaR (zdF _)) (zaR (zaR (zaR (zdF _)))))))) ?_;refine zbY (zaR (zaR (zaR (zaR (zdF _))))) ?_;refine zbY (zaR (zaR (zaR (zaR (zdF _))))) ?_;refine zbY (zaR (zaR (zaR (zdF _)))) ?_;refine zbY (zaR (zdF _)) ?_;refine zbY (zaR (zaR (zaR (zaR (zdF _))))) ?_;refine zbY (zaR (zaR (zaR (zdF _)))) ?_;refine zbY (zaR (zaR (zaR (zdF _)))) ?_;refine zbY (zaR (zaR (zaR (zdF _)))) ?_;refine zbY (zaR (zaR (zdF _))) ?_;refine zbY (zaR (zaR (zaR (zaR (zaR (zdF _)))))) ?_;refine zbY (zaR (zaR (zdF _))) ?_;refine zbY (zaR (zaR (zbY (zaR (zlk _ _ _)) (zbY (zaR (zaR (zaR (zlk _ _ _)))) (zlk _ _ _))))) ?_;refine zbY (zaR (zbY (zaR (zdF _)) (zdF _))) ?_;refine zbY (zaR (zbY (zaR (zdF _)) (zdF _))) ?_;refine zbY (zaR (zdF _)) ?_;refine zbY (zaR (zaR (zaR (zdF _)))) ?_;refine zbY (zaR (zaR (zdF _))) ?_;refine zbY (hx task hc.t0 hc.t1) ?_;refine zbY hk ?_;exact zbY (zaR (zdF _)) (fun h=>by cases h)
end Sx
namespace Sx
def swN(i j k:Nat):Nat:=bif Nat.beq k i then j else bif Nat.beq k j then i else k
theorem zn1{a b:Nat}(h:a≠b):Nat.beq a b=false:=by
 cases hq:Nat.beq a b with
 |false=>rfl
 |true=>exact absurd (zGk hq) h
theorem zyK(i j:Nat):swN i j i=j:=by unfold swN;rw[zIh];rfl
theorem zyL(i j:Nat):swN i j j=i:=by
 unfold swN;by_cases h:j=i
 ·subst h;rw[zIh];rfl
 ·rw[zn1 h,zIh];rfl
theorem zvo{i j k:Nat}(h1:k≠i)(h2:k≠j):swN i j k=k:=by unfold swN;rw[zn1 h1,zn1 h2];rfl
theorem zhJ(i j k:Nat):swN i j (swN i j k)=k:=by
 by_cases h1:k=i
 ·rw[h1,zyK,zyL]
 ·by_cases h2:k=j
  ·rw[h2,zyL,zyK]
  ·rw[zvo h1 h2,zvo h1 h2]
def swG{α:Type}(l:List α)(i j:Nat):List α:=match l[i]?,l[j]? with
 |some x,some y=>(l.set i y).set j x
 |_,_=>l
theorem zhH{α:Type}(l:List α)(i j:Nat):(swG l i j).length=l.length:=by unfold swG;split<;>simp
theorem zgn{α:Type}{l:List α}{i j:Nat}(hi:i<l.length)(hj:j<l.length)(k:Nat):(swG l i j)[k]?=l[swN i j k]?:=by
 unfold swG;rw[zHa hi,zHa hj];simp only[zIw,zHM];by_cases h2:j=k
 ·rw[←h2,zyL];by_cases h1:j=i
  ·subst h1;simp[hj]
  ·simp[hj,zHa hi]
 ·by_cases h1:i=k
  ·rw[←h1,zyK];have:¬j=i:=fun e=>h2 (e.trans h1);simp[hi,this,zHa hj]
  ·rw[zvo (fun e=>h1 e.symm) (fun e=>h2 e.symm)];simp[h1,h2]
def Hd.ren(ρ:Nat→Nat):Hd→Hd
 | .sb id p lo n=>.sb (ρ id) p lo n
 |h=>h
def SV.ren(ρ:Nat→Nat):SV→SV
 | .pt id p=>.pt (ρ id) p
 | .fn f c=>.fn f (c.ren ρ)
 | .pr a b=>.pr (a.ren ρ) (b.ren ρ)
 | .tu a=>.tu (a.ren ρ)
 | .ob k=>.ob (k.ren ρ)
 | .ar n t f=>.ar n t fun i=>(f i).ren ρ
 | .fb f a=>.fb f (a.ren ρ)
 |v=>v
def Out.ren(ρ:Nat→Nat):Out→Out
 | .ret v=>.ret (v.ren ρ)
 | .pan d=>.pan d
theorem zgV(ρ:Nat→Nat):∀v:SV,(v.ren ρ).shape=v.shape
 | .d _| .pt .. | .el _| .fn .. | .ow .. | .tu _| .ob _| .ar .. | .fb .. =>rfl
 | .pr a b=>by simp only[SV.ren,SV.shape,zgV ρ a,zgV ρ b]
theorem zof(ρ:Nat→Nat):∀v:SV,(v.ren ρ).agg=v.agg
 | .d _| .pt .. | .el _| .fn .. | .ow .. | .tu _| .ob _| .ar .. | .fb .. | .pr .. =>rfl
structure Rn2 (ρ:Nat→Nat) (bl bl':Bl):Prop where
 b:∀(id:Nat) x,bl.b[id]?=some x→bl'.b[ρ id]?=some x
 t:bl'.t=bl.t
 o:bl'.o=bl.o
 g:bl'.g=bl.g
theorem zb5.ren{ρ:Nat→Nat}{ro:Ro}{bl bl':Bl}(h:Rn2 ρ bl bl'):∀{v:SV} {cs:List Value},zb5 ro bl v cs→zb5 ro bl' (v.ren ρ) cs
 | .d _,_,hv| .el _,_,hv=>hv
 | .pt id p,_,⟨blk,t,o,t',h1,h2⟩=>⟨blk,t,o,t',h.b _ _ h1,h2⟩
 | .fn _ _,_,⟨vs,h1,h2⟩=>⟨vs,h1.ren h,h2⟩
 | .ow id ver n t f,_,⟨x,e,h1,h2,h3⟩=>⟨x,e,h1,by
  cases id with
  |zero=>exact h2
  |succ k=>show bl'.t[k]?=_;rw[h.t];exact h2,h3⟩
 | .pr _ _,_,⟨c1,c2,e,h1,h2⟩=>⟨c1,c2,e,h1.ren h,h2.ren h⟩
 | .ob k,_,⟨x,e,h1⟩=>⟨x,e,by
  cases k with
  |mr|mq|mp|yl|mo=>first|(unfold Hd.ren zgv at*;rw[h.o];exact h1)
  |sb id p lo n=>
   obtain⟨blk,t,o,c,t',g1,g2⟩:=h1;exact⟨blk,t,o,c,t',h.b _ _ g1,g2⟩
  |gl g=>exact h1
  |gm=>unfold Hd.ren zgv at*;rw[h.g];exact h1⟩
 | .fb f a,_,⟨x,h1,h2⟩=>⟨x,⟨h1.1.ren h,by rw[zof];exact h1.2⟩,h2⟩
 | .ar n t f,_,⟨g,e,hg⟩=>⟨g,e,fun i hi=>⟨by rw[zgV];exact(hg i hi).1,(hg i hi).2.ren h⟩⟩
theorem zcD.ren{ρ:Nat→Nat}{ro:Ro}{bl bl':Bl}(h:Rn2 ρ bl bl'){v:SV}{x:Value}(hv:zcD ro bl v x):zcD ro bl' (v.ren ρ) x:=
 ⟨fun ha=>let⟨cs,h1,hx⟩:=hv.1 (by rw[zof]at ha;exact ha);⟨cs,h1.ren h,hx⟩,fun ha=>(hv.2 (by rw[zof]at ha;exact ha)).ren h⟩
theorem zkz.ren{ρ:Nat→Nat}{ro:Ro}{bl bl':Bl}(h:Rn2 ρ bl bl'):∀{v:SV} {vs:List Value},zkz ro bl v vs→zkz ro bl' (v.ren ρ) vs
 | .d _,_,hv| .pt _ _,_,hv| .el _,_,hv| .fn _ _,_,hv| .ow _ _ _ _ _,_,hv| .tu _,_,hv| .ob _,_,hv| .fb ..,_,hv| .ar ..,_,hv=>hv
 | .pr _ _,_,⟨x,r,e,h1,h2⟩=>⟨x,r,e,h1.ren h,h2.ren h⟩
theorem zaX.ren{ρ:Nat→Nat}{ro:Ro}{bl bl':Bl}(h:Rn2 ρ bl bl'):∀{v:SV} {x:Value},zaX ro bl v x→zaX ro bl' (v.ren ρ) x
 | .tu _,_,⟨vs,hv,hx⟩=>⟨vs,hv.ren h,hx⟩
 | .d _,_,hv| .pt _ _,_,hv| .el _,_,hv| .fn _ _,_,hv| .ow _ _ _ _ _,_,hv| .pr _ _,_,hv| .ob _,_,hv| .fb ..,_,hv| .ar ..,_,hv=>zcD.ren h hv
theorem za5.ren{ρ:Nat→Nat}{ro:Ro}{bl bl':Bl}(h:Rn2 ρ bl bl'):∀{a:List SV} {xs:List Value},za5 ro bl a xs→za5 ro bl' (a.map (SV.ren ρ)) xs
 |[],[],_=>trivial
 |_::_,_::_,hv=>⟨hv.1.ren h,za5.ren h hv.2⟩
 |[],_::_,hv|_::_,[],hv=>hv
def Bl.sw(bl:Bl)(i j:Nat):Bl:=⟨swG bl.b i j,bl.t,bl.o,bl.k,bl.g⟩
def swL(l:List SV)(i j:Nat):List SV:=swG (l.map (SV.ren (swN i j))) i j
section
variable {E:Gh} {ro:Ro} {bl:Bl} {m:MS} {w:World} {i j:Nat}
theorem zmU(hi:i<bl.b.length)(hj:j<bl.b.length):Rn2 (swN i j) bl (bl.sw i j):=
 ⟨fun id x h=>by show(swG bl.b i j)[swN i j id]?=_;rw[zgn hi hj,zhJ];exact h,rfl,rfl,rfl⟩
theorem zBU(hi:i<bl.b.length)(hj:j<bl.b.length){id:Nat}{x:Nat×Ty}(h:(bl.sw i j).b[id]?=some x):bl.b[swN i j id]?=some x:=by have h:(swG bl.b i j)[id]?=_:=h;rw[zgn hi hj]at h;exact h
theorem znJ(hi:i<bl.b.length)(hj:j<bl.b.length)(b:Nat):(bl.sw i j).hb b↔bl.hb b:=by
 constructor
 ·rintro(⟨id,x,h1,h2⟩|h)
  ·exact .inl ⟨_,x,zBU hi hj h1,h2⟩
  ·exact .inr h
 ·rintro(⟨id,x,h1,h2⟩|h)
  ·exact .inl ⟨_,x,(zmU hi hj).b _ _ h1,h2⟩
  ·exact .inr h
theorem Mem.sw(h:Mem E ro bl m w)(hi:i<m.c.length)(hj:j<m.c.length)(ho:m.o=[]):Mem E ro (bl.sw i j) ⟨swL m.c i j,m.t,[]⟩ w:=by
 have hi':i<bl.b.length:=by rw[h.len];exact hi
 have hj':j<bl.b.length:=by rw[h.len];exact hj
 have hbo:bl.o=[]:=zHp.1 (by rw[h.olen,ho];rfl);have hbs:(bl.sw i j).o=[]:=hbo;have hhas:(bl.sw i j).has=bl.has:=funext fun b=>propext (by unfold Bl.has;rw[znJ hi' hj'];exact Iff.rfl);refine⟨⟨?_,h.ver,fun id blk t v hx hc=>?_,fun a b x y hx hy e=>?_,h.tail,h.tinj,h.known,by rw[hbs];rfl,fun id y x hy=>by rw[hbs]at hy;simp at hy,fun a b x y k hx=>by rw[hbs]at hx;simp at hx,fun a b x y hx hy=>by rw[hbs]at hy;simp at hy⟩,by rw[hhas];exact h.gh,h.glob,⟨fun hb=>h.gno.1 ((znJ hi' hj' _).1 hb),fun hb=>h.gno.2 ((znJ hi' hj' _).1 hb)⟩,h.marks⟩
 ·show(swG bl.b i j).length=(swG (m.c.map (SV.ren (swN i j))) i j).length;rw[zhH,zhH,zFH];exact h.len
 ·have hx:=zBU hi' hj' hx;have hc:(swG (m.c.map (SV.ren (swN i j))) i j)[id]?=some v:=hc;rw[zgn (by simpa using hi) (by simpa using hj),zHz]at hc;obtain⟨u,hu,rfl⟩:=zGj.1 hc;obtain⟨cells,e,h1,h2,h3,h4⟩:=h.box _ _ _ _ hx hu;exact⟨cells,e,h1,h2.ren (zmU hi' hj'),by rw[zgV];exact h3,h4⟩
 ·have:=h.inj _ _ _ _ (zBU hi' hj' hx) (zBU hi' hj' hy) e;rw[←zhJ i j a,this,zhJ]
end
theorem zkP{P:Program}{f:FuncId}{args:List SV}{c:List SV}{t:List Nat}(i j:Nat)(hi:i<c.length)(hj:j<c.length){K:Out→MS→Prop}
 (h:Con P f (args.map (SV.ren (swN i j))) ⟨swL c i j,t,[]⟩ fun o m'=>m'.o=[]∧K (o.ren (swN i j)) ⟨swL m'.c i j,m'.t,[]⟩):Con P f args ⟨c,t,[]⟩ K:=by
 refine⟨h.1,fun E ro bl w xs hM hA=>?_⟩;have hi':i<bl.b.length:=by rw[hM.len];exact hi
 have hj':j<bl.b.length:=by rw[hM.len];exact hj
 refine(h.2 E ro (bl.sw i j) w xs (hM.sw hi hj rfl) (hA.ren (zmU hi' hj'))).mono ?_;rintro e w' ⟨ro',bl',m',out,h1,h2,h3,h4,h5⟩;have hle:(bl.sw i j).b.length≤bl'.b.length:=by refine zIr.1 fun hlt=>?_;have hg:=h2.le.b bl'.b.length ((bl.sw i j).b[bl'.b.length]) (zHa hlt);rw[zIR (zF5 _)]at hg;cases hg
 have hl:(bl.sw i j).b.length=bl.b.length:=zhH _ _ _;have hi2:i<bl'.b.length:=by omega
 have hj2:j<bl'.b.length:=by omega
 have hM2:=h1.sw (i:=i) (j:=j) (by rw[←h1.len];exact hi2) (by rw[←h1.len];exact hj2) h4;refine⟨ro',bl'.sw i j,_,out.ren (swN i j),hM2,⟨h2.os,h2.tape,h2.output,h2.size,fun b hb hn=>h2.old b hb fun hh=>hn ((znJ hi' hj' b).1 hh),⟨h2.le.r,fun id x hx=>?_,h2.le.t,h2.le.o,h2.le.g⟩,fun b hb=>?_,h2.k⟩,?_,h5⟩
 ·show(swG bl'.b i j)[id]?=some x;rw[zgn hi2 hj2];exact h2.le.b _ _ ((zmU hi' hj').b _ _ hx)
 ·rcases h2.new b ((znJ hi2 hj2 b).1 hb)with g|g
  ·exact .inl ((znJ hi' hj' b).1 g)
  ·exact .inr g
 ·cases out with
  |ret v=>obtain⟨x,e,hx⟩:=h3;exact⟨x,e,hx.ren (zmU hi2 hj2)⟩
  |pan d=>obtain⟨x,e,hx⟩:=h3;exact⟨x,e,hx.ren (zmU hi2 hj2)⟩
theorem zkm{ro ro':Ro}{bl bl':Bl}(hl:Le ro bl ro' bl'):∀{a:List SV} {xs:List Value},za5 ro bl a xs→za5 ro' bl' a xs
 |[],[],_=>trivial
 |_::_,_::_,h=>⟨h.1.mono hl,zkm hl h.2⟩
 |[],_::_,h|_::_,[],h=>h
theorem zoQ{P:Program}{f:FuncId}{args:List SV}{m:MS}{K:Out→MS→Prop}(id:Nat)(path:List Nat)(ty:Ty)(f1:Nat→D){ty0:Ty}{f0:Nat→D}{v v':SV}(hc:zg6 m.c id=some v)(hl:v.nav path=some (.ow 0 0 0 ty0 f0))(hv:v.set path (.ow (m.t.length+1) 0 0 ty f1)=some v')(hoff:∃o t',v.shape.off path=some (o,t'))
 (h:Con P f args ⟨zmV m.c id v',m.t++[0],m.o⟩ K):Con P f args m K:=by
 refine⟨h.1,fun E ro bl w xs hM hA=>?_⟩;obtain⟨h1,hG,h2,hrep⟩:=zkA hM;rw[zdi]at hc;rw[zfy]at h;have hM':Mem E ro (bl.tadd (none,0,0)) ⟨m.c.set id v',m.t++[0],m.o⟩ w:=by
  refine⟨⟨by show(bl.tadd _).b.length=(m.c.set id v').length;rw[zHM];exact h1.len,h1.ver,fun i blk t u hb hu=>?_,h1.inj,h1.tail,h1.tinj,h1.known,h1.olen,h1.obj,h1.oinj,h1.bo⟩,h1.gh,h1.glob,h1.gno,h1.marks⟩;rcases zb1 hu with⟨rfl,rfl⟩|⟨_,hu⟩
  ·obtain⟨cells,e,g1,g2,g3,g4⟩:=h1.box i blk t v hb hc;refine⟨cells,e,g1,?_⟩;subst g3;obtain⟨o,t',ho⟩:=hoff;obtain⟨hs,hr1⟩:=SV.nav_rep g2 ho hl;cases hs;obtain⟨cells0,e0,q1,q2,q3,q4⟩:=hM.box i blk _ v hb hc;rw[g1]at q1;cases q1;obtain⟨_,hr0⟩:=SV.nav_rep q2 ho hl;obtain⟨k1,k2⟩:=SV.set_rep g2 ho (hrep (ty:=ty) (f:=f1) hr0) rfl hv;have:(cells.toList.take o++(cells.toList.drop o).take (Ty.size .c)++cells.toList.drop (o+Ty.size .c))=cells.toList:=by rw[zG5,←zGV,zG1,zG1]
   rw[show(SV.ow 0 0 0 ty0 f0).shape.size=Ty.size .c from rfl]at k2;rw[this]at k2;exact⟨k2,k1,g4⟩
  ·exact h1.box i blk t u hb hu
 refine(h.2 E ro _ w xs hM' (zkm h2 hA)).mono ?_;rintro e w' ⟨ro',bl',m',out,q1,q2,q3,q4⟩;exact⟨ro',bl',m',out,q1,hG.trans q2,q3,q4⟩
end Sx
namespace Sx
theorem zq2{a b c c':SV}(h:∀ro bl x,zcD ro bl c x→zcD ro bl c' x):(T3 a b c).le (T3 a b c'):=fun ro bl x ⟨vs,h1,h2⟩=>by obtain⟨x1,r1,rfl,g1,x2,r2,rfl,g2,x3,r3,rfl,g3,g4⟩:=h1;exact⟨_,⟨x1,_,rfl,g1,x2,_,rfl,g2,x3,_,rfl,h _ _ _ g3,g4⟩,h2⟩
def Z0(R:Ex):Prop:=∀y,R=.ok y→y.2.1.e=0
theorem zbc{e:Int}{R:Ex}(h:Z0 R):Z0 (thn e R):=fun y hy=>h y (zaF hy).2
theorem zhM{s:St}{r:Rs}{b:List Rn}(h:r.e=0):Z0 (.ok (s,r,b)):=fun y hy=>by cases hy;exact h
theorem zdb{b:Bool}{R Q:Ex}(h:Z0 R)(k:Z0 Q):Z0 (bif b then R else Q):=by cases b<;>assumption
theorem zBw(R:Except Int (St×List Rn)):Z0 (exX R):=by
 cases R with
 |ok y=>exact zhM rfl
 |error e=>exact fun y hy=>by cases hy
theorem zzT{s:St}{task:Int}{c:Call}{run:Rn}:Z0 (zbu s task c run):=by refine zbc ?_;refine zdb (zbc (zbc (zdb (zbc (zhM rfl)) (zhM rfl)))) ?_;refine zdb (zbc (zbc (zbc (zdb (zbc (zhM rfl)) (zbc (zbc (zbc (zhM rfl)))))))) ?_;refine zdb (zbc (zbc (zbc (zbc (zhM rfl))))) ?_;refine zdb (zbc (zbc (zbc (zbc (zhM rfl))))) ?_;refine zdb (zbc (zbc (zbc (zhM rfl)))) ?_;refine zdb (zbc (zhM rfl)) ?_;refine zdb (zbc (zbc (zbc (zbc (zhM rfl))))) ?_;refine zdb (zbc (zbc (zbc (zhM rfl)))) ?_;refine zdb (zbc (zbc (zbc (zhM rfl)))) ?_;refine zdb (zbc (zbc (zbc (zhM rfl)))) ?_;refine zdb (zbc (zbc (zhM rfl))) ?_;refine zdb (zbc (zbc (zbc (zbc (zbc (zhM rfl)))))) ?_;refine zdb (zbc (zbc (zhM rfl))) ?_;refine zdb (zbc (zbc (zdb (zbc (zbc (zhM rfl))) (zdb (zbc (zbc (zbc (zbc (zhM rfl))))) (zbc (zhM rfl)))))) ?_;refine zdb (zbc (zdb (zbc (zhM rfl)) (zhM rfl))) ?_;refine zdb (zbc (zdb (zbc (zhM rfl)) (zhM rfl))) ?_;refine zdb (zbc (zhM rfl)) ?_;refine zdb (zbc (zbc (zbc (zhM rfl)))) ?_;refine zdb (zbc (zbc (zhM rfl))) ?_;refine zdb (zBw _) ?_;refine zdb (zbc (zBw _)) ?_;exact zdb (zbc (zhM rfl)) (fun y hy=>by cases hy)
theorem zzL{s:St}{task:Int}{c:Call}{e:Int}(h:zh6 s task c=.error e):e≠0:=by
 have er:∀{α:Type} {e e':Int} {k:Except Int α},thn e k=.error e'→(e≠0∧e=e')∨k=.error e':=fun{α e e' k} h=>by
  by_cases c:e=0
  ·rw[zap c]at h;exact .inr h
  ·rw[zaP c]at h;cases h;exact .inl ⟨c,rfl⟩
 unfold zh6 at h;rcases er h with⟨h1,h2⟩|h
 ·exact h2▸h1
 rcases er h with⟨h1,h2⟩|h
 ·exact h2▸h1
 rcases er h with⟨h1,h2⟩|h
 ·exact h2▸h1
 cases hf:zjD (zaj s.t c.r).rs (zaj s.t c.r).len (zbs c.a 129) (zbs c.b 9)with
 |true=>
  rw[hf]at h;cases hp:zlO s c (zaj s.t c.r)with
  |ok y=>rw[hp]at h;cases h
  |error e'=>
   rw[hp]at h;have h:(Except.error e':Except Int Int)=.error e:=h;cases h;rcases er hp with⟨h1,h2⟩|hp
   ·exact h2▸h1
   ·cases hp
 |false=>
  rw[hf]at h;rcases er (show thn _ _=_ from h)with⟨h1,h2⟩|h
  ·exact h2▸h1
  ·cases h
attribute [local irreducible] Con zax zan zau zai zaw zbt zak zaC zbh zba I64
section
variable {s:St} {task:Int} {c:Call} {run:Rn}
theorem zB1(hs:StD s)(hM:zit s)(hc:CallOk s task c)(hr:zbd run∨run.n=0)(hN:NE (zbu s task c run)):zay Tryz.prog 66 [.d (za7 s),I task,.d (zaW c),.d (zar run)] (T3 (.d (za7 (doB s task c run).1)) (.d (zaK (doB s task c run).2.1)) (.d (sls zca (rnL (doB s task c run).2.2)))):=by
 refine zat Tryz.func66 rfl (by kernel_rfl) rfl rfl rfl ?_;conv=>whnf
 refine zhd (m':=⟨[_,_,_,_,_,clW (cl0 s task c run 0 false) (.ow 0 0 0 _ _)],[],[]⟩) rfl ?_;refine zoQ 5 [6] zca (za4 []) rfl rfl rfl ⟨_,_,rfl⟩ ?_;refine zkP 0 5 (zFG rfl) (zFG rfl) ?_;refine zkO (a':=[.pt 0 []]) rfl (zhd (m':=⟨zaQ (cl0 s task c run 0 false) 0::[_,_,_,_,.d (za7 s)],[0],[]⟩) rfl ?_);refine zpW (zrg (n:=0) (a:=false) (v:=0) hs hM hc hr) rfl (zka _ _) (fun o m ⟨v',x',r,_,hm,_⟩=>⟨_,_,hm⟩) fun o C' v' ⟨v2,x',r,ho,hm,hk⟩=>?_;have e1:=congrArg MS.c hm;have e2:=congrArg MS.t hm;simp only[zFD,zFE]at e1 e2;subst e1 e2 ho;have hk:=hk.1 rfl;have hN0:=zzT (s:=s) (task:=task) (c:=c) (run:=run);refine⟨rfl,?_⟩;conv=>whnf
 refine⟨fun h1=>?_,fun h1=>?_⟩
 ·have h1:(r.e != 0)=true:=h1;conv=>whnf
  refine zaA zaa (by kernel_rfl) (List.range 5) [(2,2),(3,0)] (by kernel_rfl) ?_;conv=>whnf
  refine⟨(show _∧_ from⟨rfl,rfl⟩),zas ?_ ?_⟩;rotate_left
  ·repeat' (first|exact trivial|refine And.intro (show _∧_ from⟨rfl,rfl⟩) ?_)
  conv=>whnf
  have e:doB s task c run=(s,r,[]):=by
   unfold doB;cases hq:zbu s task c run with
   |ok y=>
    rw[hq]at hk;have:=hN0 _ hq;rw[hk.1,this]at h1;cases h1
   |error e=>rw[hq]at hk;rw[hk]
  rw[e];exact⟨rfl,zeU (zq2 fun ro bl x h=>zcO _ _ _ _ ro bl x h)⟩
 ·have h1:(r.e != 0)=false:=h1;conv=>whnf
  refine zaA zaa (by kernel_rfl) (List.range 12) [(9,496),(10,480)] (by kernel_rfl) ?_;conv=>whnf
  refine⟨(show _∧_ from⟨rfl,rfl⟩),zas ?_ ?_⟩;rotate_left
  ·repeat' (first|exact trivial|refine And.intro (show _∧_ from⟨rfl,rfl⟩) ?_)
  conv=>whnf
  refine⟨(show _∧_ from⟨rfl,rfl⟩),zas ?_ ?_⟩;rotate_left
  ·repeat' (first|exact trivial|refine And.intro (show _∧_ from⟨rfl,rfl⟩) ?_)
  conv=>whnf
  have e:doB s task c run=(x'.s,r,x'.back):=by
   unfold doB;cases hq:zbu s task c run with
   |ok y=>
    obtain⟨s',r',b⟩:=y;rw[hq]at hk;obtain⟨k1,k2,k3⟩:=hk;rw[k1,k2,k3]
   |error e=>
    rw[hq]at hk;rw[hk]at h1;have:e=0:=by simpa using h1
    exact absurd (this▸hq) hN
  rw[e];exact⟨rfl,zae rfl⟩
theorem ziu(hs:StD s)(hM:zit s)(hc:CallOk s task c)(hA:s.alive task.toNat=true):zay Tryz.prog 16 [.d (za7 s),I task,.d (zaW c)] (I (zaE s task c)):=by
 refine zat Tryz.func16 rfl (by kernel_rfl) rfl rfl rfl ?_;conv=>whnf
 refine⟨fun h1=>?_,fun h1=>⟨.d (zaK ⟨0,0,0⟩),?_⟩⟩
 ·have h2:c.do_=2:=by have h1:((c.do_ != 2)==false&&true)=true:=h1;simpa using h1
  conv=>whnf
  refine zhd (m':=⟨[_,_,clW (cl0 s task c zaO 0 true) (.ow 0 0 0 _ _)],[],[]⟩) rfl ?_;refine zoQ 2 [6] zca (za4 []) rfl rfl rfl ⟨_,_,rfl⟩ ?_;refine zkP 0 2 (zFG rfl) (zFG rfl) ?_;refine zkO (a':=[.pt 0 []]) rfl (zhd (m':=⟨zaQ (cl0 s task c zaO 0 true) 0::[_,.d (za7 s)],[0],[]⟩) rfl ?_);refine zpW (zrg (n:=0) (a:=true) (v:=0) hs hM hc (.inr rfl)) rfl (zka _ _) (fun o m ⟨v',x',r,_,hm,_⟩=>⟨_,_,hm⟩) fun o C' v' ⟨v2,x',r,ho,hm,hk⟩=>?_;have e1:=congrArg MS.c hm;have e2:=congrArg MS.t hm;simp only[zFD,zFE]at e1 e2;subst e1 e2 ho;have hk:=hk.2 rfl hA h2;have hn:zaE s task c=(match zh6 s task c with
   | .ok n=>n
   | .error _=>0):=by unfold zaE;rw[h2];rfl
  refine⟨rfl,?_⟩;conv=>whnf
  refine⟨fun h3=>?_,fun h3=>?_⟩
  ·have h3:((c.do_ != 2)||(r.e != 0))=true:=h3;have h4:r.e≠0:=by rw[h2]at h3;simpa using h3
   conv=>whnf
   refine⟨rfl,zae ?_⟩;cases hq:zh6 s task c with
   |ok k=>rw[hq]at hk;exact absurd hk.1 h4
   |error e=>rw[hn,hq];rfl
  ·have h3:((c.do_ != 2)||(r.e != 0))=false:=h3;have h4:r.e=0:=by rw[h2]at h3;simpa using h3
   conv=>whnf
   refine⟨rfl,zae ?_⟩;cases hq:zh6 s task c with
   |ok k=>
    rw[hq]at hk;rw[hn,hq];show I x'.needs=I k;rw[hk.2];by_cases c0:k=0
    ·rw[c0];rfl
    ·rw[zFN.2 c0];rfl
   |error e=>
    rw[hq]at hk;have h5:=zzL (hq▸rfl:zh6 s task c=.error e);exact absurd (hk.symm.trans h4) h5
 ·have h2:c.do_≠2:=by have h1:((c.do_ != 2)==false&&true)=false:=h1;simpa using h1
  conv=>whnf
  refine⟨fun h3=>?_,fun h3=>?_⟩
  ·conv=>whnf
   refine⟨rfl,zae ?_⟩;have:zaE s task c=0:=by unfold zaE;rw[zFN.2 h2];rfl
   rw[this];rfl
  ·have h3:((c.do_ != 2)||_)=false:=h3;rw[zFP.2 h2]at h3;cases h3
end
end Sx
end Go.Proofs.YtfbhkfhbnkncoaaGreatDoor
