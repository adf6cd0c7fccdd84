import Derived.Test.YtfbhkfhbnkncoaaGreatDoorT40
set_option linter.all false
namespace Go.Proofs.YtfbhkfhbnkncoaaGreatDoor
open Go.RowKit
namespace Sx
theorem zo5{f:Nat→List Int}{k:Nat}:∀{n:Nat},(∀i,i<n→(f i).length≤k)→((List.range n).flatMap f).length≤n*k
 |0,_=>zFV _
 |n+1,h=>by
  rw[zFW,zFX,zFY];have h1:=zo5 (n:=n) fun i hi=>h i (by omega);have h2:=h n (by omega);have h3:([n].flatMap f).length=(f n).length:=by simp
  rw[zFZ];omega
theorem zyi{t:Tb}{d:Int→Nat}(h:TInv t d):(zch t).length≤2048∧∀p∈zch t,0≤p∧p<64:=by
 refine⟨?_,fun p hp=>?_⟩
 ·refine zo5 (n:=32) (k:=64) fun i hi=>?_;have hr:=h.rg i hi;have h1:=zlr hr.ok;have h2:=hr.pg;have h3:=hr.q1;omega
 ·unfold zch at hp;obtain⟨i,hi,hp⟩:=zF0.1 hp;obtain⟨y,hy,hp⟩:=zeZ.1 hp;have h1:=(h.rg i (zF1.1 hi)).ok y hy;have h2:=zbF.1 hp;unfold zbd at h1;omega
theorem znz{s:St}{task:Int}{c:Call}{run:Rn}(hs:SInv s)(hc:CallOk s task c)(hr:zaE s task c>0→run.n=zaE s task c→zbd run):
 SInv (doB s task c run).1∧(∀y∈(doB s task c run).2.2,y.n≤0∨zbd y)∧(pgs (doB s task c run).2.2).length≤3000:=by
 obtain⟨k1,k2⟩:=zjX hs hc hr;unfold doB;cases hX:zbu s task c run with
 |error e=>exact⟨hs,(fun y hy=>by cases hy),zFV 3000⟩
 |ok x=>
  obtain⟨s',r,b⟩:=x;obtain⟨g1,g2⟩:=k1 s' r b hX;obtain⟨d,ht⟩:=hs.t;obtain⟨l1,l2⟩:=zyi ht;have hex:(bif decide (zaE s task c>0)then pg run else[]).length≤64∧∀p∈(bif decide (zaE s task c>0)then pg run else[]),0≤p∧p<64:=by
   by_cases hp:zaE s task c>0
   ·rw[zFQ hp];have h1:=hr hp (k2 _ hX hp);unfold zbd at h1;refine⟨?_,fun p hp=>?_⟩
    ·show(pg run).length≤64;have:(pg run).length=run.n.toNat:=by simp[pg]
     omega
    ·have:=zbF.1 (show p∈pg run from hp);omega
   ·rw[zFT hp];exact⟨zFV _,fun p hp=>by cases hp⟩
  have hall:∀p∈pgs b,0≤p∧p<64:=fun p hp=>by
   have:p∈zch s.t++(bif decide (zaE s task c>0)then pg run else[]):=g2.mem_iff.2 (zF2.2 (.inr hp));rcases zF2.1 this with h|h
   ·exact l2 p h
   ·exact hex.2 p h
  refine⟨g1,fun y hy=>?_,?_⟩
  ·by_cases hn:y.n≤0
   ·exact .inl hn
   ·refine .inr ?_;have h1:=hall y.at_ (zeZ.2 ⟨y,hy,zbF.2 (by omega)⟩);have h2:=hall (y.at_+y.n - 1) (zeZ.2 ⟨y,hy,zbF.2 (by omega)⟩);unfold zbd;omega
  ·have:=g2.length_eq;rw[zFY,zFY]at this;show(pgs b).length≤3000;omega
theorem zjq(v:Int)(a:Int):∀(l:List Int) (p:Pl) (i:Nat),zbG v p (l++[a]) i=zdI (zbG v p l i) a (IntKind.u8.wrap (zba .u64 v (8*((i+l.length:Nat):Int))))
 |[],p,i=>rfl
 |x::l,p,i=>by show zbG v (zdI p x _) (l++[a]) (i+1)=_;rw[zjq v a l];show zdI (zbG v (zdI p x _) l (i+1)) a _=zdI (zbG v (zdI p x _) l (i+1)) a _;rw[zFI,show i+1+l.length=i+(l.length+1) by omega]
theorem zle(p:Pl)(a:Int):∀(l:List Int) (v:Int) (i:Nat),zeM p v (l++[a]) i=zaC .or .u64 (zeM p v l i) (zbh .u64 (zly p a) (8*((i+l.length:Nat):Int)))
 |[],v,i=>rfl
 |x::l,v,i=>by show zeM p _ (l++[a]) (i+1)=_;rw[zle p a l];show zaC .or .u64 (zeM p _ l (i+1)) _=zaC .or .u64 (zeM p _ l (i+1)) _;rw[zFI,show i+1+l.length=i+(l.length+1) by omega]
def zdp(l:List Rn):Prop:=∀y∈l,0<y.n
def zg9(t:Tb):Prop:=∀i,i<32→zdp (t.r i).rs
theorem zdp.nil:zdp []:=fun _ h=>by cases h
theorem zdp.app{a b:List Rn}(h1:zdp a)(h2:zdp b):zdp (a++b):=fun y hy=>(zF2.1 hy).elim (h1 y) (h2 y)
theorem zg9.get{t:Tb}(h:zg9 t)(x:Int):zdp (zaj t x).rs:=by
 unfold zaj;cases zah t.b x with
 |true=>exact h _ (zei x)
 |false=>exact zdp.nil
theorem zg9.gone{t:Tb}(h:zg9 t)(l:List Int):zdp (zbC t l):=fun y hy=>by obtain⟨x,_,hy⟩:=zF0.1 hy;exact h.get x y hy
theorem zg9.drop{t:Tb}(h:zg9 t)(x:Int):zg9 (zdB t x):=by
 unfold zdB;cases zah t.b x with
 |false=>exact h
 |true=>
  intro i hi;show zdp (zaq t.r (slN x) rg0 i).rs;by_cases c:i=slN x
  ·rw[c,zag];exact zdp.nil
  ·rw[zaf c];exact h i hi
theorem zg9.drops:∀(l:List Int) {t:Tb},zg9 t→zg9 (zbv t l)
 |[],_,h=>h
 |x::l,_,h=>zg9.drops l (h.drop x)
theorem zg9.goneS{s:St}(h:zg9 s.t)(x:Int):zg9 (Sx.goneS s x).t∧zdp (zd4 s x):=⟨h.drops _,h.gone _⟩
theorem zg9.dropS{s:St}(h:zg9 s.t)(x task:Int):zg9 (zci s x task).1.t∧zdp (zci s x task).2:=by
 unfold zci;cases(zkg (zhp s.o s.t x task false).toNat==0)with
 |true=>exact⟨h.drops _,h.gone _⟩
 |false=>exact⟨h,zdp.nil⟩
theorem zk0{α:Type}{f:St→α→Except Int (St×List Rn)}(hf:∀s x s' b,zg9 s.t→f s x=.ok (s',b)→zg9 s'.t∧zdp b):∀(l:List α) (s:St) (b:List Rn) {s':St} {b':List Rn},zg9 s.t→zdp b→zdD f l s b=.ok (s',b')→zg9 s'.t∧zdp b'
 |[],s,b,s',b',h1,h2,h=>by cases h;exact⟨h1,h2⟩
 |x::l,s,b,s',b',h1,h2,h=>by
  unfold zdD at h;cases hq:f s x with
  |error e=>rw[hq]at h;cases h
  |ok p=>
   obtain⟨s1,c1⟩:=p;rw[hq]at h;obtain⟨g1,g2⟩:=hf s x s1 c1 h1 hq;exact zk0 hf l s1 (b++c1) g1 (h2.app g2) h
theorem zmg:∀(l:List Int) (s:St) (b:List Rn),zg9 s.t→zdp b→zg9 (ze7 s l b).1.t∧zdp (ze7 s l b).2
 |[],s,b,h1,h2=>⟨h1,h2⟩
 |x::l,s,b,h1,h2=>zmg l (goneS s x) (b++zd4 s x) (h1.goneS x).1 (h2.app (h1.goneS x).2)
theorem zoV{s:St}{task:Int}{s':St}{b:List Rn}(h:zg9 s.t)(hd:zet s task=.ok (s',b)):zdp b:=by
 unfold zet at hd;cases hq:zdD zdW (zcW (s.box task.toNat) (s.box task.toNat).n.toNat) (zhe s task) []with
 |error e=>rw[hq]at hd;cases hd
 |ok p=>
  obtain⟨s1,b1⟩:=p;rw[hq]at hd;obtain⟨g1,g2⟩:=zk0 (f:=zdW) (fun s x s' b h hx=>by
   unfold zdW at hx;cases hc:((x.reg==0)||x.sh)with
   |true=>rw[hc]at hx;cases hx;exact⟨h,zdp.nil⟩
   |false=>
    rw[hc]at hx;cases hc2:s.alive x.frm.toNat with
    |true=>
     rw[hc2]at hx;obtain⟨_,hx⟩:=zaF (show thn _ _=_ from hx);cases hx;exact⟨h,zdp.nil⟩
    |false=>
     rw[hc2]at hx;cases hx;exact h.goneS x.reg) _ _ _ (show zg9 (zhe s task).t from h) zdp.nil hq
  have hd:(let p:=ze7 (zbQ s1 task) (za2 (zbQ s1 task).o (zbQ s1 task).t (zfa task) (zb6 (zbQ s1 task).t.b)) b1;zdD (ze8 task) (za2 p.1.o p.1.t (zeR task) (zb6 p.1.t.b)) p.1 p.2)=.ok (s',b):=hd;have k:=zmg (za2 (zbQ s1 task).o (zbQ s1 task).t (zfa task) (zb6 (zbQ s1 task).t.b)) (zbQ s1 task) b1 (by unfold zbQ;exact g1) g2;generalize ze7 (zbQ s1 task) (za2 (zbQ s1 task).o (zbQ s1 task).t (zfa task) (zb6 (zbQ s1 task).t.b)) b1=p at hd k;have hd:zdD (ze8 task) (za2 p.1.o p.1.t (zeR task) (zb6 p.1.t.b)) p.1 p.2=.ok (s',b):=hd;refine(zk0 (f:=ze8 task) (fun s x s' b h hx=>?_) _ _ _ k.1 k.2 hd).2;unfold ze8 at hx;obtain⟨_,hx⟩:=zaF hx;have e1:(zci s x task).1=s':=congrArg (fun q:Except Int (St×List Rn)=>match q with
   | .ok p=>p.1
   | .error _=>s') hx
  have e2:(zci s x task).2=b:=congrArg (fun q:Except Int (St×List Rn)=>match q with
   | .ok p=>p.2
   | .error _=>b) hx
  have:=h.dropS x task;rw[e1,e2]at this;exact this
theorem zuk{s:St}(h:zg9 s.t){task:Int}{c:Call}{run:Rn}{s':St}{r:Rs}{b:List Rn}(hx:zbu s task c run=.ok (s',r,b)):zdp b:=by
 have key:∀(b1:Bool) (A B:Ex),((bif b1 then A else B)=.ok (s',r,b))→(A=.ok (s',r,b)→zdp b)→(B=.ok (s',r,b)→zdp b)→zdp b:=fun b1 A B h hA hB=>by
  cases b1 with
  |true=>exact hA h
  |false=>exact hB h
 have kx:∀X:Except Int (St×List Rn),(∀s' b,X=.ok (s',b)→zdp b)→exX X=.ok (s',r,b)→zdp b:=fun X hX h=>by
  cases X with
  |error e=>cases h
  |ok p=>obtain⟨s1,b1⟩:=p;cases h;exact hX _ _ rfl
 have kp:∀r1,zlO s c r1=.ok (s',r,b)→zdp b:=fun r1 h=>by obtain⟨_,h⟩:=zaF (show thn _ _=_ from h);cases h;exact zdp.nil
 unfold zbu at hx;obtain⟨_,hx⟩:=zaF hx;refine key _ _ _ hx (fun hx=>?_) fun hx=>?_
 ·unfold ztF at hx;obtain⟨_,hx⟩:=zaF hx;obtain⟨_,hx⟩:=zaF hx;refine key _ _ _ hx (fun hx=>?_) fun hx=>?_
  ·obtain⟨_,hx⟩:=zaF hx;cases hx;exact zdp.nil
  ·cases hx;exact zdp.nil
 refine key _ _ _ hx (fun hx=>?_) fun hx=>?_
 ·unfold zdq at hx;obtain⟨_,hx⟩:=zaF hx;obtain⟨_,hx⟩:=zaF hx;obtain⟨_,hx⟩:=zaF hx;refine key _ _ _ hx (fun hx=>?_) fun hx=>?_
  ·exact kp _ hx
  ·obtain⟨_,hx⟩:=zaF hx;obtain⟨_,hx⟩:=zaF hx;exact kp _ hx
 have kl:∀w,zld s task c w=.ok (s',r,b)→zdp b:=fun w hx=>by unfold zld at hx;obtain⟨_,hx⟩:=zaF hx;obtain⟨_,hx⟩:=zaF hx;obtain⟨_,hx⟩:=zaF hx;obtain⟨_,hx⟩:=zaF hx;cases hx;exact zdp.nil
 refine key _ _ _ hx (kl 0) fun hx=>?_;refine key _ _ _ hx (kl 1) fun hx=>?_;refine key _ _ _ hx (fun hx=>?_) fun hx=>?_
 ·unfold zpA at hx;obtain⟨_,hx⟩:=zaF hx;obtain⟨_,hx⟩:=zaF hx;obtain⟨_,hx⟩:=zaF hx;cases hx;exact h.get _
 refine key _ _ _ hx (fun hx=>?_) fun hx=>?_
 ·unfold zkT at hx;obtain⟨_,hx⟩:=zaF hx;cases hx;exact h.gone _
 refine key _ _ _ hx (fun hx=>?_) fun hx=>?_
 ·unfold zBE at hx;obtain⟨_,hx⟩:=zaF hx;obtain⟨_,hx⟩:=zaF hx;obtain⟨_,hx⟩:=zaF hx;obtain⟨_,hx⟩:=zaF hx;cases hx;exact zdp.nil
 refine key _ _ _ hx (fun hx=>?_) fun hx=>?_
 ·unfold zpa at hx;obtain⟨_,hx⟩:=zaF hx;obtain⟨_,hx⟩:=zaF hx;obtain⟨_,hx⟩:=zaF hx;cases hx;exact zdp.nil
 refine key _ _ _ hx (fun hx=>?_) fun hx=>?_
 ·unfold zk2 at hx;obtain⟨_,hx⟩:=zaF hx;obtain⟨_,hx⟩:=zaF hx;obtain⟨_,hx⟩:=zaF hx;cases hx;exact zdp.nil
 refine key _ _ _ hx (fun hx=>?_) fun hx=>?_
 ·unfold zpE at hx;obtain⟨_,hx⟩:=zaF hx;obtain⟨_,hx⟩:=zaF hx;obtain⟨_,hx⟩:=zaF hx;cases hx;exact zdp.nil
 refine key _ _ _ hx (fun hx=>?_) fun hx=>?_
 ·unfold zuy at hx;obtain⟨_,hx⟩:=zaF hx;obtain⟨_,hx⟩:=zaF hx;cases hx;exact(h.dropS _ _).2
 refine key _ _ _ hx (fun hx=>?_) fun hx=>?_
 ·unfold zuT at hx;obtain⟨_,hx⟩:=zaF hx;obtain⟨_,hx⟩:=zaF hx;obtain⟨_,hx⟩:=zaF hx;obtain⟨_,hx⟩:=zaF hx;obtain⟨_,hx⟩:=zaF hx;cases hx;exact zdp.nil
 refine key _ _ _ hx (fun hx=>?_) fun hx=>?_
 ·unfold zrb at hx;obtain⟨_,hx⟩:=zaF hx;obtain⟨_,hx⟩:=zaF hx;cases hx;exact zdp.nil
 have ks:∀s m,zqq s c m=.ok (s',r,b)→zdp b:=fun s m hx=>by unfold zqq at hx;obtain⟨_,hx⟩:=zaF hx;cases hx;exact zdp.nil
 refine key _ _ _ hx (fun hx=>?_) fun hx=>?_
 ·unfold zh4 at hx;obtain⟨_,hx⟩:=zaF hx;obtain⟨_,hx⟩:=zaF hx;refine key _ _ _ hx (fun hx=>?_) fun hx=>?_
  ·obtain⟨_,hx⟩:=zaF hx;exact ks _ _ hx
  ·refine key _ _ _ hx (fun hx=>?_) fun hx=>ks _ _ hx;obtain⟨_,hx⟩:=zaF hx;obtain⟨_,hx⟩:=zaF hx;obtain⟨_,hx⟩:=zaF hx;exact ks _ _ hx
 have kr:zh3 s task=.ok (s',r,b)→zdp b:=fun hx=>by
  unfold zh3 at hx;obtain⟨_,hx⟩:=zaF hx;refine key _ _ _ hx (fun hx=>?_) fun hx=>?_
  ·obtain⟨_,hx⟩:=zaF hx;cases hx;exact zdp.nil
  ·cases hx;exact zdp.nil
 refine key _ _ _ hx kr fun hx=>?_;refine key _ _ _ hx kr fun hx=>?_;refine key _ _ _ hx (fun hx=>?_) fun hx=>?_
 ·unfold zoL at hx;obtain⟨_,hx⟩:=zaF hx;cases hx;exact zdp.nil
 refine key _ _ _ hx (fun hx=>?_) fun hx=>?_
 ·unfold zAY at hx;obtain⟨_,hx⟩:=zaF hx;obtain⟨_,hx⟩:=zaF hx;obtain⟨_,hx⟩:=zaF hx;cases hx;exact zdp.nil
 refine key _ _ _ hx (fun hx=>?_) fun hx=>?_
 ·unfold zoS at hx;obtain⟨_,hx⟩:=zaF hx;obtain⟨_,hx⟩:=zaF hx;cases hx;exact zdp.nil
 refine key _ _ _ hx (kx _ fun _ _=>zoV h) fun hx=>?_;refine key _ _ _ hx (fun hx=>?_) fun hx=>?_
 ·unfold zmz at hx;obtain⟨_,hx⟩:=zaF hx;exact kx _ (fun _ _=>zoV h) hx
 refine key _ _ _ hx (fun hx=>?_) fun hx=>?_
 ·unfold zm0 at hx;obtain⟨_,hx⟩:=zaF hx;cases hx;exact zdp.nil
 ·cases hx
theorem zn9:∀{l:List Rn},zdp l→l.length≤(pgs l).length
 |[],_=>zFV _
 |y::l,h=>by
  have h1:=h y (zF3 ..);have h2:=zn9 (l:=l) fun z hz=>h z (zF4 _ hz);have h3:(pg y).length=y.n.toNat:=by simp[pg]
  show l.length+1≤(pg y++pgs l).length;rw[zFY];omega
theorem zoC{s:St}{d:Int→Nat}(h:TInv s.t d){task:Int}{c:Call}{run:Rn}:(doB s task c run).2.2.length≤(pgs (doB s task c run).2.2).length:=by
 refine zn9 ?_;have hp:zg9 s.t:=fun i hi y hy=>by have:=(h.rg i hi).ok y hy;unfold zbd at this;omega
 unfold doB;cases hX:zbu s task c run with
 |error e=>exact zdp.nil
 |ok x=>obtain⟨s',r,b⟩:=x;exact zuk hp hX
end Sx
end Go.Proofs.YtfbhkfhbnkncoaaGreatDoor
