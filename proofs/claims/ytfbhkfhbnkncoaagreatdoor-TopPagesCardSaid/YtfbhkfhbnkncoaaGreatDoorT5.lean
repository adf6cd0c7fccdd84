import Derived.Test.YtfbhkfhbnkncoaaGreatDoorT4
import Derived.CallsIn
set_option linter.all false
namespace Go.Proofs.YtfbhkfhbnkncoaaGreatDoor
open Go.RowKit
namespace Sx
variable {E:Gh}
inductive Out where
 |ret (v:SV)|pan (x:D)
def zow(ro:Ro)(bl:Bl):Out→Ending→Prop
 | .ret v,e=>∃x,e=.returned x∧zaX ro bl v x
 | .pan d,e=>∃x,e=.panicked [{v:=x,recovered:=false}]∧zaX ro bl (.d d) x
def za5(ro:Ro)(bl:Bl):List SV→List Value→Prop
 |[],[]=>True
 |v::r,x::s=>zaX ro bl v x∧za5 ro bl r s
 |_,_=>False
def zgs(P:Program)(f:FuncId):Prop:=∀args w,(callFunc f args).run P w=.ok (.enter f args) w
def Con(P:Program)(f:FuncId)(args:List SV)(m:MS)(K:Out→MS→Prop):Prop:=
 zgs P f∧∀E ro bl w xs,Mem E ro bl m w→za5 ro bl args xs→Calls P f xs.toArray w fun e w'=>∃ro' bl' m' out,Mem E ro' bl' m' w'∧Gr ro bl w ro' bl' w'∧zow ro' bl' out e∧K out m'
def zay(P:Program)(f:FuncId)(args:List SV)(v:SV):Prop:=∀m,Con P f args m fun o m'=>o=.ret v∧m'=m
def zak(P:Program)(id:Nat)(ps:List Nat)(as body:Code)(N:Nat)(fr:List Ent)(args:List SV)(m:MS)(K:SV→MS→Prop):Prop:=
 args.length=ps.length∧∀E nn ro bl w xs l fn tmps df,Mem E ro bl m w→za5 ro bl args xs→bl.o[id]?=some (.loop l)→
  w.heap[l]?=some (.loop {state:=.ready,pending:=none,fn:=fn,tmps:=tmps,params:=ps.toArray,assign:=as,body:=body,defers:=df})→tmps.size=N→zy5 ro bl fr tmps→
  RoundIn Fence.wide nn P l fn ((ps.toArray.zip xs.toArray).foldl (fun tmps (t,a)=>tmps.setIfInBounds t a) tmps) as body w fun e w'=>∃ro' bl' m' v x,e=.returned x∧zaX ro' bl' v x∧Mem E ro' bl' m' w'∧Gr ro bl w ro' bl' w'∧K v m'
def zax(P:Program)(f:FuncId)(args:List SV)(G:Prop→Prop)(K:SV→Prop):Prop:=∃v,G (zay P f args v)∧K v
def zan(P:Program)(f:FuncId)(args:List SV)(m:MS)(G:Prop→Prop)(K:SV→Prop):Prop:=∃v,G (Con P f args m fun o m'=>o=.ret v∧m'=m)∧K v
def SV.cl:SV→Bool
 | .pt .. | .ob _| .ar .. =>false
 | .pr a b=>a.cl&&b.cl
 | .fn _ c=>c.cl
 | .fb _ a| .tu a=>a.cl
 |_=>true
def zxi:List SV→Bool
 |[]=>true
 |v::r=>v.cl&&zxi r
theorem zal{P:Program}{f:FuncId}{args:List SV}{m:MS}{K K':Out→MS→Prop}(h:Con P f args m K)(hK:∀o m',K o m'→K' o m'):Con P f args m K':=
 ⟨h.1,fun E ro bl w xs hM hA=>(h.2 E ro bl w xs hM hA).mono fun _ _ ⟨ro',bl',m',o,h1,h2,h3,h4⟩=>⟨ro',bl',m',o,h1,h2,h3,hK _ _ h4⟩⟩
theorem zad{P:Program}{f:FuncId}{args:List SV}{v:SV}{m:MS}{K:Out→MS→Prop}(h:zay P f args v)(hK:K (.ret v) m):Con P f args m K:=zal (h m) fun _ _ ⟨h1,h2⟩=>by subst h1;subst h2;exact hK
theorem zdO{P:Program}{f:FuncId}{args:List SV}{m:MS}{v:SV}{G:Prop→Prop}{K:SV→Prop}(h:Con P f args m fun o m'=>o=.ret v∧m'=m)(hG:∀p,p→G p)(hK:K v):zan P f args m G K:=⟨v,hG _ h,hK⟩
theorem zbk{P:Program}{f:FuncId}{args:List SV}{v:SV}{m:MS}{K:Out→MS→Prop}(h:Con P f args m fun o m'=>o=.ret v∧m'=m)(hK:K (.ret v) m):Con P f args m K:=zal h fun _ _ ⟨h1,h2⟩=>by subst h1;subst h2;exact hK
theorem zam{P:Program}{f:FuncId}{args:List SV}{v:SV}{G:Prop→Prop}{K:SV→Prop}(h:zay P f args v)(hG:∀p,p→G p)(hK:K v):zax P f args G K:=⟨v,hG _ h,hK⟩
def zvy(P:Program)(T:TypeId)(a b:D)(r:Bool):Prop:=
 ∀(ro:Ro) bl x y X Y w op,zcD ro bl (.d a) x→zcD ro bl (.d b) y→(eqGuard op T X Y x y).run P w=.ok () w∧(Op.equal T x y).run P w=.ok r w
def zbt(P:Program)(T:TypeId)(a b:D)(G:Prop→Prop)(K:Bool→Prop):Prop:=∃r,G (zvy P T a b r)∧K r
theorem zBG{P:Program}{T:TypeId}{a b:D}{r:Bool}{G:Prop→Prop}{K:Bool→Prop}(h:zvy P T a b r)(hG:∀p,p→G p)(hK:K r):zbt P T a b G K:=⟨r,hG _ h,hK⟩
def Ty.agg:Ty→Bool
 | .c=>false|_=>true
def zaL(s:ByteArray)(i:Int):Int:=(s.data.toList.getD i.toNat 0).toNat
def I64(x:Int):Prop:= -9223372036854775808≤x∧x≤9223372036854775807
theorem zbL{k:IntKind}{x:Int}(h1: -(zcB k:Int) - 1≤x)(h2:k.signed=false→0≤x)(h3:x≤zcB k):inK k x=true:=by
 cases x with
 |ofNat n=>simp only[inK];exact zHN (by simp at h3;omega)
 |negSucc n=>
  cases hs:k.signed with
  |false=>have:=h2 hs;omega
  |true=>simp only[inK,hs,zF7];exact zHN (by omega)
theorem zkb{k:IntKind}{x:Int}(h:inK k x=true): -(zcB k:Int) - 1≤x∧(k.signed=false→0≤x)∧x≤zcB k:=by
 cases x with
 |ofNat n=>
  simp only[inK]at h;have:=zFG h;exact⟨by simp;omega,fun _=>by simp,by simp;omega⟩
 |negSucc n=>
  simp only[inK,zFR]at h;have:=zFG h.2;exact⟨by omega,(fun hs=>by rw[hs]at h;cases h.1),by omega⟩
theorem zb9{x:Int}(h:I64 x):inK .i64 x=true:=zbL (by have:=h.1;simp[zcB];omega) (fun h=>by cases h) (by have:=h.2;simp[zcB];omega)
theorem zcI(k:IntKind)(x:Int):inK k (k.wrap x)=true:=by apply zbL<;>cases k<;>simp[IntKind.wrap,IntKind.bits,IntKind.signed,zcB]<;>(try split)<;>omega
def wid:IntKind→IntKind→Bool
 | .i8,.i8| .i8,.i16| .i8,.i32| .i8,.i64| .i16,.i16| .i16,.i32| .i16,.i64| .i32,.i32| .i32,.i64| .i64,.i64=>true
 | .u8,.i16| .u8,.i32| .u8,.i64| .u16,.i32| .u16,.i64| .u32,.i64=>true
 | .u8,.u8| .u8,.u16| .u8,.u32| .u8,.u64| .u16,.u16| .u16,.u32| .u16,.u64| .u32,.u32| .u32,.u64| .u64,.u64=>true
 |_,_=>false
theorem zr9{k k':IntKind}{x:Int}(hw:wid k k'=true)(h:inK k x=true):inK k' x=true:=by obtain⟨h1,h2,h3⟩:=zkb h;cases k<;>cases k'<;>first|(cases hw;done)|(refine zbL ?_ ?_ ?_<;>simp[zcB,IntKind.signed]at* <;>omega)
theorem zcC{k:IntKind}{x:Int}(h:inK k x=true):k.wrap x=x:=by obtain⟨h1,h2,h3⟩:=zkb h;cases k<;>simp[IntKind.wrap,IntKind.bits,IntKind.signed,zcB]at* <;>(try split)<;>omega
def zpp(x y:Int):Int:=bif decide (y>x)then y else x
def zaC(op:BinOp)(k:IntKind)(x y:Int):Int:=match op with
 | .and=>k.wrap (BitVec.ofInt k.bits x&&& BitVec.ofInt k.bits y).toNat
 | .or=>k.wrap (BitVec.ofInt k.bits x|||BitVec.ofInt k.bits y).toNat
 | .xor=>k.wrap (BitVec.ofInt k.bits x ^^^ BitVec.ofInt k.bits y).toNat
 | .andNot=>k.wrap (BitVec.ofInt k.bits x&&& ~~~(BitVec.ofInt k.bits y)).toNat
 |_=>0
def zw9(op:BinOp)(k:IntKind)(x y:Int):Option (Option Prop×Int):=match op with
 | .add=>match k with
  | .i64=>some (some (I64 (x+y)),x+y)
  |k=>some (none,k.wrap (x+y))
 | .sub=>match k with
  | .i64=>some (some (I64 (x - y)),x - y)
  |k=>some (none,k.wrap (x - y))
 | .mul=>match k with
  | .i64=>some (some (I64 (x*y)),x*y)
  |k=>some (none,k.wrap (x*y))
 | .quo=>some (some (y≠0),k.wrap (x.tdiv y))
 | .rem=>some (some (y≠0∧inK k (x.tmod y)=true),x.tmod y)
 | .and=>some (none,zaC .and k x y)
 | .or=>some (none,zaC .or k x y)
 | .xor=>some (none,zaC .xor k x y)
 | .andNot=>some (none,zaC .andNot k x y)
 |_=>none
def zbh(k:IntKind)(x y:Int):Int:=k.wrap (x*2 ^(min y.toNat k.bits))
def zba(k:IntKind)(x y:Int):Int:=x.fdiv (2 ^(min y.toNat k.bits))
def zBN:IntKind→Int→Option Prop
 | .u8,_| .u16,_| .u32,_| .u64,_=>none
 |_,y=>some (0≤y)
def zks(op:BinOp)(k:IntKind)(x y:Int):Option Int:=match op with
 | .shl=>some (zbh k x y)
 | .shr=>some (zba k x y)
 |_=>none
def obl(G:Prop→Prop)(p:Option Prop)(k:Prop):Prop:=match p with
 |none=>k
 |some p=>G p∧k
def zp0:SV→Bool
 | .d .un=>true
 | .pr a b=>a.one&&zp0 b
 |_=>false
def zBB(m:MS):Nat→Nat
 |0=>m.t.length+1
 |k+1=>k+1
def zt7:Nat→Nat→Nat
 |0,_=>0
 |_+1,v=>v+1
def apT(m:MS):Nat→Nat→List Nat
 |0,_=>m.t++[0]
 |k+1,v=>zyp m.t k (v+1)
def slV(G:Prop→Prop)(K:SV→MS→Prop)(m:MS)(o:Unit ⊕(Nat×Nat))(n:Nat)(t:Ty)(f:Nat→D)(l:Int):Option Int→Option Int→Prop
 |none,none=>match o with
  | .inl _=>G (0≤l∧l≤n)∧K (.d (.sl (n - l.toNat) t (zbP f l.toNat))) m
  | .inr (id,ver)=>G (0≤l∧l≤n)∧K (.ow id ver (n - l.toNat) t (zbP f l.toNat)) m
 |some h,none=>G (0≤l∧l≤h∧h≤n)∧K (.d (.sl (h.toNat - l.toNat) t (zbP f l.toNat))) m
 |some h,some x=>G (0≤l∧l≤h∧h≤n∧x=h)∧K (.ow 0 0 (h.toNat - l.toNat) t (zbP f l.toNat)) m
 |_,_=>False
def zc6(P:Program)(tb:TT)(op:Op)(m:MS)(ρ:Operand→Option SV)(G:Prop→Prop)(pr:Bool)(K:SV→MS→Prop)(Kp:D→MS→Prop):Prop:=match op with
 | .alloc T=>match tb.get T with
  |some i=>match pr with
   |true=>False
   |false=>K (.pt m.c.length []) ⟨m.c++[i.zero.sv],m.t,m.o⟩
  |none=>False
 | .box _ x=>match ρ x with
  |some v=>match v.nt with
   |true=>match pr with
    |true=>False
    |false=>K (.pt m.c.length []) ⟨m.c++[v],m.t,m.o⟩
   |false=>False
  |none=>False
 | .store T x y=>
  match ρ x,ρ y with
  |some (.pt id path),some u=>match u.nt with
   |true=>
    match zg6 m.c id with
    |some c=>
     match c.nav path with
     |some old=>match tb.get T with
      |some i=>match decide (old.shape=u.shape)&&Nat.beq u.shape.size i.size with
       |true=>match c.set path (u.into old)with
        |some c'=>match pr with
         |true=>False
         |false=>match c.arp path with
          |true=>∃c2,c'=c2∧K (.tu (.d .un)) ⟨zmV m.c id c2,m.t,m.o⟩
          |false=>K (.tu (.d .un)) ⟨zmV m.c id c',m.t,m.o⟩
        |none=>False
       |false=>False
      |none=>False
     |none=>False
    |none=>False
   |false=>False
  |_,_=>False
 | .indexAddr T x ix=>match ρ x,ρ ix,tb.get T with
  |some (.pt id path),some (.d (.z _ i)),some {k:=.array n e,..}=>match zg6 m.c id with
   |some c=>match c.nav path with
    |some (.d (.ar n' t _))=>match tb.get e with
     |some ie=>match Nat.beq n n'&&Nat.beq t.size ie.size with
      |true=>G (0≤i∧i<n)∧K (.pt id (path++[i.toNat])) m
      |false=>False
     |none=>False
    |_=>False
   |none=>False
  |some (.d (.sl n t f)),some (.d (.z _ i)),some {k:=.slice e,..}=>match tb.get e with
   |some ie=>match Nat.beq t.size ie.size with
    |true=>G (0≤i∧i<n)∧K (.el (f i.toNat)) m
    |false=>False
   |none=>False
  |some (.ow _ _ n t f),some (.d (.z _ i)),some {k:=.slice e,..}=>match tb.get e with
   |some ie=>match Nat.beq t.size ie.size with
    |true=>G (0≤i∧i<n)∧K (.el (f i.toNat)) m
    |false=>False
   |none=>False
  |_,_,_=>False
 | .index T x ix=>match ρ x,ρ ix,tb.get T with
  |some (.d (.ar n t f)),some (.d (.z _ i)),some {k:=.array n' e,..}=>match tb.get e with
   |some ie=>match Nat.beq n n'&&zc4 t t.agg ie with
    |true=>G (0≤i∧i<n)∧K (.d (f i.toNat)) m
    |false=>False
   |none=>False
  |some (.d (.st s)),some (.d (.z _ i)),some {k:=.str,..}=>G (0≤i∧i<s.size)∧K (.d (.z .u8 (zaL s i))) m
  |_,_,_=>False
 | .convert S T x=>match ρ x,tb.get S,tb.get T with
  |some (.d (.z k n)),some _,some {k:=.int k',..}=>match wid k k' with
   |true=>K (.d (.z k' n)) m
   |false=>K (.d (.z k' (k'.wrap n))) m
  |_,_,_=>False
 | .binOp op T x y yT=>match zCs op 0 0 with
  |some _=>
   match pv tb m.c ρ (.binOp op T x y yT)with
   |some v=>K v m
   |none=>
    match ρ x,ρ y with
    |some (.d (.sl n _ _)),some _=>match y with
     | .const (.slice none 0 0)=>match tb.get T with
      |some {k:=.slice _,..}=>match pr with
       |true=>False
       |false=>∀b:Bool,(0<n→b=false)→match zhZ op b with
        |some v=>K v m
        |none=>False
      |_=>False
     |_=>False
    |some (.d a),some (.d b)=>match a.agg&&b.agg with
     |true=>zbt P T a b G fun r=>match zhZ op r with
      |some v=>K v m
      |none=>False
     |false=>False
    |_,_=>False
  |none=>match ρ x,ρ y with
   |some (.d (.z k a)),some (.d (.z k' b))=>match zks op k a b with
    |some c=>obl G (zBN k' b) (K (.d (.z k c)) m)
    |none=>match decide (k=k')with
     |true=>match zw9 op k a b with
      |some (p,c)=>obl G p (K (.d (.z k c)) m)
      |none=>False
     |false=>False
   |_,_=>False
 | .call c=>
  match c.callee with
  | .value f=>match ρ f,zeo ρ c.args.toList with
   |some (.fn (.func k) cp),some l=>match zp0 cp with
    |true=>match pr with
     |true=>match zxi (l++zun cp)with
      |true=>zax P k (l++zun cp) G fun v=>K v m
      |false=>zan P k (l++zun cp) m G fun v=>K v m
     |false=>Con P k (l++zun cp) m fun o m'=>match o with
      | .ret v=>K v m'
      | .pan d=>Kp d m'
    |false=>False
   |_,_=>False
  | .builtin .len=>match zeo ρ c.args.toList,c.argTypes.toList with
   |some [v],[T]=>match tb.get T with
    |some {k:=.slice _,..}=>match v with
     | .d (.sl n _ _)=>G (I64 n)∧K (.d (.z .i64 n)) m
     | .ow _ _ n _ _=>G (I64 n)∧K (.d (.z .i64 n)) m
     |_=>False
    |some {k:=.str,..}=>match v with
     | .d (.st s)=>G (I64 s.size)∧K (.d (.z .i64 s.size)) m
     |_=>False
    |_=>False
   |_,_=>False
  | .builtin .min=>match zeo ρ c.args.toList with
   |some [.d (.z k x),.d (.z _ y)]=>match decide (k=.i64)with
    |true=>G (I64 x∧I64 y)∧K (.d (.z .i64 (bif decide (y<x)then y else x))) m
    |false=>G (inK k x=true∧inK k y=true)∧K (.d (.z k (bif decide (y<x)then y else x))) m
   |_=>False
  | .builtin .max=>match zeo ρ c.args.toList with
   |some [.d (.z k x),.d (.z _ y)]=>match decide (k=.i64)with
    |true=>G (I64 x∧I64 y)∧K (.d (.z .i64 (bif decide (y>x)then y else x))) m
    |false=>False
   |some [.d (.z k x),.d (.z _ y),.d (.z _ z)]=>G (inK k x=true∧inK k y=true∧inK k z=true)∧K (.d (.z k (zpp (zpp x y) z))) m
   |_=>False
  | .builtin .append=>match pr with
   |true=>False
   |false=>match zeo ρ c.args.toList,c.argTypes.toList with
    |some [.ow id ver n t f,y],[T,T']=>match y.dat,tb.get T with
     | .d (.sl n' t' f'),some {k:=.slice e,..}=>match tb.get e with
      |some ie=>match Nat.beq T T'&&Nat.beq t'.size ie.size&&Nat.beq ie.zero.d.shape.size ie.size&&(decide (t=t')||(Nat.beq id 0&&Nat.beq n 0))with
       |true=>match zAi m.t id with
        |some cv=>(ver=cv∧n+n'≤2147483648)∧K (.ow (zBB m id) (zt7 id ver) (n+n') t' (zdc n f f')) ⟨m.c,apT m id ver,m.o⟩
        |none=>False
       |false=>False
      |none=>False
     |_,_=>False
    |_,_=>False
  |_=>False
 | .buildSlice T n ps=>match tb.get T with
  |some {k:=.slice e,..}=>match tb.get e with
   |some ie=>match Nat.ble (n*ie.size) 16777216&&Nat.beq ie.zero.d.shape.size ie.size,zoj ρ ie.zero.d.shape ps.toList 0 with
    |true,some l=>match Nat.beq l.length n with
     |true=>K (.ow 0 0 n ie.zero.d.shape (za4 l)) m
     |false=>False
    |_,_=>False
   |none=>False
  |_=>False
 | .slice T x lo hi mx=>match tb.get T with
  |some {k:=.slice e,..}=>match tb.get e with
   |some ie=>match ρ x,zlM ρ lo,zlM ρ hi,zlM ρ mx with
    |some v,some lo,some hi,some mx=>match v with
     | .d (.sl n t f)=>match Nat.beq t.size ie.size with
      |true=>slV G K m (.inl ()) n t f (lo.getD 0) hi mx
      |false=>False
     | .ow id ver n t f=>match Nat.beq t.size ie.size with
      |true=>slV G K m (.inr (id,ver)) n t f (lo.getD 0) hi mx
      |false=>False
     |_=>False
    |_,_,_,_=>False
   |none=>False
  |_=>False
 |op=>match pv tb m.c ρ op with
  |some v=>K v m
  |none=>False
def mrV(G:Prop→Prop)(K:SV→MS→Prop)(m:MS)(pr:Bool)(id ver v n:Nat)(t:Ty)(f:Nat→D):Option Int→Option Int→Option Int→Prop
 |none,some h,none=>match pr with
  |true=>False
  |false=>G (ver=v∧0≤h∧h≤n)∧K (.ob (.mr id (v+1))) ⟨m.c,m.t,zmW m.o id (.row (v+1) h.toNat t f)⟩
 |some l,none,none=>G (ver=v∧0≤l∧l≤n)∧K (.ob (.mq id ver l.toNat)) m
 |_,_,_=>False
def znv(lo k:Nat)(g f:Nat→D):Nat→D:=fun j=>bif Nat.ble lo j&&Nat.blt j (lo+k)then g (j - lo)else f j
def zjH:Int→Int→Bool
 | .ofNat a,.ofNat b=>Nat.beq a b
 | .negSucc a,.negSucc b=>Nat.beq a b
 |_,_=>false
def zef:List (Int×SV)→Int→Option SV
 |[],_=>none
 |(k,v)::r,n=>match zjH k n with
  |true=>some v
  |false=>zef r n
def znd:List (Int×SV)→Int→SV→List (Int×SV)
 |[],k,v=>[(k,v)]
 |(k',u)::r,k,v=>match zjH k' k with
  |true=>(k',v)::r
  |false=>(k',u)::znd r k v
def znT(n:Int)(K:Option SV→Prop):List (Int×SV)→Prop
 |[]=>K none
 |(k,v)::r=>(n=k→K (some v))∧(n≠k→znT n K r)
def ziz:List (Int×SV)→Prop
 |[]=>True
 |(_,v)::r=>(∃b,v=.d (.bo b))∧ziz r
def zt6:List (Int×SV)→Bool
 |[]=>true
 |(_,v)::r=>v.nt&&zt6 r
def zhq:Option SV→Bool
 |some (.d (.bo b))=>b
 |_=>false
def zC0(m:MS):SV→Option (Nat×Ty×(Nat→D))
 | .ob (.sb id path lo n)=>match zg6 m.c id with
  |some c=>match c.nav path with
   |some (.d (.ar _ t f))=>some (n,t,zbP f lo)
   |_=>none
  |none=>none
 | .d (.st s)=>some (s.size,.c,fun i=>.z .u8 (zaL s i))
 |_=>none
def znA:List (Int×SV):=[(1,.fn (.func 291) (.d .un)),(2,.fn (.func 292) (.d .un)),(3,.fn (.func 293) (.d .un)),(4,.fn (.func 294) (.d .un)),(5,.fn (.func 295) (.d .un)),(6,.fn (.func 296) (.d .un)),
 (7,.fn (.func 297) (.d .un)),(8,.fn (.func 298) (.d .un)),(9,.fn (.func 299) (.d .un)),(10,.fn (.func 300) (.d .un)),(11,.fn (.func 301) (.d .un)),(12,.fn (.func 302) (.d .un)),
 (13,.fn (.func 303) (.d .un)),(14,.fn (.func 304) (.d .un)),(15,.fn (.func 305) (.d .un)),(16,.fn (.func 305) (.d .un)),(17,.fn (.func 306) (.d .un)),
 (18,.fn (.func 307) (.d .un)),(19,.fn (.func 308) (.d .un)),(20,.fn (.func 309) (.d .un)),(21,.fn (.func 310) (.d .un)),(22,.fn (.func 311) (.d .un))]
def isH:Option SV→Bool
 |some (.ob _)=>true|_=>false
def zhu(tb:TT)(op:Op)(ρ:Operand→Option SV)(pr:Bool):Bool:=match op with
 | .store _ x _| .load _ x| .indexAddr _ x _=>isH (ρ x)
 | .index _ x _=>match ρ x with
  |some (.ar ..)=>true
  |_=>false
 | .slice _ x lo hi mx=>match ρ x with
  |some (.ob _)|some (.pt ..)|some (.d (.st _))=>true
  |some (.ow 0 0 0 _ _)=>lo.isNone&&hi.isSome&&mx.isNone
  |_=>false
 | .convert _ _ x=>match ρ x with
  |some (.d (.st _))=>true
  |_=>false
 | .call c=>match c.callee with
  | .value f=>match ρ f with
   |some (.ob _)|some (.fb ..)=>true
   |_=>false
  | .builtin .len=>match c.args.toList with
   |x::_=>isH (ρ x)
   |[]=>false
  | .builtin .append=>match c.args.toList with
   |[x,y]=>isH (ρ x)||(match ρ y with
    |some (.d (.z ..))=>true
    |_=>false)||(match ρ x with
    |some (.ow 0 0 0 _ _)=>true
    |_=>false)
   |_=>false
  | .builtin .copy| .builtin .clear| .builtin .cap=>true
  |_=>false
 | .buildSlice .. =>!pr
 | .build T _=>match tb.get T with
  |some {k:=.array ..,..}=>true
  |_=>false
 | .makeMap .. | .insert .. | .mapUpdate .. | .lookup .. | .typeAssert .. | .panic _=>true
 |_=>false
def elI(tb:TT)(T:TypeId):Option TI:=match tb.get T with
 |some {k:=.slice e,..}=>tb.get e
 |_=>none
def arI(tb:TT)(T:TypeId):Option (Nat×TI):=match tb.get T with
 |some {k:=.array n e,..}=>(tb.get e).map fun i=>(n,i)
 |some {k:=.ptr q,..}=>match tb.get q with
  |some {k:=.array n e,..}=>(tb.get e).map fun i=>(n,i)
  |_=>none
 |_=>none
def ztA(m:MS)(id:Nat)(path:List Nat):Option (Nat×Ty×(Nat→D)):=match zg6 m.c id with
 |some c=>match c.nav path with
  |some (.d (.ar n t f))=>some (n,t,f)
  |_=>none
 |none=>none
def zd6(m:MS)(id:Nat):Option (Nat×Nat×Ty×(Nat→D)):=match zqB m.o id with
 |some (.row v n t f)=>some (v,n,t,f)
 |_=>none
def znU(m:MS)(id:Nat):Option (IntKind×List (Int×SV)):=match zqB m.o id with
 |some (.map k l)=>some (k,l)
 |_=>none
def zvf(G:Prop→Prop)(K:SV→MS→Prop)(m:MS)(id:Nat)(path:List Nat)(v:SV)(n:Nat)(t:Ty)(f':Nat→D):Prop:=match zg6 m.c id with
 |some c=>∃f2,f'=f2∧match c.set path (.d (.ar n t f2))with
  |some c2=>K v ⟨zmV m.c id c2,m.t,m.o⟩
  |none=>False
 |none=>False
def zzj(tb:TT)(m:MS)(pr:Bool)(K:SV→MS→Prop)(T:TypeId)(x k y:Option SV):Prop:=match x,k,y,tb.get T with
 |some (.ob (.mo id)),some (.d (.z k n)),some u,some {k:=.map k' _,..}=>match znU m id with
  |some (k2,l)=>match pr,decide (k=k')&&(decide (k=k2)&&u.one)with
   |false,true=>K (.tu (.d .un)) ⟨m.c,m.t,zmW m.o id (.map k2 (znd l n u))⟩
   |_,_=>False
  |_=>False
 |_,_,_,_=>False
def zCd(m:MS)(id:Nat):SV→Option (Option Prop×Nat×Ty×(Nat→D))
 | .ob (.mr id2 ver2)=>match zd6 m id2 with
  |some (v2,n',t',f')=>some (some (ver2=v2∧id≠id2),n',t',f')
  |none=>none
 |y=>match y.dat with
  | .d (.sl n' t' f')=>some (none,n',t',f')
  |_=>none
def zfX(ρ:Operand→Option SV)(n:Nat)(t:Ty):List (Nat×Operand)→SV→Option SV
 |[],v=>some v
 |(k,x)::r,v=>match Nat.blt k n,ρ x with
  |true,some u=>match decide (u.shape=t)&&u.nt with
   |true=>match v.set [k] u with
    |some v'=>zfX ρ n t r v'
    |none=>none
   |false=>none
  |_,_=>none
def zek(P:Program)(tb:TT)(op:Op)(m:MS)(ρ:Operand→Option SV)(G:Prop→Prop)(pr:Bool)(K:SV→MS→Prop)(Kp:D→MS→Prop):Prop:=match op with
 | .store T x y=>match ρ x,ρ y with
  |some (.ob (.mp id ver i)),some u=>match u.dat with
   | .d d=>match zd6 m id,tb.get T with
    |some (v,n,t,f),some ie=>match pr,decide (d.shape=t)&&Nat.beq t.size ie.size with
     |false,true=>G (ver=v∧i<n)∧∃f2,zaq f i d=f2∧K (.tu (.d .un)) ⟨m.c,m.t,zmW m.o id (.row v n t f2)⟩
     |_,_=>False
    |_,_=>False
   |_=>False
  |_,_=>False
 | .load T x=>match ρ x with
  |some (.ob (.mp id ver i))=>match zd6 m id,tb.get T with
   |some (v,n,t,f),some ie=>match zc4 t t.agg ie with
    |true=>G (ver=v∧i<n)∧K (.d (f i)) m
    |false=>False
   |_,_=>False
  |some (.ob (.gl g))=>match Nat.beq g 0,tb.get T with
   |true,some ie=>match zc4 .c false ie with
    |true=>K (.ob .gm) m
    |false=>False
   |_,_=>False
  |_=>False
 | .indexAddr T x ix=>match ρ x,ρ ix,elI tb T with
  |some (.ob (.mr id ver)),some (.d (.z _ i)),some ie=>match zd6 m id with
   |some (v,n,t,_)=>match Nat.beq t.size ie.size with
    |true=>G (ver=v∧0≤i∧i<n)∧K (.ob (.mp id ver i.toNat)) m
    |false=>False
   |none=>False
  |some (.ob (.sb id path lo n)),some (.d (.z _ i)),some ie=>match ztA m id path with
   |some (_,t,_)=>match Nat.beq t.size ie.size with
    |true=>G (0≤i∧i<n)∧K (.pt id (path++[lo+i.toNat])) m
    |false=>False
   |none=>False
  |_,_,_=>False
 | .index T x ix=>match ρ x,ρ ix,tb.get T with
  |some (.ar n t f),some (.d (.z _ i)),some {k:=.array n' e,..}=>match tb.get e with
   |some ie=>match Nat.beq n n'&&zc4 t t.agg ie with
    |true=>G (0≤i∧i<n)∧K (f i.toNat) m
    |false=>False
   |none=>False
  |_,_,_=>False
 | .slice T x lo hi mx=>match ρ x,zlM ρ lo,zlM ρ hi,zlM ρ mx with
  |some (.ob (.mr id ver)),some lo,some hi,some mx=>match zd6 m id,elI tb T with
   |some (v,n,t,f),some ie=>match Nat.beq t.size ie.size with
    |true=>mrV G K m pr id ver v n t f lo hi mx
    |false=>False
   |_,_=>False
  |some (.d (.st s)),some lo,some hi,some none=>match tb.get T with
   |some {k:=.str,..}=>G (0≤lo.getD 0∧lo.getD 0≤hi.getD s.size∧hi.getD s.size≤s.size)∧K (.d (.st (s.extract (lo.getD 0).toNat (hi.getD s.size).toNat))) m
   |_=>False
  |some (.pt id path),some lo,some hi,some none=>match ztA m id path,arI tb T with
   |some (n',t,_),some (n,ie)=>match Nat.beq n n'&&Nat.beq t.size ie.size with
    |true=>G (0≤lo.getD 0∧lo.getD 0≤hi.getD n∧hi.getD n≤n)∧K (.ob (.sb id path (lo.getD 0).toNat ((hi.getD n).toNat -(lo.getD 0).toNat))) m
    |false=>False
   |_,_=>False
  |some (.ow 0 0 0 t f),some none,some (some h),some none=>match elI tb T with
   |some _=>G (0=h)∧K (.ow 0 0 0 t f) m
   |none=>False
  |_,_,_,_=>False
 | .convert S T x=>match ρ x,tb.get S,elI tb T with
  |some (.d (.st s)),some {k:=.str,..},some {k:=.int .u8,..}=>match pr with
   |true=>False
   |false=>K (.d (.sl s.size .c fun i=>.z .u8 (zaL s i))) m
  |_,_,_=>False
 | .call c=>match c.callee with
  | .value f=>match ρ f,zeo ρ c.args.toList with
   |some (.ob (.yl id)),some l=>match zqB m.o id with
    |some (.loop ps as body N fr .ready)=>match pr with
     |true=>False
     |false=>zak P id ps as body N fr l m K
    |_=>False
   |some (.fb k a),some l=>match pr with
    |true=>zan P k (a::l) m G fun v=>K v m
    |false=>Con P k (a::l) m fun o m'=>match o with
     | .ret v=>K v m'
     | .pan d=>Kp d m'
   |_,_=>False
  | .builtin .cap=>match zeo ρ c.args.toList,c.argTypes.toList with
   |some [.ow 0 0 n _ _],[T]=>match elI tb T with
    |some _=>G (I64 n)∧K (.d (.z .i64 n)) m
    |none=>False
   |_,_=>False
  | .builtin .len=>match zeo ρ c.args.toList,c.argTypes.toList with
   |some [.ob (.mr id ver)],[T]=>match zd6 m id,elI tb T with
    |some (v,n,_,_),some _=>G (ver=v∧I64 n)∧K (.d (.z .i64 n)) m
    |_,_=>False
   |some [.ob (.mq id ver lo)],[T]=>match zd6 m id,elI tb T with
    |some (v,n,_,_),some _=>G (ver=v∧I64 (n - lo:Nat))∧K (.d (.z .i64 (n - lo:Nat))) m
    |_,_=>False
   |some [.ob (.sb _ _ _ n)],[T]=>match elI tb T with
    |some _=>G (I64 n)∧K (.d (.z .i64 n)) m
    |none=>False
   |_,_=>False
  | .builtin .append=>match pr with
   |true=>False
   |false=>match zeo ρ c.args.toList,c.argTypes.toList with
    |some [.ob (.mr id ver),y],[T,T']=>match zd6 m id,elI tb T,zCd m id y with
     |some (v,n,t,f),some ie,some (q,n',t',f')=>match(Nat.beq T T'&&Nat.beq t.size ie.size)&&(Nat.beq ie.zero.d.shape.size ie.size&&decide (t'=t))with
      |true=>obl (fun p=>p) q ((ver=v∧n+n'≤2147483648)∧K (.ob (.mr id (v+1))) ⟨m.c,m.t,zmW m.o id (.row (v+1) (n+n') t (zdc n f f'))⟩)
      |false=>False
     |_,_,_=>False
    |some [.ow 0 0 0 _ _,.d (.z .i64 k)],[T,T']=>match elI tb T,tb.get T' with
     |some ie,some {k:=.int _,..}=>match Nat.beq ie.zero.d.shape.size ie.size with
      |true=>(0<k∧k≤2147483648)∧K (.ob (.mr m.o.length 0)) ⟨m.c,m.t,m.o++[.row 0 k.toNat ie.zero.d.shape fun _=>ie.zero.d]⟩
      |false=>False
     |_,_=>False
    |some [.ow 0 0 0 _ f,y],[T,T']=>match y.dat,elI tb T with
     | .d (.sl n' t' f'),some ie=>match(Nat.beq T T'&&Nat.beq t'.size ie.size)&&Nat.beq ie.zero.d.shape.size ie.size with
      |true=>n'≤2147483648∧(K (.ow (m.t.length+1) 0 (0+n') t' (zdc 0 f f')) ⟨m.c,m.t++[0],m.o⟩∨0<n'∧K (.ob (.mr m.o.length 1)) ⟨m.c,m.t,m.o++[.row 1 (0+n') t' (zdc 0 (za4 []) f')]⟩)
      |false=>False
     |_,_=>False
    |_,_=>False
  | .builtin .copy=>match pr with
   |true=>False
   |false=>match zeo ρ c.args.toList,c.argTypes.toList with
    |some [.ob (.sb id path lo n),y],[T,_]=>match ztA m id path,elI tb T,zC0 m y with
     |some (c,t,f),some ie,some (n2,t2,g)=>match decide (t2=t)&&Nat.beq t.size ie.size with
      |true=>G (I64 (Nat.min n2 n))∧zvf G K m id path (.d (.z .i64 (Nat.min n2 n))) c t (znv lo (Nat.min n2 n) g f)
      |false=>False
     |_,_,_=>False
    |_,_=>False
  | .builtin .clear=>match pr with
   |true=>False
   |false=>match zeo ρ c.args.toList,c.argTypes.toList with
    |some [.ob (.sb id path lo n)],[T]=>match ztA m id path,elI tb T with
     |some (c,t,f),some ie=>match decide (ie.zero.d.shape=t)&&Nat.beq t.size ie.size with
      |true=>zvf G K m id path (.tu (.d .un)) c t (znv lo n (fun _=>ie.zero.d) f)
      |false=>False
     |_,_=>False
    |some [.ob (.mq id ver lo)],[T]=>match zd6 m id,elI tb T with
     |some (v,n,t,f),some ie=>match decide (ie.zero.d.shape=t)&&Nat.beq t.size ie.size with
      |true=>G (ver=v)∧K (.tu (.d .un)) ⟨m.c,m.t,zmW m.o id (.row v n t (znv lo (n - lo) (fun _=>ie.zero.d) f))⟩
      |false=>False
     |_,_=>False
    |_,_=>False
  |_=>False
 | .buildSlice T n ps=>match pr with
  |true=>False
  |false=>match elI tb T with
   |some ie=>match Nat.ble (n*ie.size) 16777216&&Nat.beq ie.zero.d.shape.size ie.size,zoj ρ ie.zero.d.shape ps.toList 0 with
    |true,some l=>match Nat.beq l.length n with
     |true=>K (.ow 0 0 n ie.zero.d.shape (za4 l)) m∨K (.ob (.mr m.o.length 0)) ⟨m.c,m.t,m.o++[.row 0 n ie.zero.d.shape (za4 l)]⟩
     |false=>False
    |_,_=>False
   |none=>False
 | .build T ps=>match tb.get T with
  |some {k:=.array n e,zero:=z,..}=>match tb.get e with
   |some ie=>match Nat.beq ie.zero.d.shape.size ie.size&&decide (z.sv'.shape=.ar n ie.zero.d.shape)with
    |true=>match zfX ρ n ie.zero.d.shape ps.toList z.sv' with
     |some v=>K v m
     |none=>False
    |false=>False
   |none=>False
  |_=>False
 | .makeMap T q=>match q,tb.get T with
  |none,some {k:=.map k _,..}=>match pr with
   |true=>False
   |false=>K (.ob (.mo m.o.length)) ⟨m.c,m.t,m.o++[.map k []]⟩
  |_,_=>False
 | .insert T x kx y=>zzj tb m pr K T (ρ x) (ρ kx) (ρ y)
 | .mapUpdate T x kx y=>zzj tb m pr K T (ρ x) (ρ kx) (ρ y)
 | .lookup T x kx ok=>match ρ x,ρ kx,tb.get T with
  |some (.ob .gm),some (.d (.z k n)),some {k:=.map k' .nf,..}=>match ok,decide (k=.u8)&&decide (k'=.u8)with
   |true,true=>match pr with
    |true=>False
    |false=>znT n (fun o=>match o with
     |some v=>K (.tu (.pr v (.pr (.d (.bo true)) (.d .un)))) m
     |none=>K (.tu (.pr (.d .nf) (.pr (.d (.bo false)) (.d .un)))) m) znA
   |_,_=>False
  |some (.ob (.mo id)),some (.d (.z k n)),some {k:=.map k' z,..}=>match znU m id with
   |some (k2,l)=>match pr,decide (k=k')&&decide (k=k2)with
    |false,true=>match ok with
     |true=>match zt6 l with
      |true=>znT n (fun o=>match o with
       |some v=>K (.tu (.pr v (.pr (.d (.bo true)) (.d .un)))) m
       |none=>K (.tu (.pr (.d z.d) (.pr (.d (.bo false)) (.d .un)))) m) l
      |false=>False
     |false=>match z with
      | .bo=>G (ziz l)∧∃b,zhq (zef l n)=b∧K (.d (.bo b)) m
      |_=>False
    |_,_=>False
   |_=>False
  |_,_,_=>False
 | .typeAssert x _ T ok=>match ρ x,tb.get T with
  |some (.d (.ic T' (.z k n))),some {k:=.int _,..}=>match Nat.beq T T' with
   |true=>match ok with
    |true=>K (.tu (.pr (.d (.z k n)) (.pr (.d (.bo true)) (.d .un)))) m
    |false=>K (.d (.z k n)) m
   |false=>False
  |_,_=>False
 | .panic x=>match pr with
  |true=>False
  |false=>match ρ x with
   |some (.d (.ic T d))=>Kp (.ic T d) m
   |_=>False
 |_=>False
def xop(P:Program)(tb:TT)(op:Op)(m:MS)(ρ:Operand→Option SV)(G:Prop→Prop)(pr:Bool)(K:SV→MS→Prop)(Kp:D→MS→Prop):Prop:=match zhu tb op ρ pr with
 |true=>zek P tb op m ρ G pr K Kp
 |false=>zc6 P tb op m ρ G pr K Kp
end Sx
end Go.Proofs.YtfbhkfhbnkncoaaGreatDoor
