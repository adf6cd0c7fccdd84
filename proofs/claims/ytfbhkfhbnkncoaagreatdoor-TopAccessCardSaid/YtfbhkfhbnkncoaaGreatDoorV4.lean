import Derived.Test.YtfbhkfhbnkncoaaGreatDoorV3
import Derived.CallsIn
set_option linter.all false
namespace Go.Proofs.YtfbhkfhbnkncoaaGreatDoor
open Go.RowKit
namespace Sx
variable {E:Gh}
variable{f:FuncId}{x:Int}{k:IntKind}{m:MS}{P:Program}{G:Prop->Prop}
inductive Out where
 |ret (v:SV)|P (x:D)
def CL(O:Ro)(J:Bl):Out->Ending->Prop
 | .ret v,e=>∃x,e=.returned x/\du O J v x
 | .P d,e=>∃x,e=.panicked [{v:=x,recovered:=false}]/\du O J (.d d) x
def jf(O:Ro)(J:Bl):List SV->List Value->Prop
 |[],[]=>True
 |v::r,x::s=>du O J v x/\jf O J r s
 |_,_=>False
def uJ(P:Program)(f:FuncId):Prop:=∀a w,(callFunc f a).run P w=.ok (.enter f a) w
def b6(P:Program)(f:FuncId)(args:List SV)(m:MS)(K:Out->MS->Prop):Prop:=
 uJ P f/\∀E O J w G,Mem E O J m w->jf O J args G->Calls P f G.toArray w λe M=>∃b a U c,Mem E b a U M/\Gr O J w b a M/\CL b a c e/\K c U
def c5(P:Program)(f:FuncId)(args:List SV)(v:SV):Prop:=∀m,b6 P f args m λo U=>o=.ret v/\U=m
def fx(P:Program)(id:Nat)(ps:List Nat)(g c:Code)(N:Nat)(V:List Ent)(args:List SV)(m:MS)(K:SV->MS->Prop):Prop:=
 args.length=ps.length/\∀E j O J w G l h b i,Mem E O J m w->jf O J args G->J.o[id]?=some (.loop l)->
  w.heap[l]?=some (.loop {state:=.ready,pending:=none,fn:=h,tmps:=b,params:=ps.toArray,assign:=g,body:=c,defers:=i})->b.size=N->yh O J V b->
  RoundIn Fence.wide j P l h ((ps.toArray.zip G.toArray).foldl (λb (t,a)=>b.setIfInBounds t a) b) g c w λe M=>∃f d U v x,e=.returned x/\du f d v x/\Mem E f d U M/\Gr O J w f d M/\K v U
def eF(P:Program)(f:FuncId)(args:List SV)(G:Prop->Prop)(K:SV->Prop):Prop:=∃v,G (c5 P f args v)/\K v
def fR(P:Program)(f:FuncId)(args:List SV)(m:MS)(G:Prop->Prop)(K:SV->Prop):Prop:=∃v,G (b6 P f args m λo U=>o=.ret v/\U=m)/\K v
def SV.cl:SV->Bool
 | .B .. | .ob _| .ar .. =>false
 | .H a b=>a.cl&&b.cl
 | .fn _ c=>c.cl
 | .fb _ a| .tu a=>a.cl
 |_=>true
def Hy:List SV->Bool
 |[]=>true
 |v::r=>v.cl&&Hy r
def fa{args:List SV}{K C:Out->MS->Prop}(h:b6 P f args m K)(j:∀o U,K o U->C o U):b6 P f args m C:=
 ⟨h.1,λE O J w G k i=>(h.2 E O J w G k i).mono λ_ _ ⟨b,a,U,o,c,d,e,g⟩=>⟨b,a,U,o,c,d,e,j _ _ g⟩⟩
def bo{args:List SV}{v:SV}{K:Out->MS->Prop}(h:c5 P f args v)(c:K (.ret v) m):b6 P f args m K:=fa (h m) λ_ _ ⟨a,b⟩=>by subst a;subst b;exact c
def mI{args:List SV}{v:SV}{K:SV->Prop}(h:b6 P f args m λo U=>o=.ret v/\U=m)(a:∀p,p->G p)(b:K v):fR P f args m G K:=⟨v,a _ h,b⟩
def mD{args:List SV}{v:SV}{K:Out->MS->Prop}(h:b6 P f args m λo U=>o=.ret v/\U=m)(c:K (.ret v) m):b6 P f args m K:=fa h λ_ _ ⟨a,b⟩=>by subst a;subst b;exact c
def c9{args:List SV}{v:SV}{K:SV->Prop}(h:c5 P f args v)(a:∀p,p->G p)(b:K v):eF P f args G K:=⟨v,a _ h,b⟩
def zX(P:Program)(T:TypeId)(a b:D)(r:Bool):Prop:=
 ∀(O:Ro) J x y X Y w op,fJ O J (.d a) x->fJ O J (.d b) y->(eqGuard op T X Y x y).run P w=.ok () w/\(Op.equal T x y).run P w=.ok r w
def eM(P:Program)(T:TypeId)(a b:D)(G:Prop->Prop)(K:Bool->Prop):Prop:=∃r,G (zX P T a b r)/\K r
def DO{T:TypeId}{a b:D}{r:Bool}{K:Bool->Prop}(h:zX P T a b r)(c:∀p,p->G p)(d:K r):eM P T a b G K:=⟨r,c _ h,d⟩
def Ty.agg:Ty->Bool
 | .c=>false|_=>true
def fF(s:ByteArray)(i:Int):Int:=(s.data.toList.getD i.toNat 0).toNat
def dx(x:Int):Prop:= -9223372036854775808<=x/\x<=9223372036854775807
def iL(d: -(eU k:Int) - 1<=x)(b:k.signed=false->0<=x)(c:x<=eU k):ja k x=true:=by
 cases x with
 |ofNat n=>simp only[ja];exact qq (by simp at c;omega)
 |negSucc n=>
  cases a:k.signed with
  |false=>have:=b a;omega
  |true=>simp only[ja,a,po];exact qq a3
def xx(h:ja k x=true): -(eU k:Int) - 1<=x/\(k.signed=false->0<=x)/\x<=eU k:=by
 cases x with
 |ofNat n=>
  simp only[ja]at h;have:=dF h;exact⟨by simp;omega,λ_=>eA,by simp;omega⟩
 |negSucc n=>
  simp only[ja,dH]at h;have:=dF h.2;exact⟨a3,(λa=>by rw[a]at h;cases h.1),a3⟩
def nM(h:dx x):ja .i64 x=true:=iL (by have:=h.1;simp[eU];omega) ef (by have:=h.2;simp[eU];omega)
def rJ(k:IntKind)(x:Int):ja k (k.wrap x)=true:=by apply iL<;>cases k<;>simp[IntKind.wrap,IntKind.bits,IntKind.signed,eU]<;>(try split)<;>omega
def Tl:IntKind->IntKind->Bool
 | .i8,.i8| .i8,.i16| .i8,.i32| .i8,.i64| .i16,.i16| .i16,.i32| .i16,.i64| .i32,.i32| .i32,.i64| .i64,.i64=>true
 | .u8,.i16| .u8,.i32| .u8,.i64| .u16,.i32| .u16,.i64| .u32,.i64=>true
 | .u8,.u8| .u8,.u16| .u8,.u32| .u8,.u64| .u16,.u16| .u16,.u32| .u16,.u64| .u32,.u32| .u32,.u64| .u64,.u64=>true
 |_,_=>false
def PI{k':IntKind}(hw:Tl k k'=true)(h:ja k x=true):ja k' x=true:=by obtain⟨h1,h2,h3⟩:=xx h;cases k<;>cases k'<;>first|(cases hw;done)|(refine iL ?_ ?_ ?_<;>simp[eU,IntKind.signed]at* <;>omega)
def l5(h:ja k x=true):k.wrap x=x:=by obtain⟨a,b,c⟩:=xx h;cases k<;>simp[IntKind.wrap,IntKind.bits,IntKind.signed,eU]at* <;>(try split)<;>omega
def qP(x y:Int):Int:=bif decide (y>x)then y else x
def dC(a:BinOp)(k:IntKind)(x y:Int):Int:=match a with
 | .and=>k.wrap (BitVec.ofInt k.bits x&&& BitVec.ofInt k.bits y).toNat
 | .or=>k.wrap (BitVec.ofInt k.bits x|||BitVec.ofInt k.bits y).toNat
 | .xor=>k.wrap (BitVec.ofInt k.bits x ^^^ BitVec.ofInt k.bits y).toNat
 | .andNot=>k.wrap (BitVec.ofInt k.bits x&&& ~~~(BitVec.ofInt k.bits y)).toNat
 |_=>0
def Hi(a:BinOp)(k:IntKind)(x y:Int):Option (Option Prop×Int):=match a with
 | .add=>match k with
  | .i64=>some (some (dx (x+y)),x+y)
  |k=>some (none,k.wrap (x+y))
 | .sub=>match k with
  | .i64=>some (some (dx (x - y)),x - y)
  |k=>some (none,k.wrap (x - y))
 | .mul=>match k with
  | .i64=>some (some (dx (x*y)),x*y)
  |k=>some (none,k.wrap (x*y))
 | .quo=>some (some (y≠0),k.wrap (x.tdiv y))
 | .rem=>some (some (y≠0/\ja k (x.tmod y)=true),x.tmod y)
 | .and=>some (none,dC .and k x y)
 | .or=>some (none,dC .or k x y)
 | .xor=>some (none,dC .xor k x y)
 | .andNot=>some (none,dC .andNot k x y)
 |_=>none
def ec(k:IntKind)(x y:Int):Int:=k.wrap (x*2 ^(min y.toNat k.bits))
def dU(k:IntKind)(x y:Int):Int:=x.fdiv (2 ^(min y.toNat k.bits))
def Fu:IntKind->Int->Option Prop
 | .u8,_| .u16,_| .u32,_| .u64,_=>none
 |_,y=>some (0<=y)
def zF(a:BinOp)(k:IntKind)(x y:Int):Option Int:=match a with
 | .shl=>some (ec k x y)
 | .shr=>some (dU k x y)
 |_=>none
def tn(G:Prop->Prop)(p:Option Prop)(k:Prop):Prop:=match p with
 |none=>k
 |some p=>G p/\k
def yC:SV->Bool
 | .d .un=>true
 | .H a b=>a.one&&yC b
 |_=>false
def Dg(m:MS):Nat->Nat
 |0=>m.t.length+1
 |k+1=>k+1
def Di:Nat->Nat->Nat
 |0,_=>0
 |_+1,v=>v+1
def Dh(m:MS):Nat->Nat->List Nat
 |0,_=>m.t++[0]
 |k+1,v=>x3 m.t k (v+1)
def qW(G:Prop->Prop)(K:SV->MS->Prop)(m:MS)(o:Unit ⊕(Nat×Nat))(n:Nat)(t:Ty)(f:Nat->D)(l:Int):Option Int->Option Int->Prop
 |none,none=>match o with
  | .inl _=>G (0<=l/\l<=n)/\K (.d (.X (n - l.toNat) t (jT f l.toNat))) m
  | .inr (id,a)=>G (0<=l/\l<=n)/\K (.ow id a (n - l.toNat) t (jT f l.toNat)) m
 |some h,none=>G (0<=l/\l<=h/\h<=n)/\K (.d (.X (h.toNat - l.toNat) t (jT f l.toNat))) m
 |some h,some x=>G (0<=l/\l<=h/\h<=n/\x=h)/\K (.ow 0 0 (h.toNat - l.toNat) t (jT f l.toNat)) m
 |_,_=>False
def gu(P:Program)(tb:TT)(q:Op)(m:MS)(ρ:Operand->Option SV)(G:Prop->Prop)(C:Bool)(K:SV->MS->Prop)(Kp:D->MS->Prop):Prop:=match q with
 | .alloc T=>match tb.get T with
  |some i=>match C with
   |true=>False
   |false=>K (.B m.c.length []) ⟨m.c++[i.zero.sv],m.t,m.o⟩
  |none=>False
 | .box _ x=>match ρ x with
  |some v=>match v.nt with
   |true=>match C with
    |true=>False
    |false=>K (.B m.c.length []) ⟨m.c++[v],m.t,m.o⟩
   |false=>False
  |none=>False
 | .store T x y=>
  match ρ x,ρ y with
  |some (.B id h),some u=>match u.nt with
   |true=>
    match kI m.c id with
    |some c=>
     match c.B0 h with
     |some J=>match tb.get T with
      |some i=>match decide (J.shape=u.shape)&&Nat.beq u.shape.size i.size with
       |true=>match c.set h (u.C4 J)with
        |some Z=>match C with
         |true=>False
         |false=>match c.G1 h with
          |true=>∃R,Z=R/\K (.tu (.d .un)) ⟨oJ m.c id R,m.t,m.o⟩
          |false=>K (.tu (.d .un)) ⟨oJ m.c id Z,m.t,m.o⟩
        |none=>False
       |false=>False
      |none=>False
     |none=>False
    |none=>False
   |false=>False
  |_,_=>False
 | .indexAddr T x O=>match ρ x,ρ O,tb.get T with
  |some (.B id h),some (.d (.z _ i)),some {k:=.array n e,..}=>match kI m.c id with
   |some c=>match c.B0 h with
    |some (.d (.ar w t _))=>match tb.get e with
     |some g=>match Nat.beq n w&&Nat.beq t.size g.size with
      |true=>G (0<=i/\i<n)/\K (.B id (h++[i.toNat])) m
      |false=>False
     |none=>False
    |_=>False
   |none=>False
  |some (.d (.X n t f)),some (.d (.z _ i)),some {k:=.slice e,..}=>match tb.get e with
   |some g=>match Nat.beq t.size g.size with
    |true=>G (0<=i/\i<n)/\K (.el (f i.toNat)) m
    |false=>False
   |none=>False
  |some (.ow _ _ n t f),some (.d (.z _ i)),some {k:=.slice e,..}=>match tb.get e with
   |some g=>match Nat.beq t.size g.size with
    |true=>G (0<=i/\i<n)/\K (.el (f i.toNat)) m
    |false=>False
   |none=>False
  |some (.el (.ar w t f)),some (.d (.z _ i)),some {k:=.array n e,..}=>match tb.get e with
   |some g=>match Nat.beq n w&&Nat.beq t.size g.size with
    |true=>G (0<=i/\i<n)/\K (.el (f i.toNat)) m
    |false=>False
   |none=>False
  |_,_,_=>False
 | .index T x O=>match ρ x,ρ O,tb.get T with
  |some (.d (.ar n t f)),some (.d (.z _ i)),some {k:=.array w e,..}=>match tb.get e with
   |some g=>match Nat.beq n w&&od t t.agg g with
    |true=>G (0<=i/\i<n)/\K (.d (f i.toNat)) m
    |false=>False
   |none=>False
  |some (.d (.st s)),some (.d (.z _ i)),some {k:=.str,..}=>G (0<=i/\i<s.size)/\K (.d (.z .u8 (fF s i))) m
  |_,_,_=>False
 | .convert S T x=>match ρ x,tb.get S,tb.get T with
  |some (.d (.z k n)),some _,some {k:=.int A,..}=>match Tl k A with
   |true=>K (.d (.z A n)) m
   |false=>K (.d (.z A (A.wrap n))) m
  |_,_,_=>False
 | .binOp q T x y yT=>match HC q 0 0 with
  |some _=>
   match pv tb m.c ρ (.binOp q T x y yT)with
   |some v=>K v m
   |none=>
    match ρ x,ρ y with
    |some (.d (.X n _ _)),some _=>match y with
     | .const (.slice none 0 0)=>match tb.get T with
      |some {k:=.slice _,..}=>match C with
       |true=>False
       |false=>∀b:Bool,(0<n->b=false)->match qE q b with
        |some v=>K v m
        |none=>False
      |_=>False
     |_=>False
    |some (.d a),some (.d b)=>match a.agg&&b.agg with
     |true=>eM P T a b G λr=>match qE q r with
      |some v=>K v m
      |none=>False
     |false=>False
    |_,_=>False
  |none=>match ρ x,ρ y with
   |some (.d (.z k a)),some (.d (.z A b))=>match zF q k a b with
    |some c=>tn G (Fu A b) (K (.d (.z k c)) m)
    |none=>match decide (k=A)with
     |true=>match Hi q k a b with
      |some (p,c)=>tn G p (K (.d (.z k c)) m)
      |none=>False
     |false=>False
   |_,_=>False
 | .call c=>
  match c.callee with
  | .value f=>match ρ f,nb ρ c.args.toList with
   |some (.fn (.func k) F),some l=>match yC F with
    |true=>match C with
     |true=>match Hy (l++uS F)with
      |true=>eF P k (l++uS F) G λv=>K v m
      |false=>fR P k (l++uS F) m G λv=>K v m
     |false=>b6 P k (l++uS F) m λo U=>match o with
      | .ret v=>K v U
      | .P d=>Kp d U
    |false=>False
   |_,_=>False
  | .builtin .len=>match nb ρ c.args.toList,c.argTypes.toList with
   |some [v],[T]=>match tb.get T with
    |some {k:=.slice _,..}=>match v with
     | .d (.X n _ _)=>G (dx n)/\K (.d (.z .i64 n)) m
     | .ow _ _ n _ _=>G (dx n)/\K (.d (.z .i64 n)) m
     |_=>False
    |some {k:=.str,..}=>match v with
     | .d (.st s)=>G (dx s.size)/\K (.d (.z .i64 s.size)) m
     |_=>False
    |_=>False
   |_,_=>False
  | .builtin .min=>match nb ρ c.args.toList with
   |some [.d (.z k x),.d (.z _ y)]=>match decide (k=.i64)with
    |true=>G (dx x/\dx y)/\K (.d (.z .i64 (bif decide (y<x)then y else x))) m
    |false=>G (ja k x=true/\ja k y=true)/\K (.d (.z k (bif decide (y<x)then y else x))) m
   |_=>False
  | .builtin .max=>match nb ρ c.args.toList with
   |some [.d (.z k x),.d (.z _ y)]=>match decide (k=.i64)with
    |true=>G (dx x/\dx y)/\K (.d (.z .i64 (bif decide (y>x)then y else x))) m
    |false=>False
   |some [.d (.z k x),.d (.z _ y),.d (.z _ z)]=>G (ja k x=true/\ja k y=true/\ja k z=true)/\K (.d (.z k (qP (qP x y) z))) m
   |_=>False
  | .builtin .append=>match C with
   |true=>False
   |false=>match nb ρ c.args.toList,c.argTypes.toList with
    |some [.ow id j n t f,y],[T,V]=>match y.B9,tb.get T with
     | .d (.X w Q Y),some {k:=.slice e,..}=>match tb.get e with
      |some g=>match Nat.beq T V&&Nat.beq Q.size g.size&&Nat.beq g.zero.d.shape.size g.size&&(decide (t=Q)||(Nat.beq id 0&&Nat.beq n 0))with
       |true=>match AB m.t id with
        |some W=>(j=W/\n+w<=2147483648)/\K (.ow (Dg m id) (Di id j) (n+w) Q (fE n f Y)) ⟨m.c,Dh m id j,m.o⟩
        |none=>False
       |false=>False
      |none=>False
     |_,_=>False
    |_,_=>False
  |_=>False
 | .buildSlice T n ps=>match tb.get T with
  |some {k:=.slice e,..}=>match tb.get e with
   |some g=>match Nat.ble (n*g.size) 16777216&&Nat.beq g.zero.d.shape.size g.size,qk ρ g.zero.d.shape ps.toList 0 with
    |true,some l=>match Nat.beq l.length n with
     |true=>K (.ow 0 0 n g.zero.d.shape (c7 l)) m
     |false=>False
    |_,_=>False
   |none=>False
  |_=>False
 | .slice T x M L N=>match tb.get T with
  |some {k:=.slice e,..}=>match tb.get e with
   |some g=>match ρ x,ot ρ M,ot ρ L,ot ρ N with
    |some v,some M,some L,some N=>match v with
     | .d (.X n t f)=>match Nat.beq t.size g.size with
      |true=>qW G K m (.inl ()) n t f (M.getD 0) L N
      |false=>False
     | .ow id j n t f=>match Nat.beq t.size g.size with
      |true=>qW G K m (.inr (id,j)) n t f (M.getD 0) L N
      |false=>False
     |_=>False
    |_,_,_,_=>False
   |none=>False
  |_=>False
 |q=>match pv tb m.c ρ q with
  |some v=>K v m
  |none=>False
def Jp(G:Prop->Prop)(K:SV->MS->Prop)(m:MS)(b:Bool)(id a v n:Nat)(t:Ty)(f:Nat->D):Option Int->Option Int->Option Int->Prop
 |none,some h,none=>match b with
  |true=>False
  |false=>G (a=v/\0<=h/\h<=n)/\K (.ob (.mr id (v+1))) ⟨m.c,m.t,m5 m.o id (.row (v+1) h.toNat t f)⟩
 |some l,none,none=>G (a=v/\0<=l/\l<=n)/\K (.ob (.mq id a l.toNat)) m
 |_,_,_=>False
def mQ(lo k:Nat)(g f:Nat->D):Nat->D:=λj=>bif Nat.ble lo j&&Nat.blt j (lo+k)then g (j - lo)else f j
def ng:Int->Int->Bool
 | .ofNat a,.ofNat b=>Nat.beq a b
 | .negSucc a,.negSucc b=>Nat.beq a b
 |_,_=>false
def iy:List (Int×SV)->Int->Option SV
 |[],_=>none
 |(k,v)::r,n=>match ng k n with
  |true=>some v
  |false=>iy r n
def pH:List (Int×SV)->Int->SV->List (Int×SV)
 |[],k,v=>[(k,v)]
 |(a,u)::r,k,v=>match ng a k with
  |true=>(a,v)::r
  |false=>(a,u)::pH r k v
def xA(n:Int)(K:Option SV->Prop):List (Int×SV)->Prop
 |[]=>K none
 |(k,v)::r=>(n=k->K (some v))/\(n≠k->xA n K r)
def s7:List (Int×SV)->Prop
 |[]=>True
 |(_,v)::r=>(∃b,v=.d (.I b))/\s7 r
def Dc:List (Int×SV)->Bool
 |[]=>true
 |(_,v)::r=>v.nt&&Dc r
def lp:Option SV->Bool
 |some (.d (.I b))=>b
 |_=>false
def Fv(m:MS):SV->Option (Nat×Ty×(Nat->D))
 | .ob (.sb id a b n)=>match kI m.c id with
  |some c=>match c.B0 a with
   |some (.d (.ar _ t f))=>some (n,t,jT f b)
   |_=>none
  |none=>none
 | .d (.st s)=>some (s.size,.c,λi=>.z .u8 (fF s i))
 | .d (.X n t f)=>some (n,t,f)
 |_=>none
def xg:List (Int×SV):=[(1,.fn (.func 291) (.d .un)),(2,.fn (.func 292) (.d .un)),(3,.fn (.func 293) (.d .un)),(4,.fn (.func 294) (.d .un)),(5,.fn (.func 295) (.d .un)),(6,.fn (.func 296) (.d .un)),
 (7,.fn (.func 297) (.d .un)),(8,.fn (.func 298) (.d .un)),(9,.fn (.func 299) (.d .un)),(10,.fn (.func 300) (.d .un)),(11,.fn (.func 301) (.d .un)),(12,.fn (.func 302) (.d .un)),
 (13,.fn (.func 303) (.d .un)),(14,.fn (.func 304) (.d .un)),(15,.fn (.func 305) (.d .un)),(16,.fn (.func 305) (.d .un)),(17,.fn (.func 306) (.d .un)),
 (18,.fn (.func 307) (.d .un)),(19,.fn (.func 308) (.d .un)),(20,.fn (.func 309) (.d .un)),(21,.fn (.func 310) (.d .un)),(22,.fn (.func 311) (.d .un))]
def IU:Option SV->Bool
 |some (.ob _)=>true|_=>false
def rN(tb:TT)(e:Op)(ρ:Operand->Option SV)(g:Bool):Bool:=match e with
 | .store _ x _| .load _ x| .indexAddr _ x _=>IU (ρ x)
 | .index _ x _=>match ρ x with
  |some (.ar ..)=>true
  |_=>false
 | .slice _ x b a d=>match ρ x with
  |some (.ob _)|some (.B ..)|some (.d (.st _))=>true
  |some (.ow 0 0 0 _ _)=>b.isNone&&a.isSome&&d.isNone
  |_=>false
 | .convert _ _ x=>match ρ x with
  |some (.d (.st _))=>true
  |_=>false
 | .call c=>match c.callee with
  | .value f=>match ρ f with
   |some (.ob _)|some (.fb ..)=>true
   |_=>false
  | .builtin .len=>match c.args.toList with
   |x::_=>IU (ρ x)
   |[]=>false
  | .builtin .append=>match c.args.toList with
   |[x,y]=>IU (ρ x)||(match ρ y with
    |some (.d (.z ..))=>true
    |_=>false)||(match ρ x with
    |some (.ow 0 0 0 _ _)=>true
    |_=>false)
   |_=>false
  | .builtin .copy| .builtin .clear| .builtin .cap=>true
  |_=>false
 | .buildSlice .. | .makeSlice .. =>!g
 | .build T _=>match tb.get T with
  |some {k:=.array ..,..}=>true
  |_=>false
 | .makeMap .. | .insert .. | .mapUpdate .. | .lookup .. | .typeAssert .. | .panic _=>true
 |_=>false
def n7(tb:TT)(T:TypeId):Option TI:=match tb.get T with
 |some {k:=.slice e,..}=>tb.get e
 |_=>none
def Nf(tb:TT)(T:TypeId):Option (Nat×TI):=match tb.get T with
 |some {k:=.array n e,..}=>(tb.get e).map λi=>(n,i)
 |some {k:=.ptr q,..}=>match tb.get q with
  |some {k:=.array n e,..}=>(tb.get e).map λi=>(n,i)
  |_=>none
 |_=>none
def tR(m:MS)(id:Nat)(a:List Nat):Option (Nat×Ty×(Nat->D)):=match kI m.c id with
 |some c=>match c.B0 a with
  |some (.d (.ar n t f))=>some (n,t,f)
  |_=>none
 |none=>none
def lz(m:MS)(id:Nat):Option (Nat×Nat×Ty×(Nat->D)):=match ss m.o id with
 |some (.row v n t f)=>some (v,n,t,f)
 |_=>none
def xC(m:MS)(id:Nat):Option (IntKind×List (Int×SV)):=match ss m.o id with
 |some (.map k l)=>some (k,l)
 |_=>none
def Fp(G:Prop->Prop)(K:SV->MS->Prop)(m:MS)(id:Nat)(a:List Nat)(v:SV)(n:Nat)(t:Ty)(f':Nat->D):Prop:=match kI m.c id with
 |some c=>∃b,f'=b/\match c.set a (.d (.ar n t b))with
  |some d=>K v ⟨oJ m.c id d,m.t,m.o⟩
  |none=>False
 |none=>False
def zQ(tb:TT)(m:MS)(c:Bool)(K:SV->MS->Prop)(T:TypeId)(x k y:Option SV):Prop:=match x,k,y,tb.get T with
 |some (.ob (.mo id)),some (.d (.z k n)),some u,some {k:=.map b _,..}=>match xC m id with
  |some (a,l)=>match c,decide (k=b)&&(decide (k=a)&&u.one)with
   |false,true=>K (.tu (.d .un)) ⟨m.c,m.t,m5 m.o id (.map a (pH l n u))⟩
   |_,_=>False
  |_=>False
 |_,_,_,_=>False
def He(m:MS)(id:Nat):SV->Option (Option Prop×Nat×Ty×(Nat->D))
 | .ob (.mr a b)=>match lz m a with
  |some (f,d,e,c)=>some (some (b=f/\id≠a),d,e,c)
  |none=>none
 |y=>match y.B9 with
  | .d (.X d e c)=>some (none,d,e,c)
  |_=>none
def tU(ρ:Operand->Option SV)(n:Nat)(t:Ty):List (Nat×Operand)->SV->Option SV
 |[],v=>some v
 |(k,x)::r,v=>match Nat.blt k n,ρ x with
  |true,some u=>match decide (u.shape=t)&&u.nt with
   |true=>match v.set [k] u with
    |some a=>tU ρ n t r a
    |none=>none
   |false=>none
  |_,_=>none
def ib(P:Program)(tb:TT)(op:Op)(m:MS)(ρ:Operand->Option SV)(G:Prop->Prop)(C:Bool)(K:SV->MS->Prop)(Kp:D->MS->Prop):Prop:=match op with
 | .store T x y=>match ρ x,ρ y with
  |some (.ob (.mp id r i)),some u=>match u.B9 with
   | .d d=>match lz m id,tb.get T with
    |some (v,n,t,f),some j=>match C,decide (d.shape=t)&&Nat.beq t.size j.size with
     |false,true=>G (r=v/\i<n)/\∃f2,a7 f i d=f2/\K (.tu (.d .un)) ⟨m.c,m.t,m5 m.o id (.row v n t f2)⟩
     |_,_=>False
    |_,_=>False
   |_=>False
  |_,_=>False
 | .load T x=>match ρ x with
  |some (.ob (.mp id r i))=>match lz m id,tb.get T with
   |some (v,n,t,f),some j=>match od t t.agg j with
    |true=>G (r=v/\i<n)/\K (.d (f i)) m
    |false=>False
   |_,_=>False
  |some (.ob (.gl g))=>match Nat.beq g 0,tb.get T with
   |true,some j=>match od .c false j with
    |true=>K (.ob .gm) m
    |false=>False
   |_,_=>False
  |_=>False
 | .indexAddr T x ix=>match ρ x,ρ ix,n7 tb T with
  |some (.ob (.mr id r)),some (.d (.z _ i)),some j=>match lz m id with
   |some (v,n,t,_)=>match Nat.beq t.size j.size with
    |true=>G (r=v/\0<=i/\i<n)/\K (.ob (.mp id r i.toNat)) m
    |false=>False
   |none=>False
  |some (.ob (.sb id w A n)),some (.d (.z _ i)),some j=>match tR m id w with
   |some (_,t,_)=>match Nat.beq t.size j.size with
    |true=>G (0<=i/\i<n)/\K (.B id (w++[A+i.toNat])) m
    |false=>False
   |none=>False
  |_,_,_=>False
 | .index T x ix=>match ρ x,ρ ix,tb.get T with
  |some (.ar n t f),some (.d (.z _ i)),some {k:=.array J e,..}=>match tb.get e with
   |some j=>match Nat.beq n J&&od t t.agg j with
    |true=>G (0<=i/\i<n)/\K (f i.toNat) m
    |false=>False
   |none=>False
  |_,_,_=>False
 | .slice T x A F mx=>match ρ x,ot ρ A,ot ρ F,ot ρ mx with
  |some (.ob (.mr id r)),some A,some F,some mx=>match lz m id,n7 tb T with
   |some (v,n,t,f),some j=>match Nat.beq t.size j.size with
    |true=>Jp G K m C id r v n t f A F mx
    |false=>False
   |_,_=>False
  |some (.d (.st s)),some A,some F,some none=>match tb.get T with
   |some {k:=.str,..}=>G (0<=A.getD 0/\A.getD 0<=F.getD s.size/\F.getD s.size<=s.size)/\K (.d (.st (s.extract (A.getD 0).toNat (F.getD s.size).toNat))) m
   |_=>False
  |some (.B id w),some A,some F,some none=>match tR m id w,Nf tb T with
   |some (J,t,_),some (n,j)=>match Nat.beq n J&&Nat.beq t.size j.size with
    |true=>G (0<=A.getD 0/\A.getD 0<=F.getD n/\F.getD n<=n)/\K (.ob (.sb id w (A.getD 0).toNat ((F.getD n).toNat -(A.getD 0).toNat))) m
    |false=>False
   |_,_=>False
  |some (.ow 0 0 0 t f),some none,some (some h),some none=>match n7 tb T with
   |some _=>G (0=h)/\K (.ow 0 0 0 t f) m
   |none=>False
  |_,_,_,_=>False
 | .convert S T x=>match ρ x,tb.get S,n7 tb T with
  |some (.d (.st s)),some {k:=.str,..},some {k:=.int .u8,..}=>match C with
   |true=>False
   |false=>K (.d (.X s.size .c λi=>.z .u8 (fF s i))) m
  |_,_,_=>False
 | .call c=>match c.callee with
  | .value f=>match ρ f,nb ρ c.args.toList with
   |some (.ob (.yl id)),some l=>match ss m.o id with
    |some (.loop W as O N V .ready)=>match C with
     |true=>False
     |false=>fx P id W as O N V l m K
    |_=>False
   |some (.fb k a),some l=>match C with
    |true=>fR P k (a::l) m G λv=>K v m
    |false=>b6 P k (a::l) m λo U=>match o with
     | .ret v=>K v U
     | .P d=>Kp d U
   |_,_=>False
  | .builtin .cap=>match nb ρ c.args.toList,c.argTypes.toList with
   |some [.ow 0 0 n _ _],[T]=>match n7 tb T with
    |some _=>G (dx n)/\K (.d (.z .i64 n)) m
    |none=>False
   |_,_=>False
  | .builtin .len=>match nb ρ c.args.toList,c.argTypes.toList with
   |some [.ob (.mr id r)],[T]=>match lz m id,n7 tb T with
    |some (v,n,_,_),some _=>G (r=v/\dx n)/\K (.d (.z .i64 n)) m
    |_,_=>False
   |some [.ob (.mq id r A)],[T]=>match lz m id,n7 tb T with
    |some (v,n,_,_),some _=>G (r=v/\dx (n - A:Nat))/\K (.d (.z .i64 (n - A:Nat))) m
    |_,_=>False
   |some [.ob (.sb _ _ _ n)],[T]=>match n7 tb T with
    |some _=>G (dx n)/\K (.d (.z .i64 n)) m
    |none=>False
   |_,_=>False
  | .builtin .append=>match C with
   |true=>False
   |false=>match nb ρ c.args.toList,c.argTypes.toList with
    |some [.ob (.mr id r),y],[T,L]=>match lz m id,n7 tb T,He m id y with
     |some (v,n,t,f),some j,some (q,J,Y,Z)=>match(Nat.beq T L&&Nat.beq t.size j.size)&&(Nat.beq j.zero.d.shape.size j.size&&decide (Y=t))with
      |true=>tn (λp=>p) q ((r=v/\n+J<=2147483648)/\K (.ob (.mr id (v+1))) ⟨m.c,m.t,m5 m.o id (.row (v+1) (n+J) t (fE n f Z))⟩)
      |false=>False
     |_,_,_=>False
    |some [.ow 0 0 0 _ _,.d (.z .i64 k)],[T,L]=>match n7 tb T,tb.get L with
     |some j,some {k:=.int _,..}=>match Nat.beq j.zero.d.shape.size j.size with
      |true=>(0<k/\k<=2147483648)/\K (.ob (.mr m.o.length 0)) ⟨m.c,m.t,m.o++[.row 0 k.toNat j.zero.d.shape λ_=>j.zero.d]⟩
      |false=>False
     |_,_=>False
    |some [.ow 0 0 0 _ f,y],[T,L]=>match y.B9,n7 tb T with
     | .d (.X J Y Z),some j=>match(Nat.beq T L&&Nat.beq Y.size j.size)&&Nat.beq j.zero.d.shape.size j.size with
      |true=>J<=2147483648/\(K (.ow (m.t.length+1) 0 (0+J) Y (fE 0 f Z)) ⟨m.c,m.t++[0],m.o⟩\/0<J/\K (.ob (.mr m.o.length 1)) ⟨m.c,m.t,m.o++[.row 1 (0+J) Y (fE 0 (c7 []) Z)]⟩)
      |false=>False
     |_,_=>False
    |_,_=>False
  | .builtin .copy=>match C with
   |true=>False
   |false=>match nb ρ c.args.toList,c.argTypes.toList with
    |some [.ob (.sb id w A n),y],[T,_]=>match tR m id w,n7 tb T,Fv m y with
     |some (c,t,f),some j,some (M,t2,g)=>match decide (t2=t)&&Nat.beq t.size j.size with
      |true=>G (dx (Nat.min M n))/\Fp G K m id w (.d (.z .i64 (Nat.min M n))) c t (mQ A (Nat.min M n) g f)
      |false=>False
     |_,_,_=>False
    |some [.ob (.mr id r),y],[T,_]=>match lz m id,n7 tb T,Fv m y with
     |some (v,n,t,f),some j,some (M,t2,g)=>match decide (t2=t)&&Nat.beq t.size j.size with
      |true=>G (r=v/\dx (Nat.min M n))/\K (.d (.z .i64 (Nat.min M n))) ⟨m.c,m.t,m5 m.o id (.row v n t (mQ 0 (Nat.min M n) g f))⟩
      |false=>False
     |_,_,_=>False
    |_,_=>False
  | .builtin .clear=>match C with
   |true=>False
   |false=>match nb ρ c.args.toList,c.argTypes.toList with
    |some [.ob (.sb id w A n)],[T]=>match tR m id w,n7 tb T with
     |some (c,t,f),some j=>match decide (j.zero.d.shape=t)&&Nat.beq t.size j.size with
      |true=>Fp G K m id w (.tu (.d .un)) c t (mQ A n (λ_=>j.zero.d) f)
      |false=>False
     |_,_=>False
    |some [.ob (.mq id r A)],[T]=>match lz m id,n7 tb T with
     |some (v,n,t,f),some j=>match decide (j.zero.d.shape=t)&&Nat.beq t.size j.size with
      |true=>G (r=v)/\K (.tu (.d .un)) ⟨m.c,m.t,m5 m.o id (.row v n t (mQ A (n - A) (λ_=>j.zero.d) f))⟩
      |false=>False
     |_,_=>False
    |_,_=>False
  |_=>False
 | .buildSlice T n W=>match C with
  |true=>False
  |false=>match n7 tb T with
   |some j=>match Nat.ble (n*j.size) 16777216&&Nat.beq j.zero.d.shape.size j.size,qk ρ j.zero.d.shape W.toList 0 with
    |true,some l=>match Nat.beq l.length n with
     |true=>K (.ow 0 0 n j.zero.d.shape (c7 l)) m\/K (.ob (.mr m.o.length 0)) ⟨m.c,m.t,m.o++[.row 0 n j.zero.d.shape (c7 l)]⟩
     |false=>False
    |_,_=>False
   |none=>False
 | .makeSlice T x y=>match C with
  |true=>False
  |false=>match ρ x,ρ y,n7 tb T with
   |some (.d (.z _ k)),some (.d (.z _ Q)),some j=>match Nat.beq j.zero.d.shape.size j.size with
    |true=>(Q=k/\0<=k/\k<=65536/\k*j.size<=65536)/\K (.ob (.mr m.o.length 0)) ⟨m.c,m.t,m.o++[.row 0 k.toNat j.zero.d.shape λ_=>j.zero.d]⟩
    |false=>False
   |_,_,_=>False
 | .build T W=>match tb.get T with
  |some {k:=.array n e,zero:=z,..}=>match tb.get e with
   |some j=>match Nat.beq j.zero.d.shape.size j.size&&decide (z.D7.shape=.ar n j.zero.d.shape)with
    |true=>match tU ρ n j.zero.d.shape W.toList z.D7 with
     |some v=>K v m
     |none=>False
    |false=>False
   |none=>False
  |_=>False
 | .makeMap T q=>match q,tb.get T with
  |none,some {k:=.map k _,..}=>match C with
   |true=>False
   |false=>K (.ob (.mo m.o.length)) ⟨m.c,m.t,m.o++[.map k []]⟩
  |_,_=>False
 | .insert T x R y=>zQ tb m C K T (ρ x) (ρ R) (ρ y)
 | .mapUpdate T x R y=>zQ tb m C K T (ρ x) (ρ R) (ρ y)
 | .lookup T x R ok=>match ρ x,ρ R,tb.get T with
  |some (.ob .gm),some (.d (.z k n)),some {k:=.map Q .nf,..}=>match ok,decide (k=.u8)&&decide (Q=.u8)with
   |true,true=>match C with
    |true=>False
    |false=>xA n (λo=>match o with
     |some v=>K (.tu (.H v (.H (.d (.I true)) (.d .un)))) m
     |none=>K (.tu (.H (.d .nf) (.H (.d (.I false)) (.d .un)))) m) xg
   |_,_=>False
  |some (.ob (.mo id)),some (.d (.z k n)),some {k:=.map Q z,..}=>match xC m id with
   |some (k2,l)=>match C,decide (k=Q)&&decide (k=k2)with
    |false,true=>match ok with
     |true=>match Dc l with
      |true=>xA n (λo=>match o with
       |some v=>K (.tu (.H v (.H (.d (.I true)) (.d .un)))) m
       |none=>K (.tu (.H (.d z.d) (.H (.d (.I false)) (.d .un)))) m) l
      |false=>False
     |false=>match z with
      | .I=>G (s7 l)/\∃b,lp (iy l n)=b/\K (.d (.I b)) m
      |_=>False
    |_,_=>False
   |_=>False
  |_,_,_=>False
 | .typeAssert x _ T ok=>match ρ x,tb.get T with
  |some (.d (.ic L (.z k n))),some {k:=.int _,..}=>match Nat.beq T L with
   |true=>match ok with
    |true=>K (.tu (.H (.d (.z k n)) (.H (.d (.I true)) (.d .un)))) m
    |false=>K (.d (.z k n)) m
   |false=>False
  |_,_=>False
 | .panic x=>match C with
  |true=>False
  |false=>match ρ x with
   |some (.d (.ic T d))=>Kp (.ic T d) m
   |_=>False
 |_=>False
def lN(P:Program)(tb:TT)(a:Op)(m:MS)(ρ:Operand->Option SV)(G:Prop->Prop)(b:Bool)(K:SV->MS->Prop)(Kp:D->MS->Prop):Prop:=match rN tb a ρ b with
 |true=>ib P tb a m ρ G b K Kp
 |false=>gu P tb a m ρ G b K Kp
end Sx
namespace Sx
variable {E:Gh} {r:Option Nat} {nn:Nat}
variable {P:Program} {tb:TT} {O:Ro} {J:Bl} {m:MS} {w:World}
variable{a:Act}{next:Act->World->Prop}{Kp:D->MS->Prop}{Q:Exit->Act->World->Prop}{b c y:Int}{k:IntKind}{o:Oper}{K:SV->MS->Prop}
def s8{ρ:Operand->Option SV}{b:Operand->Value}(a:∀x v,ρ x=some v->du O J v (b x)):∀{l:List Operand} {vs:List SV},nb ρ l=some vs->jf O J vs (l.map b)
 |[],vs,h=>by simp only[nb,fW]at h;subst h;trivial
 |x::r,vs,h=>by
  simp only[nb]at h;split at h
  .rename_i v c e d;simp only[fW]at h;subst h;exact⟨a x v e,s8 a d⟩
  .cases h
def jf.app:∀{a b:List SV} {G ys:List Value},jf O J a G->jf O J b ys->jf O J (a++b) (G++ys)
 |[],_,[],_,_,h=>h
 |_::_,_,_::_,_,⟨f,j⟩,h=>⟨f,j.app h⟩
 |[],_,_::_,_,h,_=>h.elim
 |_::_,_,[],_,h,_=>h.elim
def Hw:∀{c:SV} {vs:List Value},eX O J c vs->yC c=true->jf O J (uS c) vs
 | .d .un,_,h,_=>by cases h;trivial
 | .H a b,_,⟨i,k,h,e,j⟩,d=>by
  simp only[yC,dH]at d;have g:=e.length;rw[SV.C1 (SV.C9 d.1)]at g
  match i,g with
  |[x],_=>
   subst h;exact⟨fJ.v ⟨(λf=>by rw[SV.C9 d.1]at f;cases f),λ_=>e⟩,Hw j d.2⟩
 | .d (.z ..),_,_,d| .d (.I _),_,_,d| .d (.st _),_,_,d| .d .np,_,_,d| .d .nf,_,_,d| .d .ni,_,_,d| .d .nm,_,_,d| .d (.ic ..),_,_,d| .d (.X ..),_,_,d| .d (.H ..),_,_,d| .d (.ar ..),_,_,d
 | .B ..,_,_,d| .el _,_,_,d| .fn ..,_,_,d| .ow ..,_,_,d| .tu _,_,_,d| .ob _,_,_,d| .fb ..,_,_,d| .ar ..,_,_,d=>by simp[yC]at d
def IR{x:Int}(h:ja k x=true):ja k (dU k x y)=true:=by
 obtain⟨j,e,l⟩:=xx h;unfold dU;obtain⟨d,c⟩:∃d:Int,(2:Int) ^(min y.toNat k.bits)=d:=⟨_,rfl⟩;have a:0<d:=by rw[<-c];exact Int.pow_pos a8
 rw[c,Vg _ (Int.le_of_lt a)];have g:x / d*d<=x:=Int.ediv_mul_le _ a3;have i:x<(x / d+1)*d:=Int.lt_ediv_add_one_mul_self _ a;refine iL ?_ (λf=>Int.ediv_nonneg (e f) a3) ?_
 .rcases(show x / d<0\/0<=x / d by omega)with b|b
  .have:(x / d+1)*d<=(x / d+1)*1:=Int.mul_le_mul_of_nonpos_left a3 a3;omega
  .omega
 .rcases(show x / d<0\/0<=x / d by omega)with b|b
  .omega
  .have:x / d*1<=x / d*d:=Int.mul_le_mul_of_nonneg_left a3 b;omega
def zdr(b:ja k y=true)(h:∀q,Fu k y=some q->q):0<=y:=by obtain⟨_,a,_⟩:=xx b;cases k<;>first|exact a rfl|exact h _ rfl
def zdu{e:BinOp}{a:Int}(h:zF e k a b=some c)(f:ja k a=true)(g:0<=b):ja k c=true/\∀d w,(Op.shift e k a d b).run P w=.ok (.int k c) w:=by
 unfold zF at h;split at h
 .cases h;exact⟨rJ _ _,λd w=>by simp[Op.shift,show¬b<0 by omega,ec]⟩
 .cases h;exact⟨IR f,λd w=>by simp[Op.shift,show¬b<0 by omega,dU]⟩
 .cases h
def Wj{f:BinOp}{T:TypeId}{a:Int}{p:Option Prop}(g:zF f k a b=none)(h:Hi f k a b=some (p,c))(d:∀q,p=some q->q):ja k c=true/\∀w,(binOp f T (.int k a) (.int k b)).run P w=.ok (.int k c) w:=by
 have e:∀z,dx z->IntKind.i64.wrap z=z:=λz i=>l5 (nM i);cases f<;>simp only[Hi,zF,reduceCtorEq]at h g
 case add=>cases k<;>(cases h;first|exact⟨nM (d _ rfl),λw=>by simp[binOp,Op.intArith,e _ (d _ rfl)]⟩|exact⟨rJ _ _,λw=>by simp[binOp,Op.intArith]⟩)
 case sub=>cases k<;>(cases h;first|exact⟨nM (d _ rfl),λw=>by simp[binOp,Op.intArith,e _ (d _ rfl)]⟩|exact⟨rJ _ _,λw=>by simp[binOp,Op.intArith]⟩)
 case mul=>cases k<;>(cases h;first|exact⟨nM (d _ rfl),λw=>by simp[binOp,Op.intArith,e _ (d _ rfl)]⟩|exact⟨rJ _ _,λw=>by simp[binOp,Op.intArith]⟩)
 case quo=>cases h;exact⟨rJ _ _,λw=>by simp[binOp,Op.intDiv,d _ rfl]⟩
 case rem=>cases h;exact⟨(d _ rfl).2,λw=>by simp[binOp,Op.intDiv,(d _ rfl).1]⟩
 case and=>cases h;exact⟨rJ _ _,λw=>by simp[binOp,Op.intBits,dC]⟩
 case or=>cases h;exact⟨rJ _ _,λw=>by simp[binOp,Op.intBits,dC]⟩
 case xor=>cases h;exact⟨rJ _ _,λw=>by simp[binOp,Op.intBits,dC]⟩
 case andNot=>cases h;exact⟨rJ _ _,λw=>by simp[binOp,Op.intBits,dC]⟩
abbrev FR(r:Option Nat):Fence:={Fence.wide with round:=r}
def wB(hd:∀c,o.op≠.defer c)(h:o.uponIn (FR r) nn P a next Q ((execOp a.eval o).run P w)):o.wpIn (FR r) nn P a w next Q:=
 ⟨λ_ _=>trivial,by rw[Oper.semAt_eq _ _ _ hd];exact h⟩
structure Goes (E:Gh) (P:Program) (ro:Ro) (bl:Bl) (w:World) (o:Oper) (a:Act) (next:Act->World->Prop) (Q:Exit->Act->World->Prop) (K:SV->MS->Prop) (Kp:D->MS->Prop):Prop where
 ok:∀ro' bl' m' w' v x,K v m'->du ro' bl' v x->Mem E ro' bl' m' w'->Gr ro bl w ro' bl' w'->next (a.put o.dst x) w'
 P:∀ro' bl' m' w' d x,Kp d m'->du ro' bl' (.d d) x->Mem E ro' bl' m' w'->Gr ro bl w ro' bl' w'->Q (.panic [{v:=x,recovered:=false}]) a w'
def Fe:du O J (.tu (.d .un)) undef:=⟨[],rfl,rfl⟩
def Goes.val(g:Goes E P O J w o a next Q K Kp){x:Value}{M:World}{j:Ro}{f:Bl}{U:MS}{v:SV}(F:(execOp a.eval o).run P w=.ok (.value x) M)(A:K v U)(G:du j f v x)(C:Mem E j f U M)(u:Gr O J w j f M)(hd:∀c,o.op≠.defer c:=by intro c h;cases h):o.wpIn (FR r) nn P a w next Q:=by
 refine wB hd ?_;rw[F];exact g.ok _ _ _ _ _ _ A G C u
def Ao(g:Goes E P O J w o a next Q K Kp)(q:Mem E O J m w){k:FuncId}{args:List SV}{G:List Value}(f:jf O J args G)(s:(execOp a.eval o).run P w=.ok (.enter k G.toArray) w)(h:b6 P k args m λo U=>match o with
  | .ret v=>K v U
  | .P d=>Kp d U)(hd:∀c,o.op≠.defer c:=by intro c h;cases h):o.wpIn (FR r) nn P a w next Q:=by
 refine wB hd ?_;rw[s];refine⟨λh=>(by cases h),?_⟩;show CallsIn Fence.wide (nn - 1) P k G.toArray w _;refine callsIn_wide.2 ?_;refine(h.2 E O J w G q f).mono ?_;rintro e M ⟨t,p,U,i,b,j,n,l⟩;cases i with
 |ret v=>obtain⟨x,rfl,f⟩:=n;exact g.ok _ _ _ _ _ _ l f b j
 |P d=>obtain⟨x,rfl,f⟩:=n;exact g.P _ _ _ _ _ _ l f b j
end Sx
end Go.Proofs.YtfbhkfhbnkncoaaGreatDoor
