import Derived.Test.YtfbhkfhbnkncoaaGreatDoorT2
import Derived.Calls
set_option linter.all false
namespace Go.Proofs.YtfbhkfhbnkncoaaGreatDoor
open Go.RowKit
namespace Sx
def za4:List D→Nat→D
 |[],_=>.un
 |d::_,0=>d
 |_::r,n+1=>za4 r n
inductive ZT where
 |z (k:IntKind)|bo|st|sl (q:ZT)|ow (q:ZT)|np|nf|ni|nm|un|pr (a b:ZT)|ar (n:Nat) (z:ZT)
inductive TK where
 |other|int (k:IntKind)|map (k:IntKind) (z:ZT)|slice (el:TypeId)|array (n:Nat) (el:TypeId)|struct (fs:List (Nat×TypeId))|ptr (el:TypeId)|str|iface
def ZT.d:ZT→D
 | .z k=>.z k 0| .bo=>.bo false| .st=>.st ⟨#[]⟩| .sl q| .ow q=>.sl 0 q.d.shape (za4 [])| .np=>.np| .nf=>.nf| .ni=>.ni| .nm=>.nm| .un=>.un| .pr a b=>.pr a.d b.d| .ar n q=>.ar n q.d.shape (fun _=>q.d)
def ZT.cells:ZT→List Value
 | .z k=>[.int k 0]| .bo=>[.bool false]| .st=>[.string ⟨#[]⟩]| .sl _| .ow _=>[.slice none 0 0]| .np=>[.pointer none]| .nf=>[.nilFunc]| .ni=>[.nilIface]| .nm=>[.map none]| .un=>[]| .pr a b=>a.cells++b.cells
 | .ar n q=>(List.range n).flatMap fun _=>q.cells
theorem ZT.rep(ro:Ro):∀q:ZT,zbg ro q.d q.cells
 | .z k=>⟨rfl,by cases k<;>rfl⟩
 | .bo| .st| .np| .nf| .ni| .nm| .un=>rfl
 | .sl _| .ow _=>⟨none,0,rfl,zF5 _,fun h=>absurd h (zH0 _)⟩
 | .pr a b=>⟨_,_,rfl,a.rep ro,b.rep ro⟩
 | .ar n q=>⟨fun _=>q.cells,rfl,fun _ _=>⟨rfl,q.rep ro⟩⟩
def zqE(t:Ty)(f:Nat→D):SV:=.ow 0 0 0 t f
def ZT.own:ZT→Bool
 | .ow _=>true| .pr a b=>a.own||b.own|_=>false
def ZT.sv':ZT→SV
 | .ow q=>zqE q.d.shape (za4 [])
 | .pr a b=>match a.own||b.own with
  |true=>.pr a.sv' b.sv'
  |false=>.d (.pr a.d b.d)
 |q=>.d q.d
def ZT.sv:ZT→SV
 | .sl q=>zqE q.d.shape (za4 [])
 |q=>q.sv'
theorem zlm(ro:Ro)(bl:Bl)(t:Ty)(f:Nat→D):zb5 ro bl (zqE t f) [.slice none 0 0]:=
 ⟨_,(none,0,0),⟨none,0,rfl,zF5 _,fun h=>absurd h (zH0 _)⟩,rfl,zF5 _,fun _=>.inl ⟨none,rfl⟩,rfl⟩
theorem ZT.rep_sv'(ro:Ro)(bl:Bl):∀q:ZT,zb5 ro bl q.sv' q.cells∧q.sv'.shape=q.d.shape∧q.sv'.agg=q.d.agg
 | .ow q=>⟨zlm ro bl _ _,rfl,rfl⟩
 | .pr a b=>by
  obtain⟨h1,h2,_⟩:=a.rep_sv' ro bl;obtain⟨k1,k2,_⟩:=b.rep_sv' ro bl;unfold ZT.sv';split
  ·exact⟨⟨_,_,rfl,h1,k1⟩,by simp only[SV.shape,ZT.d,D.shape,h2,k2],rfl⟩
  ·exact⟨(ZT.pr a b).rep ro,rfl,rfl⟩
 | .z _| .bo| .st| .sl _| .np| .nf| .ni| .nm| .un| .ar _ _=>⟨ZT.rep ro _,rfl,rfl⟩
theorem ZT.rep_sv(ro:Ro)(bl:Bl):∀q:ZT,zb5 ro bl q.sv q.cells∧q.sv.shape=q.d.shape∧q.sv.agg=q.d.agg
 | .sl q=>⟨zlm ro bl _ _,rfl,rfl⟩
 | .ow q=>ZT.rep_sv' ro bl (.ow q)
 | .pr a b=>ZT.rep_sv' ro bl (.pr a b)
 | .z _| .bo| .st| .np| .nf| .ni| .nm| .un| .ar _ _=>ZT.rep_sv' ro bl _
def SV.dat:SV→SV
 | .ow _ _ n t f=>.d (.sl n t f)
 |v=>v
def SV.res:SV→SV
 | .ow (_+1) _ n t f=>.d (.sl n t f)
 |v=>v
def SV.into(u old:SV):SV:=match old with
 | .ow .. =>u
 |_=>u.dat
theorem SV.dat_rep{ro:Ro}{bl:Bl}:∀{v:SV} {cs:List Value},zb5 ro bl v cs→zb5 ro bl v.dat cs
 | .ow ..,_,⟨x,_,h,_,_,_,h2⟩=>by subst h2;exact h
 | .d _,_,h| .pt ..,_,h| .el _,_,h| .fn ..,_,h| .pr ..,_,h| .ob _,_,h| .fb ..,_,h| .ar ..,_,h=>h
theorem SV.into_rep{ro:Ro}{bl:Bl}{v old:SV}{cs:List Value}(h:zb5 ro bl v cs):zb5 ro bl (v.into old) cs:=by
 unfold SV.into;split
 ·exact h
 ·exact SV.dat_rep h
theorem SV.dat_shape:∀(v:SV),v.dat.shape=v.shape∧v.dat.agg=v.agg
 | .ow .. | .d _| .pt .. | .el _| .fn .. | .pr .. | .tu _| .ob _| .fb .. | .ar .. =>⟨rfl,rfl⟩
theorem SV.into_shape(v old:SV):(v.into old).shape=v.shape∧(v.into old).agg=v.agg:=by
 unfold SV.into;split
 ·exact⟨rfl,rfl⟩
 ·exact v.dat_shape
theorem zcD.res{ro:Ro}{bl:Bl}:∀{v:SV} {x:Value},zcD ro bl v x→zcD ro bl v.res x
 | .ow (_+1) _ n t f,x,h=>by refine⟨(fun h=>by cases h),fun _=>?_⟩;obtain⟨y,e,h1,_,_,_,h2⟩:=h.2 rfl;cases h2;exact h1
 | .ow 0 ..,_,h| .d _,_,h| .pt ..,_,h| .el _,_,h| .fn ..,_,h| .pr ..,_,h| .tu _,_,h| .ob _,_,h| .fb ..,_,h| .ar ..,_,h=>h
theorem zcD.into{ro:Ro}{bl:Bl}{v old:SV}{x:Value}(h:zcD ro bl v x):zcD ro bl (v.into old) x:=by
 obtain⟨h1,h2⟩:=h;refine⟨fun ha=>?_,fun ha=>?_⟩
 ·obtain⟨cs,hc,hx⟩:=h1 (by rw[←(SV.into_shape v old).2];exact ha);exact⟨cs,SV.into_rep hc,hx⟩
 ·exact SV.into_rep (h2 (by rw[←(SV.into_shape v old).2];exact ha))
structure TI where
 size:Nat
 ag:Bool
 k:TK
 zero:ZT
inductive TT where
 |leaf|node (t:Nat) (i:TI) (l r:TT)
def TT.get:TT→Nat→Option TI
 | .leaf,_=>none
 | .node t i l r,n=>match Nat.beq n t with
  |true=>some i
  |false=>match Nat.ble n t with
   |true=>l.get n
   |false=>r.get n
def TK.ok(P:Program)(T:TypeId):TK→Prop
 | .other=>True
 | .int k=>P.underlying T=some (.int k)
 | .map k z=>∃kt e,P.underlying T=some (.map kt e)∧P.underlying kt=some (.int k)∧(P.info? e).map (·.zero)=some (some (z.cells.headD undef))∧z.d.agg=false
 | .slice e=>P.underlying T=some (.slice e)
 | .array n e=>P.underlying T=some (.array n e)
 | .struct fs=>∃fields,P.underlying T=some (.struct fields)∧fields.toList.map (fun f=>(f.offset,f.type))=fs
 | .ptr e=>P.underlying T=some (.pointer e)
 | .str=>P.underlying T=some .string
 | .iface=>∃ms,P.underlying T=some (.interface ms)
def TI.ok(P:Program)(T:TypeId)(i:TI):Prop:=
 TF P T i.size i.ag∧i.k.ok P T∧(P.info? T).map (·.zero)=some (some (if i.ag then .agg i.zero.cells.toArray else i.zero.cells.headD undef))∧i.zero.d.agg=i.ag∧(P.info? T).map (fun x=>Nat.ble x.bytes 65536)=some true
def TT.ok(P:Program)(tb:TT):Prop:=∀T i,tb.get T=some i→i.ok P T
def zza:List Nat→Nat→Option Nat
 |[],_=>none
 |v::_,0=>some v
 |_::r,n+1=>zza r n
def zAi(l:List Nat):Nat→Option Nat
 |0=>some 0
 |k+1=>zza l k
def zyp:List Nat→Nat→Nat→List Nat
 |[],_,_=>[]
 |_::r,0,x=>x::r
 |v::r,n+1,x=>v::zyp r n x
theorem zrR:∀{l:List Nat} {k:Nat},zza l k=l[k]?
 |[],_=>by simp[zza]
 |_::_,0=>by simp[zza]
 |_::r,n+1=>by simp[zza,zrR (l:=r) (k:=n)]
theorem zrS{l:List Nat}{k:Nat}:zAi l (k+1)=l[k]?:=zrR
theorem zlF:∀{l:List Nat} {k x:Nat},zyp l k x=l.set k x
 |[],_,_=>rfl
 |_::_,0,_=>rfl
 |_::r,n+1,x=>by simp[zyp,zlF (l:=r) (k:=n)]
def zdc(n:Nat)(f g:Nat→D):Nat→D:=fun i=>bif Nat.blt i n then f i else g (i - n)
def zbP(f:Nat→D)(l:Nat):Nat→D:=fun i=>f (l+i)
def D.arp(d:D)(r:List Nat):Bool:=match r with
 |[]=>false
 |k::r=>match d with
  | .pr a b=>match k with
   |0=>a.arp r
   |k+1=>b.arp (k::r)
  | .ar .. =>true
  |_=>false
def SV.arp(v:SV)(r:List Nat):Bool:=match v with
 | .d x=>x.arp r
 | .pr a b=>match r with
  |0::r=>a.arp r
  |(k+1)::r=>b.arp (k::r)
  |[]=>false
 | .ar .. =>match r with
  |[]=>false
  |_=>true
 |_=>false
def zoj(ρ:Operand→Option SV)(t:Ty):List (Nat×Operand)→Nat→Option (List D)
 |[],_=>some []
 |(k,x)::r,i=>match Nat.beq k i with
  |true=>match ρ x with
   |some v=>match v.dat with
    | .d d=>match decide (d.shape=t)with
     |true=>match zoj ρ t r (i+1)with
      |some l=>some (d::l)
      |none=>none
     |false=>none
    |_=>none
   |none=>none
  |false=>none
def zlM(ρ:Operand→Option SV):Option Operand→Option (Option Int)
 |none=>some none
 |some o=>match ρ o with
  |some (.d (.z _ i))=>some (some i)
  |_=>none
abbrev zeA:=List (Nat×Bool)
abbrev Loc:=List (Nat×zeA×Option SV)
def zbr:Loc→List Ent→Nat→Option (zeA×SV)
 |[],fr,n=>(look fr n).map fun v=>([],v)
 |(t,c,v)::r,fr,n=>match Nat.beq t n with
  |true=>v.map fun v=>(c,v)
  |false=>zbr r fr n
def ziK(p:Nat×Bool):zeA→Bool
 |[]=>false
 |q::r=>match Nat.beq p.1 q.1&&(p.2==q.2)with
  |true=>true
  |false=>ziK p r
def zer:zeA→zeA→Bool
 |[],_=>true
 |p::r,g=>ziK p g&&zer r g
def ofV:Value→Option SV
 | .int k x=>match inK k x with
  |true=>some (.d (.z k x))
  |false=>none
 | .bool b=>some (.d (.bo b))
 | .string s=>some (.d (.st s))
 | .pointer none=>some (.d .np)
 | .slice none 0 0=>some (zqE .c (za4 []))
 | .nilFunc=>some (.d .nf)
 | .nilIface=>some (.d .ni)
 | .iface t (.int k x)=>match inK k x with
  |true=>some (.d (.ic t (.z k x)))
  |false=>none
 |_=>none
def evL(L:Loc)(fr:List Ent)(g:zeA):Operand→Option SV
 | .tmp t=>match zbr L fr t with
  |some (c,v)=>match zer c g with
   |true=>some v
   |false=>none
  |none=>none
 | .const v=>ofV v
 | .func f=>some (.fn (.func f) (.d .un))
 | .global g=>some (.ob (.gl g))
def zqB:List Ob→Nat→Option Ob
 |[],_=>none
 |v::_,0=>some v
 |_::r,n+1=>zqB r n
def zmW:List Ob→Nat→Ob→List Ob
 |[],_,_=>[]
 |_::r,0,x=>x::r
 |v::r,n+1,x=>v::zmW r n x
theorem zfj:∀{l:List Ob} {n:Nat},zqB l n=l[n]?
 |[],_=>by simp[zqB]
 |_::_,0=>by simp[zqB]
 |_::r,n+1=>by simp[zqB,zfj (l:=r) (n:=n)]
theorem zez:∀{l:List Ob} {n:Nat} {x:Ob},zmW l n x=l.set n x
 |[],_,_=>rfl
 |_::_,0,_=>rfl
 |_::r,n+1,x=>by simp[zmW,zez (l:=r) (n:=n)]
def zg6:List SV→Nat→Option SV
 |[],_=>none
 |v::_,0=>some v
 |_::r,n+1=>zg6 r n
def zmV:List SV→Nat→SV→List SV
 |[],_,_=>[]
 |_::r,0,x=>x::r
 |v::r,n+1,x=>v::zmV r n x
def zAN:List (Nat×TypeId)→Nat→Option (Nat×TypeId)
 |[],_=>none
 |v::_,0=>some v
 |_::r,n+1=>zAN r n
def zc4(t:Ty)(ag:Bool)(i:TI):Bool:=Nat.beq t.size i.size&&(ag==i.ag)
def zkY(tb:TT)(T:TypeId)(k:Nat)(t:Ty):Bool:=
 match tb.get T with
 |some {k:=.struct fs,..}=>match zAN fs k with
  |some (o,ft)=>match tb.get ft,t.off [k]with
   |some i,some (o',t')=>Nat.beq o o'&&!(Nat.beq i.size 0)&&Nat.beq t'.size i.size
   |_,_=>false
  |none=>false
 |_=>false
def zCs(op:BinOp)(x y:Int):Option Bool:=match op with
 | .eql=>some (x==y)| .neq=>some (x != y)| .lss=>some (decide (x<y))| .leq=>some (decide (x≤y))| .gtr=>some (decide (x>y))| .geq=>some (decide (x≥y))|_=>none
def SV.one:SV→Bool
 | .d x=>!x.agg| .pt .. | .el _| .fn .. | .ow .. | .ob _| .fb .. =>true|_=>false
def SV.nt:SV→Bool
 | .tu _=>false|_=>true
def zjC(ρ:Operand→Option SV):List Operand→Option SV
 |[]=>some (.d .un)
 |x::r=>match ρ x,zjC ρ r with
  |some v,some c=>match v.one with
   |true=>some (.pr v c)
   |false=>none
  |_,_=>none
def zrs:SV→Nat→Option SV
 | .pr a _,0=>some a
 | .pr _ b,k+1=>zrs b k
 |_,_=>none
def zeo(ρ:Operand→Option SV):List Operand→Option (List SV)
 |[]=>some []
 |x::r=>match ρ x,zeo ρ r with
  |some v,some c=>some (v::c)
  |_,_=>none
def zun:SV→List SV
 | .pr a b=>a::zun b
 |_=>[]
def zAf(tb:TT)(T:TypeId)(k:Nat)(v:SV):Option SV:=match zkY tb T k v.shape with
 |true=>
  match v.nav [k]with
  |some u=>match tb.get T with
   |some {k:=.struct fs,..}=>match zAN fs k with
    |some (_,ft)=>match tb.get ft with
     |some i=>match zc4 u.shape u.agg i with
      |true=>some u
      |false=>none
     |none=>none
    |none=>none
   |_=>none
  |none=>none
 |false=>none
def zt5(tb:TT):List (Nat×TypeId)→Bool
 |[]=>true
 |(_,t)::r=>(tb.get t).isSome&&zt5 tb r
def zfZ(tb:TT)(T:TypeId)(ρ:Operand→Option SV):List (Nat×Operand)→SV→Option SV
 |[],v=>some v
 |(k,x)::r,v=>match zkY tb T k v.shape,ρ x,v.nav [k]with
  |true,some u,some old=>match decide (old.shape=u.shape)&&u.nt with
   |true=>match v.set [k] (u.into old)with
    |some v'=>zfZ tb T ρ r v'
    |none=>none
   |false=>none
  |_,_,_=>none
def zhZ(op:BinOp)(b:Bool):Option SV:=match op with
 | .eql=>some (.d (.bo b))| .neq=>some (.d (.bo (!b)))|_=>none
def pv(tb:TT)(cs:List SV)(ρ:Operand→Option SV):Op→Option SV
 | .move x| .assign x=>ρ x
 | .load T x=>match ρ x with
  |some (.pt id path)=>match zg6 cs id with
   |some v=>match v.nav path with
    |some v'=>match tb.get T with
     |some i=>match zc4 v'.shape v'.agg i with
      |true=>some v'
      |false=>none
     |none=>none
    |none=>none
   |none=>none
  |some (.el v')=>match tb.get T with
   |some i=>match zc4 v'.shape v'.agg i with
    |true=>some (.d v')
    |false=>none
   |none=>none
  |_=>none
 | .fieldAddr T x k=>match ρ x with
  |some (.pt id path)=>match zg6 cs id with
   |some v=>match v.nav path with
    |some v'=>match zkY tb T k v'.shape with
     |true=>some (.pt id (path++[k]))
     |false=>none
    |none=>none
   |none=>none
  |some (.el v')=>match zkY tb T k v'.shape with
   |true=>match v'.nav [k]with
    |some y=>some (.el y)
    |none=>none
   |false=>none
  |_=>none
 | .extract t i=>match ρ t with
  |some (.tu a)=>zrs a i
  |_=>none
 | .unOp .not _ x=>match ρ x with
  |some (.d (.bo b))=>some (.d (.bo (!b)))
  |_=>none
 | .makeFunc f first cp=>match first.toList with
  |[]=>match zjC ρ cp.toList with
   |some c=>some (.fn f c)
   |none=>none
  |[x]=>match f,cp.toList,ρ x with
   | .func k,[],some v=>match v.one with
    |true=>some (.fb k v)
    |false=>none
   |_,_,_=>none
  |_=>none
 | .nilCheck x=>match ρ x with
  |some (.pt id path)=>some (.pt id path)
  |some (.el y)=>some (.el y)
  |some (.fn (.func f) c)=>some (.fn (.func f) c)
  |some (.ob (.yl id))=>some (.ob (.yl id))
  |some (.fb k v)=>some (.fb k v)
  |_=>none
 | .binOp op T x y _=>match ρ x,ρ y with
  |some (.d (.z k a)),some (.d (.z k' b))=>match decide (k=k')with
   |true=>(zCs op a b).map fun c=>.d (.bo c)
   |false=>none
  |some (.pt _ _),some (.d .np)=>match tb.get T with
   |some {k:=.ptr _,..}=>zhZ op false
   |_=>none
  |some (.d .np),some (.d .np)=>match tb.get T with
   |some {k:=.ptr _,..}=>zhZ op true
   |_=>none
  |some (.d .ni),some (.d .ni)=>match y with
   | .const _=>match tb.get T with
    |some {k:=.iface,..}=>zhZ op true
    |_=>none
   |_=>none
  |some (.d (.ic _ _)),some (.d .ni)=>match tb.get T with
   |some {k:=.iface,..}=>zhZ op false
   |_=>none
  |_,_=>none
 | .field T x k=>match ρ x with
  |some v=>zAf tb T k v
  |none=>none
 | .build T parts=>match tb.get T with
  |some {k:=.struct fs,zero:=z,..}=>match zt5 tb fs with
   |true=>zfZ tb T ρ parts.toList z.sv'
   |false=>none
  |_=>none
 | .makeInterface T x=>match ρ x,tb.get T with
  |some (.d (.z k n)),some {k:=.int _,..}=>some (.d (.ic T (.z k n)))
  |_,_=>none
 |_=>none
end Sx
end Go.Proofs.YtfbhkfhbnkncoaaGreatDoor
