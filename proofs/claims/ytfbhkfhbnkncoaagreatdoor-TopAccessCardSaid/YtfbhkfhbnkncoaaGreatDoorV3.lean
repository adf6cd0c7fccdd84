import Derived.Test.YtfbhkfhbnkncoaaGreatDoorV2
import Derived.Calls
set_option linter.all false
namespace Go.Proofs.YtfbhkfhbnkncoaaGreatDoor
open Go.RowKit
namespace Sx
variable{b:Bool}{n:Int}{C:List Value}{T k off:Nat}{x:Value}
def c7:List D->Nat->D
 |[],_=>.un
 |d::_,0=>d
 |_::r,n+1=>c7 r n
inductive ZT where
 |z (k:IntKind)|I|st|X (q:ZT)|ow (q:ZT)|np|nf|ni|nm|un|H (a b:ZT)|ar (n:Nat) (z:ZT)
inductive TK where
 |other|bool|int (k:IntKind)|map (k:IntKind) (z:ZT)|slice (el:TypeId)|array (n:Nat) (el:TypeId)|struct (fs:List (Nat×TypeId))|ptr (el:TypeId)|str|iface
def ZT.d:ZT->D
 | .z k=>.z k 0| .I=>.I false| .st=>.st ⟨#[]⟩| .X q| .ow q=>.X 0 q.d.shape (c7 [])| .np=>.np| .nf=>.nf| .ni=>.ni| .nm=>.nm| .un=>.un| .H a b=>.H a.d b.d| .ar n q=>.ar n q.d.shape λ_=>q.d
def ZT.cells:ZT->List Value
 | .z k=>[.int k 0]| .I=>[.bool false]| .st=>[.string ⟨#[]⟩]| .X _| .ow _=>[.slice none 0 0]| .np=>[.pointer none]| .nf=>[.nilFunc]| .ni=>[.nilIface]| .nm=>[.map none]| .un=>[]| .H a b=>a.cells++b.cells
 | .ar n q=>(List.range n).flatMap λ_=>q.cells
def ZT.rep(O:Ro):∀q:ZT,dM O q.d q.cells
 | .z k=>⟨rfl,by cases k<;>rfl⟩
 | .I| .st| .np| .nf| .ni| .nm| .un=>rfl
 | .X _| .ow _=>⟨none,0,rfl,a9 _,λh=>b3 h (ri _)⟩
 | .H a b=>⟨_,_,rfl,a.rep O,b.rep O⟩
 | .ar n q=>⟨λ_=>q.cells,rfl,λ_ _=>⟨rfl,q.rep O⟩⟩
def sD(t:Ty)(f:Nat->D):SV:=.ow 0 0 0 t f
def ZT.own:ZT->Bool
 | .ow _=>true| .H a b=>a.own||b.own|_=>false
def ZT.D7:ZT->SV
 | .ow q=>sD q.d.shape (c7 [])
 | .H a b=>match a.own||b.own with
  |true=>.H a.D7 b.D7
  |false=>.d (.H a.d b.d)
 |q=>.d q.d
def ZT.sv:ZT->SV
 | .X q=>sD q.d.shape (c7 [])
 |q=>q.D7
def Jw(O:Ro)(J:Bl)(t:Ty)(f:Nat->D):eX O J (sD t f) [.slice none 0 0]:=
 ⟨_,(none,0,0),⟨none,0,rfl,a9 _,λh=>b3 h (ri _)⟩,rfl,a9 _,λ_=>.inl ⟨none,rfl⟩,rfl⟩
def ZT.B2(O:Ro)(J:Bl):∀q:ZT,eX O J q.D7 q.cells/\q.D7.shape=q.d.shape/\q.D7.agg=q.d.agg
 | .ow q=>⟨Jw O J _ _,rfl,rfl⟩
 | .H a b=>by
  obtain⟨f,j,_⟩:=a.B2 O J;obtain⟨u,A,_⟩:=b.B2 O J;unfold ZT.D7;split
  .exact⟨⟨_,_,rfl,f,u⟩,by simp only[SV.shape,ZT.d,D.shape,j,A],rfl⟩
  .exact⟨(ZT.H a b).rep O,rfl,rfl⟩
 | .z _| .I| .st| .X _| .np| .nf| .ni| .nm| .un| .ar _ _=>⟨ZT.rep O _,rfl,rfl⟩
def ZT.H1(O:Ro)(J:Bl):∀q:ZT,eX O J q.sv q.cells/\q.sv.shape=q.d.shape/\q.sv.agg=q.d.agg
 | .X q=>⟨Jw O J _ _,rfl,rfl⟩
 | .ow q=>ZT.B2 O J (.ow q)
 | .H a b=>ZT.B2 O J (.H a b)
 | .z _| .I| .st| .np| .nf| .ni| .nm| .un| .ar _ _=>ZT.B2 O J _
def SV.B9:SV->SV
 | .ow _ _ n t f=>.d (.X n t f)
 |v=>v
def SV.res:SV->SV
 | .ow (_+1) _ n t f=>.d (.X n t f)
 |v=>v
def SV.C4(u old:SV):SV:=match old with
 | .ow .. =>u
 |_=>u.B9
def SV.E8{O:Ro}{J:Bl}:∀{v:SV} {cs:List Value},eX O J v cs->eX O J v.B9 cs
 | .ow ..,_,⟨x,_,h,_,_,_,f⟩=>by subst f;exact h
 | .d _,_,h| .B ..,_,h| .el _,_,h| .fn ..,_,h| .H ..,_,h| .ob _,_,h| .fb ..,_,h| .ar ..,_,h=>h
def SV.E5{O:Ro}{J:Bl}{v old:SV}{f:List Value}(h:eX O J v f):eX O J (v.C4 old) f:=by
 unfold SV.C4;split
 .exact h
 .exact SV.E8 h
def SV.G2:∀(v:SV),v.B9.shape=v.shape/\v.B9.agg=v.agg
 | .ow .. | .d _| .B .. | .el _| .fn .. | .H .. | .tu _| .ob _| .fb .. | .ar .. =>⟨rfl,rfl⟩
def SV.B7(v old:SV):(v.C4 old).shape=v.shape/\(v.C4 old).agg=v.agg:=by
 unfold SV.C4;split
 .exact⟨rfl,rfl⟩
 .exact v.G2
def fJ.res{O:Ro}{J:Bl}:∀{v:SV} {x:Value},fJ O J v x->fJ O J v.res x
 | .ow (_+1) _ n t f,x,h=>by refine⟨ef,λ_=>?_⟩;obtain⟨y,e,j,_,_,_,u⟩:=h.2 rfl;cases u;exact j
 | .ow 0 ..,_,h| .d _,_,h| .B ..,_,h| .el _,_,h| .fn ..,_,h| .H ..,_,h| .tu _,_,h| .ob _,_,h| .fb ..,_,h| .ar ..,_,h=>h
def fJ.C4{O:Ro}{J:Bl}{v old:SV}(h:fJ O J v x):fJ O J (v.C4 old) x:=by
 obtain⟨u,A⟩:=h;refine⟨λf=>?_,λf=>?_⟩
 .obtain⟨j,C,E⟩:=u (by rw[<-(SV.B7 v old).2];exact f);exact⟨j,SV.E5 C,E⟩
 .exact SV.E5 (A (by rw[<-(SV.B7 v old).2];exact f))
structure TI where
 size:Nat
 ag:Bool
 k:TK
 zero:ZT
inductive TT where
 |leaf|node (t:Nat) (i:TI) (l r:TT)
def TT.get:TT->Nat->Option TI
 | .leaf,_=>none
 | .node t i l r,n=>match Nat.beq n t with
  |true=>some i
  |false=>match Nat.ble n t with
   |true=>l.get n
   |false=>r.get n
def TK.ok(P:Program)(T:TypeId):TK->Prop
 | .other=>True
 | .bool=>P.underlying T=some .bool
 | .int k=>P.underlying T=some (.int k)
 | .map k z=>∃Z e,P.underlying T=some (.map Z e)/\P.underlying Z=some (.int k)/\(P.info? e).map (·.zero)=some (some (z.cells.headD undef))/\z.d.agg=false
 | .slice e=>P.underlying T=some (.slice e)
 | .array n e=>P.underlying T=some (.array n e)
 | .struct u=>∃j,P.underlying T=some (.struct j)/\j.toList.map (λf=>(f.offset,f.type))=u
 | .ptr e=>P.underlying T=some (.pointer e)
 | .str=>P.underlying T=some .string
 | .iface=>∃A,P.underlying T=some (.interface A)
def TI.ok(P:Program)(T:TypeId)(i:TI):Prop:=
 TF P T i.size i.ag/\i.k.ok P T/\(P.info? T).map (·.zero)=some (some (if i.ag then .agg i.zero.cells.toArray else i.zero.cells.headD undef))/\i.zero.d.agg=i.ag/\(P.info? T).map (λx=>Nat.ble x.bytes 65536)=some true
def TT.ok(P:Program)(tb:TT):Prop:=∀T i,tb.get T=some i->i.ok P T
def y9:List Nat->Nat->Option Nat
 |[],_=>none
 |v::_,0=>some v
 |_::r,n+1=>y9 r n
def AB(l:List Nat):Nat->Option Nat
 |0=>some 0
 |k+1=>y9 l k
def x3:List Nat->Nat->Nat->List Nat
 |[],_,_=>[]
 |_::r,0,x=>x::r
 |v::r,n+1,x=>v::x3 r n x
def O7:∀{l:List Nat} {k:Nat},y9 l k=l[k]?
 |[],_=>by simp[y9]
 |_::_,0=>by simp[y9]
 |_::r,n+1=>by simp[y9,O7 (l:=r) (k:=n)]
def O9{l:List Nat}:AB l (k+1)=l[k]?:=O7
def Fs:∀{l:List Nat} {k x:Nat},x3 l k x=l.set k x
 |[],_,_=>rfl
 |_::_,0,_=>rfl
 |_::r,n+1,x=>by simp[x3,Fs (l:=r) (k:=n)]
def fE(n:Nat)(f g:Nat->D):Nat->D:=λi=>bif Nat.blt i n then f i else g (i - n)
def jT(f:Nat->D)(l:Nat):Nat->D:=λi=>f (l+i)
def D.G1(d:D)(r:List Nat):Bool:=match r with
 |[]=>false
 |k::r=>match d with
  | .H a b=>match k with
   |0=>a.G1 r
   |k+1=>b.G1 (k::r)
  | .ar .. =>true
  |_=>false
def SV.G1(v:SV)(r:List Nat):Bool:=match v with
 | .d x=>x.G1 r
 | .H a b=>match r with
  |0::r=>a.G1 r
  |(k+1)::r=>b.G1 (k::r)
  |[]=>false
 | .ar .. =>match r with
  |[]=>false
  |_=>true
 |_=>false
def qk(ρ:Operand->Option SV)(t:Ty):List (Nat×Operand)->Nat->Option (List D)
 |[],_=>some []
 |(k,x)::r,i=>match Nat.beq k i with
  |true=>match ρ x with
   |some v=>match v.B9 with
    | .d d=>match decide (d.shape=t)with
     |true=>match qk ρ t r (i+1)with
      |some l=>some (d::l)
      |none=>none
     |false=>none
    |_=>none
   |none=>none
  |false=>none
def ot(ρ:Operand->Option SV):Option Operand->Option (Option Int)
 |none=>some none
 |some o=>match ρ o with
  |some (.d (.z _ i))=>some (some i)
  |_=>none
abbrev jl:=List (Nat×Bool)
abbrev j9:=List (Nat×jl×Option SV)
def fP:j9->List Ent->Nat->Option (jl×SV)
 |[],V,n=>(look V n).map λv=>([],v)
 |(t,c,v)::r,V,n=>match Nat.beq t n with
  |true=>v.map λv=>(c,v)
  |false=>fP r V n
def Aq(p:Nat×Bool):jl->Bool
 |[]=>false
 |q::r=>match Nat.beq p.1 q.1&&(p.2==q.2)with
  |true=>true
  |false=>Aq p r
def tX:jl->jl->Bool
 |[],_=>true
 |p::r,g=>Aq p g&&tX r g
def JC:Value->Option SV
 | .int k x=>match ja k x with
  |true=>some (.d (.z k x))
  |false=>none
 | .bool b=>some (.d (.I b))
 | .string s=>some (.d (.st s))
 | .pointer none=>some (.d .np)
 | .slice none 0 0=>some (sD .c (c7 []))
 | .nilFunc=>some (.d .nf)
 | .nilIface=>some (.d .ni)
 | .iface t (.int k x)=>match ja k x with
  |true=>some (.d (.ic t (.z k x)))
  |false=>none
 |_=>none
def iQ(L:j9)(V:List Ent)(g:jl):Operand->Option SV
 | .tmp t=>match fP L V t with
  |some (c,v)=>match tX c g with
   |true=>some v
   |false=>none
  |none=>none
 | .const v=>JC v
 | .func f=>some (.fn (.func f) (.d .un))
 | .global g=>some (.ob (.gl g))
def ss:List Ob->Nat->Option Ob
 |[],_=>none
 |v::_,0=>some v
 |_::r,n+1=>ss r n
def m5:List Ob->Nat->Ob->List Ob
 |[],_,_=>[]
 |_::r,0,x=>x::r
 |v::r,n+1,x=>v::m5 r n x
def wc:∀{l:List Ob} {n:Nat},ss l n=l[n]?
 |[],_=>by simp[ss]
 |_::_,0=>by simp[ss]
 |_::r,n+1=>by simp[ss,wc (l:=r) (n:=n)]
def sJ:∀{l:List Ob} {n:Nat} {x:Ob},m5 l n x=l.set n x
 |[],_,_=>rfl
 |_::_,0,_=>rfl
 |_::r,n+1,x=>by simp[m5,sJ (l:=r) (n:=n)]
def kI:List SV->Nat->Option SV
 |[],_=>none
 |v::_,0=>some v
 |_::r,n+1=>kI r n
def oJ:List SV->Nat->SV->List SV
 |[],_,_=>[]
 |_::r,0,x=>x::r
 |v::r,n+1,x=>v::oJ r n x
def Bi:List (Nat×TypeId)->Nat->Option (Nat×TypeId)
 |[],_=>none
 |v::_,0=>some v
 |_::r,n+1=>Bi r n
def od(t:Ty)(a:Bool)(i:TI):Bool:=Nat.beq t.size i.size&&(a==i.ag)
def u6(tb:TT)(T:TypeId)(k:Nat)(t:Ty):Bool:=
 match tb.get T with
 |some {k:=.struct a,..}=>match Bi a k with
  |some (o,b)=>match tb.get b,t.off [k]with
   |some i,some (c,d)=>Nat.beq o c&&!(Nat.beq i.size 0)&&Nat.beq d.size i.size
   |_,_=>false
  |none=>false
 |_=>false
def HC(a:BinOp)(x y:Int):Option Bool:=match a with
 | .eql=>some (x==y)| .neq=>some (x != y)| .lss=>some (decide (x<y))| .leq=>some (decide (x<=y))| .gtr=>some (decide (x>y))| .geq=>some (decide (x>=y))|_=>none
def SV.one:SV->Bool
 | .d x=>!x.agg| .B .. | .el _| .fn .. | .ow .. | .ob _| .fb .. =>true|_=>false
def SV.nt:SV->Bool
 | .tu _=>false|_=>true
def mP(ρ:Operand->Option SV):List Operand->Option SV
 |[]=>some (.d .un)
 |x::r=>match ρ x,mP ρ r with
  |some v,some c=>match v.one with
   |true=>some (.H v c)
   |false=>none
  |_,_=>none
def Ap:SV->Nat->Option SV
 | .H a _,0=>some a
 | .H _ b,k+1=>Ap b k
 |_,_=>none
def nb(ρ:Operand->Option SV):List Operand->Option (List SV)
 |[]=>some []
 |x::r=>match ρ x,nb ρ r with
  |some v,some c=>some (v::c)
  |_,_=>none
def uS:SV->List SV
 | .H a b=>a::uS b
 |_=>[]
def Az(tb:TT)(T:TypeId)(k:Nat)(v:SV):Option SV:=match u6 tb T k v.shape with
 |true=>
  match v.B0 [k]with
  |some u=>match tb.get T with
   |some {k:=.struct a,..}=>match Bi a k with
    |some (_,b)=>match tb.get b with
     |some i=>match od u.shape u.agg i with
      |true=>some u
      |false=>none
     |none=>none
    |none=>none
   |_=>none
  |none=>none
 |false=>none
def Db(tb:TT):List (Nat×TypeId)->Bool
 |[]=>true
 |(_,t)::r=>(tb.get t).isSome&&Db tb r
def tV(tb:TT)(T:TypeId)(ρ:Operand->Option SV):List (Nat×Operand)->SV->Option SV
 |[],v=>some v
 |(k,x)::r,v=>match u6 tb T k v.shape,ρ x,v.B0 [k]with
  |true,some u,some a=>match decide (a.shape=u.shape)&&u.nt with
   |true=>match v.set [k] (u.C4 a)with
    |some b=>tV tb T ρ r b
    |none=>none
   |false=>none
  |_,_,_=>none
def qE(a:BinOp)(b:Bool):Option SV:=match a with
 | .eql=>some (.d (.I b))| .neq=>some (.d (.I (!b)))|_=>none
def pv(tb:TT)(l:List SV)(ρ:Operand->Option SV):Op->Option SV
 | .move x| .assign x=>ρ x
 | .load T x=>match ρ x with
  |some (.B id d)=>match kI l id with
   |some v=>match v.B0 d with
    |some e=>match tb.get T with
     |some i=>match od e.shape e.agg i with
      |true=>some e
      |false=>none
     |none=>none
    |none=>none
   |none=>none
  |some (.el e)=>match tb.get T with
   |some i=>match od e.shape e.agg i with
    |true=>some (.d e)
    |false=>none
   |none=>none
  |_=>none
 | .fieldAddr T x k=>match ρ x with
  |some (.B id d)=>match kI l id with
   |some v=>match v.B0 d with
    |some e=>match u6 tb T k e.shape with
     |true=>some (.B id (d++[k]))
     |false=>none
    |none=>none
   |none=>none
  |some (.el e)=>match u6 tb T k e.shape with
   |true=>match e.B0 [k]with
    |some y=>some (.el y)
    |none=>none
   |false=>none
  |_=>none
 | .extract t i=>match ρ t with
  |some (.tu a)=>Ap a i
  |_=>none
 | .unOp .not _ x=>match ρ x with
  |some (.d (.I b))=>some (.d (.I (!b)))
  |_=>none
 | .makeFunc f first j=>match first.toList with
  |[]=>match mP ρ j.toList with
   |some c=>some (.fn f c)
   |none=>none
  |[x]=>match f,j.toList,ρ x with
   | .func k,[],some v=>match v.one with
    |true=>some (.fb k v)
    |false=>none
   |_,_,_=>none
  |_=>none
 | .nilCheck x=>match ρ x with
  |some (.B id d)=>some (.B id d)
  |some (.el y)=>some (.el y)
  |some (.fn (.func f) c)=>some (.fn (.func f) c)
  |some (.ob (.yl id))=>some (.ob (.yl id))
  |some (.fb k v)=>some (.fb k v)
  |_=>none
 | .binOp h T x y _=>match ρ x,ρ y with
  |some (.d (.z k a)),some (.d (.z o b))=>match decide (k=o)with
   |true=>(HC h a b).map λc=>.d (.I c)
   |false=>none
  |some (.B _ _),some (.d .np)=>match tb.get T with
   |some {k:=.ptr _,..}=>qE h false
   |_=>none
  |some (.d .np),some (.d .np)=>match tb.get T with
   |some {k:=.ptr _,..}=>qE h true
   |_=>none
  |some (.d .ni),some (.d .ni)=>match y with
   | .const _=>match tb.get T with
    |some {k:=.iface,..}=>qE h true
    |_=>none
   |_=>none
  |some (.d (.ic _ _)),some (.d .ni)=>match tb.get T with
   |some {k:=.iface,..}=>qE h false
   |_=>none
  |some (.d (.I b)),some (.d (.I c))=>match tb.get T with
   |some {k:=.bool,..}=>qE h (b==c)
   |_=>none
  |_,_=>none
 | .field T x k=>match ρ x with
  |some v=>Az tb T k v
  |none=>none
 | .build T g=>match tb.get T with
  |some {k:=.struct m,zero:=z,..}=>match Db tb m with
   |true=>tV tb T ρ g.toList z.D7
   |false=>none
  |_=>none
 | .makeInterface T x=>match ρ x,tb.get T with
  |some (.d (.z k n)),some {k:=.int _,..}=>some (.d (.ic T (.z k n)))
  |_,_=>none
 |_=>none
variable {E:Gh}
variable {P:Program} {tb:TT} {O:Ro} {J:Bl} {m:MS} {w:World}
def qH:∀{l:List SV} {n:Nat},kI l n=l[n]?
 |[],_=>rfl
 |_::_,0=>rfl
 |_::r,n+1=>by simpa[kI]using qH (l:=r) (n:=n)
def vy:∀{l:List SV} {n:Nat} {x:SV},oJ l n x=l.set n x
 |[],_,_=>rfl
 |_::_,0,_=>rfl
 |_::r,n+1,x=>by simpa[oJ]using vy (l:=r) (n:=n)
def JB:∀{l:List (Nat×TypeId)} {n:Nat},Bi l n=l[n]?
 |[],_=>rfl
 |_::_,0=>rfl
 |_::r,n+1=>by simpa[Bi]using JB (l:=r) (n:=n)
def du.B{id:Nat}{j:List Nat}(h:du O J (.B id j) x):∃f t o t',J.b[id]?=some (f,t)/\t.off j=some (o,t')/\x=.pointer (some ⟨f,o,none⟩):=by obtain⟨f,t,o,t',u,A,C⟩:=h.2 rfl;exact⟨f,t,o,t',u,A,b8 C⟩
def du.el{y:D}(h:du O J (.el y) x):∃f off Y vs,O f=some Y/\dM O y vs/\off+vs.length<=Y.length/\(Y.drop off).take vs.length=vs/\x=.pointer (some ⟨f,off,none⟩):=by obtain⟨f,off,Y,vs,j,u,A,C,F⟩:=h.2 rfl;exact⟨f,off,Y,vs,j,u,A,C,b8 F⟩
def zaq(k:Mem E O J m w){a:Nat}{Y vs:List Value}{y:D}(g:O a=some Y)(c:dM O y vs)(i:off+vs.length<=Y.length)(j:(Y.drop off).take vs.length=vs){T:TypeId}(l:TF P T y.shape.size y.agg):
 ∃x,(loadVar T ⟨a,off,none⟩).run P w=.ok x w/\fJ O J (.d y) x:=by
 obtain⟨C,e,q,n,d⟩:=k.known _ _ g;have p:=c.length;have f:(C.toList.drop off).take y.shape.size=vs:=by rw[<-p,JU d i,j]
 have b:=d.length_le;have:=Fo (P:=P) l n (o:=off) (by simp at b;omega) (λh=>by have:=SV.C1 (v:=.d y) h;show(SV.d y).shape.size=1;rw[this];rfl);rw[f]at this;exact⟨_,this,fJ.Z (v:=.d y) c⟩
def du.I(h:du O J (.d (.I b)) x):x=.bool b:=by have f:=h.2 rfl;simp[eX,dM]at f;exact f
def du.z{k:IntKind}(h:du O J (.d (.z k n)) x):x=.int k n/\ja k n=true:=by have f:=h.2 rfl;simp[eX,dM]at f;exact f
def lY(b:Bool):du O J (.d (.I b)) (.bool b):=⟨ef,λ_=>rfl⟩
def oc{k:IntKind}(h:ja k n=true):du O J (.d (.z k n)) (.int k n):=⟨ef,λ_=>⟨rfl,h⟩⟩
def du.fn{f:Fn}{c:SV}(h:du O J (.fn f c) x):∃vs,eX O J c vs/\x=.func f #[] vs.toArray:=by obtain⟨vs,j,u⟩:=h.2 rfl;exact⟨vs,j,b8 u⟩
def du.hd{k:Hd}(h:du O J (.ob k) x):ka J k x:=by obtain⟨y,f,j⟩:=h.2 rfl;cases f;exact j
def ka.v{k:Hd}(h:ka J k x):du O J (.ob k) x:=⟨ef,λ_=>⟨x,rfl,h⟩⟩
def du.yl{id:Nat}(h:du O J (.ob (.yl id)) x):∃l,J.o[id]?=some (.loop l)/\x=.func (.yield l) #[] #[]:=h.hd
def n4.comp:∀{v:SV} {vs:List Value} {i:Nat} {u:SV},n4 O J v vs->Ap v i=some u->∃x,vs[i]?=some x/\du O J u x
 | .H a b,_,0,u,⟨x,r,h,j,A⟩,f=>by simp only[Ap,fW]at f;subst f;subst h;exact⟨x,rfl,j.v⟩
 | .H a b,_,i+1,u,⟨x,r,h,j,A⟩,f=>by obtain⟨y,F,C⟩:=n4.comp (v:=b) (i:=i) A f;subst h;exact⟨y,b8 F,C⟩
 | .d _,_,_,_,_,f| .B _ _,_,_,_,_,f| .el _,_,_,_,_,f| .fn _ _,_,_,_,_,f| .ow _ _ _ _ _,_,_,_,_,f| .tu _,_,_,_,_,f| .ob _,_,_,_,_,f| .fb ..,_,_,_,_,f| .ar ..,_,_,_,_,f=>by simp[Ap]at f
def zn:∀{t:Ty} {r s:List Nat} {o:Nat} {t':Ty} {d:Nat} {t2:Ty},t.off r=some (o,t')->t'.off s=some (d,t2)->t.off (r++s)=some (o+d,t2)
 |t,[],s,o,t',d,t2,h,c=>by obtain⟨rfl,rfl⟩:=EE h;simpa using c
 | .p a b,0::r,s,o,t',d,t2,h,c=>zn (t:=a) (r:=r) h c
 | .p a b,(k+1)::r,s,o,t',d,t2,h,c=>by simp only[Ty.off,fB]at h;obtain⟨x,e,h⟩:=h;cases h;have:=zn (t:=b) (r:=k::r) e c;simp only[r7]at this;simp only[r7,Ty.off,this,qs,sa]
 | .ar n t,k::r,s,o,t',d,t2,h,c=>by
  simp only[Ty.off]at h;split at h
  .rename_i f;simp only[fB]at h;obtain⟨x,e,h⟩:=h;cases h;have:=zn (t:=t) (r:=r) e c;simp only[r7,Ty.off,if_pos f,this,qs,sa]
  .cases h
 | .c,_::_,_,_,_,_,_,h,_| .u,_::_,_,_,_,_,_,h,_=>by simp[Ty.off]at h
def SV.C9:∀{v:SV},v.one=true->v.agg=false
 | .d x,h=>by simpa[SV.one,SV.agg]using h
 | .B _ _,_| .el _,_| .fn _ _,_| .ow _ _ _ _ _,_| .ob _,_| .fb _ _,_=>rfl
 | .H _ _,h| .tu _,h| .ar ..,h=>by simp[SV.one]at h
def SV.G9:∀{v:SV},v.one=true->∀a,v≠.tu a
 | .tu _,h,_=>by simp[SV.one]at h
 | .d _,_,_| .B _ _,_,_| .el _,_,_| .fn _ _,_,_| .ow _ _ _ _ _,_,_| .H _ _,_,_| .ob _,_,_| .fb ..,_,_| .ar ..,_,_=>eA
def SV.D6:∀{v:SV},v.nt=true->∀a,v≠.tu a
 | .tu _,h,_=>by simp[SV.nt]at h
 | .d _,_,_| .B _ _,_,_| .el _,_,_| .fn _ _,_,_| .ow _ _ _ _ _,_,_| .H _ _,_,_| .ob _,_,_| .fb ..,_,_| .ar ..,_,_=>eA
def NK{ρ:Operand->Option SV}{b:Operand->Value}(a:∀x v,ρ x=some v->du O J v (b x)):∀{l:List Operand} {c:SV},mP ρ l=some c->eX O J c (l.map b)
 |[],c,h=>by simp only[mP,fW]at h;subst h;rfl
 |x::r,c,h=>by
  simp only[mP]at h;split at h
  .rename_i v Z f e;split at h
   .rename_i d;simp only[fW]at h;subst h;exact⟨[b x],_,rfl,((a x v f).a (SV.G9 d)).2 (SV.C9 d),NK a e⟩
   .cases h
  .cases h
def DT{t:Ty}(p:tb.ok P)(h:u6 tb T k t=true):∃b f o' t',P.underlying T=some (.struct b)/\b[k]?=some f/\t.off [k]=some (o',t')/\f.offset=o'/\(∃n r,TF P f.type n r/\n≠0/\t'.size=n):=by
 unfold u6 at h;split at h
 .rename_i A z a n s;split at h
  .rename_i o C q;split at h
   .rename_i i o' t' u x;simp only[dH,jL]at h;obtain⟨⟨c,l⟩,d⟩:=h;have c:=fp c;have d:=fp d;obtain⟨b,y,v⟩:=(p T _ s).2.1;rw[JB,<-v,pr]at q;obtain⟨f,g,j⟩:=fB.1 q;cases j;refine⟨b,f,o',t',y,b8 g,x,c,i.size,i.ag,(p _ _ u).1,?_,d⟩;intro e;rw[e]at l;cases l
   .cases h
  .cases h
 .cases h
def KE{T:TypeId}{n:Nat}(c:TF P T n b){o:Nat}(f:o+n<=C.length)(d:b=false->n=1):
 (part T C.toArray o).run P w=.ok (if b then .agg ((C.drop o).take n).toArray else((C.drop o).take n).headD undef) w:=by
 cases b with
 |true=>
  simp only[part,jt,c.isAgg,lQ,xw,c.sizeOf,m9]
  congr 2
  apply nW;simp[Uq,Mj]
 |false=>
  have:=d rfl;subst this;have a:o<C.length:=a3
  simp only[part,jt,c.isAgg,lQ,if_false,Bool.false_eq_true];have e:(C.drop o).take 1=[C[o]]:=by rw[yk a];rfl
  simp[e,a]
def Yu(t:tb.ok P){v u:SV}(h:Az tb T k v=some u)(L:eX O J v C):
 ∃a f x,P.underlying T=some (.struct a)/\a[k]?=some f/\(part f.type C.toArray f.offset).run P w=.ok x w/\fJ O J u x:=by
 unfold Az at h;split at h
 .rename_i R;split at h
  .rename_i Y Z;split at h
   .rename_i s ag fs z N;split at h
    .rename_i o ft K;split at h
     .rename_i i S;split at h
      .rename_i G;cases h;simp only[od,dH,gG]at G;obtain⟨a,f,o',t2,q,g,b,j,n,M,Q,aa,ab⟩:=DT t R;obtain⟨c,p,U⟩:=(t T _ N).2.1;rw[q]at p;cases p;rw[JB,<-U,pr]at K;obtain⟨r,e,y⟩:=fB.1 K;have A:r=f:=by
        have:a.toList[k]?=some f:=b8 g
        rw[this]at e;cases e;rfl
       subst A;cases y;obtain⟨l,F⟩:=SV.O L b Z;have W:=Ty.T b;have V:=L.length;have d:TF P r.type u.shape.size u.agg:=by rw[fp G.1,G.2];exact(t _ _ S).1
       refine⟨a,r,_,q,g,KE d (by rw[l,j];omega) λh=>by rw[SV.C1 h];rfl,?_⟩;rw[j,l];exact fJ.Z F
      .cases h
     .cases h
    .cases h
   .cases h
  .cases h
 .cases h
def SN(off:Nat):∀(l:List Value) (j:Nat) (cs:Array Value),off+j+l.length<=cs.size->
 ((l.zipIdx j).foldl (λcs (x:Value×Nat)=>cs.setIfInBounds (off+x.2) x.1) cs).toList=cs.toList.take (off+j)++l++cs.toList.drop (off+j+l.length)
 |[],j,cs,_=>by simp
 |x::l,j,cs,h=>by simp only[List.zipIdx_cons,uN];rw[SN off l (j+1) _ (by simp at h ⊢;omega)];simp only[Array.toList_setIfInBounds,jV];have:=list_seg_step cs.toList (off+j) x l (by simp at h ⊢;omega);simpa[sa]using this
def Ib{place:Nat->Option (Nat×Nat)}{cs:List Value}{F:Nat}{v:Value}{C:List (Nat×Value)}(hp:place k=some (off,F))(hv:v.cells.size=F)(h:off+F<=cs.length):
 Instr.fill place cs.toArray ((k,v)::C)=Instr.fill place (cs.take off++v.cells.toList++cs.drop (off+F)).toArray C:=by
 have e:=SN off v.cells.toList 0 cs.toArray (by simp[hv];omega);have e2:v.cells.zipIdx.foldl (λcs (x:Value×Nat)=>cs.setIfInBounds (off+x.2) x.1) cs.toArray=(cs.take off++v.cells.toList++cs.drop (off+F)).toArray:=by apply nW;rw[<-Array.foldl_toList,Array.toList_zipIdx];simpa[hv]using e
 rw[<-e2];show(match place k with
  |none=>none
  |some (off,F)=>if v.cells.size≠F||off+v.cells.size>cs.toArray.size then none else Instr.fill place (v.cells.zipIdx.foldl (λcs (x:Value×Nat)=>cs.setIfInBounds (off+x.2) x.1) cs.toArray) C)=_
 rw[hp];simp only[hv,ne_eq,Qw,decide_false,tE,Mo];rw[if_neg (by simp;omega)]
def zaA{b:List Field}:Db tb (b.map λf=>(f.offset,f.type))=true->tb.ok P->∃a,b.mapM (λf=>(P.info? f.type).map λi=>(f.offset,i.size))=some a/\
 ∀(k:Nat) f,b[k]?=some f->∃n,(P.info? f.type).map (·.size)=some n/\a[k]?=some (f.offset,n):=by
 induction b with
 |nil=>intro _ _;exact⟨[],rfl,λk f h=>by cases h⟩
 |cons f b r=>
  intro h d;simp only[oT,Db,dH]at h;obtain⟨a,p,o⟩:=r h.2 d;obtain⟨i,l⟩:=GF.1 h.1;obtain⟨c,_⟩:=(d _ _ l).1;obtain⟨x,j,q⟩:=fB.1 c;refine⟨(f.offset,x.size)::a,by simp[List.mapM_cons,j,p],λk g e=>?_⟩;cases k with
  |zero=>cases e;exact⟨x.size,by rw[j];rfl,rfl⟩
  |succ k=>simpa using o k g (b8 e)
def Nv(W:tb.ok P){T:Nat}{a:Array Field}(r:P.underlying T=some (.struct a)){b:List (Nat×Nat)}
 (j:∀(k:Nat) f,a.toList[k]?=some f->∃n,(P.info? f.type).map (·.size)=some n/\b[k]?=some (f.offset,n)){ρ:Operand->Option SV}{A:Operand->Value}(t:∀x v,ρ x=some v->du O J v (A x)):
 ∀{l:List (Nat×Operand)} {v u:SV} {C:List Value},tV tb T ρ l v=some u->eX O J v C->∃out,Instr.fill (b.toArray[·]?) C.toArray (l.map λx=>(x.1,A x.2))=some out/\eX O J u out.toList/\u.shape=v.shape
 |[],v,u,C,h,o=>by simp only[tV,fW]at h;subst h;exact⟨C.toArray,rfl,b8 o,rfl⟩
 |(k,x)::l,v,u,C,h,o=>by
  unfold tV at h;split at h
  .rename_i u_ y hf hx i;split at h
   .rename_i z;simp only[dH,fY]at z;split at h
    .rename_i v' S;obtain⟨e,f,o',t2,d,G,c,g,n,Z,F,ab,q⟩:=DT W hf;rw[r]at d;cases d;obtain⟨p,_⟩:=SV.O o c i;have U:=(t _ _ hx).a (SV.D6 z.2);have s:=U.cells;obtain⟨R,N⟩:=SV.A4 o c (SV.E5 (old:=y) s) (by rw[(SV.B7 u_ y).1,<-z.1,p]) S;obtain⟨m,Y,L⟩:=j k f (b8 G);have K:m=n:=by rw[F.1]at Y;cases Y;rfl
     subst K;have aa:=Ty.T c;have hl:=o.length;have V:(A x).cells.size=m:=by have:=s.length;rw[<-z.1,p,q]at this;simpa using this
     obtain⟨out,ho,M,Q⟩:=Nv W r j t (l:=l) h N;refine⟨out,?_,M,Q.trans R⟩;simp only[oT];rw[Ib (off:=f.offset) (F:=m) (b8 L) V (by rw[g];omega),g,<-q];exact ho
    .cases h
   .cases h
  .cases h
set_option maxHeartbeats 1000000 in
def zbO(R:tb.ok P){o:Oper}{a:Act}(hM:Mem E O J m w){ρ:Operand->Option SV}(g:∀x v,ρ x=some v->du O J v (a.eval x)){v:SV}(h:pv tb m.c ρ o.op=some v):
 ∃x,(execOp a.eval o).run P w=.ok (.value x) w/\du O J v x:=by
 obtain⟨aJ,V,aI,aK,av,aw⟩:=o;cases V with
 |move x=>exact⟨_,rfl,g x v h⟩
 |assign x=>exact⟨_,rfl,g x v h⟩
 |load T x=>
  simp only[pv]at h;split at h
  .rename_i id ac r;obtain⟨A,t,o,t',hb,ho,j⟩:=(g _ _ r).B;split at h
   .rename_i u N;rw[qH]at N;split at h
    .rename_i v' hn;split at h
     .rename_i i hi;split at h
      .rename_i hs;simp only[fW]at h;subst h;simp only[od,dH,gG]at hs;obtain⟨y,Q,hr⟩:=P6 (P:=P) hM hb N ho hn (T:=T) (by rw[fp hs.1,hs.2];exact(R _ _ hi).1);exact⟨y,by simp[execOp,Instr.loadAt,Instr.sureAddr,j,Q],hr.v⟩
      .cases h
     .cases h
    .cases h
   .cases h
  .rename_i y r;obtain⟨A,off,Y,vs,W,h2,h3,h4,j⟩:=(g _ _ r).el;split at h
   .rename_i i hi;split at h
    .rename_i hs;simp only[fW]at h;subst h;simp only[od,dH,gG]at hs;obtain⟨z,hz,hr⟩:=zaq (P:=P) hM W h2 h3 h4 (T:=T) (by rw[fp hs.1,hs.2];exact(R _ _ hi).1);exact⟨z,by simp[execOp,Instr.loadAt,Instr.sureAddr,j,hz],hr.v⟩
    .cases h
   .cases h
  .cases h
 |fieldAddr T x k=>
  simp only[pv]at h;split at h
  .rename_i id ac r;obtain⟨A,t,o,t',hb,ho,j⟩:=(g _ _ r).B;split at h
   .rename_i u N;rw[qH]at N;split at h
    .rename_i v' hn;split at h
     .rename_i Z;simp only[fW]at h;subst h;obtain⟨C,e,hg,hr,aF,_⟩:=hM.box id A t u hb N;subst aF;obtain⟨ad,_⟩:=SV.O hr ho hn;obtain⟨F,f,o',t2,G,aa,M,ai,n,ag,af,aj,aG⟩:=DT R Z;rw[ad]at M;have:=zn ho M;refine⟨.pointer (some ⟨A,o+o',none⟩),?_,?_⟩
      .simp[execOp,Instr.fieldAt,Instr.sureAddr,j,run_underlying G,aa,fieldPlace,af.sizeOf,aj,na,ai]
      .exact⟨ef,λ_=>⟨A,_,_,_,hb,this,rfl⟩⟩
     .cases h
    .cases h
   .cases h
  .rename_i y r;obtain⟨A,off,Y,vs,W,h2,h3,h4,j⟩:=(g _ _ r).el;split at h
   .rename_i Z;split at h
    .rename_i y' hn;simp only[fW]at h;subst h;obtain⟨F,f,o',t2,G,aa,M,ai,n,ag,af,aj,aG⟩:=DT R Z;obtain⟨ad,ap⟩:=D.O h2 M hn;have aA:=Ty.T M;have hl:=h2.length;have ao:=ap.length;refine⟨.pointer (some ⟨A,off+o',none⟩),?_,?_⟩
     .simp[execOp,Instr.fieldAt,Instr.sureAddr,j,run_underlying G,aa,fieldPlace,af.sizeOf,aj,na,ai]
     .refine⟨ef,λ_=>⟨A,off+o',Y,_,W,ap,?_,?_,rfl⟩⟩
      .rw[ao,ad];omega
      .rw[ao,ad,<-h4,qn (by rw[hl];exact aA)]
    .cases h
   .cases h
  .cases h
 |extract t i=>
  simp only[pv]at h;split at h
  .rename_i c r;obtain⟨vs,hl,j⟩:=g _ _ r;obtain⟨y,Q,hr⟩:=hl.comp h;exact⟨y,by simp[execOp,Instr.extract,j,Q],hr⟩
  .cases h
 |unOp V T x=>
  cases V with
  |not=>
   simp only[pv]at h;split at h
   .rename_i b r;simp only[fW]at h;subst h;exact⟨.bool (!b),by simp[execOp,Op.unary,(g _ _ r).I],lY _⟩
   .cases h
  |_=>simp[pv]at h
 |makeFunc f first cp=>
  simp only[pv]at h;split at h
  .rename_i Z;have Z:first= #[]:=nW (b8 Z)
   subst Z;split at h
   .rename_i c hc;simp only[fW]at h;subst h;have:=NK g hc;exact⟨.func f #[] (cp.map a.eval),by simp[execOp,Instr.makeFunc],⟨ef,λ_=>⟨_,this,dE (λz=>[Value.func f #[] z]) (nW eA)⟩⟩⟩
   .cases h
  .rename_i x Z;have Z:first= #[x]:=nW (b8 Z)
   subst Z;split at h
   .rename_i k v ah r;have ah:cp= #[]:=nW (b8 ah);subst ah;split at h
    .rename_i W;cases h;have hr:=((g _ _ r).a (SV.G9 W)).2 (SV.C9 W);exact⟨.func (.func k) #[a.eval x] #[],by simp[execOp,Instr.makeFunc],⟨ef,λ_=>⟨_,⟨hr,SV.C9 W⟩,rfl⟩⟩⟩
    .cases h
   .cases h
  .cases h
 |nilCheck x=>
  simp only[pv]at h;split at h
  .rename_i id ac r;simp only[fW]at h;subst h;obtain⟨A,t,o,t',hb,ho,j⟩:=(g _ _ r).B;exact⟨a.eval x,by simp[execOp,j],g _ _ r⟩
  .rename_i y r;simp only[fW]at h;subst h;obtain⟨A,off,Y,vs,W,h2,h3,h4,j⟩:=(g _ _ r).el;exact⟨a.eval x,by simp[execOp,j],g _ _ r⟩
  .rename_i f c r;simp only[fW]at h;subst h;obtain⟨vs,_,j⟩:=(g _ _ r).fn;exact⟨a.eval x,by simp[execOp,j],g _ _ r⟩
  .rename_i id r;simp only[fW]at h;subst h;obtain⟨l,_,j⟩:=(g _ _ r).yl;exact⟨a.eval x,by simp[execOp,j],g _ _ r⟩
  .rename_i k v r;simp only[fW]at h;subst h;obtain⟨y,_,j⟩:=(g _ _ r).2 rfl;have j:a.eval x=.func (.func k) #[y] #[]:=b8 j
   exact⟨a.eval x,by simp[execOp,j],g _ _ r⟩
  .cases h
 |field T x k=>
  simp only[pv]at h;split at h
  .rename_i u r;have ax:∃C,eX O J u C/\a.eval x=.agg C.toArray:=by
    have aB:∀b,u≠.tu b:=λb e=>by
     subst e;unfold Az u6 at h;simp[SV.shape,Ty.off]at h
     repeat' split at h
     all_goals simp_all
    have hA:=(g _ _ r).a aB;cases hq:u.agg with
    |true=>exact hA.1 hq
    |false=>
     exfalso;have ak:=SV.C1 hq;unfold Az u6 at h;rw[ak]at h;simp[Ty.off]at h
     repeat' split at h
     all_goals simp_all
   obtain⟨C,hr,j⟩:=ax;obtain⟨F,f,y,G,aa,aq,Q⟩:=Yu (w:=w) R h hr;exact⟨y,by simp[execOp,Instr.field,j,run_underlying G,aa,asAgg,aq],Q.v⟩
  .cases h
 |build T al=>
  simp only[pv]at h;split at h
  .rename_i s ag fs z S;split at h
   .rename_i ae;obtain⟨F,G,hl⟩:=(R T _ S).2.1;rw[<-hl]at ae;obtain⟨au,aD,aC⟩:=zaA ae R;have ar:=(R T _ S).2.2;have am:ag=true:=by obtain⟨_,d,hd,ay⟩:=(R T _ S).1;rw[G]at hd;cases hd;exact ay.symm
    subst am;obtain⟨ab,ho,aE,ak⟩:=Nv R G aC g (v:=z.D7) (C:=z.cells) h (z.B2 O J).1;obtain⟨it,az,aH⟩:=fB.1 ar.1;have hb:P.built T (al.map λx=>(x.1,a.eval x.2)).toList=some ab:=by unfold Program.built;rw[az,G];simp only[aH,xw,aD,Value.cells];rw[Gf];exact ho
    refine⟨.agg ab,by simp[execOp,run_build w T _ ab hb],?_⟩;have an:v.agg=true:=by
     cases hq:v.agg with
     |true=>rfl
     |false=>
      have W:=SV.C1 hq;rw[ak]at W;rw[(z.B2 O J).2.1]at W;have h2:(SV.d z.d).agg=true:=ar.2.1;cases hd:z.d<;>rw[hd]at W h2<;>simp[SV.shape,D.shape,SV.agg,D.agg]at W h2
    have:fJ O J v (.agg ab):=⟨λ_=>⟨ab.toList,aE,eA⟩,λe=>by rw[an]at e;cases e⟩;exact this.v
   .cases h
  .cases h
 |makeInterface T x=>
  simp only[pv]at h;split at h
  .rename_i k n s ag k' z r S;cases h;obtain⟨j,hk⟩:=(g _ _ r).z;have N:P.underlying T=some (.int k'):=(R T _ S).2.1;exact⟨.iface T (.int k n),by simp[execOp,Instr.makeInterface,run_underlying N,j],⟨ef,λ_=>⟨_,⟨rfl,hk⟩,rfl⟩⟩⟩
  .cases h
 |binOp V T x y yT=>
  simp only[pv]at h;split at h
  .rename_i k n k' m r Q;split at h
   .rename_i hk;have hk:k=k':=b8 hk
    subst hk;obtain⟨c,hc,rfl⟩:=fB.1 h;refine⟨.bool c,?_,lY c⟩;have K:=(g _ _ r).z.1;have L:=(g _ _ Q).z.1;cases V<;>simp only[HC,fW,reduceCtorEq]at hc<;>subst hc<;>simp[execOp,eqGuard,binOp,Op.intCmp,K,L]
   .cases h
  .rename_i id ac r Q;split at h
   .rename_i s ag e z S;have N:P.underlying T=some (.pointer e):=(R T _ S).2.1;obtain⟨A,t,o,t',hb,ho,K⟩:=(g _ _ r).B;have L:a.eval y=.pointer none:=by have:=(g _ _ Q).2 rfl;simpa[eX,dM]using this
    have U:(Op.equal T (.pointer (some ⟨A,o,none⟩)) (.pointer none)).run P w=.ok false w:=by unfold Op.equal Op.maxDepth Op.equalIn;simp[run_underlying N]
    cases V<;>simp only[qE,fW,reduceCtorEq]at h<;>subst h
    .exact⟨.bool false,by simp[execOp,eqGuard,binOp,K,L,U],lY _⟩
    .exact⟨.bool true,by simp[execOp,eqGuard,binOp,K,L,U],lY _⟩
   .cases h
  .rename_i r Q;split at h
   .rename_i s ag e z S;have N:P.underlying T=some (.pointer e):=(R T _ S).2.1;have K:a.eval x=.pointer none:=by have:=(g _ _ r).2 rfl;simpa[eX,dM]using this
    have L:a.eval y=.pointer none:=by have:=(g _ _ Q).2 rfl;simpa[eX,dM]using this
    have U:(Op.equal T (.pointer none) (.pointer none)).run P w=.ok true w:=by unfold Op.equal Op.maxDepth Op.equalIn;simp[run_underlying N]
    cases V<;>simp only[qE,fW,reduceCtorEq]at h<;>subst h
    .exact⟨.bool true,by simp[execOp,eqGuard,binOp,K,L,U],lY _⟩
    .exact⟨.bool false,by simp[execOp,eqGuard,binOp,K,L,U],lY _⟩
   .cases h
  .rename_i r Q;split at h
   .rename_i c;split at h
    .rename_i s ag z S;obtain⟨ms,N⟩:=(R T _ S).2.1;have K:a.eval x=.nilIface:=by have:=(g _ _ r).2 rfl;simpa[eX,dM]using this
     have L:c=.nilIface:=by have:=(g _ _ Q).2 rfl;simpa[eX,dM,Act.eval]using this
     subst L;have L:a.eval (.const .nilIface)=.nilIface:=rfl;have hg:∀V,(eqGuard V T x (.const .nilIface) .nilIface .nilIface).run P w=.ok () w:=λV=>by unfold eqGuard;cases V<;>simp
     have U:(Op.equal T .nilIface .nilIface).run P w=.ok true w:=by unfold Op.equal Op.maxDepth Op.equalIn;simp[run_underlying N]
     cases V<;>simp only[qE,fW,reduceCtorEq]at h<;>subst h
     .exact⟨.bool true,by simp[execOp,binOp,K,L,hg,U],lY _⟩
     .exact⟨.bool false,by simp[execOp,binOp,K,L,hg,U],lY _⟩
    .cases h
   .cases h
  .rename_i tt d r Q;split at h
   .rename_i s ag z S;obtain⟨ms,N⟩:=(R T _ S).2.1;obtain⟨v1,_,K⟩:=(g _ _ r).2 rfl;have K:a.eval x=.iface tt v1:=b8 K
    have L:a.eval y=.nilIface:=by have:=(g _ _ Q).2 rfl;simpa[eX,dM]using this
    have U:(Op.equal T (.iface tt v1) .nilIface).run P w=.ok false w:=by unfold Op.equal Op.maxDepth Op.equalIn;simp[run_underlying N]
    cases V<;>simp only[qE,fW,reduceCtorEq]at h<;>subst h
    .exact⟨.bool false,by simp[execOp,eqGuard,binOp,K,L,U],lY _⟩
    .exact⟨.bool true,by simp[execOp,eqGuard,binOp,K,L,U],lY _⟩
   .cases h
  .rename_i p q r Q;split at h
   .rename_i s ag z S;have N:P.underlying T=some .bool:=(R T _ S).2.1;have K:a.eval x=.bool p:=by have:=(g _ _ r).2 rfl;simpa[eX,dM]using this
    have L:a.eval y=.bool q:=by have:=(g _ _ Q).2 rfl;simpa[eX,dM]using this
    have U:(Op.equal T (.bool p) (.bool q)).run P w=.ok (p==q) w:=by unfold Op.equal Op.maxDepth Op.equalIn;simp[run_underlying N]
    cases V<;>simp only[qE,fW,reduceCtorEq]at h<;>subst h
    .exact⟨.bool (p==q),by simp[execOp,eqGuard,binOp,K,L,U],lY _⟩
    .exact⟨.bool (!(p==q)),by simp[execOp,eqGuard,binOp,K,L,U],lY _⟩
   .cases h
  .cases h
 |_=>simp[pv]at h
end Sx
end Go.Proofs.YtfbhkfhbnkncoaaGreatDoor
