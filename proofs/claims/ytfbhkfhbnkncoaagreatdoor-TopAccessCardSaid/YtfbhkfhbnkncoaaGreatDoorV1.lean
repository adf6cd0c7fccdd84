import Derived.Laws.Rows
import Derived.Laws.Slices
import Derived.Below
import Derived.Laws.CopyRow
set_option linter.all false
namespace Go.Proofs.YtfbhkfhbnkncoaaGreatDoor
def a9:=@Nat.le_refl
def b3:=@absurd
def dD:=@List.length_map
def dE:=@congrArg
def dF:=@Nat.le_of_ble_eq_true
def dG:=@Nat.zero_le
def dH:=@Bool.and_eq_true
def dZ:=@cond_true
def ed:=@List.getElem?_eq_getElem
def eu:=@List.getD_eq_getElem?_getD
def ew:=@List.length_append
def eI:=@decide_eq_true
def eP:=@List.mem_append
def eQ:=@cond_false
def eY:=@Nat.le_trans
def fc:=@beq_eq_false_iff_ne
def fe:=@decide_eq_false
def fp:=@Nat.eq_of_beq_eq_true
def fA:=@List.mem_cons_of_mem
def fB:=@Option.map_eq_some_iff
def fQ:=@List.mem_cons_self
def fW:=@Option.some.injEq
def fY:=@decide_eq_true_eq
def gk:=@List.append_nil
def gv:=@List.take_length
def gF:=@Nat.mul_le_mul_right
def gG:=@beq_iff_eq
def gM:=@of_decide_eq_true
def gX:=@Bool.or_eq_false_iff
def gZ:=@List.mem_range
def iA:=@List.getElem?_eq_some_iff
def iB:=@List.mem_cons
def iF:=@And.intro
def iJ:=@List.append_assoc
def iO:=@Nat.succ_mul
def iZ:=@Bool.and_eq_true_iff
def i6:=@Int.le_refl
def je:=@List.map_append
def jm:=@Nat.not_lt_zero
def js:=@List.take_add_one
def jt:=@Sem.run_bind
def jB:=@Nat.lt_or_ge
def jL:=@Bool.not_eq_true'
def jM:=@List.mem_filter
def jV:=@List.length_cons
def kq:=@decide_eq_false_iff_not
def kO:=@List.length_take
def ld:=@Nat.zero_add
def lD:=@Bool.not_eq_false'
def lE:=@List.nil_append
def lK:=@of_decide_eq_false
def lO:=@Bool.and_false
def lQ:=@Result.andThen_ok
def l6:=@List.mem_map
def mA:=@List.flatMap_append
def mB:=@List.nodup_append
def mC:=@List.range_succ
def mL:=@Nat.lt_succ_self
def m9:=@Sem.run_pure
def nE:=@Int.toNat_natCast
def nF:=@List.take_append_drop
def nG:=@Nat.add_mul
def nH:=@beq_false_of_ne
def nW:=@Array.ext'
def nX:=@Array.getElem?_eq_some_iff
def nZ:=@List.mem_singleton
def oh:=@List.getElem?_append_right
def oi:=@List.getElem_mem
def om:=@List.mem_flatMap
def oo:=@Nat.le_add_right
def oO:=@Array.getD_eq_getD_getElem?
def oP:=@List.cons.injEq
def oQ:=@List.drop_eq_nil_of_le
def oR:=@List.filter_cons
def oS:=@List.length_drop
def oT:=@List.map_cons
def oU:=@List.mem_of_getElem?
def oX:=@bne_iff_ne
def po:=@Bool.true_and
def pq:=@List.foldl_append
def pr:=@List.getElem?_map
def pt:=@Nat.eq_zero_or_pos
def px:=@and_true
def pN:=@Array.getElem?_toList
def pO:=@Array.length_toList
def pP:=@Bool.or_eq_true
def pQ:=@List.all_eq_true
def pR:=@List.drop_append
def pS:=@List.drop_drop
def pU:=@List.drop_length
def pV:=@List.getElem?_append_left
def pW:=@List.nodup_cons
def pX:=@List.take_of_length_le
def qo:=@List.any_eq_true
def qp:=@List.take_append_of_le_length
def qq:=@Nat.ble_eq_true_of_le
def qs:=@Option.map_some
def rh:=@List.flatMap_cons
def ri:=@Nat.lt_irrefl
def r7:=@List.cons_append
def r8:=@List.drop_append_of_le_length
def r9:=@List.filter_append
def sa:=@Nat.add_assoc
def sd:=@Option.bind_some
def sQ:=@Bool.eq_iff_iff
def sS:=@Int.eq_ofNat_of_zero_le
def sT:=@List.getElem?_drop
def sU:=@List.length_filter_le
def sV:=@List.mem_of_mem_take
def sW:=@List.perm_append_comm
def sX:=@Nat.le_of_eq
def sY:=@Nat.min_eq_left
def sZ:=@Ne.symm
def tD:=@Bool.and_true
def tE:=@Bool.false_or
def tI:=@List.getElem?_take_of_lt
def tJ:=@List.length_range
def tK:=@List.map_congr_left
def tM:=@Nat.sub_self
def tO:=@Option.getD_some
def uH:=@Array.getElem?_setIfInBounds
def uM:=@List.flatMap_def
def uN:=@List.foldl_cons
def uO:=@Nat.beq_refl
def uP:=@Nat.le_of_lt
def vF:=@Bool.eq_false_iff
def vI:=@Int.tmod_eq_emod_of_nonneg
def vL:=@List.any_eq_false
def vM:=@List.drop_zero
def vN:=@List.eq_nil_of_length_eq_zero
def wP:=@Bool.or_false
def wS:=@List.flatMap_nil
def wT:=@List.getElem?_eq_none
def wU:=@List.length_set
def wV:=@List.nodup_nil
def wW:=@List.pairwise_append
def wX:=@List.prefix_refl
def wZ:=@Nat.add_zero
def w4:=@Option.bind_eq_some_iff
def xw:=@if_true
def yg:=@Except.ok.inj
def yj:=@List.count_append
def yk:=@List.drop_eq_getElem_cons
def ym:=@List.length_eq_zero_iff
def yn:=@List.length_nil
def yo:=@List.take_take
def yp:=@List.take_zero
def zV:=@BitVec.ofInt_natCast
def zZ:=@Int.tmod_lt_of_pos
def z0:=@Int.tmod_nonneg
def z3:=@List.any_cons
def z4:=@List.ext_getElem?
def z5:=@List.map_singleton
def z6:=@List.take_left
def z7:=@Nat.mul_le_mul
def z8:=@Option.some.inj
def Cj:=@Bool.not_not
def Ck:=@Bool.not_true
def Cs:=@Int.le_trans
def Cu:=@List.drop_take
def Cv:=@List.filter_nil
def Cw:=@List.getElem?_cons_succ
def Cx:=@List.getElem?_set
def Cy:=@List.getElem?_set_self
def Cz:=@List.getElem?_take
def CA:=@List.length_singleton
def CC:=@List.pairwise_cons
def CD:=@List.toList_toArray
def CF:=@Nat.lt_of_lt_of_le
def CG:=@Nat.mod_eq_of_lt
def CH:=@Nat.not_lt
def CM:=@Prod.mk.injEq
def FJ:=@true_and
def Gd:=@Array.toArray_toList
def Ge:=@Array.toList_append
def Gf:=@Array.toList_map
def Gg:=@BitVec.toNat_and
def Gi:=@Bool.and_eq_false_iff
def Gj:=@Bool.or_assoc
def Gk:=@Bool.or_true
def Gl:=@Classical.byContradiction
def Gq:=@Int.tdiv_eq_ediv_of_nonneg
def Gs:=@List.Perm.append_left
def Gt:=@List.getElem?_range
def Gu:=@List.map_nil
def Gw:=@List.mem_filterMap
def Gx:=@List.nodup_range
def Gy:=@List.perm_append_right_iff
def Gz:=@List.prefix_append
def GA:=@List.take_append
def GD:=@Nat.ne_of_lt
def GF:=@Option.isSome_iff_exists
def GG:=@Option.toList_some
def LM:=@Array.getElem?_eq_getElem
def LN:=@Array.getElem?_replicate
def LO:=@Array.size_append
def Ma:=@Int.natCast_nonneg
def Mg:=@List.countP_eq_length
def Mh:=@List.count_nil
def Mi:=@List.drop_left
def Mj:=@List.extract_eq_take_drop
def Mk:=@List.flatMap_eq_nil_iff
def Ml:=@List.flatMap_singleton
def Mm:=@List.length_take_le'
def Mn:=@List.mem_iff_getElem?
def Mo:=@List.size_toArray
def Mp:=@List.take_add
def Ms:=@Nat.mul_one
def Qw:=@not_true_eq_false
def Uo:=@Array.all_eq_true_iff_forall_mem
def Up:=@Array.getElem?_eq_none
def Uq:=@Array.toList_extract
def Us:=@ByteArray.data_extract
def Vg:=@Int.fdiv_eq_ediv_of_nonneg
def Vk:=@List.countP_pos_iff
def Vl:=@List.flatten_append
def Vm:=@List.getElem?_set_ne
def Vn:=@List.length_reverse
def Vo:=@List.reverse_append
def Vp:=@List.set_append_right
def Vv:=@Nat.testBit_two_pow
namespace Sx
theorem a3{p:Prop}(h:p:=by omega):p:=h
theorem a8{p:Prop}(h:p:=by decide):p:=h
theorem eA{p:Prop}(h:p:=by simp):p:=h
theorem ey{p:Prop}(h:p:=by kernel_rfl):p:=h
theorem ef{p:Prop}(h:p:=by intro h;cases h):p:=h
theorem b8{p q:Prop}(h:p)(f:p->q:=by intro h;simpa using h):q:=f h
end Sx
namespace Sx
variable{l:List Value}{c i k n o s:Nat}{g:Nat->List Value}{b:Option Nat}{x:Value}
inductive Ty where
 |c|u|p (a b:Ty)|ar (n:Nat) (t:Ty)
 deriving DecidableEq
def Ty.size:Ty->Nat
 | .c=>1| .u=>0| .p a b=>a.size+b.size| .ar n t=>n*t.size
def Ty.off(t:Ty)(r:List Nat):Option (Nat×Ty):=match r with
 |[]=>some (0,t)
 |k::r=>match t with
  | .p a b=>match k with
   |0=>a.off r
   |k+1=>(b.off (k::r)).map λx=>(a.size+x.1,x.2)
  | .ar n t=>if k<n then(t.off r).map λx=>(k*t.size+x.1,x.2)else none
  |_=>none
inductive D where
 |z (k:IntKind) (x:Int)|I (x:Bool)|st (x:ByteArray)|np|nf|ni|nm
 |ic (t:TypeId) (x:D)
 |X (n:Nat) (t:Ty) (f:Nat->D)
 |un|H (a b:D)|ar (n:Nat) (t:Ty) (f:Nat->D)
def D.shape:D->Ty
 | .un=>.u| .H a b=>.p a.shape b.shape| .ar n t _=>.ar n t|_=>.c
def D.agg:D->Bool
 | .un| .H .. | .ar .. =>true|_=>false
abbrev Ro:=Nat->Option (List Value)
def Ro.le(r A:Ro):Prop:=∀b Y,r b=some Y->∃f,A b=some f/\Y<+:f
def eU:IntKind->Nat
 | .i8=>127| .i16=>32767| .i32=>2147483647| .i64=>9223372036854775807| .u8=>255| .u16=>65535| .u32=>4294967295| .u64=>18446744073709551615
def ja(k:IntKind):Int->Bool
 | .ofNat n=>Nat.ble n (eU k)
 | .negSucc n=>k.signed&&Nat.ble n (eU k)
def dM(O:Ro):D->List Value->Prop
 | .z k x,d=>d=[.int k x]/\ja k x=true
 | .I x,d=>d=[.bool x]
 | .st x,d=>d=[.string x]
 | .np,d=>d=[.pointer none]
 | .nf,d=>d=[.nilFunc]
 | .ni,d=>d=[.nilIface]
 | .nm,d=>d=[.map none]
 | .ic t x,d=>∃v,dM O x [v]/\d=[.iface t v]
 | .X n t f,d=>∃A c,d=[.slice A n c]/\n<=c/\(0<n->∃h e Y,∃g:Nat->List Value,A=some ⟨h,e,none⟩/\O h=some Y/\
  e+n*t.size<=Y.length/\∀i,i<n->(f i).shape=t/\dM O (f i) (g i)/\(Y.drop (e+i*t.size)).take t.size=g i)
 | .un,d=>d=[]
 | .H a b,d=>∃j l,d=j++l/\dM O a j/\dM O b l
 | .ar n t f,d=>∃g:Nat->List Value,d=(List.range n).flatMap g/\∀i,i<n->(f i).shape=t/\dM O (f i) (g i)
def u5(h:∀i,i<n->(g i).length=k):((List.range n).flatMap g).length=n*k:=by
 induction n with
 |zero=>simp
 |succ n a=>
  rw[mC,mA,ew,a λi b=>h i a3];simp[h n a3,iO]
def dM.length{O:Ro}:∀{d:D} {cs:List Value},dM O d cs->cs.length=d.shape.size
 | .z ..,_,⟨h,_⟩=>by cases h;rfl
 | .I ..,_,h| .st ..,_,h| .np,_,h| .nf,_,h| .ni,_,h| .nm,_,h=>by cases h;rfl
 | .ic ..,_,⟨_,_,h⟩=>by cases h;rfl
 | .X ..,_,⟨_,_,h,_⟩=>by cases h;rfl
 | .un,_,h=>by cases h;rfl
 | .H a b,_,⟨E,F,h,A,C⟩=>by subst h;simp[D.shape,Ty.size,A.length,C.length]
 | .ar n t f,_,⟨g,h,j⟩=>by subst h;exact u5 λi u=>by rw[(j i u).2.length,(j i u).1]
def JU{a:List Value}(h:l<+:a)(b:o+k<=l.length):(a.drop o).take k=(l.drop o).take k:=by obtain⟨r,rfl⟩:=h;rw[pR,GA];simp[show k -(l.length - o)=0 by omega]
def dM.mono{O E:Ro}(j:O.le E):∀{d:D} {cs:List Value},dM O d cs->dM E d cs
 | .z ..,_,h| .I ..,_,h| .st ..,_,h| .np,_,h| .nf,_,h| .ni,_,h| .nm,_,h| .un,_,h=>h
 | .ic ..,_,⟨v,J,h⟩=>⟨v,J.mono j,h⟩
 | .H a b,_,⟨N,P,h,J,R⟩=>⟨N,P,h,J.mono j,R.mono j⟩
 | .ar n t f,_,⟨g,h,C⟩=>⟨g,h,λi u=>⟨(C i u).1,(C i u).2.mono j⟩⟩
 | .X n t f,_,⟨A,c,h,T,V⟩=>⟨A,c,h,T,λQ=>by
  obtain⟨G,L,Y,g,S,W,U,C⟩:=V Q;obtain⟨F,K,M⟩:=j _ _ W;refine⟨G,L,F,g,S,K,eY U M.length_le,λi u=>⟨(C i u).1,(C i u).2.1.mono j,?_⟩⟩;rw[JU M,(C i u).2.2];have:i*t.size+t.size<=n*t.size:=by rw[<-iO];exact gF _ u
  omega⟩
def dM.one{O:Ro}:∀{d:D} {cs:List Value},dM O d cs->∀v∈cs,v.oneCell'=true
 | .z ..,_,⟨h,_⟩,v,j=>by cases h;simp at j;subst j;rfl
 | .I ..,_,h,v,j| .st ..,_,h,v,j| .np,_,h,v,j| .nf,_,h,v,j| .ni,_,h,v,j| .nm,_,h,v,j=>by cases h;simp at j;subst j;rfl
 | .ic ..,_,⟨_,_,h⟩,v,j=>by cases h;simp at j;subst j;rfl
 | .X ..,_,⟨_,_,h,_⟩,v,j=>by cases h;simp at j;subst j;rfl
 | .un,_,h,v,j=>by cases h;simp at j
 | .H a b,_,⟨F,G,h,u,A⟩,v,j=>by
  subst h;rcases eP.1 j with j|j
  .exact u.one v j
  .exact A.one v j
 | .ar n t f,_,⟨g,h,C⟩,v,j=>by subst h;obtain⟨i,E,j⟩:=om.1 j;exact(C i (b8 E)).2.one v j
inductive Hd where
 |mr (id A6:Nat)|mq (id A6 lo:Nat)|mp (id A6 i:Nat)|yl (id:Nat)|sb (id:Nat) (path:List Nat) (lo n:Nat)|mo (id:Nat)|gl (g:Nat)|gm
inductive SV where
 |d (x:D)|B (id:Nat) (path:List Nat)|el (x:D)|fn (f:Fn) (mP:SV)|ow (id A6:Nat) (n:Nat) (t:Ty) (f:Nat->D)|H (a b:SV)|tu (a:SV)|ob (k:Hd)|ar (n:Nat) (t:Ty) (f:Nat->SV)|fb (f:FuncId) (a:SV)
def SV.shape:SV->Ty
 | .d x=>x.shape| .H a b=>.p a.shape b.shape| .ar n t _=>.ar n t|_=>.c
def SV.agg:SV->Bool
 | .d x=>x.agg| .H .. | .ar .. =>true|_=>false
inductive BO where
 |row (A6:Nat) (b:Option Nat) (n c s:Nat)|loop (l:Nat)|map (r:Nat)|dead
def BO.N:BO->Option Nat
 | .row _ b .. =>b| .loop l=>some l| .map r=>some r| .dead=>none
def BO.le(x y:BO):Prop:=x=y\/∃v b n c s f j u Z W,x=.row v b n c s/\y=.row f j u Z W/\v<f
def kC(b:Option Nat):Option Addr:=b.map λk=>⟨k,0,none⟩
structure Bl where
 b:List (Nat×Ty)
 t:List (Option Nat×Nat×Nat)
 o:List BO
 k:List Nat
 g:Nat
def Bl.tl(J:Bl):Nat->Option (Option Nat×Nat×Nat)
 |0=>some (none,0,0)
 |k+1=>J.t[k]?
def CQ(O:Ro)(n:Nat)(t:Ty)(e:Option Nat×Nat×Nat)(x:Value):Prop:=
 (∃A,x=.slice A n n)\/∃a b Y c,e.1=some a/\x=.slice (some ⟨a,b,none⟩) n c/\O a=some Y/\Y.length=b+n*t.size/\b+c*t.size=e.2.2
def ka(J:Bl):Hd->Value->Prop
 | .mr id a,x=>x.oneCell'=true/\∃v b n c s,J.o[id]?=some (.row v b n c s)/\a<=v/\(a=v->x=.slice (kC b) n c)
 | .mq id a f,x=>x.oneCell'=true/\∃v b n c s,J.o[id]?=some (.row v b n c s)/\a<=v/\(a=v->f<=n/\x=sliced (kC b) f n c s)
 | .mp id a i,x=>x.oneCell'=true/\∃v b n c s,J.o[id]?=some (.row v b n c s)/\a<=v/\(a=v->i<n/\∃k,b=some k/\x=.pointer (some ⟨k,i*s,none⟩))
 | .yl id,x=>∃l,J.o[id]?=some (.loop l)/\x=.func (.yield l) #[] #[]
 | .sb id h f n,x=>∃d t o c j,J.b[id]?=some (d,t)/\t.off h=some (o,.ar c j)/\f+n<=c/\∃A e,x=.slice A n e/\n<=e/\(0<n->A=some ⟨d,o+f*j.size,none⟩)
 | .mo id,x=>∃r,J.o[id]?=some (.map r)/\x=.map (some r)
 | .gl g,x=>x=.pointer (some ⟨g,0,none⟩)
 | .gm,x=>x=.map (some J.g)
def eX(O:Ro)(J:Bl):SV->List Value->Prop
 | .d x,c=>dM O x c
 | .B id l,c=>∃d t o r,J.b[id]?=some (d,t)/\t.off l=some (o,r)/\c=[.pointer (some ⟨d,o,none⟩)]
 | .el x,c=>∃d h Y j,O d=some Y/\dM O x j/\h+j.length<=Y.length/\(Y.drop h).take j.length=j/\c=[.pointer (some ⟨d,h,none⟩)]
 | .fn f mP,c=>∃j,eX O J mP j/\c=[.func f #[] j.toArray]
 | .ow id m n t f,c=>∃x e,dM O (.X n t f) [x]/\J.tl id=some e/\m<=e.2.1/\(m=e.2.1->CQ O n t e x)/\c=[x]
 | .H a b,c=>∃p q,c=p++q/\eX O J a p/\eX O J b q
 | .tu _,_=>False
 | .ob k,c=>∃x,c=[x]/\ka J k x
 | .fb f a,c=>∃x,(eX O J a [x]/\a.agg=false)/\c=[.func (.func f) #[x] #[]]
 | .ar n t f,c=>∃g:Nat->List Value,c=(List.range n).flatMap g/\∀i,i<n->(f i).shape=t/\eX O J (f i) (g i)
def ka.one{J:Bl}:∀{k:Hd} {x:Value},ka J k x->x.oneCell'=true
 | .mr ..,_,h| .mq ..,_,h| .mp ..,_,h=>h.1
 | .yl _,_,⟨_,_,h⟩=>by subst h;rfl
 | .sb ..,_,⟨_,_,_,_,_,_,_,_,_,_,h,_⟩=>by subst h;rfl
 | .mo _,_,⟨_,_,h⟩=>by subst h;rfl
 | .gl _,_,h| .gm,_,h=>by cases h;rfl
def fJ(O:Ro)(J:Bl)(v:SV)(x:Value):Prop:=(v.agg=true->∃a,eX O J v a/\x=.agg a.toArray)/\(v.agg=false->eX O J v [x])
def n4(O:Ro)(J:Bl):SV->List Value->Prop
 | .H a b,c=>∃x r,c=x::r/\fJ O J a x/\n4 O J b r
 |_,c=>c=[]
def du(O:Ro)(J:Bl)(v:SV)(x:Value):Prop:=match v with
 | .tu a=>∃b,n4 O J a b/\x=.tuple b.toArray
 |v=>fJ O J v x
structure Le (ro:Ro) (bl:Bl) (ro':Ro) (bl':Bl):Prop where
 r:ro.le ro'
 b:∀(id:Nat) x,bl.b[id]?=some x->bl'.b[id]?=some x
 t:∀(id:Nat) e,bl.t[id]?=some e->∃e',bl'.t[id]?=some e'/\e.2.1<=e'.2.1/\(e.2.1=e'.2.1->e'=e/\∀N,e.1=some N->ro' N=ro N)
 o:∀(id:Nat) x,bl.o[id]?=some x->∃x',bl'.o[id]?=some x'/\x.le x'
 g:bl'.g=bl.g
def BO.le_refl(x:BO):x.le x:=.inl rfl
def BO.le_trans{x y z:BO}(h:x.le y)(k:y.le z):x.le z:=by
 rcases h with rfl|⟨v,b,n,c,s,K,f,A,Z,W,rfl,rfl,h⟩
 .exact k
 .rcases k with rfl|⟨L,Q,C,j,G,M,F,E,u,J,e,rfl,k⟩
  .exact .inr ⟨_,_,_,_,_,_,_,_,_,_,rfl,rfl,h⟩
  .cases e;exact .inr ⟨_,_,_,_,_,_,_,_,_,_,rfl,rfl,Nat.lt_trans h k⟩
def BO.I1{v:Nat}{y:BO}(h:(BO.row v b n c s).le y):∃v' f j Z W,y=.row v' f j Z W/\v<=v'/\(v=v'->b=f/\n=j/\c=Z/\s=W):=by
 rcases h with rfl|⟨C,S,A,u,E,v',f,j,Z,W,e,rfl,h⟩
 .exact⟨_,_,_,_,_,rfl,a9 _,λ_=>⟨rfl,rfl,rfl,rfl⟩⟩
 .cases e;exact⟨_,_,_,_,_,rfl,uP h,λe=>b3 e (GD h)⟩
def BO.E0{l:Nat}{y:BO}(h:(BO.loop l).le y):y=.loop l:=by
 rcases h with rfl|⟨_,_,_,_,_,_,_,_,_,_,e,_⟩
 .rfl
 .cases e
def BO.I0{l:Nat}{y:BO}(h:(BO.map l).le y):y=.map l:=by
 rcases h with rfl|⟨_,_,_,_,_,_,_,_,_,_,e,_⟩
 .rfl
 .cases e
def Ro.le_refl(r:Ro):r.le r:=λ_ Y h=>⟨Y,h,wX _⟩
def Ro.le_trans{a b c:Ro}(h:a.le b)(f:b.le c):a.le c:=λx Y u=>by obtain⟨E,j,A⟩:=h x Y u;obtain⟨F,f,C⟩:=f x E j;exact⟨F,f,A.trans C⟩
def Le.refl(O:Ro)(J:Bl):Le O J O J:=⟨Ro.le_refl _,λ_ _ h=>h,λ_ e h=>⟨e,h,a9 _,λ_=>⟨rfl,λ_ _=>rfl⟩⟩,λ_ x h=>⟨x,h,x.le_refl⟩,rfl⟩
def Le.trans{O u A:Ro}{J Z f:Bl}(h:Le O J u Z)(k:Le u Z A f):Le O J A f where
 r:=Ro.le_trans h.r k.r
 b id x hx:=k.b _ _ (h.b _ _ hx)
 t id e he:=by obtain⟨L,C,R,U⟩:=h.t id e he;obtain⟨M,E,T,V⟩:=k.t id L C;refine⟨M,E,eY R T,λW=>?_⟩;obtain⟨G,S⟩:=U a3;subst G;obtain⟨K,Q⟩:=V a3;exact⟨K,λj F=>(Q j F).trans (S j F)⟩
 o id x hx:=by obtain⟨y,N,C⟩:=h.o id x hx;obtain⟨z,P,E⟩:=k.o id y N;exact⟨z,P,BO.le_trans C E⟩
 g:=k.g.trans h.g
def Le.row{O A:Ro}{J f:Bl}(h:Le O J A f){id v:Nat}(G:J.o[id]?=some (.row v b n c s)):
 ∃v' j u Z W,f.o[id]?=some (.row v' j u Z W)/\v<=v'/\(v=v'->b=j/\n=u/\c=Z/\s=W):=by
 obtain⟨y,K,F⟩:=h.o id _ G;obtain⟨v',j,u,Z,W,rfl,C,E⟩:=BO.I1 F;exact⟨_,_,_,_,_,K,C,E⟩
def ka.mono{O R:Ro}{J E:Bl}(A:Le O J R E):∀{k:Hd} {x:Value},ka J k x->ka E k x
 | .mr ..,_,⟨F,v,b,n,c,s,f,j,u⟩=>by obtain⟨N,C,M,Z,W,G,K,L⟩:=A.row f;refine⟨F,N,C,M,Z,W,G,eY j K,λe=>?_⟩;obtain⟨rfl,rfl,rfl,rfl⟩:=L a3;exact u a3
 | .mq ..,_,⟨F,v,b,n,c,s,f,j,u⟩=>by obtain⟨N,C,M,Z,W,G,K,L⟩:=A.row f;refine⟨F,N,C,M,Z,W,G,eY j K,λe=>?_⟩;obtain⟨rfl,rfl,rfl,rfl⟩:=L a3;exact u a3
 | .mp ..,_,⟨F,v,b,n,c,s,f,j,u⟩=>by obtain⟨N,C,M,Z,W,G,K,L⟩:=A.row f;refine⟨F,N,C,M,Z,W,G,eY j K,λe=>?_⟩;obtain⟨rfl,rfl,rfl,rfl⟩:=L a3;exact u a3
 | .yl id,_,⟨l,f,j⟩=>by obtain⟨y,Q,u⟩:=A.o id _ f;cases BO.E0 u;exact⟨l,Q,j⟩
 | .sb ..,_,⟨P,t,o,c,S,f,j⟩=>⟨P,t,o,c,S,A.b _ _ f,j⟩
 | .mo id,_,⟨l,f,j⟩=>by obtain⟨y,Q,u⟩:=A.o id _ f;cases BO.I0 u;exact⟨l,Q,j⟩
 | .gl _,_,h=>h
 | .gm,_,h=>by unfold ka at h ⊢;rw[A.g];exact h
def Le.tl{O u:Ro}{J j:Bl}(h:Le O J u j):∀{id:Nat} {e},J.tl id=some e->∃A,j.tl id=some A/\e.2.1<=A.2.1/\(e.2.1=A.2.1->A=e/\∀f,e.1=some f->u f=O f)
 |0,e,C=>⟨e,C,a9 _,λ_=>⟨rfl,λf E=>by cases C;cases E⟩⟩
 |k+1,e,C=>h.t k e C
def eX.mono{O K:Ro}{J F:Bl}(u:Le O J K F):∀{v:SV} {cs:List Value},eX O J v cs->eX K F v cs
 | .d _,_,h=>dM.mono u.r h
 | .B _ _,_,⟨j,t,o,t',h,A⟩=>⟨j,t,o,t',u.b _ _ h,A⟩
 | .el _,_,⟨j,E,Y,Q,h,A,M,G,P⟩=>by obtain⟨L,N,U⟩:=u.r _ _ h;exact⟨j,E,L,Q,N,A.mono u.r,eY M U.length_le,by rw[JU U M,G],P⟩
 | .fn _ _,_,⟨Q,h,A⟩=>⟨Q,h.mono u,A⟩
 | .ow id aa n t f,_,⟨x,e,C,A,M,G,P⟩=>by
  obtain⟨Z,N,l',q'⟩:=u.tl A;refine⟨x,Z,C.mono u.r,N,eY M l',λhv=>?_,P⟩;obtain⟨a,b⟩:=q' a3;subst a;rcases G hv with G|⟨j,E,Y,c,R,g2,g3,g4,g5⟩
  .exact .inl G
  .exact .inr ⟨j,E,Y,c,R,g2,(b j R).trans g3,g4,g5⟩
 | .H _ _,_,⟨V,W,h,C,A⟩=>⟨V,W,h,C.mono u,A.mono u⟩
 | .ob _,_,⟨x,h,C⟩=>⟨x,h,C.mono u⟩
 | .fb _ _,_,⟨x,h,C⟩=>⟨x,⟨h.1.mono u,h.2⟩,C⟩
 | .ar n t f,_,⟨g,h,S⟩=>⟨g,h,λi T=>⟨(S i T).1,(S i T).2.mono u⟩⟩
def fJ.mono{O j:Ro}{J f:Bl}(A:Le O J j f){v:SV}(h:fJ O J v x):fJ j f v x:=
 ⟨λu=>let⟨C,E,F⟩:=h.1 u;⟨C,E.mono A,F⟩,λu=>(h.2 u).mono A⟩
def n4.mono{O j:Ro}{J f:Bl}(u:Le O J j f):∀{v:SV} {vs:List Value},n4 O J v vs->n4 j f v vs
 | .d _,_,h| .B _ _,_,h| .el _,_,h| .fn _ _,_,h| .ow _ _ _ _ _,_,h| .tu _,_,h| .ob _,_,h| .fb ..,_,h| .ar ..,_,h=>h
 | .H _ _,_,⟨x,r,h,A,C⟩=>⟨x,r,h,A.mono u,C.mono u⟩
def du.mono{O j:Ro}{J f:Bl}(u:Le O J j f):∀{v:SV} {x:Value},du O J v x->du j f v x
 | .tu _,_,⟨C,h,A⟩=>⟨C,h.mono u,A⟩
 | .d _,_,h| .B _ _,_,h| .el _,_,h| .fn _ _,_,h| .ow _ _ _ _ _,_,h| .H _ _,_,h| .ob _,_,h| .fb ..,_,h| .ar ..,_,h=>fJ.mono u h
def eX.length{O:Ro}{J:Bl}:∀{v:SV} {cs:List Value},eX O J v cs->cs.length=v.shape.size
 | .d _,_,h=>dM.length h
 | .B _ _,_,⟨_,_,_,_,_,_,h⟩=>by subst h;rfl
 | .el _,_,⟨_,_,_,_,_,_,_,_,h⟩=>by subst h;rfl
 | .fn _ _,_,⟨_,_,h⟩=>by subst h;rfl
 | .ow _ _ _ _ _,_,⟨_,_,_,_,_,_,h⟩=>by subst h;rfl
 | .H _ _,_,⟨E,F,h,A,C⟩=>by subst h;simp[SV.shape,Ty.size,A.length,C.length]
 | .ob _,_,⟨_,h,_⟩=>by subst h;rfl
 | .fb _ _,_,⟨_,_,h⟩=>by subst h;rfl
 | .ar n t f,_,⟨g,h,j⟩=>by subst h;exact u5 λi u=>by rw[(j i u).2.length,(j i u).1]
def eX.one{O:Ro}{J:Bl}:∀{v:SV} {cs:List Value},eX O J v cs->∀x∈cs,x.oneCell'=true
 | .d _,_,h,x,j=>dM.one h x j
 | .B _ _,_,⟨_,_,_,_,_,_,h⟩,x,j=>by subst h;simp at j;subst j;rfl
 | .el _,_,⟨_,_,_,_,_,_,_,_,h⟩,x,j=>by subst h;simp at j;subst j;rfl
 | .fn _ _,_,⟨_,_,h⟩,x,j=>by subst h;simp at j;subst j;rfl
 | .ow _ _ _ _ _,_,⟨_,_,u,_,_,_,h⟩,x,j=>by subst h;exact u.one x j
 | .H _ _,_,⟨F,G,h,u,A⟩,x,j=>by
  subst h;rcases eP.1 j with j|j
  .exact u.one x j
  .exact A.one x j
 | .ob _,_,⟨y,h,u⟩,x,j=>by subst h;simp at j;subst j;exact u.one
 | .fb _ _,_,⟨_,_,h⟩,x,j=>by subst h;simp at j;subst j;rfl
 | .ar n t f,_,⟨g,h,C⟩,x,j=>by subst h;obtain⟨i,E,j⟩:=om.1 j;exact(C i (b8 E)).2.one x j
def fJ.cells{O:Ro}{J:Bl}{v:SV}(h:fJ O J v x):eX O J v x.cells.toList:=by
 cases f:v.agg with
 |true=>obtain⟨C,u,rfl⟩:=h.1 f;simpa[Value.cells]using u
 |false=>
  have h:=h.2 f;have j:=h.one x eA;have A:x.cells.toList=[x]:=by cases x<;>first|rfl|(simp[Value.oneCell']at j)
  rw[A];exact h
def du.cells{O:Ro}{J:Bl}:∀{v:SV} {x:Value},du O J v x->(∀a,v≠.tu a)->eX O J v x.cells.toList
 | .tu a,_,_,f=>b3 rfl (f a)
 | .d _,_,h,_| .B _ _,_,h,_| .el _,_,h,_| .fn _ _,_,h,_| .ow _ _ _ _ _,_,h,_| .H _ _,_,h,_| .ob _,_,h,_| .fb ..,_,h,_| .ar ..,_,h,_=>fJ.cells h
def SV.C1:∀{v:SV},v.agg=false->v.shape=.c
 | .d x,h=>by cases x<;>first|rfl|(simp[SV.agg,D.agg]at h)
 | .H _ _,h| .ar ..,h=>by simp[SV.agg]at h
 | .B _ _,_| .el _,_| .fn _ _,_| .ow _ _ _ _ _,_| .tu _,_| .ob _,_| .fb _ _,_=>rfl
def fJ.Z{O:Ro}{J:Bl}{v:SV}{f:List Value}(h:eX O J v f):fJ O J v (if v.agg then .agg f.toArray else f.headD undef):=by
 refine⟨λj=>⟨f,h,by simp[j]⟩,λj=>?_⟩;have u:=h.length;rw[SV.C1 j]at u
 match f,u with
 |[x],_=>simpa[j]using h
def fJ.v{O:Ro}{J:Bl}:∀{v:SV} {x:Value},fJ O J v x->du O J v x
 | .tu _,_,h=>(h.2 rfl).elim
 | .d _,_,h| .B _ _,_,h| .el _,_,h| .fn _ _,_,h| .ow _ _ _ _ _,_,h| .H _ _,_,h| .ob _,_,h| .fb ..,_,h| .ar ..,_,h=>h
def du.a{O:Ro}{J:Bl}:∀{v:SV} {x:Value},du O J v x->(∀a,v≠.tu a)->fJ O J v x
 | .tu a,_,_,f=>b3 rfl (f a)
 | .d _,_,h,_| .B _ _,_,h,_| .el _,_,h,_| .fn _ _,_,h,_| .ow _ _ _ _ _,_,h,_| .H _ _,_,h,_| .ob _,_,h,_| .fb ..,_,h,_| .ar ..,_,h,_=>h
def a7{α:Type}(f:Nat->α)(i:Nat)(x:α):Nat->α:=λj=>if j=i then x else f j
def D.B0(d:D)(r:List Nat):Option D:=match r with
 |[]=>some d
 |k::r=>match d with
  | .H a b=>match k with
   |0=>a.B0 r
   |k+1=>b.B0 (k::r)
  | .ar _ _ f=>(f k).B0 r
  |_=>none
def D.set(d:D)(r:List Nat)(v:D):D:=match r with
 |[]=>v
 |k::r=>match d with
  | .H a b=>match k with
   |0=>.H (a.set r v) b
   |k+1=>.H a (b.set (k::r) v)
  | .ar n t f=>.ar n t (a7 f k ((f k).set r v))
  |d=>d
def D.D3(d:D)(r:List Nat)(v:SV):Option SV:=match r with
 |[]=>some v
 |k::r=>match d with
  | .H a b=>match k with
   |0=>(a.D3 r v).map λa=>.H a (.d b)
   |k+1=>(b.D3 (k::r) v).map λb=>.H (.d a) b
  | .ar n t f=>((f k).D3 r v).map λx=>.ar n t (a7 (λj=>.d (f j)) k x)
  |_=>none
def SV.B0(v:SV)(r:List Nat):Option SV:=match r with
 |[]=>some v
 |k::r=>match v with
  | .d x=>(x.B0 (k::r)).map .d
  | .H a b=>match k with
   |0=>a.B0 r
   |k+1=>b.B0 (k::r)
  | .ar _ _ f=>(f k).B0 r
  |_=>none
def SV.set(w:SV)(r:List Nat)(v:SV):Option SV:=match r with
 |[]=>some v
 |k::r=>match w with
  | .d x=>match v with
   | .d y=>some (.d (x.set (k::r) y))
   |v=>x.D3 (k::r) v
  | .H a b=>match k with
   |0=>(a.set r v).map λa=>.H a b
   |k+1=>(b.set (k::r) v).map λb=>.H a b
  | .ar n t f=>((f k).set r v).map λx=>.ar n t (a7 f k x)
  |_=>none
def xp(h:∀i,i<n->(g i).length=k)(e:i<n):(((List.range n).flatMap g).drop (i*k)).take k=g i:=by
 induction n with
 |zero=>omega
 |succ n d=>
  have b:=u5 (n:=n) (k:=k) (g:=g) λj c=>h j a3;rw[mC,mA];by_cases a:i<n
  .have:i*k+k<=n*k:=by rw[<-iO];exact gF _ a
   rw[pR,GA,d (λj c=>h j a3) a];simp[b,show k -(n*k - i*k)=0 by omega]
  .have:i=n:=a3
   subst this;rw[pR,oQ a3];simp[b,pX (sX (h i a3))]
def Yt(h:∀i,i<n->(g i).length=k)(l:i<n)(x:List Value):
 ((List.range n).flatMap g).take (i*k)++x++((List.range n).flatMap g).drop (i*k+k)=(List.range n).flatMap (a7 g i x):=by
 induction n with
 |zero=>omega
 |succ n f=>
  have d:=u5 (n:=n) (k:=k) (g:=g) λj b=>h j a3;rw[mC,mA,mA];by_cases a:i<n
  .have c:i*k+k<=n*k:=by rw[<-iO];exact gF _ a
   rw[<-f (λj b=>h j a3) a,qp a3,r8 a3];simp[a7,show¬n=i by omega]
  .have:i=n:=a3
   subst this;rw[qp a3,pX a3,pR,oQ a3];have e:(List.range i).flatMap (a7 g i x)=(List.range i).flatMap g:=by
    rw[uM,uM]
    congr 1
    apply tK;intro j b;have:=gZ.1 b;simp[a7,show¬j=i by omega]
   rw[e];simp[d,a7,h i a3]
def Ty.T:∀{t:Ty} {r:List Nat} {o:Nat} {t':Ty},t.off r=some (o,t')->o+t'.size<=t.size
 |t,[],o,t',h=>by unfold Ty.off at h;simp at h;obtain⟨rfl,rfl⟩:=h;simp
 | .c,_::_,_,_,h| .u,_::_,_,_,h=>by simp[Ty.off]at h
 | .p a b,0::r,o,t',h=>by have:=Ty.T (t:=a) (r:=r) h;simp[Ty.size];omega
 | .p a b,(k+1)::r,o,t',h=>by simp only[Ty.off,fB]at h;obtain⟨x,f,h⟩:=h;have:=Ty.T (t:=b) (r:=k::r) f;cases h;simp[Ty.size];omega
 | .ar n t,i::r,o,t',h=>by
  simp only[Ty.off]at h;split at h
  .simp only[fB]at h;obtain⟨x,f,h⟩:=h;have:=Ty.T (t:=t) (r:=r) f;cases h;rename_i j;have:i*t.size+t.size<=n*t.size:=by rw[<-iO];exact gF _ j
   simp[Ty.size];omega
  .cases h
def qn{a b:Nat}(h:o+k<=b):(((l.drop a).take b).drop o).take k=(l.drop (a+o)).take k:=by rw[Cu,yo,pS,sY a3]
def D.O{O:Ro}:∀{d:D} {r:List Nat} {F:List Value} {o:Nat} {t':Ty} {C:D},dM O d F->d.shape.off r=some (o,t')->d.B0 r=some C->C.shape=t'/\dM O C ((F.drop o).take t'.size)
 |d,[],F,o,t',C,h,u,A=>by
  have Q:=h.length;have:C=d:=by(unfold D.B0 at A;simpa using A.symm)
  subst this;have R:(0,C.shape)=(o,t'):=by unfold Ty.off at u;simpa using u
  cases R;refine⟨rfl,?_⟩;rw[vM,pX a3];exact h
 | .H a b,0::r,F,o,t',C,⟨U,V,J,L,S⟩,u,A=>by have E:=Ty.T u;simp only[D.shape,Ty.off]at u;have E:=Ty.T u;obtain⟨K,G⟩:=D.O (d:=a) (r:=r) L u A;refine⟨K,?_⟩;have Q:=L.length;rw[J,r8 a3,qp (by rw[oS];omega)];exact G
 | .H a b,(k+1)::r,F,o,t',C,⟨U,V,J,L,S⟩,u,A=>by simp only[D.shape,Ty.off,fB]at u;obtain⟨x,N,u⟩:=u;cases u;obtain⟨K,G⟩:=D.O (d:=b) (r:=k::r) S N A;refine⟨K,?_⟩;have Q:=L.length;rw[J,pR,oQ a3];simpa[Q]using G
 | .ar n t f,i::r,F,o,t',C,⟨g,J,M⟩,u,A=>by
  simp only[D.shape,Ty.off]at u;split at u
  .rename_i P;simp only[fB]at u;obtain⟨x,N,u⟩:=u;cases u;have E:=Ty.T N;obtain⟨K,G⟩:=D.O (d:=f i) (r:=r) (M i P).2 (by rw[(M i P).1];exact N) A;refine⟨K,?_⟩;have W:=xp (k:=t.size) (λj T=>by rw[(M j T).2.length,(M j T).1]) P;rw[<-W,<-J,qn E]at G;exact G
  .cases u
 | .z ..,_::_,_,_,_,_,_,_,A| .I ..,_::_,_,_,_,_,_,_,A| .st ..,_::_,_,_,_,_,_,_,A| .np,_::_,_,_,_,_,_,_,A| .nf,_::_,_,_,_,_,_,_,A| .ni,_::_,_,_,_,_,_,_,A| .nm,_::_,_,_,_,_,_,_,A
 | .ic ..,_::_,_,_,_,_,_,_,A| .X ..,_::_,_,_,_,_,_,_,A| .un,_::_,_,_,_,_,_,_,A=>by simp[D.B0]at A
def Hg(d:∀j,j<n->(g j).length=k)(c:i<n){a:Nat}(p:o+a<=k)(vs:List Value):
 ((List.range n).flatMap g).take (i*k+o)++vs++((List.range n).flatMap g).drop (i*k+o+a)=(List.range n).flatMap (a7 g i ((g i).take o++vs++(g i).drop (o+a))):=by
 rw[<-Yt d c];obtain⟨b,f⟩:∃b,(List.range n).flatMap g=b:=⟨_,rfl⟩;have e:=xp d c;have h:b.length=n*k:=by rw[<-f];exact u5 d
 rw[f]at e ⊢;have:i*k+k<=n*k:=by rw[<-iO];exact gF _ c
 have l:b.take (i*k+o)=b.take (i*k)++(g i).take o:=by rw[<-e,Mp,yo,sY a3]
 have m:b.drop (i*k+o+a)=(g i).drop (o+a)++b.drop (i*k+k):=by
  rw[<-e,Cu,pS,<-sa];conv=>lhs;rw[<-nF (k -(o+a)) (b.drop (i*k+o+a))]
  rw[pS,show i*k+o+a+(k -(o+a))=i*k+k by omega]
 rw[l,m];simp
def D.A4{O:Ro}:∀{d:D} {r:List Nat} {C:List Value} {o:Nat} {t':Ty} {v:D} {vs:List Value},dM O d C->d.shape.off r=some (o,t')->dM O v vs->v.shape=t'->
 (d.set r v).shape=d.shape/\dM O (d.set r v) (C.take o++vs++C.drop (o+t'.size))
 |d,[],C,o,t',v,vs,h,u,F,E=>by
  have S:=h.length;have e:d.set [] v=v:=by unfold D.set;rfl
  have T:(0,d.shape)=(o,t'):=by unfold Ty.off at u;simpa using u
  cases T;rw[e];refine⟨E,?_⟩;rw[yp,oQ a3];simpa using F
 | .H a b,0::r,C,o,t',v,vs,⟨U,V,L,K,R⟩,u,F,E=>by simp only[D.shape,Ty.off]at u;have M:=Ty.T u;obtain⟨A,N⟩:=D.A4 (d:=a) (r:=r) K u F E;have S:=K.length;refine⟨by simp only[D.set,D.shape,A],_,V,?_,N,R⟩;rw[L,qp a3,r8 a3];simp
 | .H a b,(k+1)::r,C,o,t',v,vs,⟨U,V,L,K,R⟩,u,F,E=>by simp only[D.shape,Ty.off,fB]at u;obtain⟨x,Q,u⟩:=u;cases u;obtain⟨A,N⟩:=D.A4 (d:=b) (r:=k::r) R Q F E;have S:=K.length;refine⟨by simp only[D.set,D.shape,A],U,_,?_,K,N⟩;rw[L,GA,pX a3,pR,oQ a3];simp[S,sa]
 | .ar n t f,i::r,C,o,t',v,vs,⟨g,L,G⟩,u,F,E=>by
  simp only[D.shape,Ty.off]at u;split at u
  .rename_i P;simp only[fB]at u;obtain⟨x,Q,u⟩:=u;cases u;have M:=Ty.T Q;obtain⟨A,N⟩:=D.A4 (d:=f i) (r:=r) (G i P).2 (by rw[(G i P).1];exact Q) F E;have W:∀j,j<n->(g j).length=t.size:=λj J=>by rw[(G j J).2.length,(G j J).1]
   refine⟨rfl,a7 g i (((g i).take x.1)++vs++(g i).drop (x.1+x.2.size)),?_,λj J=>?_⟩
   .rw[L,Hg W P M]
   .unfold a7;split
    .rename_i J;subst J;exact⟨by rw[A,(G j P).1],N⟩
    .exact G j J
  .cases u
 | .z ..,_::_,_,_,_,_,_,_,u,_,_| .I ..,_::_,_,_,_,_,_,_,u,_,_| .st ..,_::_,_,_,_,_,_,_,u,_,_| .np,_::_,_,_,_,_,_,_,u,_,_| .nf,_::_,_,_,_,_,_,_,u,_,_| .ni,_::_,_,_,_,_,_,_,u,_,_| .nm,_::_,_,_,_,_,_,_,u,_,_
 | .ic ..,_::_,_,_,_,_,_,_,u,_,_| .X ..,_::_,_,_,_,_,_,_,u,_,_| .un,_::_,_,_,_,_,_,_,u,_,_=>by simp[D.shape,Ty.off]at u
end Sx
end Go.Proofs.YtfbhkfhbnkncoaaGreatDoor
