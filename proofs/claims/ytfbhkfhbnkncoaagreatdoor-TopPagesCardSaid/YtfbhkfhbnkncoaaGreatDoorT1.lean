import Derived.Laws.Rows
import Derived.Laws.Slices
import Derived.Below
import Derived.Laws.CopyRow
set_option linter.all false
namespace Go.Proofs.YtfbhkfhbnkncoaaGreatDoor
def zFC:=@Int.toNat_natCast
def zFD:=@List.cons.injEq
def zFE:=@and_true
def zFF:=@true_and
def zFG:=@Nat.le_of_ble_eq_true
def zFH:=@List.length_map
def zFI:=@List.length_cons
def zFJ:=@Int.le_refl
def zFK:=@of_decide_eq_false
def zFL:=@of_decide_eq_true
def zFM:=@Bool.or_eq_false_iff
def zFN:=@beq_eq_false_iff_ne
def zFO:=@decide_eq_false_iff_not
def zFP:=@bne_iff_ne
def zFQ:=@decide_eq_true
def zFR:=@Bool.and_eq_true
def zFS:=@decide_eq_true_eq
def zFT:=@decide_eq_false
def zFU:=@Nat.le_trans
def zFV:=@Nat.zero_le
def zFW:=@List.range_succ
def zFX:=@List.flatMap_append
def zFY:=@List.length_append
def zFZ:=@Nat.succ_mul
def zF0:=@List.mem_flatMap
def zF1:=@List.mem_range
def zF2:=@List.mem_append
def zF3:=@List.mem_cons_self
def zF4:=@List.mem_cons_of_mem
def zF5:=@Nat.le_refl
def zF6:=@List.map_append
def zF7:=@Bool.true_and
def zF8:=@Bool.false_or
def zF9:=@Nat.lt_succ_self
def zGa:=@Int.tmod_eq_emod_of_nonneg
def zGb:=@BitVec.toNat_and
def zGc:=@Nat.lt_or_ge
def zGd:=@Nat.sub_self
def zGe:=@Array.getD_eq_getD_getElem?
def zGf:=@List.getElem?_eq_some_iff
def zGg:=@Prod.mk.injEq
def zGh:=@Option.some.injEq
def zGi:=@List.drop_eq_nil_of_le
def zGj:=@Option.map_eq_some_iff
def zGk:=@Nat.eq_of_beq_eq_true
def zGl:=@Option.bind_eq_some_iff
def zGm:=@List.mem_cons
def zGn:=@Nat.le_of_lt
def zGo:=@Array.getElem?_toList
def zGp:=@Option.bind_some
def zGq:=@Classical.byContradiction
def zGr:=@List.all_eq_true
def zGs:=@List.countP_pos_iff
def zGt:=@Nat.zero_add
def zGu:=@Array.length_toList
def zGv:=@Array.getElem?_replicate
def zGw:=@List.countP_eq_length
def zGx:=@List.length_range
def zGy:=@Bool.not_eq_false'
def zGz:=@List.mem_of_getElem?
def zGA:=@List.mem_iff_getElem?
def zGB:=@Bool.not_true
def zGC:=@Bool.not_eq_true'
def zGD:=@Bool.or_eq_true
def zGE:=@Option.map_some
def zGF:=@List.map_cons
def zGG:=@beq_iff_eq
def zGH:=@List.mem_filter
def zGI:=@List.drop_append
def zGJ:=@List.take_append
def zGK:=@Nat.mul_le_mul_right
def zGL:=@Nat.ne_of_lt
def zGM:=@List.prefix_refl
def zGN:=@List.take_of_length_le
def zGO:=@Nat.le_of_eq
def zGP:=@List.take_append_of_le_length
def zGQ:=@List.drop_append_of_le_length
def zGR:=@List.flatMap_def
def zGS:=@List.map_congr_left
def zGT:=@List.drop_take
def zGU:=@List.take_take
def zGV:=@List.drop_drop
def zGW:=@Nat.min_eq_left
def zGX:=@List.drop_zero
def zGY:=@List.length_drop
def zGZ:=@List.take_add
def zG0:=@Nat.add_assoc
def zG1:=@List.take_append_drop
def zG2:=@List.take_zero
def zG3:=@List.take_left
def zG4:=@List.nil_append
def zG5:=@List.append_assoc
def zG6:=@Array.toList_map
def zG7:=@if_true
def zG8:=@Nat.add_mul
def zG9:=@List.getD_eq_getElem?_getD
def zHa:=@List.getElem?_eq_getElem
def zHb:=@List.take_add_one
def zHc:=@List.foldl_append
def zHd:=@List.getElem_mem
def zHe:=@List.take_length
def zHf:=@List.length_take
def zHg:=@List.mem_map
def zHh:=@Int.tmod_nonneg
def zHi:=@Int.tmod_lt_of_pos
def zHj:=@beq_false_of_ne
def zHk:=@List.map_singleton
def zHl:=@List.length_take_le'
def zHm:=@List.append_nil
def zHn:=@List.map_nil
def zHo:=@Bool.not_not
def zHp:=@List.length_eq_zero_iff
def zHq:=@Nat.eq_zero_or_pos
def zHr:=@Bool.and_eq_true_iff
def zHs:=@Std.Legacy.Range.forIn_eq_forIn_range'
def zHt:=@List.any_eq_true
def zHu:=@Bool.or_true
def zHv:=@ByteArray.data_extract
def zHw:=@Array.toList_extract
def zHx:=@List.extract_eq_take_drop
def zHy:=@List.getElem?_drop
def zHz:=@List.getElem?_map
def zHA:=@Int.eq_ofNat_of_zero_le
def zHB:=@BitVec.ofInt_natCast
def zHC:=@Nat.mod_eq_of_lt
def zHD:=@Bool.and_false
def zHE:=@List.any_eq_false
def zHF:=@List.any_cons
def zHG:=@List.drop_length
def zHH:=@cond_true
def zHI:=@Bool.eq_iff_iff
def zHJ:=@cond_false
def zHK:=@Bool.and_eq_false_iff
def zHL:=@List.ext_getElem?
def zHM:=@List.length_set
def zHN:=@Nat.ble_eq_true_of_le
def zHO:=@List.nodup_append
def zHP:=@List.cons_append
def zHQ:=@List.drop_eq_getElem_cons
def zHR:=@List.filter_append
def zHS:=@List.filter_cons
def zHT:=@List.length_filter_le
def zHU:=@List.mem_of_mem_take
def zHV:=@List.nodup_nil
def zHW:=@List.mem_singleton
def zHX:=@Int.natCast_succ
def zHY:=@List.getElem?_append_right
def zHZ:=@Nat.add_zero
def zH0:=@Nat.lt_irrefl
def zH1:=@Option.some.inj
def zH2:=@List.getElem?_append_left
def zH3:=@Array.ext'
def zH4:=@List.foldl_cons
def zH5:=@not_true_eq_false
def zH6:=@List.size_toArray
def zH7:=@Option.isSome_iff_exists
def zH8:=@List.toList_toArray
def zH9:=@Nat.mul_le_mul
def zIa:=@List.eq_nil_of_length_eq_zero
def zIb:=@List.getElem?_take_of_lt
def zIc:=@Array.size_append
def zId:=@Array.toList_append
def zIe:=@List.length_nil
def zIf:=@Array.toArray_toList
def zIg:=@List.getElem?_take
def zIh:=@Nat.beq_refl
def zIi:=@List.getElem?_cons_succ
def zIj:=@Ne.symm
def zIk:=@List.length_singleton
def zIl:=@Array.getElem?_setIfInBounds
def zIm:=@Array.getElem?_eq_none
def zIn:=@Nat.not_lt_zero
def zIo:=@Bool.true_or
def zIp:=@List.nodup_cons
def zIq:=@Array.getElem?_eq_some_iff
def zIr:=@Nat.not_lt
def zIs:=@List.mem_filterMap
def zIt:=@Int.fdiv_eq_ediv_of_nonneg
def zIu:=@List.prefix_append
def zIv:=@List.getElem?_set_self
def zIw:=@List.getElem?_set
def zIx:=@Option.toList_some
def zIy:=@Option.getD_some
def zIz:=@List.filter_nil
def zIA:=@Int.natCast_nonneg
def zIB:=@Nat.lt_of_lt_of_le
def zIC:=@List.getElem?_set_ne
def zID:=@List.nodup_range
def zIE:=@List.pairwise_append
def zIF:=@List.pairwise_cons
def zIG:=@List.flatMap_cons
def zIH:=@List.flatMap_nil
def zII:=@List.count_append
def zIJ:=@List.count_nil
def zIK:=@List.perm_append_comm
def zIL:=@List.flatMap_eq_nil_iff
def zIM:=@Int.le_trans
def zIN:=@List.flatMap_singleton
def zIO:=@List.Perm.append_left
def zIP:=@Bool.or_false
def zIQ:=@List.set_append_right
def zIR:=@List.getElem?_eq_none
def zIS:=@Array.getElem?_eq_getElem
def zIT:=@Array.all_eq_true_iff_forall_mem
def zIU:=@Classical.not_forall
def zIV:=@List.perm_append_right_iff
def zIW:=@Bool.or_assoc
def zIX:=@List.drop_left
namespace Sx
inductive Ty where
 |c|u|p (a b:Ty)|ar (n:Nat) (t:Ty)
 deriving DecidableEq
def Ty.size:Ty→Nat
 | .c=>1| .u=>0| .p a b=>a.size+b.size| .ar n t=>n*t.size
def Ty.off(t:Ty)(r:List Nat):Option (Nat×Ty):=match r with
 |[]=>some (0,t)
 |k::r=>match t with
  | .p a b=>match k with
   |0=>a.off r
   |k+1=>(b.off (k::r)).map fun x=>(a.size+x.1,x.2)
  | .ar n t=>if k<n then(t.off r).map fun x=>(k*t.size+x.1,x.2)else none
  |_=>none
inductive D where
 |z (k:IntKind) (x:Int)|bo (x:Bool)|st (x:ByteArray)|np|nf|ni|nm
 |ic (t:TypeId) (x:D)
 |sl (n:Nat) (t:Ty) (f:Nat→D)
 |un|pr (a b:D)|ar (n:Nat) (t:Ty) (f:Nat→D)
def D.shape:D→Ty
 | .un=>.u| .pr a b=>.p a.shape b.shape| .ar n t _=>.ar n t|_=>.c
def D.agg:D→Bool
 | .un| .pr .. | .ar .. =>true|_=>false
abbrev Ro:=Nat→Option (List Value)
def Ro.le(r r':Ro):Prop:=∀b row,r b=some row→∃row',r' b=some row'∧row<+:row'
def zcB:IntKind→Nat
 | .i8=>127| .i16=>32767| .i32=>2147483647| .i64=>9223372036854775807| .u8=>255| .u16=>65535| .u32=>4294967295| .u64=>18446744073709551615
def inK(k:IntKind):Int→Bool
 | .ofNat n=>Nat.ble n (zcB k)
 | .negSucc n=>k.signed&&Nat.ble n (zcB k)
def zbg(ro:Ro):D→List Value→Prop
 | .z k x,cs=>cs=[.int k x]∧inK k x=true
 | .bo x,cs=>cs=[.bool x]
 | .st x,cs=>cs=[.string x]
 | .np,cs=>cs=[.pointer none]
 | .nf,cs=>cs=[.nilFunc]
 | .ni,cs=>cs=[.nilIface]
 | .nm,cs=>cs=[.map none]
 | .ic t x,cs=>∃v,zbg ro x [v]∧cs=[.iface t v]
 | .sl n t f,cs=>∃A c,cs=[.slice A n c]∧n≤c∧(0<n→∃blk off row,∃g:Nat→List Value,A=some ⟨blk,off,none⟩∧ro blk=some row∧
  off+n*t.size≤row.length∧∀i,i<n→(f i).shape=t∧zbg ro (f i) (g i)∧(row.drop (off+i*t.size)).take t.size=g i)
 | .un,cs=>cs=[]
 | .pr a b,cs=>∃c1 c2,cs=c1++c2∧zbg ro a c1∧zbg ro b c2
 | .ar n t f,cs=>∃g:Nat→List Value,cs=(List.range n).flatMap g∧∀i,i<n→(f i).shape=t∧zbg ro (f i) (g i)
theorem zbK{n k:Nat}{g:Nat→List Value}(h:∀i,i<n→(g i).length=k):((List.range n).flatMap g).length=n*k:=by
 induction n with
 |zero=>simp
 |succ n ih=>
  rw[zFW,zFX,zFY,ih (fun i hi=>h i (by omega))];simp[h n (by omega),zFZ]
theorem zbg.length{ro:Ro}:∀{d:D} {cs:List Value},zbg ro d cs→cs.length=d.shape.size
 | .z ..,_,⟨h,_⟩=>by cases h;rfl
 | .bo ..,_,h| .st ..,_,h| .np,_,h| .nf,_,h| .ni,_,h| .nm,_,h=>by cases h;rfl
 | .ic ..,_,⟨_,_,h⟩=>by cases h;rfl
 | .sl ..,_,⟨_,_,h,_⟩=>by cases h;rfl
 | .un,_,h=>by cases h;rfl
 | .pr a b,_,⟨c1,c2,h,h1,h2⟩=>by subst h;simp[D.shape,Ty.size,h1.length,h2.length]
 | .ar n t f,_,⟨g,h,hg⟩=>by subst h;exact zbK fun i hi=>by rw[(hg i hi).2.length,(hg i hi).1]
theorem zgl{l l':List Value}(h:l<+:l'){o k:Nat}(hk:o+k≤l.length):(l'.drop o).take k=(l.drop o).take k:=by obtain⟨r,rfl⟩:=h;rw[zGI,zGJ];simp[show k -(l.length - o)=0 by omega]
theorem zbg.mono{ro ro':Ro}(hle:ro.le ro'):∀{d:D} {cs:List Value},zbg ro d cs→zbg ro' d cs
 | .z ..,_,h| .bo ..,_,h| .st ..,_,h| .np,_,h| .nf,_,h| .ni,_,h| .nm,_,h| .un,_,h=>h
 | .ic ..,_,⟨v,h1,h⟩=>⟨v,h1.mono hle,h⟩
 | .pr a b,_,⟨c1,c2,h,h1,h2⟩=>⟨c1,c2,h,h1.mono hle,h2.mono hle⟩
 | .ar n t f,_,⟨g,h,hg⟩=>⟨g,h,fun i hi=>⟨(hg i hi).1,(hg i hi).2.mono hle⟩⟩
 | .sl n t f,_,⟨A,c,h,hc,hn⟩=>⟨A,c,h,hc,fun h0=>by
  obtain⟨blk,off,row,g,hA,hr,hl,hg⟩:=hn h0;obtain⟨row',hr',hp⟩:=hle _ _ hr;refine⟨blk,off,row',g,hA,hr',zFU hl hp.length_le,fun i hi=>⟨(hg i hi).1,(hg i hi).2.1.mono hle,?_⟩⟩;rw[zgl hp,(hg i hi).2.2];have:i*t.size+t.size≤n*t.size:=by rw[←zFZ];exact zGK _ hi
  omega⟩
theorem zbg.one{ro:Ro}:∀{d:D} {cs:List Value},zbg ro d cs→∀v∈cs,v.oneCell'=true
 | .z ..,_,⟨h,_⟩,v,hv=>by cases h;simp at hv;subst hv;rfl
 | .bo ..,_,h,v,hv| .st ..,_,h,v,hv| .np,_,h,v,hv| .nf,_,h,v,hv| .ni,_,h,v,hv| .nm,_,h,v,hv=>by cases h;simp at hv;subst hv;rfl
 | .ic ..,_,⟨_,_,h⟩,v,hv=>by cases h;simp at hv;subst hv;rfl
 | .sl ..,_,⟨_,_,h,_⟩,v,hv=>by cases h;simp at hv;subst hv;rfl
 | .un,_,h,v,hv=>by cases h;simp at hv
 | .pr a b,_,⟨c1,c2,h,h1,h2⟩,v,hv=>by
  subst h;rcases zF2.1 hv with hv|hv
  ·exact h1.one v hv
  ·exact h2.one v hv
 | .ar n t f,_,⟨g,h,hg⟩,v,hv=>by subst h;obtain⟨i,hi,hv⟩:=zF0.1 hv;exact(hg i (by simpa using hi)).2.one v hv
inductive Hd where
 |mr (id ver:Nat)|mq (id ver lo:Nat)|mp (id ver i:Nat)|yl (id:Nat)|sb (id:Nat) (path:List Nat) (lo n:Nat)|mo (id:Nat)|gl (g:Nat)|gm
inductive SV where
 |d (x:D)|pt (id:Nat) (path:List Nat)|el (x:D)|fn (f:Fn) (zjC:SV)|ow (id ver:Nat) (n:Nat) (t:Ty) (f:Nat→D)|pr (a b:SV)|tu (a:SV)|ob (k:Hd)|ar (n:Nat) (t:Ty) (f:Nat→SV)|fb (f:FuncId) (a:SV)
def SV.shape:SV→Ty
 | .d x=>x.shape| .pr a b=>.p a.shape b.shape| .ar n t _=>.ar n t|_=>.c
def SV.agg:SV→Bool
 | .d x=>x.agg| .pr .. | .ar .. =>true|_=>false
inductive BO where
 |row (ver:Nat) (b:Option Nat) (n c s:Nat)|loop (l:Nat)|map (r:Nat)|dead
def BO.blk:BO→Option Nat
 | .row _ b .. =>b| .loop l=>some l| .map r=>some r| .dead=>none
def BO.le(x y:BO):Prop:=x=y∨∃v b n c s v' b' n' c' s',x=.row v b n c s∧y=.row v' b' n' c' s'∧v<v'
def zgW(b:Option Nat):Option Addr:=b.map fun k=>⟨k,0,none⟩
structure Bl where
 b:List (Nat×Ty)
 t:List (Option Nat×Nat×Nat)
 o:List BO
 k:List Nat
 g:Nat
def Bl.tl(bl:Bl):Nat→Option (Option Nat×Nat×Nat)
 |0=>some (none,0,0)
 |k+1=>bl.t[k]?
def zBz(ro:Ro)(n:Nat)(t:Ty)(e:Option Nat×Nat×Nat)(x:Value):Prop:=
 (∃A,x=.slice A n n)∨∃blk off row c,e.1=some blk∧x=.slice (some ⟨blk,off,none⟩) n c∧ro blk=some row∧row.length=off+n*t.size∧off+c*t.size=e.2.2
def zgv(bl:Bl):Hd→Value→Prop
 | .mr id ver,x=>x.oneCell'=true∧∃v b n c s,bl.o[id]?=some (.row v b n c s)∧ver≤v∧(ver=v→x=.slice (zgW b) n c)
 | .mq id ver lo,x=>x.oneCell'=true∧∃v b n c s,bl.o[id]?=some (.row v b n c s)∧ver≤v∧(ver=v→lo≤n∧x=sliced (zgW b) lo n c s)
 | .mp id ver i,x=>x.oneCell'=true∧∃v b n c s,bl.o[id]?=some (.row v b n c s)∧ver≤v∧(ver=v→i<n∧∃k,b=some k∧x=.pointer (some ⟨k,i*s,none⟩))
 | .yl id,x=>∃l,bl.o[id]?=some (.loop l)∧x=.func (.yield l) #[] #[]
 | .sb id path lo n,x=>∃blk t o c t',bl.b[id]?=some (blk,t)∧t.off path=some (o,.ar c t')∧lo+n≤c∧∃A cap,x=.slice A n cap∧n≤cap∧(0<n→A=some ⟨blk,o+lo*t'.size,none⟩)
 | .mo id,x=>∃r,bl.o[id]?=some (.map r)∧x=.map (some r)
 | .gl g,x=>x=.pointer (some ⟨g,0,none⟩)
 | .gm,x=>x=.map (some bl.g)
def zb5(ro:Ro)(bl:Bl):SV→List Value→Prop
 | .d x,cs=>zbg ro x cs
 | .pt id path,cs=>∃blk t o t',bl.b[id]?=some (blk,t)∧t.off path=some (o,t')∧cs=[.pointer (some ⟨blk,o,none⟩)]
 | .el x,cs=>∃blk off row vs,ro blk=some row∧zbg ro x vs∧off+vs.length≤row.length∧(row.drop off).take vs.length=vs∧cs=[.pointer (some ⟨blk,off,none⟩)]
 | .fn f zjC,cs=>∃vs,zb5 ro bl zjC vs∧cs=[.func f #[] vs.toArray]
 | .ow id ver n t f,cs=>∃x e,zbg ro (.sl n t f) [x]∧bl.tl id=some e∧ver≤e.2.1∧(ver=e.2.1→zBz ro n t e x)∧cs=[x]
 | .pr a b,cs=>∃c1 c2,cs=c1++c2∧zb5 ro bl a c1∧zb5 ro bl b c2
 | .tu _,_=>False
 | .ob k,cs=>∃x,cs=[x]∧zgv bl k x
 | .fb f a,cs=>∃x,(zb5 ro bl a [x]∧a.agg=false)∧cs=[.func (.func f) #[x] #[]]
 | .ar n t f,cs=>∃g:Nat→List Value,cs=(List.range n).flatMap g∧∀i,i<n→(f i).shape=t∧zb5 ro bl (f i) (g i)
theorem zgv.one{bl:Bl}:∀{k:Hd} {x:Value},zgv bl k x→x.oneCell'=true
 | .mr ..,_,h| .mq ..,_,h| .mp ..,_,h=>h.1
 | .yl _,_,⟨_,_,h⟩=>by subst h;rfl
 | .sb ..,_,⟨_,_,_,_,_,_,_,_,_,_,h,_⟩=>by subst h;rfl
 | .mo _,_,⟨_,_,h⟩=>by subst h;rfl
 | .gl _,_,h| .gm,_,h=>by cases h;rfl
def zcD(ro:Ro)(bl:Bl)(v:SV)(x:Value):Prop:=(v.agg=true→∃cs,zb5 ro bl v cs∧x=.agg cs.toArray)∧(v.agg=false→zb5 ro bl v [x])
def zkz(ro:Ro)(bl:Bl):SV→List Value→Prop
 | .pr a b,vs=>∃x r,vs=x::r∧zcD ro bl a x∧zkz ro bl b r
 |_,vs=>vs=[]
def zaX(ro:Ro)(bl:Bl)(v:SV)(x:Value):Prop:=match v with
 | .tu a=>∃vs,zkz ro bl a vs∧x=.tuple vs.toArray
 |v=>zcD ro bl v x
structure Le (ro:Ro) (bl:Bl) (ro':Ro) (bl':Bl):Prop where
 r:ro.le ro'
 b:∀(id:Nat) x,bl.b[id]?=some x→bl'.b[id]?=some x
 t:∀(id:Nat) e,bl.t[id]?=some e→∃e',bl'.t[id]?=some e'∧e.2.1≤e'.2.1∧(e.2.1=e'.2.1→e'=e∧∀blk,e.1=some blk→ro' blk=ro blk)
 o:∀(id:Nat) x,bl.o[id]?=some x→∃x',bl'.o[id]?=some x'∧x.le x'
 g:bl'.g=bl.g
theorem BO.le_refl(x:BO):x.le x:=.inl rfl
theorem BO.le_trans{x y z:BO}(h:x.le y)(k:y.le z):x.le z:=by
 rcases h with rfl|⟨v,b,n,c,s,v',b',n',c',s',rfl,rfl,h⟩
 ·exact k
 ·rcases k with rfl|⟨v2,b2,n2,c2,s2,v3,b3,n3,c3,s3,e,rfl,k⟩
  ·exact .inr ⟨_,_,_,_,_,_,_,_,_,_,rfl,rfl,h⟩
  ·cases e;exact .inr ⟨_,_,_,_,_,_,_,_,_,_,rfl,rfl,Nat.lt_trans h k⟩
theorem BO.le_row{v:Nat}{b:Option Nat}{n c s:Nat}{y:BO}(h:(BO.row v b n c s).le y):∃v' b' n' c' s',y=.row v' b' n' c' s'∧v≤v'∧(v=v'→b=b'∧n=n'∧c=c'∧s=s'):=by
 rcases h with rfl|⟨v1,b1,n1,c1,s1,v',b',n',c',s',e,rfl,h⟩
 ·exact⟨_,_,_,_,_,rfl,zF5 _,fun _=>⟨rfl,rfl,rfl,rfl⟩⟩
 ·cases e;exact⟨_,_,_,_,_,rfl,zGn h,fun e=>absurd e (zGL h)⟩
theorem BO.le_loop{l:Nat}{y:BO}(h:(BO.loop l).le y):y=.loop l:=by
 rcases h with rfl|⟨_,_,_,_,_,_,_,_,_,_,e,_⟩
 ·rfl
 ·cases e
theorem BO.le_map{l:Nat}{y:BO}(h:(BO.map l).le y):y=.map l:=by
 rcases h with rfl|⟨_,_,_,_,_,_,_,_,_,_,e,_⟩
 ·rfl
 ·cases e
theorem Ro.le_refl(r:Ro):r.le r:=fun _ row h=>⟨row,h,zGM _⟩
theorem Ro.le_trans{a b c:Ro}(h:a.le b)(h2:b.le c):a.le c:=fun x row hr=>by obtain⟨r1,h1,p1⟩:=h x row hr;obtain⟨r2,h2,p2⟩:=h2 x r1 h1;exact⟨r2,h2,p1.trans p2⟩
theorem Le.refl(ro:Ro)(bl:Bl):Le ro bl ro bl:=⟨Ro.le_refl _,fun _ _ h=>h,fun _ e h=>⟨e,h,zF5 _,fun _=>⟨rfl,fun _ _=>rfl⟩⟩,fun _ x h=>⟨x,h,x.le_refl⟩,rfl⟩
theorem Le.trans{ro ro1 ro2:Ro}{bl bl1 bl2:Bl}(h:Le ro bl ro1 bl1)(k:Le ro1 bl1 ro2 bl2):Le ro bl ro2 bl2 where
 r:=Ro.le_trans h.r k.r
 b id x hx:=k.b _ _ (h.b _ _ hx)
 t id e he:=by obtain⟨e1,h1,l1,q1⟩:=h.t id e he;obtain⟨e2,h2,l2,q2⟩:=k.t id e1 h1;refine⟨e2,h2,zFU l1 l2,fun hq=>?_⟩;obtain⟨a1,b1⟩:=q1 (by omega);subst a1;obtain⟨a2,b2⟩:=q2 (by omega);exact⟨a2,fun blk hb=>(b2 blk hb).trans (b1 blk hb)⟩
 o id x hx:=by obtain⟨y,hy,h1⟩:=h.o id x hx;obtain⟨z,hz,h2⟩:=k.o id y hy;exact⟨z,hz,BO.le_trans h1 h2⟩
 g:=k.g.trans h.g
theorem Le.row{ro ro':Ro}{bl bl':Bl}(h:Le ro bl ro' bl'){id v:Nat}{b:Option Nat}{n c s:Nat}(hx:bl.o[id]?=some (.row v b n c s)):
 ∃v' b' n' c' s',bl'.o[id]?=some (.row v' b' n' c' s')∧v≤v'∧(v=v'→b=b'∧n=n'∧c=c'∧s=s'):=by
 obtain⟨y,hy,hl⟩:=h.o id _ hx;obtain⟨v',b',n',c',s',rfl,h1,h2⟩:=BO.le_row hl;exact⟨_,_,_,_,_,hy,h1,h2⟩
theorem zgv.mono{ro ro':Ro}{bl bl':Bl}(hl:Le ro bl ro' bl'):∀{k:Hd} {x:Value},zgv bl k x→zgv bl' k x
 | .mr ..,_,⟨h0,v,b,n,c,s,h1,h2,h3⟩=>by obtain⟨v',b',n',c',s',k1,k2,k3⟩:=hl.row h1;refine⟨h0,v',b',n',c',s',k1,zFU h2 k2,fun e=>?_⟩;obtain⟨rfl,rfl,rfl,rfl⟩:=k3 (by omega);exact h3 (by omega)
 | .mq ..,_,⟨h0,v,b,n,c,s,h1,h2,h3⟩=>by obtain⟨v',b',n',c',s',k1,k2,k3⟩:=hl.row h1;refine⟨h0,v',b',n',c',s',k1,zFU h2 k2,fun e=>?_⟩;obtain⟨rfl,rfl,rfl,rfl⟩:=k3 (by omega);exact h3 (by omega)
 | .mp ..,_,⟨h0,v,b,n,c,s,h1,h2,h3⟩=>by obtain⟨v',b',n',c',s',k1,k2,k3⟩:=hl.row h1;refine⟨h0,v',b',n',c',s',k1,zFU h2 k2,fun e=>?_⟩;obtain⟨rfl,rfl,rfl,rfl⟩:=k3 (by omega);exact h3 (by omega)
 | .yl id,_,⟨l,h1,h2⟩=>by obtain⟨y,hy,h3⟩:=hl.o id _ h1;cases BO.le_loop h3;exact⟨l,hy,h2⟩
 | .sb ..,_,⟨blk,t,o,c,t',h1,h2⟩=>⟨blk,t,o,c,t',hl.b _ _ h1,h2⟩
 | .mo id,_,⟨l,h1,h2⟩=>by obtain⟨y,hy,h3⟩:=hl.o id _ h1;cases BO.le_map h3;exact⟨l,hy,h2⟩
 | .gl _,_,h=>h
 | .gm,_,h=>by unfold zgv at h ⊢;rw[hl.g];exact h
theorem Le.tl{ro ro':Ro}{bl bl':Bl}(h:Le ro bl ro' bl'):∀{id:Nat} {e},bl.tl id=some e→∃e',bl'.tl id=some e'∧e.2.1≤e'.2.1∧(e.2.1=e'.2.1→e'=e∧∀blk,e.1=some blk→ro' blk=ro blk)
 |0,e,he=>⟨e,he,zF5 _,fun _=>⟨rfl,fun blk hb=>by cases he;cases hb⟩⟩
 |k+1,e,he=>h.t k e he
theorem zb5.mono{ro ro':Ro}{bl bl':Bl}(hl:Le ro bl ro' bl'):∀{v:SV} {cs:List Value},zb5 ro bl v cs→zb5 ro' bl' v cs
 | .d _,_,h=>zbg.mono hl.r h
 | .pt _ _,_,⟨blk,t,o,t',h,h2⟩=>⟨blk,t,o,t',hl.b _ _ h,h2⟩
 | .el _,_,⟨blk,off,row,vs,h,h2,h3,h4,h5⟩=>by obtain⟨row',h',hp⟩:=hl.r _ _ h;exact⟨blk,off,row',vs,h',h2.mono hl.r,zFU h3 hp.length_le,by rw[zgl hp h3,h4],h5⟩
 | .fn _ _,_,⟨vs,h,h2⟩=>⟨vs,h.mono hl,h2⟩
 | .ow id ver n t f,_,⟨x,e,h1,h2,h3,h4,h5⟩=>by
  obtain⟨e',h',l',q'⟩:=hl.tl h2;refine⟨x,e',h1.mono hl.r,h',zFU h3 l',fun hv=>?_,h5⟩;obtain⟨a,b⟩:=q' (by omega);subst a;rcases h4 hv with h4|⟨blk,off,row,c,g1,g2,g3,g4,g5⟩
  ·exact .inl h4
  ·exact .inr ⟨blk,off,row,c,g1,g2,(b blk g1).trans g3,g4,g5⟩
 | .pr _ _,_,⟨c1,c2,h,h1,h2⟩=>⟨c1,c2,h,h1.mono hl,h2.mono hl⟩
 | .ob _,_,⟨x,h,h1⟩=>⟨x,h,h1.mono hl⟩
 | .fb _ _,_,⟨x,h,h1⟩=>⟨x,⟨h.1.mono hl,h.2⟩,h1⟩
 | .ar n t f,_,⟨g,h,hg⟩=>⟨g,h,fun i hi=>⟨(hg i hi).1,(hg i hi).2.mono hl⟩⟩
theorem zcD.mono{ro ro':Ro}{bl bl':Bl}(hl:Le ro bl ro' bl'){v:SV}{x:Value}(h:zcD ro bl v x):zcD ro' bl' v x:=
 ⟨fun ha=>let⟨cs,h1,hx⟩:=h.1 ha;⟨cs,h1.mono hl,hx⟩,fun ha=>(h.2 ha).mono hl⟩
theorem zkz.mono{ro ro':Ro}{bl bl':Bl}(hl:Le ro bl ro' bl'):∀{v:SV} {vs:List Value},zkz ro bl v vs→zkz ro' bl' v vs
 | .d _,_,h| .pt _ _,_,h| .el _,_,h| .fn _ _,_,h| .ow _ _ _ _ _,_,h| .tu _,_,h| .ob _,_,h| .fb ..,_,h| .ar ..,_,h=>h
 | .pr _ _,_,⟨x,r,h,h1,h2⟩=>⟨x,r,h,h1.mono hl,h2.mono hl⟩
theorem zaX.mono{ro ro':Ro}{bl bl':Bl}(hl:Le ro bl ro' bl'):∀{v:SV} {x:Value},zaX ro bl v x→zaX ro' bl' v x
 | .tu _,_,⟨vs,h,hx⟩=>⟨vs,h.mono hl,hx⟩
 | .d _,_,h| .pt _ _,_,h| .el _,_,h| .fn _ _,_,h| .ow _ _ _ _ _,_,h| .pr _ _,_,h| .ob _,_,h| .fb ..,_,h| .ar ..,_,h=>zcD.mono hl h
theorem zb5.length{ro:Ro}{bl:Bl}:∀{v:SV} {cs:List Value},zb5 ro bl v cs→cs.length=v.shape.size
 | .d _,_,h=>zbg.length h
 | .pt _ _,_,⟨_,_,_,_,_,_,h⟩=>by subst h;rfl
 | .el _,_,⟨_,_,_,_,_,_,_,_,h⟩=>by subst h;rfl
 | .fn _ _,_,⟨_,_,h⟩=>by subst h;rfl
 | .ow _ _ _ _ _,_,⟨_,_,_,_,_,_,h⟩=>by subst h;rfl
 | .pr _ _,_,⟨c1,c2,h,h1,h2⟩=>by subst h;simp[SV.shape,Ty.size,h1.length,h2.length]
 | .ob _,_,⟨_,h,_⟩=>by subst h;rfl
 | .fb _ _,_,⟨_,_,h⟩=>by subst h;rfl
 | .ar n t f,_,⟨g,h,hg⟩=>by subst h;exact zbK fun i hi=>by rw[(hg i hi).2.length,(hg i hi).1]
theorem zb5.one{ro:Ro}{bl:Bl}:∀{v:SV} {cs:List Value},zb5 ro bl v cs→∀x∈cs,x.oneCell'=true
 | .d _,_,h,x,hx=>zbg.one h x hx
 | .pt _ _,_,⟨_,_,_,_,_,_,h⟩,x,hx=>by subst h;simp at hx;subst hx;rfl
 | .el _,_,⟨_,_,_,_,_,_,_,_,h⟩,x,hx=>by subst h;simp at hx;subst hx;rfl
 | .fn _ _,_,⟨_,_,h⟩,x,hx=>by subst h;simp at hx;subst hx;rfl
 | .ow _ _ _ _ _,_,⟨_,_,h1,_,_,_,h⟩,x,hx=>by subst h;exact h1.one x hx
 | .pr _ _,_,⟨c1,c2,h,h1,h2⟩,x,hx=>by
  subst h;rcases zF2.1 hx with hx|hx
  ·exact h1.one x hx
  ·exact h2.one x hx
 | .ob _,_,⟨y,h,h1⟩,x,hx=>by subst h;simp at hx;subst hx;exact h1.one
 | .fb _ _,_,⟨_,_,h⟩,x,hx=>by subst h;simp at hx;subst hx;rfl
 | .ar n t f,_,⟨g,h,hg⟩,x,hx=>by subst h;obtain⟨i,hi,hx⟩:=zF0.1 hx;exact(hg i (by simpa using hi)).2.one x hx
theorem zcD.cells{ro:Ro}{bl:Bl}{v:SV}{x:Value}(h:zcD ro bl v x):zb5 ro bl v x.cells.toList:=by
 cases ha:v.agg with
 |true=>obtain⟨cs,hc,rfl⟩:=h.1 ha;simpa[Value.cells]using hc
 |false=>
  have h:=h.2 ha;have h1:=h.one x (by simp);have hx:x.cells.toList=[x]:=by cases x<;>first|rfl|(simp[Value.oneCell']at h1)
  rw[hx];exact h
theorem zaX.cells{ro:Ro}{bl:Bl}:∀{v:SV} {x:Value},zaX ro bl v x→(∀a,v≠.tu a)→zb5 ro bl v x.cells.toList
 | .tu a,_,_,ht=>absurd rfl (ht a)
 | .d _,_,h,_| .pt _ _,_,h,_| .el _,_,h,_| .fn _ _,_,h,_| .ow _ _ _ _ _,_,h,_| .pr _ _,_,h,_| .ob _,_,h,_| .fb ..,_,h,_| .ar ..,_,h,_=>zcD.cells h
theorem SV.shape_c:∀{v:SV},v.agg=false→v.shape=.c
 | .d x,h=>by cases x<;>first|rfl|(simp[SV.agg,D.agg]at h)
 | .pr _ _,h| .ar ..,h=>by simp[SV.agg]at h
 | .pt _ _,_| .el _,_| .fn _ _,_| .ow _ _ _ _ _,_| .tu _,_| .ob _,_| .fb _ _,_=>rfl
theorem zcD.of_cells{ro:Ro}{bl:Bl}{v:SV}{cs:List Value}(h:zb5 ro bl v cs):zcD ro bl v (if v.agg then .agg cs.toArray else cs.headD undef):=by
 refine⟨fun ha=>⟨cs,h,by simp[ha]⟩,fun ha=>?_⟩;have hl:=h.length;rw[SV.shape_c ha]at hl
 match cs,hl with
 |[x],_=>simpa[ha]using h
theorem zcD.v{ro:Ro}{bl:Bl}:∀{v:SV} {x:Value},zcD ro bl v x→zaX ro bl v x
 | .tu _,_,h=>(h.2 rfl).elim
 | .d _,_,h| .pt _ _,_,h| .el _,_,h| .fn _ _,_,h| .ow _ _ _ _ _,_,h| .pr _ _,_,h| .ob _,_,h| .fb ..,_,h| .ar ..,_,h=>h
theorem zaX.a{ro:Ro}{bl:Bl}:∀{v:SV} {x:Value},zaX ro bl v x→(∀a,v≠.tu a)→zcD ro bl v x
 | .tu a,_,_,ht=>absurd rfl (ht a)
 | .d _,_,h,_| .pt _ _,_,h,_| .el _,_,h,_| .fn _ _,_,h,_| .ow _ _ _ _ _,_,h,_| .pr _ _,_,h,_| .ob _,_,h,_| .fb ..,_,h,_| .ar ..,_,h,_=>h
def zaq{α:Type}(f:Nat→α)(i:Nat)(x:α):Nat→α:=fun j=>if j=i then x else f j
def D.nav(d:D)(r:List Nat):Option D:=match r with
 |[]=>some d
 |k::r=>match d with
  | .pr a b=>match k with
   |0=>a.nav r
   |k+1=>b.nav (k::r)
  | .ar _ _ f=>(f k).nav r
  |_=>none
def D.set(d:D)(r:List Nat)(v:D):D:=match r with
 |[]=>v
 |k::r=>match d with
  | .pr a b=>match k with
   |0=>.pr (a.set r v) b
   |k+1=>.pr a (b.set (k::r) v)
  | .ar n t f=>.ar n t (zaq f k ((f k).set r v))
  |d=>d
def D.setS(d:D)(r:List Nat)(v:SV):Option SV:=match r with
 |[]=>some v
 |k::r=>match d with
  | .pr a b=>match k with
   |0=>(a.setS r v).map fun a=>.pr a (.d b)
   |k+1=>(b.setS (k::r) v).map fun b=>.pr (.d a) b
  | .ar n t f=>((f k).setS r v).map fun x=>.ar n t (zaq (fun j=>.d (f j)) k x)
  |_=>none
def SV.nav(v:SV)(r:List Nat):Option SV:=match r with
 |[]=>some v
 |k::r=>match v with
  | .d x=>(x.nav (k::r)).map .d
  | .pr a b=>match k with
   |0=>a.nav r
   |k+1=>b.nav (k::r)
  | .ar _ _ f=>(f k).nav r
  |_=>none
def SV.set(w:SV)(r:List Nat)(v:SV):Option SV:=match r with
 |[]=>some v
 |k::r=>match w with
  | .d x=>match v with
   | .d y=>some (.d (x.set (k::r) y))
   |v=>x.setS (k::r) v
  | .pr a b=>match k with
   |0=>(a.set r v).map fun a=>.pr a b
   |k+1=>(b.set (k::r) v).map fun b=>.pr a b
  | .ar n t f=>((f k).set r v).map fun x=>.ar n t (zaq f k x)
  |_=>none
theorem zdt{n k:Nat}{g:Nat→List Value}(h:∀i,i<n→(g i).length=k){i:Nat}(hi:i<n):(((List.range n).flatMap g).drop (i*k)).take k=g i:=by
 induction n with
 |zero=>omega
 |succ n ih=>
  have hl:=zbK (n:=n) (k:=k) (g:=g) (fun j hj=>h j (by omega));rw[zFW,zFX];by_cases hin:i<n
  ·have:i*k+k≤n*k:=by rw[←zFZ];exact zGK _ hin
   rw[zGI,zGJ];rw[ih (fun j hj=>h j (by omega)) hin];simp[hl,show k -(n*k - i*k)=0 by omega]
  ·have:i=n:=by omega
   subst this;rw[zGI,zGi (by omega)];simp[hl,zGN (zGO (h i (by omega)))]
theorem zuE{n k:Nat}{g:Nat→List Value}(h:∀i,i<n→(g i).length=k){i:Nat}(hi:i<n)(x:List Value):
 ((List.range n).flatMap g).take (i*k)++x++((List.range n).flatMap g).drop (i*k+k)=(List.range n).flatMap (zaq g i x):=by
 induction n with
 |zero=>omega
 |succ n ih=>
  have hl:=zbK (n:=n) (k:=k) (g:=g) (fun j hj=>h j (by omega));rw[zFW,zFX,zFX];by_cases hin:i<n
  ·have hik:i*k+k≤n*k:=by rw[←zFZ];exact zGK _ hin
   rw[←ih (fun j hj=>h j (by omega)) hin,zGP (by omega),zGQ (by omega)];simp[zaq,show¬n=i by omega]
  ·have:i=n:=by omega
   subst this;rw[zGP (by omega),zGN (by omega),zGI,zGi (by omega)];have e:(List.range i).flatMap (zaq g i x)=(List.range i).flatMap g:=by
    rw[zGR,zGR]
    congr 1
    apply zGS;intro j hj;have:=zF1.1 hj;simp[zaq,show¬j=i by omega]
   rw[e];simp[hl,zaq,h i (by omega)]
theorem Ty.off_le:∀{t:Ty} {r:List Nat} {o:Nat} {t':Ty},t.off r=some (o,t')→o+t'.size≤t.size
 |t,[],o,t',h=>by unfold Ty.off at h;simp at h;obtain⟨rfl,rfl⟩:=h;simp
 | .c,_::_,_,_,h| .u,_::_,_,_,h=>by simp[Ty.off]at h
 | .p a b,0::r,o,t',h=>by have:=Ty.off_le (t:=a) (r:=r) h;simp[Ty.size];omega
 | .p a b,(k+1)::r,o,t',h=>by simp only[Ty.off,zGj]at h;obtain⟨x,hx,h⟩:=h;have:=Ty.off_le (t:=b) (r:=k::r) hx;cases h;simp[Ty.size];omega
 | .ar n t,i::r,o,t',h=>by
  simp only[Ty.off]at h;split at h
  ·simp only[zGj]at h;obtain⟨x,hx,h⟩:=h;have:=Ty.off_le (t:=t) (r:=r) hx;cases h;rename_i hi;have:i*t.size+t.size≤n*t.size:=by rw[←zFZ];exact zGK _ hi
   simp[Ty.size];omega
  ·cases h
theorem zbf{l:List Value}{a b o k:Nat}(h:o+k≤b):(((l.drop a).take b).drop o).take k=(l.drop (a+o)).take k:=by rw[zGT,zGU,zGV,zGW (by omega)]
theorem D.nav_rep{ro:Ro}:∀{d:D} {r:List Nat} {cs:List Value} {o:Nat} {t':Ty} {d':D},zbg ro d cs→d.shape.off r=some (o,t')→d.nav r=some d'→d'.shape=t'∧zbg ro d' ((cs.drop o).take t'.size)
 |d,[],cs,o,t',d',h,ho,hn=>by
  have hl:=h.length;have:d'=d:=by(unfold D.nav at hn;simpa using hn.symm)
  subst this;have ho':(0,d'.shape)=(o,t'):=by unfold Ty.off at ho;simpa using ho
  cases ho';refine⟨rfl,?_⟩;rw[zGX,zGN (by omega)];exact h
 | .pr a b,0::r,cs,o,t',d',⟨c1,c2,hc,h1,h2⟩,ho,hn=>by have hle:=Ty.off_le ho;simp only[D.shape,Ty.off]at ho;have hle:=Ty.off_le ho;obtain⟨hs,hr⟩:=D.nav_rep (d:=a) (r:=r) h1 ho hn;refine⟨hs,?_⟩;have hl:=h1.length;rw[hc,zGQ (by omega),zGP (by rw[zGY];omega)];exact hr
 | .pr a b,(k+1)::r,cs,o,t',d',⟨c1,c2,hc,h1,h2⟩,ho,hn=>by simp only[D.shape,Ty.off,zGj]at ho;obtain⟨x,hx,ho⟩:=ho;cases ho;obtain⟨hs,hr⟩:=D.nav_rep (d:=b) (r:=k::r) h2 hx hn;refine⟨hs,?_⟩;have hl:=h1.length;rw[hc,zGI,zGi (by omega)];simpa[hl]using hr
 | .ar n t f,i::r,cs,o,t',d',⟨g,hc,hg⟩,ho,hn=>by
  simp only[D.shape,Ty.off]at ho;split at ho
  ·rename_i hi;simp only[zGj]at ho;obtain⟨x,hx,ho⟩:=ho;cases ho;have hle:=Ty.off_le hx;obtain⟨hs,hr⟩:=D.nav_rep (d:=f i) (r:=r) (hg i hi).2 (by rw[(hg i hi).1];exact hx) hn;refine⟨hs,?_⟩;have hp:=zdt (k:=t.size) (fun j hj=>by rw[(hg j hj).2.length,(hg j hj).1]) hi;rw[←hp,←hc,zbf hle]at hr;exact hr
  ·cases ho
 | .z ..,_::_,_,_,_,_,_,_,hn| .bo ..,_::_,_,_,_,_,_,_,hn| .st ..,_::_,_,_,_,_,_,_,hn| .np,_::_,_,_,_,_,_,_,hn| .nf,_::_,_,_,_,_,_,_,hn| .ni,_::_,_,_,_,_,_,_,hn| .nm,_::_,_,_,_,_,_,_,hn
 | .ic ..,_::_,_,_,_,_,_,_,hn| .sl ..,_::_,_,_,_,_,_,_,hn| .un,_::_,_,_,_,_,_,_,hn=>by simp[D.nav]at hn
theorem zkI{n k:Nat}{g:Nat→List Value}(hk:∀j,j<n→(g j).length=k){i:Nat}(hi:i<n){o k':Nat}(ho:o+k'≤k)(vs:List Value):
 ((List.range n).flatMap g).take (i*k+o)++vs++((List.range n).flatMap g).drop (i*k+o+k')=(List.range n).flatMap (zaq g i ((g i).take o++vs++(g i).drop (o+k'))):=by
 rw[←zuE hk hi];obtain⟨cs,hc⟩:∃cs,(List.range n).flatMap g=cs:=⟨_,rfl⟩;have hp:=zdt hk hi;have hlen:cs.length=n*k:=by rw[←hc];exact zbK hk
 rw[hc]at hp ⊢;have:i*k+k≤n*k:=by rw[←zFZ];exact zGK _ hi
 have e1:cs.take (i*k+o)=cs.take (i*k)++(g i).take o:=by rw[←hp,zGZ,zGU,zGW (by omega)]
 have e2:cs.drop (i*k+o+k')=(g i).drop (o+k')++cs.drop (i*k+k):=by
  rw[←hp,zGT,zGV,←zG0];conv=>lhs;rw[←zG1 (k -(o+k')) (cs.drop (i*k+o+k'))]
  rw[zGV,show i*k+o+k'+(k -(o+k'))=i*k+k by omega]
 rw[e1,e2];simp
theorem D.set_rep{ro:Ro}:∀{d:D} {r:List Nat} {cs:List Value} {o:Nat} {t':Ty} {v:D} {vs:List Value},zbg ro d cs→d.shape.off r=some (o,t')→zbg ro v vs→v.shape=t'→
 (d.set r v).shape=d.shape∧zbg ro (d.set r v) (cs.take o++vs++cs.drop (o+t'.size))
 |d,[],cs,o,t',v,vs,h,ho,hv,hs=>by
  have hl:=h.length;have e:d.set [] v=v:=by unfold D.set;rfl
  have ho':(0,d.shape)=(o,t'):=by unfold Ty.off at ho;simpa using ho
  cases ho';rw[e];refine⟨hs,?_⟩;rw[zG2,zGi (by omega)];simpa using hv
 | .pr a b,0::r,cs,o,t',v,vs,⟨c1,c2,hc,h1,h2⟩,ho,hv,hs=>by simp only[D.shape,Ty.off]at ho;have hle:=Ty.off_le ho;obtain⟨hs',hr⟩:=D.set_rep (d:=a) (r:=r) h1 ho hv hs;have hl:=h1.length;refine⟨by simp only[D.set,D.shape,hs'],_,c2,?_,hr,h2⟩;rw[hc,zGP (by omega),zGQ (by omega)];simp
 | .pr a b,(k+1)::r,cs,o,t',v,vs,⟨c1,c2,hc,h1,h2⟩,ho,hv,hs=>by simp only[D.shape,Ty.off,zGj]at ho;obtain⟨x,hx,ho⟩:=ho;cases ho;obtain⟨hs',hr⟩:=D.set_rep (d:=b) (r:=k::r) h2 hx hv hs;have hl:=h1.length;refine⟨by simp only[D.set,D.shape,hs'],c1,_,?_,h1,hr⟩;rw[hc,zGJ,zGN (by omega),zGI,zGi (by omega)];simp[hl,zG0]
 | .ar n t f,i::r,cs,o,t',v,vs,⟨g,hc,hg⟩,ho,hv,hs=>by
  simp only[D.shape,Ty.off]at ho;split at ho
  ·rename_i hi;simp only[zGj]at ho;obtain⟨x,hx,ho⟩:=ho;cases ho;have hle:=Ty.off_le hx;obtain⟨hs',hr⟩:=D.set_rep (d:=f i) (r:=r) (hg i hi).2 (by rw[(hg i hi).1];exact hx) hv hs;have hk:∀j,j<n→(g j).length=t.size:=fun j hj=>by rw[(hg j hj).2.length,(hg j hj).1]
   refine⟨rfl,zaq g i (((g i).take x.1)++vs++(g i).drop (x.1+x.2.size)),?_,fun j hj=>?_⟩
   ·rw[hc,zkI hk hi hle]
   ·unfold zaq;split
    ·rename_i hj;subst hj;exact⟨by rw[hs',(hg j hi).1],hr⟩
    ·exact hg j hj
  ·cases ho
 | .z ..,_::_,_,_,_,_,_,_,ho,_,_| .bo ..,_::_,_,_,_,_,_,_,ho,_,_| .st ..,_::_,_,_,_,_,_,_,ho,_,_| .np,_::_,_,_,_,_,_,_,ho,_,_| .nf,_::_,_,_,_,_,_,_,ho,_,_| .ni,_::_,_,_,_,_,_,_,ho,_,_| .nm,_::_,_,_,_,_,_,_,ho,_,_
 | .ic ..,_::_,_,_,_,_,_,_,ho,_,_| .sl ..,_::_,_,_,_,_,_,_,ho,_,_| .un,_::_,_,_,_,_,_,_,ho,_,_=>by simp[D.shape,Ty.off]at ho
end Sx
end Go.Proofs.YtfbhkfhbnkncoaaGreatDoor
