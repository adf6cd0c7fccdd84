import Derived.Test.YtfbhkfhbnkncoaaGreatDoorT5
import Derived.Laws.Append
import Derived.Deep.Upon
set_option linter.all false
namespace Go.Proofs.YtfbhkfhbnkncoaaGreatDoor
open Go.RowKit
namespace Sx
variable {E:Gh} {r:Option Nat} {nn:Nat}
variable {P:Program} {tb:TT} {ro:Ro} {bl:Bl} {m:MS} {w:World}
theorem zcY{ρ:Operand→Option SV}{ev:Operand→Value}(hρ:∀x v,ρ x=some v→zaX ro bl v (ev x)):∀{l:List Operand} {vs:List SV},zeo ρ l=some vs→za5 ro bl vs (l.map ev)
 |[],vs,h=>by simp only[zeo,zGh]at h;subst h;trivial
 |x::r,vs,h=>by
  simp only[zeo]at h;split at h
  ·rename_i v c hv hc;simp only[zGh]at h;subst h;exact⟨hρ x v hv,zcY hρ hc⟩
  ·cases h
theorem za5.app:∀{a b:List SV} {xs ys:List Value},za5 ro bl a xs→za5 ro bl b ys→za5 ro bl (a++b) (xs++ys)
 |[],_,[],_,_,h=>h
 |_::_,_,_::_,_,⟨h1,h2⟩,h=>⟨h1,h2.app h⟩
 |[],_,_::_,_,h,_=>h.elim
 |_::_,_,[],_,h,_=>h.elim
theorem znr:∀{c:SV} {vs:List Value},zb5 ro bl c vs→zp0 c=true→za5 ro bl (zun c) vs
 | .d .un,_,h,_=>by cases h;trivial
 | .pr a b,_,⟨c1,c2,h,h1,h2⟩,hc=>by
  simp only[zp0,zFR]at hc;have hl:=h1.length;rw[SV.shape_c (SV.one_agg hc.1)]at hl
  match c1,hl with
  |[x],_=>
   subst h;exact⟨zcD.v ⟨(fun ha=>by rw[SV.one_agg hc.1]at ha;cases ha),fun _=>h1⟩,znr h2 hc.2⟩
 | .d (.z ..),_,_,hc| .d (.bo _),_,_,hc| .d (.st _),_,_,hc| .d .np,_,_,hc| .d .nf,_,_,hc| .d .ni,_,_,hc| .d .nm,_,_,hc| .d (.ic ..),_,_,hc| .d (.sl ..),_,_,hc| .d (.pr ..),_,_,hc| .d (.ar ..),_,_,hc
 | .pt ..,_,_,hc| .el _,_,_,hc| .fn ..,_,_,hc| .ow ..,_,_,hc| .tu _,_,_,hc| .ob _,_,_,hc| .fb ..,_,_,hc| .ar ..,_,_,hc=>by simp[zp0]at hc
theorem zxQ{k:IntKind}{x y:Int}(h:inK k x=true):inK k (zba k x y)=true:=by
 obtain⟨h1,h2,h3⟩:=zkb h;unfold zba;obtain⟨d,hd⟩:∃d:Int,(2:Int) ^(min y.toNat k.bits)=d:=⟨_,rfl⟩;have hd0:0<d:=by rw[←hd];exact Int.pow_pos (by decide)
 rw[hd,zIt _ (Int.le_of_lt hd0)];have e1:x / d*d≤x:=Int.ediv_mul_le _ (by omega);have e2:x<(x / d+1)*d:=Int.lt_ediv_add_one_mul_self _ hd0;refine zbL ?_ (fun hs=>Int.ediv_nonneg (h2 hs) (by omega)) ?_
 ·rcases(show x / d<0∨0≤x / d by omega)with hn|hn
  ·have:(x / d+1)*d≤(x / d+1)*1:=Int.mul_le_mul_of_nonpos_left (by omega) (by omega);omega
  ·omega
 ·rcases(show x / d<0∨0≤x / d by omega)with hn|hn
  ·omega
  ·have:x / d*1≤x / d*d:=Int.mul_le_mul_of_nonneg_left (by omega) hn;omega
theorem zyr{k:IntKind}{y:Int}(hk:inK k y=true)(h:∀q,zBN k y=some q→q):0≤y:=by obtain⟨_,h2,_⟩:=zkb hk;cases k<;>first|exact h2 rfl|exact h _ rfl
theorem ztb{op:BinOp}{k:IntKind}{a b:Int}{c:Int}(h:zks op k a b=some c)(ha:inK k a=true)(hb:0≤b):inK k c=true∧∀k' w,(Op.shift op k a k' b).run P w=.ok (.int k c) w:=by
 unfold zks at h;split at h
 ·cases h;exact⟨zcI _ _,fun k' w=>by simp[Op.shift,show¬b<0 by omega,zbh]⟩
 ·cases h;exact⟨zxQ ha,fun k' w=>by simp[Op.shift,show¬b<0 by omega,zba]⟩
 ·cases h
theorem zub{op:BinOp}{T:TypeId}{k:IntKind}{a b:Int}{p:Option Prop}{c:Int}(hs:zks op k a b=none)(h:zw9 op k a b=some (p,c))(hp:∀q,p=some q→q):inK k c=true∧∀w,(binOp op T (.int k a) (.int k b)).run P w=.ok (.int k c) w:=by
 have w64:∀z,I64 z→IntKind.i64.wrap z=z:=fun z hz=>zcC (zb9 hz);cases op<;>simp only[zw9,zks,reduceCtorEq]at h hs
 case add=>cases k<;>(cases h;first|exact⟨zb9 (hp _ rfl),fun w=>by simp[binOp,Op.intArith,w64 _ (hp _ rfl)]⟩|exact⟨zcI _ _,fun w=>by simp[binOp,Op.intArith]⟩)
 case sub=>cases k<;>(cases h;first|exact⟨zb9 (hp _ rfl),fun w=>by simp[binOp,Op.intArith,w64 _ (hp _ rfl)]⟩|exact⟨zcI _ _,fun w=>by simp[binOp,Op.intArith]⟩)
 case mul=>cases k<;>(cases h;first|exact⟨zb9 (hp _ rfl),fun w=>by simp[binOp,Op.intArith,w64 _ (hp _ rfl)]⟩|exact⟨zcI _ _,fun w=>by simp[binOp,Op.intArith]⟩)
 case quo=>cases h;exact⟨zcI _ _,fun w=>by simp[binOp,Op.intDiv,hp _ rfl]⟩
 case rem=>cases h;exact⟨(hp _ rfl).2,fun w=>by simp[binOp,Op.intDiv,(hp _ rfl).1]⟩
 case and=>cases h;exact⟨zcI _ _,fun w=>by simp[binOp,Op.intBits,zaC]⟩
 case or=>cases h;exact⟨zcI _ _,fun w=>by simp[binOp,Op.intBits,zaC]⟩
 case xor=>cases h;exact⟨zcI _ _,fun w=>by simp[binOp,Op.intBits,zaC]⟩
 case andNot=>cases h;exact⟨zcI _ _,fun w=>by simp[binOp,Op.intBits,zaC]⟩
abbrev FR(r:Option Nat):Fence:={Fence.wide with round:=r}
theorem zmJ{o:Oper}{a:Act}{next:Act→World→Prop}{Q:Exit→Act→World→Prop}(hd:∀c,o.op≠.defer c)(h:o.uponIn (FR r) nn P a next Q ((execOp a.eval o).run P w)):o.wpIn (FR r) nn P a w next Q:=
 ⟨fun _ _=>trivial,by rw[Oper.semAt_eq _ _ _ hd];exact h⟩
structure Goes (E:Gh) (P:Program) (ro:Ro) (bl:Bl) (w:World) (o:Oper) (a:Act) (next:Act→World→Prop) (Q:Exit→Act→World→Prop) (K:SV→MS→Prop) (Kp:D→MS→Prop):Prop where
 ok:∀ro' bl' m' w' v x,K v m'→zaX ro' bl' v x→Mem E ro' bl' m' w'→Gr ro bl w ro' bl' w'→next (a.put o.dst x) w'
 pan:∀ro' bl' m' w' d x,Kp d m'→zaX ro' bl' (.d d) x→Mem E ro' bl' m' w'→Gr ro bl w ro' bl' w'→Q (.panic [{v:=x,recovered:=false}]) a w'
theorem zfQ:zaX ro bl (.tu (.d .un)) undef:=⟨[],rfl,rfl⟩
theorem Goes.val{o:Oper}{a:Act}{next:Act→World→Prop}{Q:Exit→Act→World→Prop}{K:SV→MS→Prop}{Kp:D→MS→Prop}(g:Goes E P ro bl w o a next Q K Kp){x:Value}{w':World}{ro':Ro}{bl':Bl}{m':MS}{v:SV}
 (hr:(execOp a.eval o).run P w=.ok (.value x) w')(hK:K v m')(hx:zaX ro' bl' v x)(hM:Mem E ro' bl' m' w')(hG:Gr ro bl w ro' bl' w')(hd:∀c,o.op≠.defer c:=by intro c h;cases h):o.wpIn (FR r) nn P a w next Q:=by
 refine zmJ hd ?_;rw[hr];exact g.ok _ _ _ _ _ _ hK hx hM hG
theorem zeF{o:Oper}{a:Act}{next:Act→World→Prop}{Q:Exit→Act→World→Prop}{K:SV→MS→Prop}{Kp:D→MS→Prop}(g:Goes E P ro bl w o a next Q K Kp)(hM:Mem E ro bl m w){k:FuncId}{args:List SV}{xs:List Value}
 (hx:za5 ro bl args xs)(hr:(execOp a.eval o).run P w=.ok (.enter k xs.toArray) w)
 (h:Con P k args m fun o m'=>match o with
  | .ret v=>K v m'
  | .pan d=>Kp d m')(hd:∀c,o.op≠.defer c:=by intro c h;cases h):o.wpIn (FR r) nn P a w next Q:=by
 refine zmJ hd ?_;rw[hr];refine⟨fun h=>(by cases h),?_⟩;show CallsIn Fence.wide (nn - 1) P k xs.toArray w _;refine callsIn_wide.2 ?_;refine(h.2 E ro bl w xs hM hx).mono ?_;rintro e w' ⟨ro',bl',m',out,hM',hG,ho,hK⟩;cases out with
 |ret v=>obtain⟨x,rfl,hx⟩:=ho;exact g.ok _ _ _ _ _ _ hK hx hM' hG
 |pan d=>obtain⟨x,rfl,hx⟩:=ho;exact g.pan _ _ _ _ _ _ hK hx hM' hG
end Sx
namespace Sx
variable {E:Gh}
variable {P:Program}
theorem zfh{k:Nat}{g:Nat→List Value}{l:List Value}:∀(n:Nat),(∀i,i<n→(l.drop (i*k)).take k=g i)→l.take (n*k)=(List.range n).flatMap g
 |0,_=>by simp
 |n+1,h=>by rw[zFW,zFX,←zfh n fun i hi=>h i (by omega),zFZ,zGZ,h n (by omega)];simp
theorem zwx{ro:Ro}{bl:Bl}{m:MS}{w:World}(hM:Mem E ro bl m w){n:Nat}{t:Ty}{f:Nat→D}{y:Value}(h:zbg ro (.sl n t f) [y]):
 ∃A c news,y=.slice A n c∧n≤c∧news.length=n*t.size∧(∀i,i<n→(f i).shape=t∧zbg ro (f i) ((news.drop (i*t.size)).take t.size))∧(∀v∈news,v.oneCell'=true)∧
  (∀w',w'.heap=w.heap→(Builtin.firstCells t.size n y).run P w'=.ok news.toArray w')∧(0<n→∃blk off row,A=some ⟨blk,off,none⟩∧ro blk=some row∧off+n*t.size≤row.length∧news=(row.drop off).take (n*t.size)):=by
 obtain⟨A,c,hy,hc,hn⟩:=h;cases hy;rcases zHq n with rfl|hp
 ·refine⟨A,c,[],rfl,hc,by simp,fun i hi=>by omega,fun v hv=>by simp at hv,fun w' _=>?_,fun h=>absurd h (zH0 _)⟩;cases A with
  |none=>simp[Builtin.firstCells,loadCells,loadCellsFrom]
  |some a=>exact run_firstCells_some (P:=P) w' t.size 0 a 0 c [] (by simp) (fun j v hj=>by simp at hj)
 ·obtain⟨blk,off,row,g,rfl,hr,hl,hg⟩:=hn hp;obtain⟨cells,e,fz,hb,hpre⟩:=hM.known _ _ hr;have hlen:((row.drop off).take (n*t.size)).length=n*t.size:=by simp;omega
  have hpart:∀i,i<n→((((row.drop off).take (n*t.size)).drop (i*t.size)).take t.size)=g i:=fun i hi=>by
   have:i*t.size+t.size≤n*t.size:=by rw[←zFZ];exact zGK _ hi
   rw[zbf this];exact(hg i hi).2.2
  have hone:∀v∈(row.drop off).take (n*t.size),v.oneCell'=true:=by
   have e:(row.drop off).take (n*t.size)=(List.range n).flatMap g:=zfh n fun i hi=>by
    have h1:=hpart i hi
    rwa [zbf (by rw[←zFZ];exact zGK _ hi),←zGV]at h1
   intro v hv;rw[e]at hv;obtain⟨i,hi,hv⟩:=zF0.1 hv;exact(hg i (zF1.1 hi)).2.1.one v hv
  refine⟨_,c,(row.drop off).take (n*t.size),rfl,hc,hlen,fun i hi=>⟨(hg i hi).1,by rw[hpart i hi];exact(hg i hi).2.1⟩,hone,fun w' hw=>?_,fun _=>⟨blk,off,row,rfl,hr,hl,rfl⟩⟩;refine run_firstCells_some (P:=P) w' t.size n _ n c _ hlen fun j v hj=>?_;rw[zbA];have hb':w'.heap[blk]?=some (.cells cells e fz):=by rw[hw];exact hb
  rw[cell_of_row w' blk _ cells e fz hb'];have hlt:j<n*t.size:=by rw[←hlen];exact(zGf.1 hj).1
  rw[zIb hlt,zHy]at hj;obtain⟨r,hr'⟩:=hpre;have:cells.toList[off+j]?=some v:=by rw[←hr',zH2 (zGf.1 hj).1];exact hj
  simpa using this
theorem zog{ro:Ro}{n:Nat}{t:Ty}{f:Nat→D}{blk off c:Nat}{row cs:List Value}(hr:ro blk=some row)(hd:row.drop off=cs)(hl:cs.length=n*t.size)(ho:off≤row.length)(hc:n≤c)
 (hg:∀i,i<n→(f i).shape=t∧zbg ro (f i) ((cs.drop (i*t.size)).take t.size)):zbg ro (.sl n t f) [.slice (some ⟨blk,off,none⟩) n c]:=by
 refine⟨_,c,rfl,hc,fun _=>⟨blk,off,row,fun i=>(cs.drop (i*t.size)).take t.size,rfl,hr,?_,fun i hi=>⟨(hg i hi).1,(hg i hi).2,?_⟩⟩⟩
 ·have:=congrArg List.length hd;simp at this;omega
 ·show(row.drop (off+i*t.size)).take t.size=(cs.drop (i*t.size)).take t.size;rw[←hd,zGV]
theorem Mem.row{ro:Ro}{bl:Bl}{m:MS}{w:World}(h:Mem E ro bl m w){row cells:List Value}(hp:row<+:cells)(e:TypeId):
 Mem E (zaq ro w.heap.size (some row)) bl m (w.alloc (.cells cells.toArray e))∧Gr ro bl w (zaq ro w.heap.size (some row)) bl (w.alloc (.cells cells.toArray e)):=by
 have hk:∀b row,ro b=some row→b<w.heap.size:=fun b row hr=>by obtain⟨cl,e',fz,h1,_⟩:=h.known b row hr;exact(zIq.1 h1).1
 have hro:∀b,b<w.heap.size→(zaq ro w.heap.size (some row)) b=ro b:=fun b hb=>by unfold zaq;rw[if_neg (by omega)]
 have hle:Le ro bl (zaq ro w.heap.size (some row)) bl:=⟨fun b r hr=>⟨r,by rw[hro b (hk b r hr)];exact hr,zGM _⟩,fun _ _ h=>h,fun id e' he=>⟨e',he,zF5 _,fun _=>⟨rfl,fun blk hb=>by
  obtain⟨r,_,_,h1,_⟩:=h.tail id e' blk he hb;exact hro blk (hk blk r h1)⟩⟩,fun _ x h=>⟨x,h,x.le_refl⟩,rfl⟩
 refine h.both ⟨h.len,h.ver,fun id blk t u hb hc=>?_,h.inj,fun id e' blk hi he=>?_,h.tinj,fun b r hr=>?_,h.olen,fun id y x hy hx=>?_,h.oinj,h.bo⟩ ⟨rfl,rfl,rfl,by simp,fun b hb _=>⟨Below.heap_alloc _ _ _ hb,hro b hb⟩,hle,fun _ h=>.inl h,rfl⟩
 ·obtain⟨cl,e',h1,h2,h3,h4⟩:=h.box id blk t u hb hc;exact⟨cl,e',(Below.heap_alloc _ _ _ (h.lt hb)).trans h1,h2.mono hle,h3,by rw[hro blk (h.lt hb)];exact h4⟩
 ·obtain⟨r,cl,ty,h1,h2,h3⟩:=h.tail id e' blk hi he;exact⟨r,cl,ty,by rw[hro blk (hk _ _ h1)];exact h1,(Below.heap_alloc _ _ _ (hk _ _ h1)).trans h2,h3⟩
 ·by_cases hb:b=w.heap.size
  ·subst hb;have:r=row:=by unfold zaq at hr;simpa using hr.symm
   subst this;exact⟨cells.toArray,e,(0,0),(by show(w.heap.push _)[w.heap.size]?=_;simp),by simpa using hp⟩
  ·have hr':ro b=some r:=by unfold zaq at hr;rwa [if_neg hb]at hr
   obtain⟨cl,e',fz,h1,h2⟩:=h.known b r hr';exact⟨cl,e',fz,(Below.heap_alloc _ _ _ (hk _ _ hr')).trans h1,h2⟩
 ·exact(h.obj id y x hy hx).to hle fun b hb=>⟨Below.heap_alloc _ _ _ ((h.obj id y x hy hx).blk hb),hro b ((h.obj id y x hy hx).blk hb)⟩
def Bl.tset(bl:Bl)(k:Nat)(e:Option Nat×Nat×Nat):Bl:=⟨bl.b,bl.t.set k e,bl.o,bl.k,bl.g⟩
def Bl.tadd(bl:Bl)(e:Option Nat×Nat×Nat):Bl:=⟨bl.b,bl.t++[e],bl.o,bl.k,bl.g⟩
section
variable {ro:Ro} {bl:Bl} {m:MS} {w:World}
theorem Le.tset'(ro:Ro){bl:Bl}{k:Nat}{e:Option Nat×Nat×Nat}(hk:bl.t[k]?=some e)(e2:Option Nat×Nat×Nat)(hlt:e.2.1<e2.2.1){ro':Ro}(hr:ro.le ro')(ht:∀(i:Nat) e' b,i≠k→bl.t[i]?=some e'→e'.1=some b→ro' b=ro b):Le ro bl ro' (bl.tset k e2):=⟨hr,fun _ _ h=>h,fun id e' he=>by
 by_cases hi:id=k
 ·subst hi;rw[hk]at he;cases he;exact⟨e2,zec hk,zGn hlt,fun h=>absurd h (zGL hlt)⟩
 ·exact⟨e',zj8 he hi,zF5 _,fun _=>⟨rfl,fun b hb=>ht id e' b hi he hb⟩⟩,fun _ x h=>⟨x,h,x.le_refl⟩,rfl⟩
theorem Le.tset(ro:Ro){bl:Bl}{k:Nat}{e:Option Nat×Nat×Nat}(hk:bl.t[k]?=some e)(e2:Option Nat×Nat×Nat)(hlt:e.2.1<e2.2.1):Le ro bl ro (bl.tset k e2):=Le.tset' ro hk e2 hlt (Ro.le_refl _) fun _ _ _ _ _ _=>rfl
theorem Le.tadd(ro:Ro)(bl:Bl)(e:Option Nat×Nat×Nat):Le ro bl ro (bl.tadd e):=⟨Ro.le_refl _,fun _ _ h=>h,fun id e' he=>⟨e',zhk he,zF5 _,fun _=>⟨rfl,fun _ _=>rfl⟩⟩,fun _ x h=>⟨x,h,x.le_refl⟩,rfl⟩
theorem Mem.tset(h:Mem E ro bl m w){k:Nat}{e:Option Nat×Nat×Nat}(hk:bl.t[k]?=some e){b:Option Nat}{sz:Nat}(hb:∀blk,b=some blk→∃row cells ty,ro blk=some row∧w.heap[blk]?=some (.cells cells ty (0,0))∧cells.size=sz)
 (hn:∀i e blk,bl.t[i]?=some e→e.1=some blk→b=some blk→i=k)(hgh:E.Y ro (bl.tset k (b,e.2.1+1,sz)).has w)(hgn:¬(bl.tset k (b,e.2.1+1,sz)).hb 0∧¬(bl.tset k (b,e.2.1+1,sz)).hb bl.g):Mem E ro (bl.tset k (b,e.2.1+1,sz)) ⟨m.c,m.t.set k (e.2.1+1),m.o⟩ w∧Le ro bl ro (bl.tset k (b,e.2.1+1,sz)):=by
 have hle:Le ro bl ro (bl.tset k (b,e.2.1+1,sz)):=Le.tset ro hk _ (zF9 _);refine⟨⟨⟨h.len,by show(bl.t.set k _).map _=_;rw[List.map_set,h.ver],fun id blk t u hb' hc=>?_,h.inj,fun id e' blk hi he=>?_,fun i j e1 e2 blk h1 h2 h3 h4=>?_,h.known,h.olen,fun id y x hy hx=>(h.obj id y x hy hx).to hle fun _ _=>⟨rfl,rfl⟩,h.oinj,h.bo⟩,hgh,h.glob,hgn,h.marks⟩,hle⟩
 ·obtain⟨cl,e',h1,h2,h3⟩:=h.box id blk t u hb' hc;exact⟨cl,e',h1,h2.mono hle,h3⟩
 ·rcases zb1 hi with⟨rfl,rfl⟩|⟨_,hi⟩
  ·exact hb blk he
  ·exact h.tail id e' blk hi he
 ·rcases zb1 h1 with⟨rfl,rfl⟩|⟨n1,g1⟩<;>rcases zb1 h2 with⟨rfl,rfl⟩|⟨n2,g2⟩
  ·rfl
  ·exact absurd (hn _ _ _ g2 h4 h3) n2
  ·exact absurd (hn _ _ _ g1 h3 h4) n1
  ·exact h.tinj i j e1 e2 blk g1 g2 h3 h4
theorem Mem.tadd(h:Mem E ro bl m w){b:Option Nat}{sz:Nat}(hb:∀blk,b=some blk→∃row cells ty,ro blk=some row∧w.heap[blk]?=some (.cells cells ty (0,0))∧cells.size=sz)
 (hn:∀(i:Nat) e blk,bl.t[i]?=some e→e.1=some blk→b≠some blk)(hgh:E.Y ro (bl.tadd (b,0,sz)).has w)(hgn:¬(bl.tadd (b,0,sz)).hb 0∧¬(bl.tadd (b,0,sz)).hb bl.g):Mem E ro (bl.tadd (b,0,sz)) ⟨m.c,m.t++[0],m.o⟩ w∧Le ro bl ro (bl.tadd (b,0,sz)):=by
 have hle:Le ro bl ro (bl.tadd (b,0,sz)):=Le.tadd ro bl _;refine⟨⟨⟨h.len,by show(bl.t++_).map _=_;rw[zF6,h.ver];rfl,fun id blk t u hb' hc=>?_,h.inj,fun id e' blk hi he=>?_,fun i j e1 e2 blk h1 h2 h3 h4=>?_,h.known,h.olen,fun id y x hy hx=>(h.obj id y x hy hx).to hle fun _ _=>⟨rfl,rfl⟩,h.oinj,h.bo⟩,hgh,h.glob,hgn,h.marks⟩,hle⟩
 ·obtain⟨cl,e',h1,h2,h3⟩:=h.box id blk t u hb' hc;exact⟨cl,e',h1,h2.mono hle,h3⟩
 ·rcases zbB hi with⟨rfl,rfl⟩|hi
  ·exact hb blk he
  ·exact h.tail id e' blk hi he
 ·rcases zbB h1 with⟨rfl,rfl⟩|g1<;>rcases zbB h2 with⟨rfl,rfl⟩|g2
  ·rfl
  ·exact absurd h3 (hn _ _ _ g2 h4)
  ·exact absurd h4 (hn _ _ _ g1 h3)
  ·exact h.tinj i j e1 e2 blk g1 g2 h3 h4
theorem Gr.turn{ro':Ro}{bl2:Bl}{w':World}(g:Gr ro bl w ro' bl w')(hle:Le ro' bl ro' bl2)(hb:bl2.b=bl.b)(hn:∀(id:Nat) e blk,bl2.t[id]?=some e→e.1=some blk→(∃e0,bl.t[id]?=some e0∧e0.1=some blk)∨w.heap.size≤blk)(hk:bl2.k=bl.k:=by rfl)(ho:bl2.o=bl.o:=by rfl):Gr ro bl w ro' bl2 w':=
 ⟨g.os,g.tape,g.output,g.size,g.old,g.le.trans hle,fun b hx=>by
  rcases hx with⟨id,x,hx,e⟩|⟨id,x,hx,e⟩|⟨id,x,hx,e⟩
  ·exact .inl (.inl ⟨id,x,by rw[←hb];exact hx,e⟩)
  ·rcases hn id x b hx e with⟨e0,h1,h2⟩|h1
   ·exact .inl (.inr (.inl ⟨id,e0,h1,h2⟩))
   ·exact .inr h1
  ·exact .inl (.inr (.inr ⟨id,x,by rw[←ho];exact hx,e⟩)),hk⟩
theorem Mem.more(h:Mem E ro bl m w){k blk sz:Nat}{ver:Nat}(hk:bl.t[k]?=some (some blk,ver,sz)){row news:List Value}(hr:ro blk=some row){cells cells':Array Value}{ty:TypeId}(hc:w.heap[blk]?=some (.cells cells ty (0,0)))(hs:cells'.size=sz)(hp:row++news<+:cells'.toList):
 Mem E (zaq ro blk (some (row++news))) (bl.tset k (some blk,ver+1,sz)) ⟨m.c,m.t.set k (ver+1),m.o⟩ (w.setRow blk cells')∧Gr ro bl w (zaq ro blk (some (row++news))) (bl.tset k (some blk,ver+1,sz)) (w.setRow blk cells'):=by
 have hro:∀b,b≠blk→(zaq ro blk (some (row++news))) b=ro b:=fun b hb=>by unfold zaq;rw[if_neg hb]
 have hself:(zaq ro blk (some (row++news))) blk=some (row++news):=by unfold zaq;rw[if_pos rfl]
 have hother:∀(i:Nat) e b,i≠k→bl.t[i]?=some e→e.1=some b→b≠blk:=fun i e b hi he hb e'=>hi (by subst e';exact h.tinj _ _ _ _ _ he hk hb rfl);have hle:Le ro bl (zaq ro blk (some (row++news))) (bl.tset k (some blk,ver+1,sz)):=Le.tset' ro hk _ (zF9 _) (fun b r hb=>by
  by_cases e:b=blk
  ·subst e;rw[hr]at hb;cases hb;exact⟨_,hself,zIu _ _⟩
  ·exact⟨r,by rw[hro b e];exact hb,zGM _⟩) fun i e b hi he hb=>hro b (hother i e b hi he hb)
 have hbox:∀(id b:Nat) t,bl.b[id]?=some (b,t)→b≠blk:=fun id b t hb e=>by subst e;rw[h.box_none hb]at hr;cases hr
 have hobj:∀(id b:Nat) y,bl.o[id]?=some y→y.blk=some b→b≠blk:=fun id b y hy hb e=>by subst e;rw[h.obj_none hy hb]at hr;cases hr
 refine h.both ⟨h.len,by show(bl.t.set k _).map _=_;rw[List.map_set,h.ver],fun id b t u hb' hcc=>?_,h.inj,fun id e' b hi he=>?_,fun i j e1 e2 b h1 h2 h3 h4=>?_,fun b r hb=>?_,h.olen,fun id y x hy hx=>(h.obj id y x hy hx).to hle fun b hb=>⟨setRow_other _ _ _ _ (hobj id b y hy hb),hro b (hobj id b y hy hb)⟩,h.oinj,h.bo⟩ ⟨rfl,rfl,rfl,by simp,fun b _ ht=>?_,hle,fun b hx=>?_,rfl⟩
 ·obtain⟨cl,e',h1,h2,h3,h4⟩:=h.box id b t u hb' hcc;exact⟨cl,e',(setRow_other _ _ _ _ (hbox _ _ _ hb')).trans h1,h2.mono hle,h3,by rw[hro b (hbox _ _ _ hb')];exact h4⟩
 ·rcases zb1 hi with⟨rfl,rfl⟩|⟨n1,hi⟩
  ·cases he;exact⟨_,cells',ty,hself,setRow_heap _ _ _ _ _ _ hc,hs⟩
  ·obtain⟨r,cl,ty',h1,h2,h3⟩:=h.tail id e' b hi he;have hne:=hother id e' b n1 hi he;exact⟨r,cl,ty',by rw[hro b hne];exact h1,(setRow_other _ _ _ _ hne).trans h2,h3⟩
 ·rcases zb1 h1 with⟨rfl,rfl⟩|⟨n1,g1⟩<;>rcases zb1 h2 with⟨rfl,rfl⟩|⟨n2,g2⟩
  ·rfl
  ·exact absurd (zH1 (h3.symm)) (hother _ _ _ n2 g2 h4)
  ·exact absurd (zH1 (h4.symm)) (hother _ _ _ n1 g1 h3)
  ·exact h.tinj i j e1 e2 b g1 g2 h3 h4
 ·by_cases e:b=blk
  ·subst e;rw[hself]at hb;cases hb;exact⟨cells',ty,(0,0),setRow_heap _ _ _ _ _ _ hc,hp⟩
  ·rw[hro b e]at hb;obtain⟨cl,e',fz,h1,h2⟩:=h.known b r hb;exact⟨cl,e',fz,(setRow_other _ _ _ _ e).trans h1,h2⟩
 ·have hne:b≠blk:=fun e=>ht (Bl.hb_t hk (by rw[e]));exact⟨setRow_other _ _ _ _ hne,hro b hne⟩
 ·rcases hx with hx|⟨id,x,hx,e⟩|hx
  ·exact .inl (.inl hx)
  ·rcases zb1 hx with⟨rfl,rfl⟩|⟨_,hx⟩
   ·exact .inl (Bl.hb_t hk e)
   ·exact .inl (Bl.hb_t hx e)
  ·exact .inl (.inr (.inr hx))
end
end Sx
namespace Sx
variable {E:Gh}
variable {P:Program} {tb:TT}
theorem zlY{ro:Ro}{n n':Nat}{t:Ty}{f f':Nat→D}{olds news:List Value}(ho:olds.length=n*t.size)(hn:news.length=n'*t.size)(h1:∀i,i<n→(f i).shape=t∧zbg ro (f i) ((olds.drop (i*t.size)).take t.size))
 (h2:∀i,i<n'→(f' i).shape=t∧zbg ro (f' i) ((news.drop (i*t.size)).take t.size)):∀i,i<n+n'→(zdc n f f' i).shape=t∧zbg ro (zdc n f f' i) (((olds++news).drop (i*t.size)).take t.size):=fun i hi=>by
 unfold zdc;rcases zGc i n with h|h
 ·rw[show Nat.blt i n=true from zHN h];have:i*t.size+t.size≤n*t.size:=by rw[←zFZ];exact zGK _ h
  rw[zGQ (by omega),zGP (by rw[zGY];omega)];exact h1 i h
 ·have hb:Nat.blt i n=false:=by
   cases hb:Nat.blt i n with
   |false=>rfl
   |true=>have:=zFG hb;omega
  rw[hb];have e:i*t.size=n*t.size+(i - n)*t.size:=by rw[←zG8,show n+(i - n)=i by omega]
  rw[zGI,zGi (by omega),zG4,show i*t.size - olds.length=(i - n)*t.size by omega];exact h2 (i - n) (by omega)
theorem ztg{ro:Ro}{bl:Bl}{m:MS}{w:World}(hM:Mem E ro bl m w){T e:TypeId}(hT:P.underlying T=some (.slice e)){n:Nat}{t:Ty}{f:Nat→D}{y:Value}(h:zbg ro (.sl n t f) [y]):
 ∃news,Src P t.size T y n news w∧news.length=n*t.size∧(∀i,i<n→(f i).shape=t∧zbg ro (f i) ((news.drop (i*t.size)).take t.size)):=by
 obtain⟨A,c,news,rfl,_,hl,hp,h1,hc,_⟩:=zwx (P:=P) hM h;exact⟨news,⟨.inl ⟨e,hT⟩,fun _=>rfl,hc _ rfl,hc _ rfl,hl,h1⟩,hl,hp⟩
theorem zhy{ro ro':Ro}(hle:ro.le ro'){n:Nat}{t:Ty}{f:Nat→D}{g:Nat→List Value}(h:∀i,i<n→(f i).shape=t∧zbg ro (f i) (g i)):∀i,i<n→(f i).shape=t∧zbg ro' (f i) (g i):=fun i hi=>⟨(h i hi).1,(h i hi).2.mono hle⟩
theorem zbg.congr{ro:Ro}{n:Nat}{t:Ty}{f g:Nat→D}{cs:List Value}(h:zbg ro (.sl n t f) cs)(hfg:∀i,i<n→g i=f i):zbg ro (.sl n t g) cs:=by obtain⟨A,c,h1,h2,h3⟩:=h;refine⟨A,c,h1,h2,fun hp=>?_⟩;obtain⟨blk,off,row,q,k1,k2,k3,k4⟩:=h3 hp;exact⟨blk,off,row,q,k1,k2,k3,fun i hi=>by rw[hfg i hi];exact k4 i hi⟩
theorem zbg.sl_any{ro:Ro}{t t':Ty}{f f':Nat→D}{cs:List Value}(h:zbg ro (.sl 0 t f) cs):zbg ro (.sl 0 t' f') cs:=by obtain⟨A,c,h1,h2,_⟩:=h;exact⟨A,c,h1,h2,fun h=>absurd h (zH0 _)⟩
theorem zs7{ro:Ro}{bl:Bl}{m:MS}{w ro' w'}(hM:Mem E ro bl m w)(hM':Mem E ro' bl m w')(hG:Gr ro bl w ro' bl w'){id ver:Nat}(hv:zAi m.t id=some ver){N:Nat}{t:Ty}{F:Nat→D}{v:Value}(hr:zbg ro' (.sl N t F) [v])
 {b:Option Nat}{sz:Nat}(hb:∀blk,b=some blk→w.heap.size≤blk∧∃row cells ty,ro' blk=some row∧w'.heap[blk]?=some (.cells cells ty (0,0))∧cells.size=sz)(hT:∀k,zBz ro' N t (b,k,sz) v):
 ∃bl',zaX ro' bl' (.ow (zBB m id) (zt7 id ver) N t F) v∧Mem E ro' bl' ⟨m.c,apT m id ver,m.o⟩ w'∧Gr ro bl w ro' bl' w':=by
 have hlt:∀(i:Nat) e blk,bl.t[i]?=some e→e.1=some blk→blk<w.heap.size:=fun i e blk h1 h2=>by obtain⟨_,_,_,_,h3,_⟩:=hM.tail i e blk h1 h2;exact(zIq.1 h3).1
 have hlen:bl.t.length=m.t.length:=by have:=congrArg List.length hM.ver;simpa using this
 cases id with
 |zero=>
  have hn:∀(i:Nat) e blk,bl.t[i]?=some e→e.1=some blk→b≠some blk:=fun i e blk h1 h2 h3=>by have:=hlt i e blk h1 h2;have:=(hb blk h3).1;omega
  have hG2:Gr ro bl w ro' (bl.tadd (b,0,sz)) w':=hG.turn (Le.tadd ro' bl _) rfl fun id e blk he hbk=>by
   rcases zbB he with⟨rfl,rfl⟩|he
   ·exact .inr (hb blk hbk).1
   ·exact .inl ⟨e,he,hbk⟩
  obtain⟨h1,h2⟩:=hM'.tadd (b:=b) (sz:=sz) (fun blk h=>(hb blk h).2) hn (E.on hM.gh hG2.s hM'.known) (hM.gno_to hG2);refine⟨_,⟨(fun h=>by cases h),fun _=>⟨v,(b,0,sz),hr,?_,zF5 _,fun _=>hT 0,rfl⟩⟩,h1,hG2⟩;show(bl.t++[_])[m.t.length]?=_;rw[←hlen,zHY (zF5 _)];simp
 |succ k=>
  rw[zrS,←hM.ver,zHz,zGj]at hv;obtain⟨e,he,rfl⟩:=hv;have hG2:Gr ro bl w ro' (bl.tset k (b,e.2.1+1,sz)) w':=hG.turn (Le.tset ro' he _ (zF9 _)) rfl fun id e' blk he' hbk=>by
   rcases zb1 he' with⟨rfl,rfl⟩|⟨_,he'⟩
   ·exact .inr (hb blk hbk).1
   ·exact .inl ⟨e',he',hbk⟩
  obtain⟨h1,h2⟩:=hM'.tset he (b:=b) (sz:=sz) (fun blk h=>(hb blk h).2) (fun i e blk h1 h2 h3=>by have:=hlt i e blk h1 h2;have:=(hb blk h3).1;omega) (E.on hM.gh hG2.s hM'.known) (hM.gno_to hG2);refine⟨_,⟨(fun h=>by cases h),fun _=>⟨v,(b,e.2.1+1,sz),hr,?_,zF5 _,fun _=>hT _,rfl⟩⟩,by show Mem E _ _ ⟨m.c,zyp m.t k _,m.o⟩ _;rw[zlF];exact h1,hG2⟩;show(bl.t.set k _)[k]?=_;rw[zIv (zGf.1 he).1]
theorem zlZ(hP:tb.ok P){ro:Ro}{bl:Bl}{m:MS}{w:World}(hM:Mem E ro bl m w){T ty e:TypeId}(hT:P.underlying T=some (.slice e)){ie:TI}(hie:tb.get e=some ie){t:Ty}(hs:t.size=ie.size)(hzs:ie.zero.d.shape.size=ie.size){id ver n:Nat}{f:Nat→D}{x:Value}(hx:zaX ro bl (.ow id ver n t f) x)
 (hv:zAi m.t id=some ver){n':Nat}{f':Nat→D}{y:Value}(hy:zbg ro (.sl n' t f') [y])(hb:n+n'≤2147483648):
 ∃ro' bl' w' v',(Builtin.append_ #[T,T] ty #[x,y]).run P w=.ok v' w'∧zaX ro' bl' (.ow (zBB m id) (zt7 id ver) (n+n') t (zdc n f f')) v'∧Mem E ro' bl' ⟨m.c,apT m id ver,m.o⟩ w'∧Gr ro bl w ro' bl' w':=by
 obtain⟨x',en,hxc,hen,_,htl,hxx⟩:=hx.2 rfl;cases hxx;have hver:ver=en.2.1:=by
  cases id with
  |zero=>cases hen;cases hv;rfl
  |succ k=>
   rw[zrS,←hM.ver,zHz]at hv
   change bl.t[k]?=_ at hen
   rw[hen]at hv;cases hv;rfl
 have htail:=htl hver;obtain⟨A,c,olds,rfl,hnc,hol,hop,ho1,hoc,hon⟩:=zwx (P:=P) hM hxc;obtain⟨news,hsrc,hnl,hnp⟩:=ztg hM hT hy;obtain⟨hsz,⟨hk,hz,hag,hby⟩⟩:=hP _ _ hie;obtain⟨i,hi,hsi⟩:=zGj.1 hsz.1;simp only[hi,zGE,zGh]at hz hby;have hby:=zFG hby;have hits:i.size=t.size:=by rw[hs,hsi]
 have hbytes:(n+n')*i.bytes≤140737488355328:=zFU (zH9 hb hby) (by decide);have hparts:=zlY hol hnl hop hnp;have hlen:(olds++news).length=(n+n')*t.size:=by rw[zFY,hol,hnl,zG8]
 have grow:c<n+n'→∃ro' bl' w' v',(Builtin.append_ #[T,T] ty #[.slice A n c,y]).run P w=.ok v' w'∧zaX ro' bl' (.ow (zBB m id) (zt7 id ver) (n+n') t (zdc n f f')) v'∧Mem E ro' bl' ⟨m.c,apT m id ver,m.o⟩ w'∧Gr ro bl w ro' bl' w':=fun hg=>by
  have hcap:=grownCap_ge w (n+n') c e;have hr:=run_append_grow_src (P:=P) w T T ty e i _ hT hi hz A n c olds (by rw[hits];exact hoc _ rfl) y n' news (by rw[hits];exact hsrc) hg (by omega) (growslice_fits (by omega) hbytes);generalize grownCap w (n+n') c e=gc at hr hcap;have hzl:(if ie.ag then Value.agg ie.zero.cells.toArray else ie.zero.cells.headD undef).cells.size=t.size:=by
   have hc:=(zcD.of_cells (ro:=ro) (bl:=bl) (v:=.d ie.zero.d) (ie.zero.rep ro)).cells.length;rw[show(SV.d ie.zero.d).agg=ie.ag from hag]at hc;have:(SV.d ie.zero.d).shape.size=t.size:=by rw[hs];exact hzs
   rw[←this,←hc];simp
  have hpre:olds++news<+:((olds++news).toArray++Builtin.zeroCells (if ie.ag then Value.agg ie.zero.cells.toArray else ie.zero.cells.headD undef).cells (gc -(n+n'))).toList:=by simp only[zId];exact zIu _ _
  obtain⟨hM1,hG1⟩:=hM.drew.row hpre e;simp only[zIf]at hM1 hG1;have hG2:=(Gr.drew ro bl w).trans hG1;have hrow:∀r:Ro,r w.heap.size=some (olds++news)→(∀i,i<n+n'→(zdc n f f' i).shape=t∧zbg r (zdc n f f' i) (((olds++news).drop (i*t.size)).take t.size))→zbg r (.sl (n+n') t (zdc n f f')) [.slice (some ⟨w.heap.size,0,none⟩) (n+n') gc]:=fun r h1 h2=>zog (off:=0) h1 rfl hlen (zFV _) hcap h2;have hself:(zaq ro w.drew.heap.size (some (olds++news))) w.heap.size=some (olds++news):=by unfold zaq;exact if_pos rfl
  have hrep:=hrow _ hself (zhy hG1.le.r hparts);obtain⟨bl',g1,g2,g3⟩:=zs7 hM hM1 hG2 hv hrep (b:=some w.heap.size) (sz:=gc*t.size) (fun blk hbk=>by
   cases hbk;refine⟨zF5 _,olds++news,_,e,hself,heap_alloc_new w.drew _,?_⟩;rw[zIc,zH6,size_zeroCells,hzl,hlen,←zG8,show n+n'+(gc -(n+n'))=gc by omega])
   (fun k=>.inr ⟨w.heap.size,0,olds++news,gc,rfl,rfl,hself,by rw[hlen];omega,by show 0+gc*t.size=gc*t.size;omega⟩)
  exact⟨_,bl',_,_,hr,g1,g2,g3⟩
 rcases zHq n' with rfl|hp
 ·have hn0:news=[]:=zIa (by rw[hnl];omega);subst hn0;have hr:=run_append_nothing (P:=P) w T T ty e i hT hi A n c hnc y (by rw[hits];exact hsrc);have hrep:zbg ro (.sl (n+0) t (zdc n f f')) [.slice A n c]:=hxc.congr fun i hi=>by unfold zdc;rw[show Nat.blt i n=true from zHN hi];rfl
  cases id with
  |zero=>
   cases hen;have hfull:∃A',Value.slice A n c=.slice A' n n:=by
    rcases htail with h|⟨blk,off,row,c',hb1,_⟩
    ·exact h
    ·cases hb1
   obtain⟨bl',g1,g2,g3⟩:=zs7 hM hM (Gr.refl _ _ _) hv hrep (b:=none) (sz:=0) (fun blk hbk=>by cases hbk) (fun k=>.inl hfull);exact⟨_,bl',_,_,hr,g1,g2,g3⟩
  |succ k=>
   change bl.t[k]?=_ at hen
   have hG2:Gr ro bl w ro (bl.tset k (en.1,en.2.1+1,en.2.2)) w:=(Gr.refl ro bl w).turn (Le.tset ro hen _ (zF9 _)) rfl fun id' e' blk he' hbk=>by
    rcases zb1 he' with⟨rfl,rfl⟩|⟨_,he'⟩
    ·exact .inl ⟨en,hen,hbk⟩
    ·exact .inl ⟨e',he',hbk⟩
   obtain⟨h1,h2⟩:=hM.tset hen (b:=en.1) (sz:=en.2.2) (fun blk h=>hM.tail k en blk hen h) (fun i' e' blk h1 h2 h3=>hM.tinj _ _ _ _ _ h1 hen h2 h3) (E.on hM.gh hG2.s hM.known) (hM.gno_to hG2);subst hver;refine⟨ro,bl.tset k (en.1,en.2.1+1,en.2.2),w,_,hr,⟨(fun h=>by cases h),fun _=>⟨_,(en.1,en.2.1+1,en.2.2),hrep,?_,zF5 _,fun _=>htail,rfl⟩⟩,by show Mem E _ _ ⟨m.c,zyp m.t k _,m.o⟩ _;rw[zlF];exact h1,hG2⟩;show(bl.t.set k _)[k]?=_;rw[zIv (zGf.1 hen).1]
 ·rcases htail with⟨A',hA⟩|⟨blk,off,row,c',hb1,hA,hr,hl,hc'⟩
  ·cases hA;exact grow (by omega)
  ·cases hA;rcases zGc c (n+n')with hg|hroom
   ·exact grow hg
   ·cases id with
    |zero=>cases hen;cases hb1
    |succ k=>
     change bl.t[k]?=_ at hen
     obtain⟨row',cells,ty',hr',hc,hcs⟩:=hM.tail k en blk hen hb1;rw[hr]at hr';cases hr';obtain⟨cl2,e2,fz2,hc2,hpre⟩:=hM.known _ _ hr;rw[hc]at hc2;cases hc2;have heq:(some blk,en.2.1,en.2.2)=en:=by rw[←hb1]
     have hen':bl.t[k]?=some (some blk,en.2.1,en.2.2):=by rw[heq];exact hen
     have hnn:n*t.size+n'*t.size≤c*t.size:=by rw[←zG8];exact zGK _ hroom
     have hfit:off+n*t.size+news.length≤cells.size:=by rw[hcs,←hc',hnl];omega
     have hst:=run_storeCells_at (P:=P) blk (off+n*t.size) ty' news 0 cells w hc (by simpa using hfit) hsrc.one;simp only[zHZ]at hst;have hcell:=hsrc.cells;have hrun:(Builtin.append_ #[T,T] ty #[.slice (some ⟨blk,off,none⟩) n c,y]).run P w=.ok (.slice (some ⟨blk,off,none⟩) (n+n') c) (w.setRow blk (cells.toList.take (off+n*t.size)++news++cells.toList.drop (off+n*t.size+news.length)).toArray):=by simp[Builtin.append_,run_underlying hT,sizeOf,typeInfo,hi,hsrc.len,hroom,hits,hcell,zbA,hst]
     have htake:cells.toList.take (off+n*t.size)=row:=by obtain⟨r,hr2⟩:=hpre;rw[←hr2,←hl,zG3]
     have hM1:=hM.more hen' hr hc (news:=news) (cells':=(cells.toList.take (off+n*t.size)++news++cells.toList.drop (off+n*t.size+news.length)).toArray) (by simp at hfit ⊢;omega) (by rw[htake];exact zIu _ _);have holds:olds=row.drop off:=by
      rcases zHq n with rfl|hn0
      ·rw[zIa (l:=olds) (by rw[hol];omega),zGi (by omega)]
      ·obtain⟨b2,o2,r2,hA2,hr2,_,ho⟩:=hon hn0;cases hA2;rw[hr]at hr2;cases hr2;rw[ho,zGN (by simp;omega)]
     have hself:(zaq ro blk (some (row++news))) blk=some (row++news):=by unfold zaq;exact if_pos rfl
     have hrep:zbg (zaq ro blk (some (row++news))) (.sl (n+n') t (zdc n f f')) [.slice (some ⟨blk,off,none⟩) (n+n') c]:=
      zog hself (by rw[zGQ (by omega),←holds]) hlen (by simp;omega) hroom (zhy hM1.2.le.r hparts)
     subst hver;refine⟨_,_,_,_,hrun,⟨(fun h=>by cases h),fun _=>⟨_,(some blk,en.2.1+1,en.2.2),hrep,?_,zF5 _,fun _=>.inr ⟨blk,off,row++news,c,rfl,rfl,hself,by rw[zFY,hl,hnl,zG8];omega,hc'⟩,rfl⟩⟩,by show Mem E _ _ ⟨m.c,zyp m.t k _,m.o⟩ _;rw[zlF];exact hM1.1,hM1.2⟩;show(bl.t.set k _)[k]?=_;rw[zIv (zGf.1 hen).1]
end Sx
end Go.Proofs.YtfbhkfhbnkncoaaGreatDoor
