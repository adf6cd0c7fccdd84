import Derived.Test.YtfbhkfhbnkncoaaGreatDoorT7
set_option linter.all false
namespace Go.Proofs.YtfbhkfhbnkncoaaGreatDoor
open Go.RowKit
namespace Sx
variable {E:Gh}
variable {P:Program} {tb:TT}
variable {ro:Ro} {bl:Bl} {m:MS} {w:World}
def Bl.oset(bl:Bl)(k:Nat)(y:BO):Bl:=⟨bl.b,bl.t,bl.o.set k y,bl.k,bl.g⟩
def Bl.oadd(bl:Bl)(y:BO):Bl:=⟨bl.b,bl.t,bl.o++[y],bl.k,bl.g⟩
theorem Le.oset(ro:Ro){bl:Bl}{id:Nat}{y y':BO}(hy:bl.o[id]?=some y)(hle:y.le y'):Le ro bl ro (bl.oset id y'):=⟨Ro.le_refl _,fun _ _ h=>h,(Le.refl ro bl).t,fun i x hx=>by
 by_cases hi:i=id
 ·subst hi;rw[hy]at hx;cases hx;exact⟨y',zec hy,hle⟩
 ·exact⟨x,zj8 hx hi,x.le_refl⟩,rfl⟩
theorem Le.oadd(ro:Ro)(bl:Bl)(y:BO):Le ro bl ro (bl.oadd y):=⟨Ro.le_refl _,fun _ _ h=>h,(Le.refl ro bl).t,fun _ x hx=>⟨x,zhk hx,x.le_refl⟩,rfl⟩
theorem Mem.oturn(h:Mem E ro bl m w){id:Nat}{y y':BO}{x':Ob}{w':World}(hy:bl.o[id]?=some y)(hle:y.le y')(hblk:∀b,y'.blk=some b→y.blk=some b∨w.heap.size≤b)
 (hos:w'.os=w.os)(htp:w'.tape=w.tape)(hou:w'.output=w.output)(hsz:w.heap.size≤w'.heap.size)(hold:∀b,b<w.heap.size→y.blk≠some b→w'.heap[b]?=w.heap[b]?)
 (hO:Le ro bl ro (bl.oset id y')→zqz ro (bl.oset id y') w' x' y'):Mem E ro (bl.oset id y') ⟨m.c,m.t,m.o.set id x'⟩ w'∧Gr ro bl w ro (bl.oset id y') w':=by
 have hl:Le ro bl ro (bl.oset id y'):=Le.oset ro hy hle;have hkn:∀b row,ro b=some row→w'.heap[b]?=w.heap[b]?:=fun b row hr=>hold b (h.known_lt hr) fun e=>by rw[h.obj_none hy e]at hr;cases hr
 have hG:Gr ro bl w ro (bl.oset id y') w':=⟨hos,htp,hou,hsz,fun b hb hn=>⟨hold b hb fun e=>hn (Bl.hb_o hy e),rfl⟩,hl,fun b hb=>by
  rcases hb with hb|hb|⟨i,x,hx,e⟩
  ·exact .inl (.inl hb)
  ·exact .inl (.inr (.inl hb))
  ·rcases zb1 hx with⟨rfl,rfl⟩|⟨_,hx⟩
   ·rcases hblk b e with h1|h1
    ·exact .inl (Bl.hb_o hy h1)
    ·exact .inr h1
   ·exact .inl (Bl.hb_o hx e),rfl⟩
 have hob:∀{i:Nat} {x:BO} {b:Nat},bl.o[i]?=some x→x.blk=some b→i≠id→y'.blk≠some b:=fun{i x b} hx hb hi e=>by
  rcases hblk b e with h1|h1
  ·exact hi (h.oinj _ _ _ _ _ hx hy hb h1)
  ·have:=h.hb_lt (Bl.hb_o hx hb);omega
 refine h.both ⟨h.len,h.ver,fun i blk t v hb hc=>?_,h.inj,fun i e blk he hb=>?_,h.tinj,fun b row hr=>?_,by show(bl.o.set id y').length=(m.o.set id x').length;simp[h.olen],fun i z x hz hx=>?_,fun i j x z b hx hz hb hb'=>?_,fun i j x z hx hz hb=>?_⟩ hG
 ·obtain⟨cl,e',h1,h2,h3⟩:=h.box i blk t v hb hc;exact⟨cl,e',(hold blk (h.lt hb) (h.bo _ _ _ _ hb hy)).trans h1,h2.mono hl,h3⟩
 ·obtain⟨row,cl,ty,h1,h2,h3⟩:=h.tail i e blk he hb;exact⟨row,cl,ty,h1,(hkn _ _ h1).trans h2,h3⟩
 ·obtain⟨cl,e',fz,h1,h2⟩:=h.known b row hr;exact⟨cl,e',fz,(hkn _ _ hr).trans h1,h2⟩
 ·rcases zb1 hz with⟨rfl,rfl⟩|⟨hi,hz⟩
  ·rcases zb1 hx with⟨_,rfl⟩|⟨hi,_⟩
   ·exact hO hl
   ·exact absurd rfl hi
  ·rcases zb1 hx with⟨e,_⟩|⟨_,hx⟩
   ·exact absurd e hi
   ·have hzx:=h.obj i z x hz hx;exact hzx.to hl fun b hb=>⟨hold b (hzx.blk hb) fun e=>hi (h.oinj _ _ _ _ _ hz hy hb e),rfl⟩
 ·rcases zb1 hx with⟨rfl,rfl⟩|⟨hi,g1⟩<;>rcases zb1 hz with⟨rfl,rfl⟩|⟨hj,g2⟩
  ·rfl
  ·exact absurd hb (hob g2 hb' hj)
  ·exact absurd hb' (hob g1 hb hi)
  ·exact h.oinj i j x z b g1 g2 hb hb'
 ·rcases zb1 hz with⟨rfl,rfl⟩|⟨hj,hz⟩
  ·rcases hblk _ hb with h1|h1
   ·exact h.bo _ _ _ _ hx hy h1
   ·have:=h.lt hx;omega
  ·exact h.bo i j x z hx hz hb
theorem Mem.oadd(h:Mem E ro bl m w){y:BO}{x:Ob}{w':World}(hblk:∀b,y.blk=some b→w.heap.size≤b)
 (hos:w'.os=w.os)(htp:w'.tape=w.tape)(hou:w'.output=w.output)(hsz:w.heap.size≤w'.heap.size)(hold:∀b,b<w.heap.size→w'.heap[b]?=w.heap[b]?)
 (hO:Le ro bl ro (bl.oadd y)→zqz ro (bl.oadd y) w' x y):Mem E ro (bl.oadd y) ⟨m.c,m.t,m.o++[x]⟩ w'∧Gr ro bl w ro (bl.oadd y) w':=by
 have hl:Le ro bl ro (bl.oadd y):=Le.oadd ro bl y;have hG:Gr ro bl w ro (bl.oadd y) w':=⟨hos,htp,hou,hsz,fun b hb _=>⟨hold b hb,rfl⟩,hl,fun b hb=>by
  rcases hb with hb|hb|⟨i,x,hx,e⟩
  ·exact .inl (.inl hb)
  ·exact .inl (.inr (.inl hb))
  ·rcases zbB hx with⟨rfl,rfl⟩|hx
   ·exact .inr (hblk b e)
   ·exact .inl (Bl.hb_o hx e),rfl⟩
 refine h.both ⟨h.len,h.ver,fun i blk t v hb hc=>?_,h.inj,fun i e blk he hb=>?_,h.tinj,fun b row hr=>?_,by show(bl.o++[y]).length=(m.o++[x]).length;simp[h.olen],fun i z x' hz hx=>?_,fun i j x' z b hx hz hb hb'=>?_,fun i j x' z hx hz hb=>?_⟩ hG
 ·obtain⟨cl,e',h1,h2,h3⟩:=h.box i blk t v hb hc;exact⟨cl,e',(hold blk (h.lt hb)).trans h1,h2.mono hl,h3⟩
 ·obtain⟨row,cl,ty,h1,h2,h3⟩:=h.tail i e blk he hb;exact⟨row,cl,ty,h1,(hold _ (h.known_lt h1)).trans h2,h3⟩
 ·obtain⟨cl,e',fz,h1,h2⟩:=h.known b row hr;exact⟨cl,e',fz,(hold _ (h.known_lt hr)).trans h1,h2⟩
 ·rcases zbB hz with⟨rfl,rfl⟩|hz
  ·have hx':(m.o++[x])[bl.o.length]?=some x':=hx;rw[h.olen,zbl]at hx';cases hx';exact hO hl
  ·have hx':(m.o++[x])[i]?=some x':=hx;rw[zH2 (by rw[←h.olen];exact(zGf.1 hz).1)]at hx';have hzx:=h.obj i z x' hz hx';exact hzx.to hl fun b hb=>⟨hold b (hzx.blk hb),rfl⟩
 ·rcases zbB hx with⟨rfl,rfl⟩|g1<;>rcases zbB hz with⟨rfl,rfl⟩|g2
  ·rfl
  ·have:=h.hb_lt (Bl.hb_o g2 hb');have:=hblk b hb;omega
  ·have:=h.hb_lt (Bl.hb_o g1 hb);have:=hblk b hb';omega
  ·exact h.oinj i j x' z b g1 g2 hb hb'
 ·rcases zbB hz with⟨rfl,rfl⟩|hz
  ·have:=hblk _ hb;have:=h.lt hx;omega
  ·exact h.bo i j x' z hx hz hb
theorem zs3{id v n:Nat}{t:Ty}{f:Nat→D}(h:zd6 m id=some (v,n,t,f)):m.o[id]?=some (.row v n t f):=by
 unfold zd6 at h;rw[zfj]at h;split at h
 ·rename_i h1;cases h;exact h1
 ·cases h
theorem zso{id:Nat}{k:IntKind}{l:List (Int×SV)}(h:znU m id=some (k,l)):m.o[id]?=some (.map k l):=by
 unfold znU at h;rw[zfj]at h;split at h
 ·rename_i h1;cases h;exact h1
 ·cases h
structure RowIs (ro:Ro) (bl:Bl) (w:World) (id v n:Nat) (t:Ty) (f:Nat→D) (b:Option Nat) (c:Nat):Prop where
 bo:bl.o[id]?=some (.row v b n c t.size)
 nc:n≤c
 nil:b=none→c=0
 blk:∀k,b=some k→ro k=none∧∃cells ty,w.heap[k]?=some (.cells cells ty (0,0))∧cells.size=c*t.size∧∀i,i<n→(f i).shape=t∧zbg ro (f i) ((cells.toList.drop (i*t.size)).take t.size)
theorem Mem.row_is(h:Mem E ro bl m w){id v n:Nat}{t:Ty}{f:Nat→D}(hr:zd6 m id=some (v,n,t,f)):∃b c,RowIs ro bl w id v n t f b c:=by
 have hx:=zs3 hr;obtain⟨y,hy⟩:∃y,bl.o[id]?=some y:=⟨_,zHa (by rw[h.olen];exact(zGf.1 hx).1)⟩;have hO:=h.obj id y _ hy hx;cases y<;>first|exact hO.elim|skip
 obtain⟨rfl,rfl,rfl,h4,h5,h6⟩:=hO;exact⟨_,_,hy,h4,h5,h6⟩
theorem RowIs.mr{id v n:Nat}{t:Ty}{f:Nat→D}{b:Option Nat}{c:Nat}(h:RowIs ro bl w id v n t f b c){x:Value}(hx:zaX ro bl (.ob (.mr id v)) x):x=.slice (zgW b) n c:=by obtain⟨_,v',b',n',c',s',h1,_,h3⟩:=hx.hd;rw[h.bo]at h1;cases h1;exact h3 rfl
theorem RowIs.mq{id v n lo:Nat}{t:Ty}{f:Nat→D}{b:Option Nat}{c:Nat}(h:RowIs ro bl w id v n t f b c){x:Value}(hx:zaX ro bl (.ob (.mq id v lo)) x):lo≤n∧x=sliced (zgW b) lo n c t.size:=by obtain⟨_,v',b',n',c',s',h1,_,h3⟩:=hx.hd;rw[h.bo]at h1;cases h1;exact h3 rfl
theorem RowIs.mp{id v n i:Nat}{t:Ty}{f:Nat→D}{b:Option Nat}{c:Nat}(h:RowIs ro bl w id v n t f b c){x:Value}(hx:zaX ro bl (.ob (.mp id v i)) x):i<n∧∃k,b=some k∧x=.pointer (some ⟨k,i*t.size,none⟩):=by obtain⟨_,v',b',n',c',s',h1,_,h3⟩:=hx.hd;rw[h.bo]at h1;cases h1;exact h3 rfl
theorem RowIs.some{id v n:Nat}{t:Ty}{f:Nat→D}{b:Option Nat}{c:Nat}(h:RowIs ro bl w id v n t f b c)(hn:0<n):∃k,b=some k:=by
 cases b with
 |some k=>exact⟨k,rfl⟩
 |none=>have:=h.nil rfl;have:=h.nc;omega
theorem RowIs.cells{id v n:Nat}{t:Ty}{f:Nat→D}{b:Option Nat}{c:Nat}(h:RowIs ro bl w id v n t f b c):∃news:List Value,news.length=n*t.size∧(∀i,i<n→(f i).shape=t∧zbg ro (f i) ((news.drop (i*t.size)).take t.size))∧(∀v∈news,v.oneCell'=true)∧
 ∀k,b=.some k→∃cells ty,w.heap[k]?=.some (.cells cells ty (0,0))∧cells.size=c*t.size∧cells.toList.take (n*t.size)=news:=by
 cases b with
 |none=>
  have hc:=h.nil rfl;have hn:=h.nc;have h0:n=0:=by omega
  subst h0;exact⟨[],by simp,fun i hi=>absurd hi (zIn _),fun v hv=>(by cases hv),fun k hk=>(by cases hk)⟩
 |some k=>
  obtain⟨_,cells,ty,h1,h2,h3⟩:=h.blk k rfl;have hle:n*t.size≤c*t.size:=zGK _ h.nc;have hpart:∀i,i<n→((cells.toList.take (n*t.size)).drop (i*t.size)).take t.size=(cells.toList.drop (i*t.size)).take t.size:=fun i hi=>by
   have:i*t.size+t.size≤n*t.size:=by rw[←zFZ];exact zGK _ hi
   have:=zbf (l:=cells.toList) (a:=0) (b:=n*t.size) (o:=i*t.size) (k:=t.size) this;simpa using this
  refine⟨cells.toList.take (n*t.size),by rw[zHf,zGu,h2];exact zGW hle,fun i hi=>⟨(h3 i hi).1,by rw[hpart i hi];exact(h3 i hi).2⟩,fun v hv=>?_,fun k' hk=>by cases hk;exact⟨cells,ty,h1,h2,rfl⟩⟩;have e:cells.toList.take (n*t.size)=(List.range n).flatMap fun i=>(cells.toList.drop (i*t.size)).take t.size:=zfh n fun i _=>rfl;rw[e]at hv;obtain⟨i,hi,hv⟩:=zF0.1 hv;exact(h3 i (zF1.1 hi)).2.one v hv
theorem zcK{bl':Bl}{w':World}{v n c:Nat}{t:Ty}{f:Nat→D}{b:Option Nat}(hc:n≤c)(hn:b=none→c=0)(hb:∀k,b=some k→ro k=none∧∃cells ty,w'.heap[k]?=some (.cells cells ty (0,0))∧cells.size=c*t.size∧∀i,i<n→(f i).shape=t∧zbg ro (f i) ((cells.toList.drop (i*t.size)).take t.size)):
 zqz ro bl' w' (.row v n t f) (.row v b n c t.size):=⟨rfl,rfl,rfl,hc,hn,hb⟩
theorem zu7{l vs:List Value}{k n i j:Nat}(hl:n*k≤l.length)(hv:vs.length=k)(hi:i<n)(hj:j<n):((l.take (i*k)++vs++l.drop (i*k+k)).drop (j*k)).take k=if j=i then vs else(l.drop (j*k)).take k:=by
 have hik:i*k+k≤n*k:=by rw[←zFZ];exact zGK _ hi
 have hjk:j*k+k≤n*k:=by rw[←zFZ];exact zGK _ hj
 have ht:(l.take (i*k)).length=i*k:=by rw[zHf];omega
 split
 ·rename_i e;subst e;rw[zG5,zGI,zGi (by omega),ht,zGd,zG4,zGX,zGP (by omega),zGN (by omega)]
 ·rename_i e;rcases Nat.lt_or_gt_of_ne e with hlt|hgt
  ·have:j*k+k≤i*k:=by rw[←zFZ];exact zGK _ hlt
   rw[zG5,zGQ (by omega),zGP (by rw[zGY];omega),zGT,zGU,zGW (by omega)]
  ·have:i*k+k≤j*k:=by rw[←zFZ];exact zGK _ hgt
   rw[zGI,zGi (by rw[zFY];omega),zG4,zFY,ht,hv,zGV,show i*k+k+(j*k -(i*k+k))=j*k by omega]
end Sx
end Go.Proofs.YtfbhkfhbnkncoaaGreatDoor
