import Derived.Test.YtfbhkfhbnkncoaaGreatDoorT8
import Derived.Test.YtfbhkfhbnkncoaaGreatDoorT9
import Derived.Lib.ConvBytes
import Derived.MapKept
set_option linter.all false
namespace Go.Proofs.YtfbhkfhbnkncoaaGreatDoor
open Go.RowKit
namespace Sx
variable {E:Gh} {r:Option Nat} {nn:Nat}
variable {P:Program} {tb:TT} {ro:Ro} {bl:Bl} {m:MS} {w:World}
theorem zdG(hP:tb.ok P){T:TypeId}{ie:TI}(h:elI tb T=some ie):∃e,P.underlying T=some (.slice e)∧tb.get e=some ie:=by
 unfold elI at h;split at h
 ·rename_i s ag e z hT;exact⟨e,(hP T _ hT).2.1,h⟩
 ·cases h
theorem zt9{id:Nat}{path:List Nat}{n:Nat}{t:Ty}{f:Nat→D}(h:ztA m id path=some (n,t,f)):∃c,m.c[id]?=some c∧c.nav path=some (.d (.ar n t f)):=by
 unfold ztA at h;rw[zdi]at h;split at h
 ·rename_i c hc;split at h
  ·rename_i hn;cases h;exact⟨c,hc,hn⟩
  ·cases h
 ·cases h
theorem zkH(hM:Mem E ro bl m w){id:Nat}{path:List Nat}{n:Nat}{t:Ty}{f:Nat→D}(h:ztA m id path=some (n,t,f)){blk o:Nat}{tb' t':Ty}(hb:bl.b[id]?=some (blk,tb'))(ho:tb'.off path=some (o,t')):
 t'=.ar n t∧∃cells e,w.heap[blk]?=some (.cells cells e (0,0))∧zbg ro (.ar n t f) ((cells.toList.drop o).take (n*t.size))∧o+n*t.size≤cells.size:=by
 obtain⟨c,hc,hn⟩:=zt9 h;obtain⟨cells,e,hg,hr,hst,_⟩:=hM.box id blk _ c hb hc;subst hst;obtain⟨hs,hr'⟩:=SV.nav_rep hr ho hn;have hle:=Ty.off_le ho;have hl:=hr.length;subst hs;refine⟨rfl,cells,e,hg,hr',?_⟩;simp only[SV.shape,D.shape,Ty.size]at hle;simp at hl;omega
theorem zve(hM:Mem E ro bl m w){id v n:Nat}{t:Ty}{f:Nat→D}(hr:zd6 m id=some (v,n,t,f)){i:Nat}{x:Value}(hx:zaX ro bl (.ob (.mp id v i)) x){T:TypeId}(hT:TF P T t.size t.agg):
 ∃A y,x=.pointer (some A)∧(loadVar T A).run P w=.ok y w∧zaX ro bl (.d (f i)) y:=by
 obtain⟨b,c,hR⟩:=hM.row_is hr;obtain⟨hi,k,rfl,rfl⟩:=hR.mp hx;obtain⟨_,cells,ty,h1,h2,h3⟩:=hR.blk k rfl;obtain⟨hs,hc⟩:=h3 i hi;have hle:i*t.size+t.size≤n*t.size:=by rw[←zFZ];exact zGK _ hi
 have hle2:n*t.size≤c*t.size:=zGK _ hR.nc;have hag:t.agg=false→t.size=1:=fun h=>by cases t<;>first|rfl|cases h
 have hrun:=zcL (P:=P) hT h1 (o:=i*t.size) (by omega) hag;refine⟨_,_,rfl,hrun,?_⟩;have:=zcD.of_cells (bl:=bl) (v:=.d (f i)) hc;rw[show(SV.d (f i)).agg=t.agg from by rw[←hs];exact D.agg_shape]at this;exact this.v
theorem zs8(hM:Mem E ro bl m w){id v n:Nat}{t:Ty}{f:Nat→D}(hr:zd6 m id=some (v,n,t,f)){i:Nat}{x:Value}(hx:zaX ro bl (.ob (.mp id v i)) x){T:TypeId}(hT:(P.info? T).map (·.size)=some t.size){d:D}{y:Value}(hy:zaX ro bl (.d d) y)(hd:d.shape=t):
 ∃A bl' w',x=.pointer (some A)∧(storeVar T A y).run P w=.ok () w'∧Mem E ro bl' ⟨m.c,m.t,m.o.set id (.row v n t (zaq f i d))⟩ w'∧Gr ro bl w ro bl' w':=by
 obtain⟨b,c,hR⟩:=hM.row_is hr;obtain⟨hi,k,rfl,rfl⟩:=hR.mp hx;obtain⟨h0,cells,ty,h1,h2,h3⟩:=hR.blk k rfl;have hyc:=(hy.a (fun a e=>by cases e)).cells;have hyl:y.cells.toList.length=t.size:=by rw[hyc.length];show d.shape.size=_;rw[hd]
 have hle:i*t.size+t.size≤n*t.size:=by rw[←zFZ];exact zGK _ hi
 have hle2:n*t.size≤c*t.size:=zGK _ hR.nc;have hst:=run_storeCells_at P k (i*t.size) ty y.cells.toList 0 cells w h1 (by omega) (zb5.one hyc);simp only[zHZ]at hst;have hsz:y.cells.size=t.size:=by simpa using hyl
 obtain⟨hM',hG'⟩:=hM.oturn (x':=.row v n t (zaq f i d)) (w':=w.setRow k (cells.toList.take (i*t.size)++y.cells.toList++cells.toList.drop (i*t.size+y.cells.toList.length)).toArray) hR.bo (BO.le_refl _) (fun b hb=>.inl hb) rfl rfl rfl (by simp) (fun b hb hn=>setRow_other _ _ _ _ (fun e=>hn (by rw[e];rfl)))
  (fun hl=>zcK hR.nc (fun e=>by cases e) fun k' hk=>by
   cases hk;refine⟨h0,_,ty,setRow_heap _ _ _ _ _ _ h1,by simp at hyl;simp[hyl];omega,fun j hj=>?_⟩;have:=zu7 (l:=cells.toList) (vs:=y.cells.toList) (k:=t.size) (n:=n) (i:=i) (j:=j) (by simp;omega) hyl hi hj;rw[hyl,zH8,this];unfold zaq;split
   ·exact⟨hd,hyc⟩
   ·exact h3 j hj)
 refine⟨_,_,_,rfl,?_,hM',hG'⟩;cases hq:P.info? T with
 |none=>simp[hq]at hT
 |some i=>
  have hi:i.size=t.size:=by simpa[hq]using hT
  simp only[storeVar,Sem.run_bind,Go.sizeOf,typeInfo,run_program,Result.andThen_ok,hq,Sem.run_pure,hi,hsz,ne_eq,zH5,if_false];simpa[hsz]using hst
theorem zyk(hM:Mem E ro bl m w){id v n:Nat}{t:Ty}{f:Nat→D}(hr:zd6 m id=some (v,n,t,f)){x:Value}(hx:zaX ro bl (.ob (.mr id v)) x){h:Nat}(hh:h≤n):
 ∃b c bl',x=.slice (zgW b) n c∧n≤c∧zaX ro bl' (.ob (.mr id (v+1))) (.slice (zgW b) h c)∧Mem E ro bl' ⟨m.c,m.t,m.o.set id (.row (v+1) h t f)⟩ w∧Gr ro bl w ro bl' w:=by
 obtain⟨b,c,hR⟩:=hM.row_is hr;have hnc:=hR.nc;obtain⟨hM',hG'⟩:=hM.oturn (y':=.row (v+1) b h c t.size) (x':=.row (v+1) h t f) (w':=w) hR.bo (.inr ⟨_,_,_,_,_,_,_,_,_,_,rfl,rfl,zF9 _⟩) (fun b hb=>.inl hb) rfl rfl rfl (zF5 _) (fun _ _ _=>rfl)
  (fun hl=>zcK (by omega) hR.nil fun k hk=>by
   obtain⟨h0,cells,ty,h1,h2,h3⟩:=hR.blk k hk;exact⟨h0,cells,ty,h1,h2,fun i hi=>h3 i (by omega)⟩)
 exact⟨b,c,_,hR.mr hx,hnc,zgv.v ⟨rfl,_,_,_,_,_,zec hR.bo,zF5 _,fun _=>rfl⟩,hM',hG'⟩
theorem zkr(hP:tb.ok P)(hM:Mem E ro bl m w){T ty e:TypeId}(hT:P.underlying T=some (.slice e)){ie:TI}(hie:tb.get e=some ie){id v n:Nat}{t:Ty}{f:Nat→D}(hr:zd6 m id=some (v,n,t,f))(hs:t.size=ie.size)(hzs:ie.zero.d.shape.size=ie.size)
 {x:Value}(hx:zaX ro bl (.ob (.mr id v)) x){n':Nat}{f':Nat→D}{y:Value}{news:List Value}(hsrc:Src P t.size T y n' news w)(hnl:news.length=n'*t.size)(hnp:∀i,i<n'→(f' i).shape=t∧zbg ro (f' i) ((news.drop (i*t.size)).take t.size))(hb:n+n'≤2147483648):
 ∃bl' w' v',(Builtin.append_ #[T,T] ty #[x,y]).run P w=.ok v' w'∧zaX ro bl' (.ob (.mr id (v+1))) v'∧Mem E ro bl' ⟨m.c,m.t,m.o.set id (.row (v+1) (n+n') t (zdc n f f'))⟩ w'∧Gr ro bl w ro bl' w':=by
 obtain⟨b,c,hR⟩:=hM.row_is hr;have hnc:=hR.nc;cases hR.mr hx;obtain⟨olds,hol,hop,hone,hcel⟩:=hR.cells;obtain⟨hsz,⟨hk,hz,hag,hby⟩⟩:=hP _ _ hie;obtain⟨i,hi,hsi⟩:=zGj.1 hsz.1;simp only[hi,zGE,zGh]at hz hby;have hby:=zFG hby;have hits:i.size=t.size:=by rw[hs,hsi]
 have hbytes:(n+n')*i.bytes≤140737488355328:=zFU (zH9 hb hby) (by decide);have hparts:=zlY hol hnl hop hnp;have hlen:(olds++news).length=(n+n')*t.size:=by rw[zFY,hol,hnl,zG8]
 have hold:∀w',w'.heap=w.heap→(Builtin.firstCells t.size n (.slice (zgW b) n c)).run P w'=.ok olds.toArray w':=fun w' hw=>by
  cases b with
  |none=>
   have:c=0:=hR.nil rfl;have h0:n=0:=by omega
   subst h0;have:olds=[]:=zIa (by rw[hol];omega);subst this;simp[zgW,Builtin.firstCells]
  |some k=>
   obtain⟨cells,ty',h1,h2,h3⟩:=hcel k rfl;refine run_firstCells_some (P:=P) w' t.size n _ n c _ hol fun j u hj=>?_;rw[zbA,zGt,cell_of_row w' k _ cells ty' (0,0) (by rw[hw];exact h1)];have hlt:j<n*t.size:=by rw[←hol];exact(zGf.1 hj).1
   rw[←h3,zIb hlt]at hj;simpa using hj
 have hle:∀{b':Option Nat} {c':Nat},(BO.row v b n c t.size).le (.row (v+1) b' (n+n') c' t.size):=.inr ⟨_,_,_,_,_,_,_,_,_,_,rfl,rfl,zF9 _⟩;have fin:∀{b':Option Nat} {c':Nat},zaX ro (bl.oset id (.row (v+1) b' (n+n') c' t.size)) (.ob (.mr id (v+1))) (.slice (zgW b') (n+n') c'):=zgv.v ⟨rfl,_,_,_,_,_,zec hR.bo,zF5 _,fun _=>rfl⟩;rcases zGc c (n+n')with hg|hroom
 ·have hcap:=grownCap_ge w (n+n') c e;have hrn:=run_append_grow_src (P:=P) w T T ty e i _ hT hi hz (zgW b) n c olds (by rw[hits];exact hold _ rfl) y n' news (by rw[hits];exact hsrc) hg (by omega) (growslice_fits (by omega) hbytes);generalize grownCap w (n+n') c e=gc at hrn hcap;have hzl:(if ie.ag then Value.agg ie.zero.cells.toArray else ie.zero.cells.headD undef).cells.size=t.size:=by
   have hc:=(zcD.of_cells (ro:=ro) (bl:=bl) (v:=.d ie.zero.d) (ie.zero.rep ro)).cells.length;rw[show(SV.d ie.zero.d).agg=ie.ag from hag]at hc;have:(SV.d ie.zero.d).shape.size=t.size:=by rw[hs];exact hzs
   rw[←this,←hc];simp
  generalize(if ie.ag then Value.agg ie.zero.cells.toArray else ie.zero.cells.headD undef)=zv at hrn hzl;obtain⟨hM',hG'⟩:=hM.oturn (y':=.row (v+1) (some w.heap.size) (n+n') gc t.size) (x':=.row (v+1) (n+n') t (zdc n f f')) (w':=w.drew.alloc (.cells ((olds++news).toArray++Builtin.zeroCells zv.cells (gc -(n+n'))) e))
   hR.bo hle (fun b hb=>.inr (by cases hb;exact zF5 _)) rfl rfl rfl (by simp) (fun b hb _=>Below.heap_alloc w.drew _ _ hb) (fun hl=>zcK hcap (fun e=>by cases e) fun k hk=>by
    cases hk;refine⟨?_,_,e,heap_alloc_new w.drew _,?_,fun j hj=>?_⟩
    ·cases hq:ro w.heap.size with
     |none=>rfl
     |some row=>exact absurd (hM.known_lt hq) (zH0 _)
    ·rw[zIc,zH6,size_zeroCells,hzl,hlen,←zG8,show n+n'+(gc -(n+n'))=gc by omega]
    ·rw[zId,zH8];have:j*t.size+t.size≤(n+n')*t.size:=by rw[←zFZ];exact zGK _ hj
     rw[zGQ (by omega),zGP (by rw[zGY];omega)];exact hparts j hj)
  exact⟨_,_,_,hrn,fin,hM',hG'⟩
 ·rcases zHq n' with rfl|hp
  ·have hn0:news=[]:=zIa (by rw[hnl];omega);subst hn0;have hrn:=run_append_nothing (P:=P) w T T ty e i hT hi (zgW b) n c hnc y (by rw[hits];exact hsrc);obtain⟨hM',hG'⟩:=hM.oturn (y':=.row (v+1) b (n+0) c t.size) (x':=.row (v+1) (n+0) t (zdc n f f')) (w':=w) hR.bo hle (fun b hb=>.inl hb) rfl rfl rfl (zF5 _) (fun _ _ _=>rfl) (fun hl=>zcK hnc hR.nil fun k hk=>by
    obtain⟨h0,cells,ty',h1,h2,h3⟩:=hR.blk k hk;refine⟨h0,cells,ty',h1,h2,fun j hj=>?_⟩;have e:zdc n f f' j=f j:=by unfold zdc;rw[show Nat.blt j n=true from zHN hj];rfl
    rw[e];exact h3 j hj)
   exact⟨_,_,_,hrn,fin,hM',hG'⟩
  ·obtain⟨k,rfl⟩:∃k,b=some k:=by
    cases b with
    |some k=>exact⟨k,rfl⟩
    |none=>have:=hR.nil rfl;omega
   obtain⟨h0,cells,ty',h1,h2,h3⟩:=hR.blk k rfl;obtain⟨cells',ty2,g1,_,g3⟩:=hcel k rfl;rw[h1]at g1;cases g1;have hnn:n*t.size+n'*t.size≤c*t.size:=by rw[←zG8];exact zGK _ hroom
   have hst:=run_storeCells_at (P:=P) k (n*t.size) ty' news 0 cells w h1 (by omega) hsrc.one;simp only[zHZ]at hst;have hcell:=hsrc.cells;have hrun:(Builtin.append_ #[T,T] ty #[.slice (zgW (some k)) n c,y]).run P w=.ok (.slice (zgW (some k)) (n+n') c) (w.setRow k (cells.toList.take (n*t.size)++news++cells.toList.drop (n*t.size+news.length)).toArray):=by simp[zgW,Builtin.append_,run_underlying hT,sizeOf,typeInfo,hi,hsrc.len,hroom,hits,hcell,zbA,hst]
   obtain⟨hM',hG'⟩:=hM.oturn (y':=.row (v+1) (some k) (n+n') c t.size) (x':=.row (v+1) (n+n') t (zdc n f f')) (w':=w.setRow k (cells.toList.take (n*t.size)++news++cells.toList.drop (n*t.size+news.length)).toArray) hR.bo hle (fun b hb=>.inl hb) rfl rfl rfl (by simp)
    (fun b hb hn=>setRow_other _ _ _ _ (fun e=>hn (by rw[e];rfl))) (fun hl=>zcK hroom (fun e=>by cases e) fun k' hk=>by
     cases hk;refine⟨h0,_,ty',setRow_heap _ _ _ _ _ _ h1,by simp;omega,fun j hj=>?_⟩;rw[zH8,g3];have:j*t.size+t.size≤(n+n')*t.size:=by rw[←zFZ];exact zGK _ hj
     rw[zGQ (by omega),zGP (by rw[zGY];omega)];exact hparts j hj)
   exact⟨_,_,_,hrun,fin,hM',hG'⟩
theorem zyl(hM:Mem E ro bl m w){T e:TypeId}(hT:P.underlying T=some (.slice e)){id v n:Nat}{t:Ty}{f:Nat→D}(hr:zd6 m id=some (v,n,t,f)){y:Value}(hy:zaX ro bl (.ob (.mr id v)) y):
 ∃news,Src P t.size T y n news w∧news.length=n*t.size∧∀i,i<n→(f i).shape=t∧zbg ro (f i) ((news.drop (i*t.size)).take t.size):=by
 obtain⟨b,c,hR⟩:=hM.row_is hr;have hnc:=hR.nc;cases hR.mr hy;obtain⟨olds,hol,hop,hone,hcel⟩:=hR.cells;have hold:∀w',w'.heap=w.heap→(Builtin.firstCells t.size n (.slice (zgW b) n c)).run P w'=.ok olds.toArray w':=fun w' hw=>by
  cases b with
  |none=>
   have:c=0:=hR.nil rfl;have h0:n=0:=by omega
   subst h0;have:olds=[]:=zIa (by rw[hol];omega);subst this;simp[zgW,Builtin.firstCells]
  |some k=>
   obtain⟨cells,ty',h1,h2,h3⟩:=hcel k rfl;refine run_firstCells_some (P:=P) w' t.size n _ n c _ hol fun j u hj=>?_;rw[zbA,zGt,cell_of_row w' k _ cells ty' (0,0) (by rw[hw];exact h1)];have hlt:j<n*t.size:=by rw[←hol];exact(zGf.1 hj).1
   rw[←h3,zIb hlt]at hj;simpa using hj
 exact⟨olds,⟨.inl ⟨e,hT⟩,fun _=>rfl,hold _ rfl,hold _ rfl,hol,hone⟩,hol,hop⟩
theorem zmN{l vs:List Value}{s n lo k i:Nat}(hl:n*s≤l.length)(hv:vs.length=k*s)(hk:lo+k≤n)(hi:i<n):
 ((l.take (lo*s)++vs++l.drop (lo*s+vs.length)).drop (i*s)).take s=if lo≤i∧i<lo+k then(vs.drop ((i - lo)*s)).take s else(l.drop (i*s)).take s:=by
 have his:i*s+s≤n*s:=by rw[←zFZ];exact zGK _ hi
 have hlk:lo*s+k*s≤n*s:=by rw[←zG8];exact zGK _ hk
 have ht:(l.take (lo*s)).length=lo*s:=by rw[zHf];omega
 split
 ·rename_i h;have e:i*s=lo*s+(i - lo)*s:=by rw[←zG8];congr 1;omega
  have h2:(i - lo)*s+s≤k*s:=by rw[←zFZ];exact zGK _ (by omega)
  rw[zG5,zGI,zGi (by omega),zG4,ht,show i*s - lo*s=(i - lo)*s by omega,zGQ (by omega),zGP (by rw[zGY];omega)]
 ·rename_i h;rcases zGc i lo with hlt|hge
  ·have:i*s+s≤lo*s:=by rw[←zFZ];exact zGK _ hlt
   rw[zG5,zGQ (by omega),zGP (by rw[zGY];omega),zGT,zGU,zGW (by omega)]
  ·have:(lo+k)*s≤i*s:=zGK _ (by omega);rw[zG8]at this;rw[zGI,zGi (by rw[zFY];omega),zG4,zFY,ht,hv,zGV,show lo*s+k*s+(i*s -(lo*s+k*s))=i*s by omega]
theorem zAW{l vs:List Value}{o a z:Nat}(h:o+z≤l.length)(ha:a+vs.length≤z):l.take (o+a)++vs++l.drop (o+a+vs.length)=l.take o++(((l.drop o).take z).take a++vs++((l.drop o).take z).drop (a+vs.length))++l.drop (o+z):=by
 have e1:l.take (o+a)=l.take o++((l.drop o).take z).take a:=by rw[zGZ,zGU,zGW (by omega)]
 have e2:l.drop (o+a+vs.length)=((l.drop o).take z).drop (a+vs.length)++l.drop (o+z):=by
  rw[zGT,zGV,←zG0];conv=>lhs;rw[←zG1 (z -(a+vs.length)) (l.drop (o+a+vs.length))]
  rw[zGV,show o+a+vs.length+(z -(a+vs.length))=o+z by omega]
 rw[e1,e2];simp
theorem zkQ{lo k:Nat}{g f:Nat→D}{i:Nat}:znv lo k g f i=if lo≤i∧i<lo+k then g (i - lo)else f i:=by
 unfold znv;by_cases h1:lo≤i
 ·by_cases h2:i<lo+k
  ·rw[if_pos ⟨h1,h2⟩,show Nat.ble lo i=true from zHN h1,show Nat.blt i (lo+k)=true from zHN h2];rfl
  ·have:Nat.blt i (lo+k)=false:=by
    cases hb:Nat.blt i (lo+k)with
    |false=>rfl
    |true=>exact absurd (zFG hb) h2
   rw[if_neg (fun h=>h2 h.2),this,zHD];rfl
 ·have:Nat.ble lo i=false:=by
   cases hb:Nat.ble lo i with
   |false=>rfl
   |true=>exact absurd (zFG hb) h1
  rw[if_neg (fun h=>h1 h.1),this,Bool.false_and];rfl
theorem zwt(hM:Mem E ro bl m w){id:Nat}{path:List Nat}{c:Nat}{t:Ty}{f:Nat→D}(h:ztA m id path=some (c,t,f)){lo n:Nat}{A:Option Addr}{n0 cap:Nat}(hx:zaX ro bl (.ob (.sb id path lo n)) (.slice A n0 cap)){k:Nat}(hk:k≤n){g:Nat→D}{vs:List Value}(hv:vs.length=k*t.size)(hone:∀v∈vs,v.oneCell'=true)
 (hg:∀i,i<k→(g i).shape=t∧zbg ro (g i) ((vs.drop (i*t.size)).take t.size)){cc c2:SV}(hc:zg6 m.c id=some cc)(hc2:cc.set path (.d (.ar c t (znv lo k g f)))=some c2):
 ∃w',(∀a,A=some a→(storeCells a vs).run P w=.ok () w')∧(A=none→w'=w)∧Mem E ro bl ⟨zmV m.c id c2,m.t,m.o⟩ w'∧Gr ro bl w ro bl w':=by
 obtain⟨blk,tb',o,c',t',hb,ho,hlo,A',cap',he,hcap,hA⟩:=hx.hd;cases he;obtain⟨ht,cells,e,hgc,hr,hlen⟩:=zkH hM h hb ho;cases ht;rw[zdi]at hc;obtain⟨cells',e',hgc',hr0,hst,_⟩:=hM.box id blk _ cc hb hc;rw[hgc]at hgc';cases hgc';subst hst;obtain⟨gg,hcs,hgg⟩:=hr;have hk':∀j,j<c→(gg j).length=t.size:=fun j hj=>by rw[(hgg j hj).2.length,(hgg j hj).1]
 have hpl:((cells.toList.drop o).take (c*t.size)).length=c*t.size:=by rw[hcs];exact zbK hk'
 have hks:lo*t.size+k*t.size≤c*t.size:=by rw[←zG8];exact zGK _ (by omega)
 have hnew:zbg ro (.ar c t (znv lo k g f)) (((cells.toList.drop o).take (c*t.size)).take (lo*t.size)++vs++((cells.toList.drop o).take (c*t.size)).drop (lo*t.size+vs.length)):=by
  refine⟨fun i=>if lo≤i∧i<lo+k then(vs.drop ((i - lo)*t.size)).take t.size else gg i,?_,fun i hi=>?_⟩
  ·have hll:(((cells.toList.drop o).take (c*t.size)).take (lo*t.size)++vs++((cells.toList.drop o).take (c*t.size)).drop (lo*t.size+vs.length)).length=c*t.size:=by rw[zFY,zFY,zHf,zGY,hpl,hv];omega
   have hf:=zfh (l:=((cells.toList.drop o).take (c*t.size)).take (lo*t.size)++vs++((cells.toList.drop o).take (c*t.size)).drop (lo*t.size+vs.length)) (k:=t.size) (g:=fun i=>if lo≤i∧i<lo+k then(vs.drop ((i - lo)*t.size)).take t.size else gg i) c (fun i hi=>by
    rw[zmN (n:=c) (by rw[hpl];exact zF5 _) hv (by omega) hi];split
    ·rfl
    ·rw[hcs];exact zdt hk' hi)
   exact(zGN (zGO hll)).symm.trans hf
  ·rw[zkQ]
   dsimp only
   split
   ·exact hg (i - lo) (by omega)
   ·exact hgg i hi
 have hset:=SV.set_rep (v:=.d (.ar c t (znv lo k g f))) (t':=.ar c t) hr0 ho hnew rfl hc2;obtain⟨hs',hrep⟩:=hset;rw[show(Ty.ar c t).size=c*t.size from rfl,←zAW (by simpa using hlen) (by omega)]at hrep;obtain⟨h1,h2⟩:=hM.fill hb hrep hs';rw[zfy];refine⟨_,fun a ha=>?_,fun ha=>?_,h1,h2⟩
 ·rcases zHq k with h0|hp
  ·have:vs=[]:=zIa (by rw[hv,h0];omega);subst this;simp only[storeCells,zHm,zIe,zHZ,zG1,zIf];rw[setRow_self w blk cells e (0,0) hgc];rfl
  ·have:=hA (by omega);rw[ha]at this;cases this;have hst:=run_storeCells_at P blk (o+lo*t.size) e vs 0 cells w hgc (by omega) hone;simpa using hst
 ·have h0:k=0:=by
   rcases zHq k with h0|hp
   ·exact h0
   ·have:=hA (by omega);rw[ha]at this;cases this
  have:vs=[]:=zIa (by rw[hv,h0];omega);subst this;simp only[zHm,zIe,zHZ,zG1,zIf];exact setRow_self w blk cells e (0,0) hgc
theorem zl6{s:ByteArray}{i:Int}:inK .u8 (zaL s i)=true:=by unfold zaL;have:=(s.data.toList.getD i.toNat 0).toNat_lt;exact zbL (by simp only[zcB];omega) (fun _=>by omega) (by simp only[zcB];omega)
theorem zjV{s:ByteArray}{i:Nat}(hi:i<s.size):(((s.data.toList.map fun b=>Value.int .u8 b.toNat).drop (i*1)).take 1)=[.int .u8 (zaL s i)]:=by
 have hl:i<s.data.toList.length:=by simpa using hi
 rw[Nat.mul_one,←List.map_drop,zHQ hl];unfold zaL;rw[zG9,show((i:Int).toNat)=i by omega,zHa hl];rfl
theorem zyA(hM:Mem E ro bl m w){y:SV}{n2:Nat}{t:Ty}{g:Nat→D}(h:zC0 m y=some (n2,t,g)){x:Value}(hx:zaX ro bl y x):
 ∃news:List Value,(Builtin.lenOf x).run P w=.ok n2 w∧news.length=n2*t.size∧(∀v∈news,v.oneCell'=true)∧(∀i,i<n2→(g i).shape=t∧zbg ro (g i) ((news.drop (i*t.size)).take t.size))∧
  ∀k,k≤n2→(Builtin.firstCells t.size k x).run P w=.ok (news.take (k*t.size)).toArray w:=by
 unfold zC0 at h;split at h
 ·rename_i id path lo n;obtain⟨c,f,hat,e1,e2⟩:∃c f,ztA m id path=some (c,t,f)∧n=n2∧g=zbP f lo:=by
   unfold ztA;split at h
   ·rename_i c hc;split at h
    ·rename_i c' t' f hn;cases h;exact⟨c',f,rfl,rfl,rfl⟩
    ·cases h
   ·cases h
  subst e1;subst e2;obtain⟨blk,tb',o,c',t',hb,ho,hlo,A,cap,rfl,hcap,hA⟩:=hx.hd;obtain⟨ht,cells,e,hgc,⟨gg,hcs,hgg⟩,hlen⟩:=zkH hM hat hb ho;cases ht;have hk':∀j,j<c→(gg j).length=t.size:=fun j hj=>by rw[(hgg j hj).2.length,(hgg j hj).1]
  have hle:lo*t.size+n*t.size≤c*t.size:=by rw[←zG8];exact zGK _ hlo
  have hpl:((cells.toList.drop o).take (c*t.size)).length=c*t.size:=by rw[hcs];exact zbK hk'
  have hpart:∀i,i<n→(((cells.toList.drop (o+lo*t.size)).take (n*t.size)).drop (i*t.size)).take t.size=gg (lo+i):=fun i hi=>by
   have h1:i*t.size+t.size≤n*t.size:=by rw[←zFZ];exact zGK _ hi
   have h2:=zdt hk' (i:=lo+i) (by omega);rw[←hcs,zbf (by rw[←zFZ];exact zGK _ (by omega))]at h2;rw[zbf h1,←h2,zG8,zG0]
  refine⟨(cells.toList.drop (o+lo*t.size)).take (n*t.size),rfl,by rw[zHf,zGY,zGu];omega,fun v hv=>?_,fun i hi=>?_,fun k hk=>?_⟩
  ·have e:(cells.toList.drop (o+lo*t.size)).take (n*t.size)=(List.range n).flatMap fun i=>gg (lo+i):=zfh n fun i hi=>by
    have h1:i*t.size+t.size≤n*t.size:=by rw[←zFZ];exact zGK _ hi
    have h2:=hpart i hi;rw[zbf h1]at h2;rw[zGV];exact h2
   rw[e]at hv;obtain⟨i,hi,hv⟩:=zF0.1 hv;exact(hgg (lo+i) (by have:=zF1.1 hi;omega)).2.one v hv
  ·rw[hpart i hi];exact hgg (lo+i) (by omega)
  ·have hks:k*t.size≤n*t.size:=zGK _ hk;rw[zGU,zGW hks];cases A with
   |none=>
    have:n=0:=by
     rcases zHq n with h0|hp
     ·exact h0
     ·have:=hA hp;cases this
    have hk0:k=0:=by omega
    subst hk0;simp[Builtin.firstCells]
   |some a=>
    refine run_firstCells_some (P:=P) w t.size k a n cap _ (by rw[zHf,zGY,zGu];omega) fun j v hj=>?_;have hlt:j<k*t.size:=by
     rcases zGc j (k*t.size)with h|h
     ·exact h
     ·rw[zIg,if_neg (by omega)]at hj;cases hj
    have hn0:0<n:=by
     rcases zHq n with h0|hp
     ·subst h0;omega
     ·exact hp
    cases hA hn0;rw[zbA,cell_of_row w blk _ cells e (0,0) hgc];rw[zIb hlt,zHy]at hj;simpa using hj
 ·rename_i s;cases h;have hxs:x=.string s:=by have:=hx.2 rfl;simpa[zb5,zbg]using this
  subst hxs;have hsz:Ty.size .c=1:=rfl;refine⟨s.data.toList.map fun b=>.int .u8 b.toNat,rfl,by simp[hsz],fun v hv=>?_,fun i hi=>⟨rfl,?_⟩,fun k hk=>?_⟩
  ·obtain⟨b,_,rfl⟩:=zHg.1 hv;rfl
  ·rw[hsz,zjV hi];exact⟨rfl,zl6⟩
  ·simp only[Builtin.firstCells,Sem.run_pure,hsz,Nat.mul_one]
   congr 1
   apply zH3;simp[zHv,zHx,List.map_take]
 ·cases h
theorem zb7:∀{a b:Int},zjH a b=true↔a=b
 | .ofNat a,.ofNat b=>⟨fun h=>by rw[zGk h],fun h=>by cases h;exact zIh a⟩
 | .negSucc a,.negSucc b=>⟨fun h=>by rw[zGk h],fun h=>by cases h;exact zIh a⟩
 | .ofNat _,.negSucc _=>⟨(fun h=>by cases h),(fun h=>by cases h)⟩
 | .negSucc _,.ofNat _=>⟨(fun h=>by cases h),(fun h=>by cases h)⟩
theorem zeS.find{k:IntKind}{n:Int}:∀{l:List (Int×SV)} {es:List MapEntry} {i:Nat},zeS ro bl k l es→
 (zef l n=none∧Instr.findNow (.int k) (.int k n) es i=some none)∨∃j v e,zef l n=some v∧Instr.findNow (.int k) (.int k n) es i=some (some (i+j,e.val))∧zaX ro bl v e.val∧es[j]?=some e∧e.key=.int k n
 |[],[],i,_=>.inl ⟨rfl,rfl⟩
 |p::r,e::es,i,⟨⟨h1,h2⟩,h3⟩=>by
  have hs:Instr.sameNow (.int k) (.int k n) e.key=some (n==p.1):=by rw[h1];simp[Instr.sameNow]
  by_cases he:n=p.1
  ·refine .inr ⟨0,p.2,e,?_,?_,h2,rfl,by rw[h1,he]⟩
   ·obtain⟨a,b⟩:=p;unfold zef;rw[show zjH a n=true from zb7.2 he.symm]
   ·unfold Instr.findNow;rw[hs,show(n==p.1)=true by simp[he]];rfl
  ·have hb:zjH p.1 n=false:=by
    cases hq:zjH p.1 n with
    |false=>rfl
    |true=>exact absurd (zb7.1 hq).symm he
   have hm:zef (p::r) n=zef r n:=by
    obtain⟨a,b⟩:=p;conv=>lhs;unfold zef
    rw[show zjH a n=false from hb]
   have hf:Instr.findNow (.int k) (.int k n) (e::es) i=Instr.findNow (.int k) (.int k n) es (i+1):=by
    conv=>lhs;unfold Instr.findNow
    rw[hs,show(n==p.1)=false by simp[he]]
   rw[hm,hf];rcases h3.find (i:=i+1)with h|⟨j,v,e',g1,g2,g3,g4,g5⟩
   ·exact .inl h
   ·exact .inr ⟨j+1,v,e',g1,by rw[g2,zG0,Nat.add_comm 1 j],g3,by simpa using g4,g5⟩
 |[],_::_,_,h=>h.elim
 |_::_,[],_,h=>h.elim
theorem zeS.put_new{k:IntKind}{n:Int}{u:SV}{x:Value}(hx:zaX ro bl u x){born:Nat}:∀{l:List (Int×SV)} {es:List MapEntry},zeS ro bl k l es→zef l n=none→zeS ro bl k (znd l n u) (es++[{key:=.int k n,val:=x,born:=born}])
 |[],[],_,_=>⟨⟨rfl,hx⟩,trivial⟩
 |(a,b)::r,e::es,⟨h1,h3⟩,hm=>by
  unfold zef at hm;split at hm
  ·cases hm
  ·rename_i hb;unfold znd;rw[hb];exact⟨h1,h3.put_new hx hm⟩
 |[],_::_,h,_=>h.elim
 |_::_,[],h,_=>h.elim
theorem zeS.put_old{k:IntKind}{n:Int}{u:SV}{x:Value}(hx:zaX ro bl u x):∀{l:List (Int×SV)} {es:List MapEntry} {i j:Nat} {y:Value},zeS ro bl k l es→Instr.findNow (.int k) (.int k n) es i=some (some (i+j,y))→∀{es':List MapEntry},(∀q,es'[q]?=if q=j then(es[q]?).map (fun e=>{e with key:=.int k n,val:=x})else es[q]?)→zeS ro bl k (znd l n u) es'
 |[],[],i,j,y,_,hf,_,_=>by simp[Instr.findNow]at hf
 |(a,b)::r,e::es,i,j,y,⟨⟨h1,h2⟩,h3⟩,hf,es',hq=>by
  have hs:Instr.sameNow (.int k) (.int k n) e.key=some (n==a):=by rw[h1];simp[Instr.sameNow]
  unfold Instr.findNow at hf;rw[hs]at hf;by_cases he:n=a
  ·rw[show(n==a)=true by simp[he]]at hf;simp at hf;obtain⟨hj,_⟩:=hf;subst hj;unfold znd;rw[show zjH a n=true from zb7.2 he.symm]
   match es',hq with
   |[],hq=>have:=hq 0;simp at this
   |e'::es2,hq=>
    have h0:=hq 0;simp at h0;have htl:es2=es:=zHL fun q=>by have:=hq (q+1);simpa using this
    subst htl;subst h0;exact⟨⟨by rw[he],hx⟩,h3⟩
  ·rw[show(n==a)=false by simp[he]]at hf;have hb:zjH a n=false:=by
    cases hq:zjH a n with
    |false=>rfl
    |true=>exact absurd (zb7.1 hq).symm he
   unfold znd;rw[hb];simp only at hf;have hj:0<j:=by
    rcases zHq j with h0|hp
    ·subst h0;exfalso;have key:∀(es:List MapEntry) (p:Nat) (q:Nat) (z:Value),Instr.findNow (.int k) (.int k n) es p=some (some (q,z))→p≤q:=fun es=>by
      induction es with
      |nil=>intro p q z h;simp[Instr.findNow]at h
      |cons e es ih=>
       intro p q z h;unfold Instr.findNow at h;split at h
       ·simp at h;omega
       ·have:=ih _ _ _ h;omega
       ·cases h
     have:=key _ _ _ _ hf;omega
    ·exact hp
   match es',hq with
   |[],hq=>have:=hq 0;simp[zGL hj]at this
   |e'::es2,hq=>
    have h0:=hq 0;simp[zGL hj]at h0;subst h0;refine⟨⟨h1,h2⟩,h3.put_old hx (i:=i+1) (j:=j - 1) (y:=y) (by rw[hf];congr 3;omega) fun q=>?_⟩;have:=hq (q+1);simp only[zIi]at this;rw[this];by_cases hqj:q+1=j
    ·rw[if_pos hqj,if_pos (by omega)]
    ·rw[if_neg hqj,if_neg (by omega)]
 |[],_::_,_,_,_,h,_,_,_=>h.elim
 |_::_,[],_,_,_,h,_,_,_=>h.elim
theorem zi0{n:Int}{K:Option SV→Prop}:∀{l:List (Int×SV)},znT n K l→K (zef l n)
 |[],h=>h
 |(a,b)::r,h=>by
  unfold zef;by_cases he:n=a
  ·rw[show zjH a n=true from zb7.2 he.symm];exact h.1 he
  ·have hb:zjH a n=false:=by
    cases hq:zjH a n with
    |false=>rfl
    |true=>exact absurd (zb7.1 hq).symm he
   rw[hb];exact zi0 (h.2 he)
theorem zlW{n:Int}{v:SV}:∀{l:List (Int×SV)},ziz l→zef l n=some v→∃b,v=.d (.bo b)
 |(a,b)::r,h,hm=>by
  unfold zef at hm;split at hm
  ·cases hm;exact h.1
  ·exact zlW h.2 hm
 |[],_,hm=>by cases hm
theorem Mem.map_is(h:Mem E ro bl m w){id:Nat}{k:IntKind}{l:List (Int×SV)}(hr:znU m id=some (k,l)){x:Value}(hx:zaX ro bl (.ob (.mo id)) x):∃q es clock,bl.o[id]?=some (.map q)∧x=.map (some q)∧w.heap[q]?=some (.map es clock)∧zeS ro bl k l es.toList:=by obtain⟨q,h1,h2⟩:=hx.hd;obtain⟨es,clock,h3,h4⟩:=h.obj id _ _ h1 (zso hr);exact⟨q,es,clock,h1,h2,h3,h4⟩
theorem zsq(hM:Mem E ro bl m w){id:Nat}{k:IntKind}{l:List (Int×SV)}(hr:znU m id=some (k,l)){x:Value}(hx:zaX ro bl (.ob (.mo id)) x){T kt et:TypeId}(ht:P.underlying T=some (.map kt et))(hk:P.underlying kt=some (.int k)){n:Int}{u:SV}{y:Value}(hy:zaX ro bl u y):
 ∃bl' w',(Instr.mapUpdate T x (.int k n) y).run P w=.ok () w'∧Mem E ro bl' ⟨m.c,m.t,m.o.set id (.map k (znd l n u))⟩ w'∧Gr ro bl w ro bl' w':=by
 obtain⟨q,es,clock,hb,rfl,hg,hes⟩:=hM.map_is hr hx;have hkey:MapKept.IsKey (.int k) (.int k n):=rfl;have fin:∀es' clock',(∀ro bl,zeS ro bl k l es.toList→zaX ro bl u y→zeS ro bl k (znd l n u) es'.toList)→∃bl',Mem E ro bl' ⟨m.c,m.t,m.o.set id (.map k (znd l n u))⟩ {w with heap:=w.heap.setIfInBounds q (.map es' clock')}∧Gr ro bl w ro bl' {w with heap:=w.heap.setIfInBounds q (.map es' clock')}:=fun es' clock' h=>by obtain⟨h1,h2⟩:=MapKept.heap_set (o':=.map es' clock') hg;exact⟨_,hM.oturn (x':=.map k (znd l n u)) hb (BO.le_refl _) (fun b hb=>.inl hb) rfl rfl rfl (by simp) (fun b _ hn=>h2 b (fun e=>hn (by rw[e];rfl))) fun hl=>⟨es',clock',h1,h _ _ (hes.mono hl) (hy.mono hl)⟩⟩
 rcases hes.find (n:=n) (i:=0)with⟨hm,hf⟩|⟨j,v,e,hm,hf,hv,he,hek⟩
 ·obtain⟨bl',h1,h2⟩:=fin (es.push {key:=.int k n,val:=y,born:=clock}) (clock+1) fun ro bl h hy=>by rw[Array.toList_push];exact h.put_new hy hm
  refine⟨bl',_,?_,h1,h2⟩;simp only[Instr.mapUpdate,Sem.run_bind,run_underlying ht,MapKept.run_getObj_map hg,MapKept.run_checkKey hk hkey,MapKept.run_findKey hk hf,MapKept.run_setObj_map _ hg,Result.andThen]
 ·rw[zGt]at hf;have he':es[j]?=some e:=by simpa using he
  obtain⟨bl',h1,h2⟩:=fin (es.modify j fun e=>{e with key:=.int k n,val:=y}) clock fun ro bl h hy=>by
   refine h.put_old hy (i:=0) (j:=j) (y:=e.val) (by rw[zGt];exact hf) fun q=>?_;rw[zGo,Array.getElem?_modify,zGo];by_cases hq:j=q
   ·rw[if_pos hq,if_pos hq.symm]
   ·rw[if_neg hq,if_neg (zIj hq)]
  refine⟨bl',_,?_,h1,h2⟩;simp[Instr.mapUpdate,run_underlying ht,MapKept.run_getObj_map hg,MapKept.run_checkKey hk hkey,MapKept.run_findKey hk hf,he',hek,MapKept.run_keyThatStays hkey,MapKept.run_setObj_map _ hg,Result.andThen]
end Sx
end Go.Proofs.YtfbhkfhbnkncoaaGreatDoor
