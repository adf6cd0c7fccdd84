import Derived.Test.YtfbhkfhbnkncoaaGreatDoorT10
import Derived.RangeFuncRecord
set_option linter.all false
namespace Go.Proofs.YtfbhkfhbnkncoaaGreatDoor
open Go.RowKit
namespace Sx
variable {E:Gh} {r:Option Nat} {nn:Nat}
variable {P:Program} {tb:TT} {ro:Ro} {bl:Bl} {m:MS} {w:World}
theorem SV.agg_shape:∀{v:SV},v.nt=true→v.agg=v.shape.agg
 | .d _,_=>D.agg_shape
 | .pt ..,_| .el _,_| .fn ..,_| .ow ..,_| .pr ..,_| .ob _,_| .ar ..,_| .fb ..,_=>rfl
 | .tu _,h=>by cases h
theorem zb5.nt:∀{v:SV} {cs:List Value},zb5 ro bl v cs→v.nt=true
 | .d _,_,_| .pt ..,_,_| .el _,_,_| .fn ..,_,_| .ow ..,_,_| .pr ..,_,_| .ob _,_,_| .ar ..,_,_| .fb ..,_,_=>rfl
 | .tu _,_,h=>h.elim
theorem zaX.fb{k:FuncId}{v:SV}{x:Value}(h:zaX ro bl (.fb k v) x):∃y,zaX ro bl v y∧x=.func (.func k) #[y] #[]:=by obtain⟨y,h1,h2⟩:=h.2 rfl;exact⟨y,zcD.v ⟨(fun ha=>by rw[h1.2]at ha;cases ha),fun _=>h1.1⟩,by simpa using h2⟩
theorem zeD{ρ:Operand→Option SV}{a:Act}(hρ:∀x v,ρ x=some v→zaX ro bl v (a.eval x)){args:Array Operand}{u:SV}(hl:zeo ρ args.toList=some [u]):∃x,args.map a.eval= #[x]∧zaX ro bl u x:=by
 have h:=zcY hρ hl
 match hal:args.toList.map a.eval,h with
 |[x],h=>exact⟨x,zH3 (by simpa using hal),h.1⟩
 |[],h=>exact h.elim
 |_::_::_,h=>exact h.2.elim
theorem zgA{ρ:Operand→Option SV}{a:Act}(hρ:∀x v,ρ x=some v→zaX ro bl v (a.eval x)){args:Array Operand}{u v:SV}(hl:zeo ρ args.toList=some [u,v]):∃x y,args.map a.eval= #[x,y]∧zaX ro bl u x∧zaX ro bl v y:=by obtain⟨x,y,hmap,hx,hy⟩:=zua (zcY hρ hl);exact⟨x,y,zH3 (by simpa using hmap),hx,hy⟩
theorem za5.len{ro:Ro}{bl:Bl}:∀{args:List SV} {xs:List Value},za5 ro bl args xs→args.length=xs.length
 |[],[],_=>rfl
 |_::_,_::_,⟨_,h⟩=>by simp[h.len]
 |[],_::_,h=>h.elim
 |_::_,[],h=>h.elim
theorem zfL{α:Type}{l:Array α}{x:α}(h:l.toList=[x]):l= #[x]:=zH3 (by simpa using h)
theorem zih{α:Type}{l:Array α}{x y:α}(h:l.toList=[x,y]):l= #[x,y]:=zH3 (by simpa using h)
theorem zl5{ρ:Operand→Option SV}{ev:Operand→Value}(hρ:∀x v,ρ x=some v→zaX ro bl v (ev x)){n:Nat}{t:Ty}:∀{l:List (Nat×Operand)} {v u:SV} {cells:List Value},zfX ρ n t l v=some u→zb5 ro bl v cells→v.shape=.ar n t→
 ∃out,Instr.fill (fun i=>some (i*t.size,t.size)) cells.toArray (l.map fun x=>(x.1,ev x.2))=some out∧zb5 ro bl u out.toList∧u.shape=.ar n t
 |[],v,u,cells,h,hr,hs=>by simp only[zfX,zGh]at h;subst h;exact⟨cells.toArray,rfl,by simpa using hr,hs⟩
 |(k,x)::r,v,u,cells,h,hr,hs=>by
  unfold zfX at h;split at h
  ·rename_i q hk hx;have hk:=zFG hk;split at h
   ·rename_i hc;simp only[zFR,zFS]at hc;split at h
    ·rename_i v' hv';have hxc:=((hρ _ _ hx).a (SV.nt_ne hc.2)).cells;have hxl:=hxc.length;rw[hc.1]at hxl;have hcl:=hr.length;rw[hs]at hcl;have hkn:k*t.size+t.size≤n*t.size:=by rw[←zFZ];exact zGK _ hk
     obtain⟨hs',hr'⟩:=SV.set_rep hr (by rw[hs];exact zn5 hk) hxc hc.1 hv';obtain⟨out,h1,h2,h3⟩:=zl5 hρ (l:=r) h hr' (hs'.trans hs);refine⟨out,?_,h2,h3⟩;rw[zGF,zkW (off:=k*t.size) (size:=t.size) rfl (by simpa using hxl) (by rw[hcl];exact hkn)];exact h1
    ·cases h
   ·cases h
  ·cases h
theorem zjA{z:Array Value}{n i:Nat}(hi:i<n):((Builtin.zeroCells z n).toList.drop (i*z.size)).take z.size=z.toList:=by
 have hle:i*z.size+z.size≤n*z.size:=by rw[←zFZ];exact zGK _ hi
 apply zHL;intro j;rcases zGc j z.size with hj|hj
 ·rw[zIb hj,zHy];unfold Builtin.zeroCells;have h1:i*z.size+j<n*z.size:=by omega
  have h2:(i*z.size+j) % z.size=j:=by rw[Nat.add_comm,Nat.add_mul_mod_self_right,zHC hj]
  rw[zGo,Array.getElem?_map,Array.getElem?_range];simp[h1,h2,hj]
 ·rw[zIR (by rw[zHf];omega),zIR (by simpa using hj)]
theorem zd8{ρ:Operand→Option SV}{a:Act}{o:Option Operand}(h:zlM ρ o=some none):o.map a.eval=none:=by
 cases o with
 |none=>rfl
 |some x=>simp only[zlM]at h;split at h<;>cases h
theorem zkK{ρ:Operand→Option SV}{a:Act}(hρ:∀x v,ρ x=some v→zaX ro bl v (a.eval x)){o:Option Operand}{i:Int}(h:zlM ρ o=some (some i)):∃k,o.map a.eval=some (.int k i):=by
 rcases zfW hρ h with⟨h9,_⟩|⟨_,k,h9,e⟩
 ·cases h9
 ·cases h9;exact⟨k,e⟩
theorem zl4{n:Nat}{lo hi:Option Value}{l h:Option Int}(elo:(l=none∧lo=none)∨∃i k,l=some i∧lo=some (.int k i))(ehi:(h=none∧hi=none)∨∃i k,h=some i∧hi=some (.int k i))(h0:0≤l.getD 0)(h1:l.getD 0≤h.getD n)(h2:h.getD n≤n):
 (Instr.sliceBounds false n n lo hi none).run P w=.ok ((l.getD 0).toNat,(h.getD n).toNat,n) w:=by
 rcases elo with⟨rfl,rfl⟩|⟨il,kl,rfl,rfl⟩<;>rcases ehi with⟨rfl,rfl⟩|⟨ih,kh,rfl,rfl⟩<;>simp only[Option.getD_none,zIy]at h0 h1 h2 ⊢
 ·simp[Instr.sliceBounds]
 ·simp[Instr.sliceBounds,Instr.sliceBound,asIntOf,h1,h2]
 ·simp[Instr.sliceBounds,Instr.sliceBound,asIntOf,h0,h1]
 ·have h3:0≤ih:=by omega
  have h4:il≤((ih.toNat:Nat):Int):=by omega
  have h5:((0:Int)≤ih∧ih≤(n:Int)):=⟨h3,h2⟩;have h6:((0:Int)≤il∧il≤((ih.toNat:Nat):Int)):=⟨h0,h4⟩;simp only[Instr.sliceBounds,Instr.sliceBound,asIntOf,Sem.run_bind,Sem.run_pure,Result.andThen_ok,if_pos h5,if_pos h6]
theorem zkx(hP:tb.ok P){e:TypeId}{ie:TI}(hie:tb.get e=some ie):∃zv:Value,(zeroValue e).run P w=.ok zv w∧zbg ro ie.zero.d zv.cells.toList∧zv.cells.size=ie.zero.d.shape.size∧∀n,∀v∈(Builtin.zeroCells zv.cells n).toList,v.oneCell'=true:=by
 obtain⟨hsz,⟨hk,hz,hag,hby⟩⟩:=hP _ _ hie;obtain⟨i,hi,hsi⟩:=zGj.1 hsz.1;simp only[hi,zGE,zGh]at hz hby;have hzc:=(zcD.of_cells (ro:=ro) (bl:=⟨[],[],[],[],0⟩) (v:=.d ie.zero.d) (ie.zero.rep ro)).cells;rw[show(SV.d ie.zero.d).agg=ie.ag from hag]at hzc;generalize hzv:(if ie.ag then Value.agg ie.zero.cells.toArray else ie.zero.cells.headD undef)=zv at hz hzc;refine⟨zv,by simp[zeroValue,typeInfo,hi,hz],hzc,by have:=hzc.length;show _=(SV.d ie.zero.d).shape.size;simpa using this,fun n v hv=>?_⟩;have h1:=hzc.one;unfold Builtin.zeroCells at hv;rw[zG6]at hv;obtain⟨j,hj,rfl⟩:=zHg.1 hv;have hjs:j<n*zv.cells.size:=by simpa using hj
 have hpos:0<zv.cells.size:=by
  rcases zHq zv.cells.size with h0|hp
  ·rw[h0]at hjs;omega
  ·exact hp
 have hlt:=Nat.mod_lt j hpos;rw[getElem!_pos zv.cells (j % zv.cells.size) hlt];exact h1 _ (by simp)
theorem zl7{T e:TypeId}(hu:P.underlying T=some (.slice e)){zv:Value}(hz:(zeroValue e).run P w=.ok zv w){A:Option Addr}{n cap:Nat}{ty:TypeId}{w':World}(hst:∀a,A=some a→(storeCells a (Builtin.zeroCells zv.cells n).toList).run P w=.ok () w')(hno:A=none→w'=w):
 (Builtin.clear_ #[T] ty #[.slice A n cap]).run P w=.ok (.tuple #[]) w':=by
 cases A with
 |none=>rw[hno rfl];cases n<;>simp[Builtin.clear_,run_underlying hu]
 |some a=>
  cases n with
  |zero=>
   have h:=hst a rfl;have e0:(Builtin.zeroCells zv.cells 0).toList=[]:=by simp[Builtin.zeroCells]
   rw[e0]at h;have hw:w'=w:=by
    have h2:(storeCells a ([]:List Value)).run P w=.ok () w:=rfl;rw[h2]at h;injection h with _ h
    exact h.symm
   rw[hw];simp[Builtin.clear_,run_underlying hu]
  |succ n=>simp[Builtin.clear_,run_underlying hu,hz,hst a rfl]
theorem zs6(hM:Mem E ro bl m w){id v n:Nat}{t:Ty}{f:Nat→D}(hr:zd6 m id=some (v,n,t,f)){lo:Nat}{A:Option Addr}{n0 cap:Nat}(hx:zaX ro bl (.ob (.mq id v lo)) (.slice A n0 cap)){z:D}(hzs:z.shape=t){vs:List Value}(hv:vs.length=(n - lo)*t.size)(hone:∀v∈vs,v.oneCell'=true)
 (hg:∀i,i<n - lo→zbg ro z ((vs.drop (i*t.size)).take t.size)):
 ∃bl' w',n0=n - lo∧(∀a,A=some a→(storeCells a vs).run P w=.ok () w')∧(A=none→w'=w)∧Mem E ro bl' ⟨m.c,m.t,m.o.set id (.row v n t (znv lo (n - lo) (fun _=>z) f))⟩ w'∧Gr ro bl w ro bl' w':=by
 obtain⟨b,c,hR⟩:=hM.row_is hr;obtain⟨hlo,he⟩:=hR.mq hx;have hnc:=hR.nc;unfold sliced at he;cases he;rcases zHq (n - lo)with h0|hp
 ·have hvs:vs=[]:=zIa (by rw[hv,h0];omega);subst hvs;have hf:znv lo (n - lo) (fun _=>z) f=f:=by
   funext i
   rw[zkQ,if_neg (by omega)]
  obtain⟨hM',hG'⟩:=hM.oturn (y':=.row v b n c t.size) (x':=.row v n t f) (w':=w) hR.bo (BO.le_refl _) (fun b hb=>.inl hb) rfl rfl rfl (zF5 _) (fun _ _ _=>rfl) (fun hl=>zcK hnc hR.nil hR.blk);rw[hf];exact⟨_,w,rfl,fun a _=>rfl,fun _=>rfl,hM',hG'⟩
 ·obtain⟨k,rfl⟩:=hR.some (by omega);obtain⟨h0,cells,ty,h1,h2,h3⟩:=hR.blk k rfl;have hcl:¬c=lo:=by omega
  rw[if_neg hcl];have hlk:lo*t.size+(n - lo)*t.size=n*t.size:=by rw[←zG8];congr 1;omega
  have hle:n*t.size≤c*t.size:=zGK _ hnc;have hst:=run_storeCells_at P k (lo*t.size) ty vs 0 cells w h1 (by omega) hone;simp only[zHZ]at hst;obtain⟨hM',hG'⟩:=hM.oturn (y':=.row v (some k) n c t.size) (x':=.row v n t (znv lo (n - lo) (fun _=>z) f)) (w':=w.setRow k (cells.toList.take (lo*t.size)++vs++cells.toList.drop (lo*t.size+vs.length)).toArray) hR.bo (BO.le_refl _) (fun b hb=>.inl hb) rfl rfl rfl (by simp)
   (fun b hb hn=>setRow_other _ _ _ _ (fun e=>hn (by rw[e];rfl))) (fun hl=>zcK hnc (fun e=>by cases e) fun k' hk=>by
    cases hk;refine⟨h0,_,ty,setRow_heap _ _ _ _ _ _ h1,by simp;omega,fun j hj=>?_⟩;rw[zH8,zmN (n:=n) (k:=n - lo) (by rw[zGu];omega) hv (by omega) hj,zkQ];split
    ·exact⟨hzs,hg _ (by omega)⟩
    ·exact h3 j hj)
  refine⟨_,_,rfl,fun a ha=>?_,(fun ha=>by cases ha),hM',hG'⟩;simp only[zgW,zGE,zbA,zGt,zGh]at ha;subst ha;exact hst
theorem ziA{n:Int}{v:SV}:∀{l:List (Int×SV)},zt6 l=true→zef l n=some v→v.nt=true
 |[],_,h=>by cases h
 |(a,b)::r,hl,h=>by
  simp only[zt6,zFR]at hl;unfold zef at h;split at h
  ·cases h;exact hl.1
  ·exact ziA hl.2 h
theorem zpO(hP:tb.ok P){pr:Bool}{K:SV→MS→Prop}{T:TypeId}{x k y:Option SV}(h:zzj tb m pr K T x k y):∃id kk n u l kt et,x=some (.ob (.mo id))∧k=some (.d (.z kk n))∧y=some u∧P.underlying T=some (.map kt et)∧P.underlying kt=some (.int kk)∧znU m id=some (kk,l)∧K (.tu (.d .un)) ⟨m.c,m.t,m.o.set id (.map kk (znd l n u))⟩:=by
 unfold zzj at h;split at h
 ·rename_i id kk n u s ag k' z zz hT;obtain⟨kt,et,h1,h2,_⟩:=(hP T _ hT).2.1;split at h
  ·rename_i k2 l hr;split at h
   ·rename_i hc;simp only[zFR,zFS]at hc;obtain⟨rfl,rfl,_⟩:=hc;rw[zez]at h;exact⟨id,_,n,u,l,kt,et,rfl,rfl,rfl,h1,h2,hr,h⟩
   ·exact h.elim
  ·exact h.elim
 ·exact h.elim
theorem zxJ(hM:Mem E ro bl m w){n:Int}:∃es clock,w.heap[bl.g]?=some (.map es clock)∧((Instr.findNow (.int .u8) (.int .u8 n) es.toList 0=some none∧zef znA n=none)∨∃i v x,Instr.findNow (.int .u8) (.int .u8 n) es.toList 0=some (some (i,x))∧zef znA n=some v∧zaX ro bl v x):=by
 obtain⟨es,clock,h1,h2⟩:=hM.glob.map;refine⟨es,clock,h1,?_⟩;have key:∀(l:List (Int×FuncId)),zef (l.map fun p=>(p.1,SV.fn (.func p.2) (.d .un))) n=(ziS l n).map fun f=>SV.fn (.func f) (.d .un):=fun l=>by
  induction l with
  |nil=>rfl
  |cons p r ih=>
   obtain⟨a,f⟩:=p;simp only[zGF];unfold zef ziS;by_cases he:a=n
   ·rw[show zjH a n=true from zb7.2 he,if_pos he];rfl
   ·have hb:zjH a n=false:=by
     cases hq:zjH a n with
     |false=>rfl
     |true=>exact absurd (zb7.1 hq) he
    rw[hb,if_neg he];exact ih
 have hd:znA=zeH.map fun p=>(p.1,SV.fn (.func p.2) (.d .un)):=rfl;rw[hd,key];rcases h2 n with⟨g1,g2⟩|⟨i,f,g1,g2⟩
 ·exact .inl ⟨g1,by rw[g2];rfl⟩
 ·exact .inr ⟨i,SV.fn (.func f) (.d .un),.func (.func f) #[] #[],g1,by rw[g2];rfl,⟨(fun h=>by cases h),fun _=>⟨[],rfl,rfl⟩⟩⟩
theorem zfu{v:SV}{x:Value}{b:Bool}(hv:zaX ro bl v x)(hn:v.nt=true):zaX ro bl (.tu (.pr v (.pr (.d (.bo b)) (.d .un)))) (.tuple #[x,.bool b]):=
 ⟨[x,.bool b],⟨x,_,rfl,hv.a (SV.nt_ne hn),⟨_,_,rfl,(zbM b).a (fun a e=>by cases e),rfl⟩⟩,rfl⟩
theorem zAO{q:Option Prop}{k:Prop}(h:obl (fun p=>p) q k):(∀p,q=some p→p)∧k:=by
 unfold obl at h;cases q with
 |none=>exact⟨(fun p hp=>by cases hp),h⟩
 |some p=>exact⟨(fun p' hp=>by cases hp;exact h.1),h.2⟩
theorem zt8(hM:Mem E ro bl m w){T e:TypeId}(hT:P.underlying T=some (.slice e)){id:Nat}{y:SV}{q:Option Prop}{n':Nat}{t':Ty}{f':Nat→D}(h:zCd m id y=some (q,n',t',f'))(hq:∀p,q=some p→p){x:Value}(hx:zaX ro bl y x):
 ∃news,Src P t'.size T x n' news w∧news.length=n'*t'.size∧∀i,i<n'→(f' i).shape=t'∧zbg ro (f' i) ((news.drop (i*t'.size)).take t'.size):=by
 unfold zCd at h;split at h
 ·split at h
  ·rename_i v2 n2 t2 f2 hr;cases h;obtain⟨rfl,_⟩:=hq _ rfl;exact zyl hM hT hr hx
  ·cases h
 ·split at h
  ·rename_i hd;cases h;exact ztg hM hT (hx.dat hd).sl
  ·cases h
set_option maxHeartbeats 2000000 in
theorem zqy(hP:tb.ok P){o:Oper}{a:Act}(hM:Mem E ro bl m w){ρ:Operand→Option SV}(hρ:∀x v,ρ x=some v→zaX ro bl v (a.eval x)){G:Prop→Prop}(hG:∀p,G p→p){pr:Bool}{K:SV→MS→Prop}{Kp:D→MS→Prop}
 (h:zek P tb o.op m ρ G pr K Kp){next:Act→World→Prop}{Q:Exit→Act→World→Prop}(g:Goes E P ro bl w o a next Q K Kp):o.wpIn (FR r) nn P a w next Q:=by
 obtain⟨dst,op,type,pos,after,guard⟩:=o;have skip:∀{w':World} {ro' bl' m'},(∀c,op≠.defer c)→(execOp a.eval {dst:=dst,op:=op,type:=type,pos:=pos,after:=after,guard:=guard}).run P w=.ok .skip w'→K (.tu (.d .un)) m'→Mem E ro' bl' m' w'→Gr ro bl w ro' bl' w'→Oper.wpIn (FR r) nn P {dst:=dst,op:=op,type:=type,pos:=pos,after:=after,guard:=guard} a w next Q:=fun hd hr hK hM' hG'=>by refine zmJ hd ?_;rw[hr];exact g.ok _ _ _ _ _ _ hK zfQ hM' hG'
 cases op with
 |store T x y=>
  simp only[zek]at h;split at h
  ·rename_i id ver i u hx hy;split at h
   ·rename_i d hd;split at h
    ·rename_i v n t f ie hr hT;split at h
     ·rename_i hc;simp only[zFR,zFS]at hc;obtain⟨h1,f2,rfl,hK⟩:=h;obtain⟨rfl,_⟩:=hG _ h1;obtain⟨A,bl',w',hxv,hrun,hM',hG'⟩:=zs8 (P:=P) hM hr (hρ _ _ hx) (T:=T) (by rw[zGk hc.2];exact(hP _ _ hT).1.1) ((hρ _ _ hy).dat hd) hc.1;rw[zez]at hK;exact skip (by intro c h;cases h) (by simp[execOp,Instr.storeAt,Instr.sureAddr,hxv,hrun]) hK hM' hG'
     ·exact h.elim
    ·exact h.elim
   ·exact h.elim
  ·exact h.elim
 |load T x=>
  simp only[zek]at h;split at h
  ·rename_i id ver i hx;split at h
   ·rename_i v n t f ie hr hT;split at h
    ·rename_i hc;simp only[zc4,zFR,zGG]at hc;obtain⟨rfl,_⟩:=hG _ h.1;obtain⟨A,y,hxv,hrun,hy⟩:=zve (P:=P) hM hr (hρ _ _ hx) (T:=T) (by rw[zGk hc.1,hc.2];exact(hP _ _ hT).1);exact g.val (w':=w) (by simp[execOp,Instr.loadAt,Instr.sureAddr,hxv,hrun]) h.2 hy hM (Gr.refl _ _ _)
    ·exact h.elim
   ·exact h.elim
  ·rename_i g0 hx;split at h
   ·rename_i ie hg0 hT;have hg0:=zGk hg0;subst hg0;split at h
    ·rename_i hc;simp only[zc4,zFR,zGG]at hc;have hxv:a.eval x=.pointer (some ⟨0,0,none⟩):=(hρ _ _ hx).hd;obtain⟨cells,ty,fz,hcell,hc0⟩:=hM.glob.var;have hsz:0<cells.size:=(zIq.1 hc0).1;have hTF:TF P T 1 false:=by
      have:=(hP _ _ hT).1
      rwa [←zGk hc.1,←hc.2]at this
     have hrun:=zcL (P:=P) hTF hcell (o:=0) (by omega) (fun _=>rfl);have e1:((cells.toList.drop 0).take 1).headD undef=.map (some bl.g):=by
      have:cells.toList[0]?=some (.map (some bl.g)):=by simpa using hc0
      cases hq:cells.toList with
      |nil=>rw[hq]at this;cases this
      |cons y r=>rw[hq]at this;simpa using this
     rw[if_neg (by decide),e1]at hrun;exact g.val (w':=w) (by simp[execOp,Instr.loadAt,Instr.sureAddr,hxv,hrun]) h (zgv.v rfl) hM (Gr.refl _ _ _)
    ·exact h.elim
   ·exact h.elim
  ·exact h.elim
 |indexAddr T x ix=>
  simp only[zek]at h;split at h
  ·rename_i id ver k i ie hx hix hT;have hiv:=(hρ _ _ hix).z.1;obtain⟨e,hu,hie⟩:=zdG hP hT;split at h
   ·rename_i v n t f hr;split at h
    ·rename_i hs;have hs:=zGk hs;obtain⟨rfl,h0,h1⟩:=hG _ h.1;obtain⟨b,c,hR⟩:=hM.row_is hr;have hxv:=hR.mr (hρ _ _ hx);obtain⟨q,rfl⟩:=hR.some (by omega);refine g.val (w':=w) (x:=.pointer (some ⟨q,i.toNat*t.size,none⟩)) ?_ h.2 (zgv.v ⟨rfl,_,_,_,_,_,hR.bo,zF5 _,fun _=>⟨by omega,q,rfl,rfl⟩⟩) hM (Gr.refl _ _ _);have hrun:(Instr.indexAt T (.slice (zgW (some q)) n c) (.int k i)).run P w=.ok (.pointer (some (({block:=q,off:=0}:Addr).add (i.toNat*ie.size)))) w:=by simp[zgW,Instr.indexAt,asIntOf,run_underlying hu,h0,h1,(hP _ _ hie).1.sizeOf]
     rw[zbA,zGt,←hs]at hrun;simp[execOp,hxv,hiv,hrun]
    ·exact h.elim
   ·exact h.elim
  ·rename_i id path lo n k i ie hx hix hT;have hiv:=(hρ _ _ hix).z.1;obtain⟨e,hu,hie⟩:=zdG hP hT;split at h
   ·rename_i n' t f hat;split at h
    ·rename_i hs;have hs:=zGk hs;obtain⟨h0,h1⟩:=hG _ h.1;obtain⟨blk,tb',o,c,t',hb,ho,hlo,A,cap,hxv,hcap,hA⟩:=(hρ _ _ hx).hd;obtain⟨ht,_⟩:=zkH hM hat hb ho;cases ht;cases hA (by omega);have hoff:=zhv ho (s:=[lo+i.toNat]) (zn5 (by omega));refine g.val (w':=w) (x:=.pointer (some ⟨blk,o+(lo+i.toNat)*t.size,none⟩)) ?_ h.2 ⟨(fun h=>by cases h),fun _=>⟨blk,_,_,_,hb,hoff,rfl⟩⟩ hM (Gr.refl _ _ _);have hrun:(Instr.indexAt T (.slice (some ⟨blk,o+lo*t.size,none⟩) n cap) (.int k i)).run P w=.ok (.pointer (some (({block:=blk,off:=o+lo*t.size}:Addr).add (i.toNat*ie.size)))) w:=by simp[Instr.indexAt,asIntOf,run_underlying hu,h0,h1,(hP _ _ hie).1.sizeOf]
     rw[zbA,←hs,zG0,←zG8]at hrun;simp[execOp,hxv,hiv,hrun]
    ·exact h.elim
   ·exact h.elim
  ·exact h.elim
 |index T x ix=>
  simp only[zek]at h;split at h
  ·rename_i n t f k i s ag n' e z hx hix hT;have hiv:=(hρ _ _ hix).z.1;have hu:P.underlying T=some (.array n' e):=(hP T _ hT).2.1;split at h
   ·rename_i ie hie;split at h
    ·rename_i hs;simp only[zFR,zc4,zGG]at hs;have h1:=zGk hs.1;have h2:=zGk hs.2.1;subst h1;have hi:=hG _ h.1;obtain⟨cells,⟨gg,hcs,hgg⟩,hxv⟩:=(hρ _ _ hx).1 rfl;have hlt:i.toNat<n:=by omega
     obtain⟨g1,g2⟩:=hgg _ hlt;have hk:∀j,j<n→(gg j).length=t.size:=fun j hj=>by rw[(hgg j hj).2.length,(hgg j hj).1]
     have hlen:cells.length=n*t.size:=by rw[hcs];exact zbK hk
     have hpart:=zdt hk hlt;rw[←hcs]at hpart;have hle:i.toNat*t.size+t.size≤n*t.size:=by rw[←zFZ];exact zGK _ hlt
     have hTF:=(hP _ _ hie).1;rw[←h2,←hs.2.2]at hTF;have hrun:=zgZ (P:=P) (w:=w) hTF (cells:=cells) (o:=i.toNat*t.size) (by omega) (fun h=>by cases t<;>first|rfl|cases h);rw[hpart]at hrun;have hr:=zcD.of_cells (bl:=bl) (v:=f i.toNat) g2;rw[show(f i.toNat).agg=t.agg from by rw[←g1];exact SV.agg_shape g2.nt]at hr;refine g.val (w':=w) ?_ h.2 hr.v hM (Gr.refl _ _ _);simp[execOp,Instr.index,asIntOf,hxv,hiv,run_underlying hu,hi,(hP _ _ hie).1.sizeOf,←h2,hrun]
    ·exact h.elim
   ·exact h.elim
  ·exact h.elim
 |slice T x lo hi mx=>
  simp only[zek]at h;split at h
  ·rename_i id ver l hh mm hx hlo hhi hmx;split at h
   ·rename_i v n t f ie hr hT;obtain⟨e,hu,hie⟩:=zdG hP hT;split at h
    ·rename_i hs;have hs:=zGk hs;have hel:P.elem T=e:=by simp[Program.elem,hu]
     have hu':P.underlying T=some (.slice (P.elem T)):=by rw[hel];exact hu
     have hsz':(sizeOf (P.elem T)).run P w=.ok t.size w:=by rw[hel,hs];exact(hP _ _ hie).1.sizeOf w
     unfold mrV at h;split at h
     ·rename_i ih;split at h
      ·exact h.elim
      ·obtain⟨rfl,h0,h1⟩:=hG _ h.1;obtain⟨b,c,bl',hxv,hnc,hy,hM',hG'⟩:=zyk hM hr (hρ _ _ hx) (h:=ih.toNat) (by omega);have elo:=zd8 (a:=a) hlo;obtain⟨kh,ehi⟩:=zkK hρ hhi;have emx:=zd8 (a:=a) hmx;have hrun:=run_slice_h (P:=P) w T (zgW b) n c hu' kh ih h0 (by omega);rw[hsz']at hrun;have e1:sliced (zgW b) 0 ih.toNat c t.size=.slice (zgW b) ih.toNat c:=by
        unfold sliced;cases b with
        |none=>simp[zgW]
        |some q=>simp[zgW,zbA]
       rw[zez]at h;refine g.val (w':=w) (x:=.slice (zgW b) ih.toNat c) ?_ h.2 hy hM' hG';have:(execOp a.eval {dst:=dst,op:=.slice T x lo hi mx,type:=type,pos:=pos,after:=after,guard:=guard}).run P w=((Instr.slice T (.slice (zgW b) n c) (lo.map a.eval) (hi.map a.eval) (mx.map a.eval)).run P w).andThen fun v w=>.ok (.value v) w:=by rw[←run_sliceAt_slice (P:=P) w T _ _ _ _ hu',←hxv];cases lo<;>cases hi<;>cases mx<;>simp[execOp]
       rw[this,elo,ehi,emx,hrun,←e1];rfl
     ·rename_i il;obtain⟨rfl,h0,h1⟩:=hG _ h.1;obtain⟨b,c,hR⟩:=hM.row_is hr;have hxv:=hR.mr (hρ _ _ hx);obtain⟨kl,elo⟩:=zkK hρ hlo;have ehi:=zd8 (a:=a) hhi;have emx:=zd8 (a:=a) hmx;have hrun:=run_slice_l (P:=P) w T (zgW b) n c hu' kl il h0 h1;rw[hsz']at hrun;refine g.val (w':=w) (x:=sliced (zgW b) il.toNat n c t.size) ?_ h.2 (zgv.v ⟨rfl,_,_,_,_,_,hR.bo,zF5 _,fun _=>⟨by omega,rfl⟩⟩) hM (Gr.refl _ _ _);have:(execOp a.eval {dst:=dst,op:=.slice T x lo hi mx,type:=type,pos:=pos,after:=after,guard:=guard}).run P w=((Instr.slice T (.slice (zgW b) n c) (lo.map a.eval) (hi.map a.eval) (mx.map a.eval)).run P w).andThen fun v w=>.ok (.value v) w:=by rw[←run_sliceAt_slice (P:=P) w T _ _ _ _ hu',←hxv];cases lo<;>cases hi<;>cases mx<;>simp[execOp]
      rw[this,elo,ehi,emx,hrun];rfl
     ·exact h.elim
    ·exact h.elim
   ·exact h.elim
  ·rename_i s l hh hx hlo hhi hmx;split at h
   ·rename_i sz ag z hT;have hu:P.underlying T=some .string:=(hP T _ hT).2.1;have hxv:a.eval x=.string s:=by have:=(hρ _ _ hx).2 rfl;simpa[zb5,zbg]using this
    obtain⟨h0,h1,h2⟩:=hG _ h.1;have emx:=zd8 (a:=a) hmx;have hb:=zl4 (P:=P) (w:=w) (zfW hρ hlo) (zfW hρ hhi) h0 h1 h2;refine g.val (w':=w) (x:=.string (s.extract (l.getD 0).toNat (hh.getD s.size).toNat)) ?_ h.2 ⟨(fun h=>by cases h),fun _=>rfl⟩ hM (Gr.refl _ _ _);have:(execOp a.eval {dst:=dst,op:=.slice T x lo hi mx,type:=type,pos:=pos,after:=after,guard:=guard}).run P w=((Instr.slice T (.string s) (lo.map a.eval) (hi.map a.eval) none).run P w).andThen fun v w=>.ok (.value v) w:=by rw[←run_sliceAt_string (P:=P) w T _ _ _ _ hu,←hxv,←emx];cases lo<;>cases hi<;>cases mx<;>simp[execOp]
    rw[this];simp only[Instr.slice,Sem.run_bind,run_underlying hu,Result.andThen_ok,Option.isSome_none,if_neg Bool.false_ne_true,hb,Sem.run_pure]
   ·exact h.elim
  ·rename_i id path l hh hx hlo hhi hmx;split at h
   ·rename_i n' t f n ie hat hT;split at h
    ·rename_i hc;simp only[zFR]at hc;have hn:=zGk hc.1;have hs:=zGk hc.2;subst hn;obtain⟨h0,h1,h2⟩:=hG _ h.1;obtain⟨blk,tb',o,t',hb,ho,hxv⟩:=(hρ _ _ hx).pt;obtain⟨ht,_⟩:=zkH hM hat hb ho;subst ht;have emx:=zd8 (a:=a) hmx;have hb2:=zl4 (P:=P) (w:=w) (zfW hρ hlo) (zfW hρ hhi) h0 h1 h2;have hrun:(Instr.sliceAt T (.pointer (some ⟨blk,o,none⟩)) (lo.map a.eval) (hi.map a.eval) none).run P w=.ok (.slice (some (if n=(l.getD 0).toNat then⟨blk,o,none⟩else(⟨blk,o,none⟩:Addr).add ((l.getD 0).toNat*t.size))) ((hh.getD n).toNat -(l.getD 0).toNat) (n -(l.getD 0).toNat)) w:=by
      unfold arI at hT;split at hT
      ·rename_i s ag n0 e z hTT;obtain⟨ie',hie,hq⟩:=zGj.1 hT;cases hq;have hu:P.underlying T=some (.array n e):=(hP T _ hTT).2.1;simp[Instr.sliceAt,Instr.sureAddr,run_underlying hu,hb2,(hP _ _ hie).1.sizeOf,←hs]
      ·rename_i s ag q z hTT;have hu:P.underlying T=some (.pointer q):=(hP T _ hTT).2.1;split at hT
       ·rename_i s2 ag2 n0 e z2 hTq;obtain⟨ie',hie,hq⟩:=zGj.1 hT;cases hq;have hu2:P.underlying q=some (.array n e):=(hP q _ hTq).2.1;simp[Instr.sliceAt,Instr.slice,Instr.sureAddr,asAddr,run_underlying hu,run_underlying hu2,hb2,(hP _ _ hie).1.sizeOf,←hs]
       ·cases hT
      ·cases hT
     refine g.val (w':=w) (x:=_) (by
      have:(execOp a.eval {dst:=dst,op:=.slice T x lo hi mx,type:=type,pos:=pos,after:=after,guard:=guard}).run P w=((Instr.sliceAt T (.pointer (some ⟨blk,o,none⟩)) (lo.map a.eval) (hi.map a.eval) none).run P w).andThen fun v w=>.ok (.value v) w:=by rw[←hxv,←emx];cases lo<;>cases hi<;>cases mx<;>simp[execOp]
      rw[this,hrun];rfl) h.2 (zgv.v ⟨blk,_,o,n,t,hb,ho,by omega,_,_,rfl,by omega,fun hp=>?_⟩) hM (Gr.refl _ _ _)
     rw[if_neg (by omega),zbA]
    ·exact h.elim
   ·exact h.elim
  ·rename_i t f h0 hx hlo hhi hmx;split at h
   ·rename_i ie hT;obtain⟨e,hu,hie⟩:=zdG hP hT;have hel:P.elem T=e:=by simp[Program.elem,hu]
    have hu':P.underlying T=some (.slice (P.elem T)):=by rw[hel];exact hu
    have hsz':(sizeOf (P.elem T)).run P w=.ok ie.size w:=by rw[hel];exact(hP _ _ hie).1.sizeOf w
    obtain rfl:0=h0:=hG _ h.1;obtain⟨x',en,hxe,hen,_,htl,hxx⟩:=(hρ _ _ hx).2 rfl;cases hxx;cases hen;obtain⟨A,hA⟩:∃A,a.eval x=.slice A 0 0:=by
     rcases htl rfl with h1|⟨_,_,_,_,h1,_⟩
     ·exact h1
     ·cases h1
    have elo:=zd8 (a:=a) hlo;obtain⟨kh,ehi⟩:=zkK hρ hhi;have emx:=zd8 (a:=a) hmx;have hrun:=run_slice_h (P:=P) w T A 0 0 hu' kh 0 (zFJ _) (zFJ _);rw[hsz']at hrun;refine g.val (w':=w) (x:=.slice A 0 0) ?_ h.2 (hA▸hρ _ _ hx) hM (Gr.refl _ _ _);have:(execOp a.eval {dst:=dst,op:=.slice T x lo hi mx,type:=type,pos:=pos,after:=after,guard:=guard}).run P w=((Instr.slice T (.slice A 0 0) (lo.map a.eval) (hi.map a.eval) (mx.map a.eval)).run P w).andThen fun v w=>.ok (.value v) w:=by rw[←run_sliceAt_slice (P:=P) w T _ _ _ _ hu',←hA];cases lo<;>cases hi<;>cases mx<;>simp[execOp]
    rw[this,elo,ehi,emx,hrun];rfl
   ·exact h.elim
  ·exact h.elim
 |convert S T x=>
  simp only[zek]at h;split at h
  ·rename_i s sz ag z sz2 ag2 z2 hx hS hT;obtain⟨e,hu,hie⟩:=zdG hP hT;have hue:P.underlying e=some (.int .u8):=(hP e _ hie).2.1;have hus:P.underlying S=some .string:=(hP S _ hS).2.1;have hxv:a.eval x=.string s:=by have:=(hρ _ _ hx).2 rfl;simpa[zb5,zbg]using this
   split at h
   ·exact h.elim
   ·have hrun:=Lib.run_convert_string_bytes (P:=P) w S T e s hus hu hue;have hnew:=Lib.bytesWorld_at_new w e s;have hold:=fun j hj=>Lib.bytesWorld_at_old w e s j hj;have hsz:w.heap.size≤(Lib.bytesWorld w e s).heap.size:=by have:=(zIq.1 hnew).1;omega
    have hk:∀b row,ro b=some row→b<w.heap.size:=fun b row hr=>hM.known_lt hr;have hro:∀b,b<w.heap.size→(zaq ro w.heap.size (some (s.data.toList.map fun b=>Value.int .u8 b.toNat))) b=ro b:=fun b hb=>by unfold zaq;rw[if_neg (by omega)]
    have hself:(zaq ro w.heap.size (some (s.data.toList.map fun b=>Value.int .u8 b.toNat))) w.heap.size=some (s.data.toList.map fun b=>Value.int .u8 b.toNat):=by unfold zaq;exact if_pos rfl
    have hle:Le ro bl (zaq ro w.heap.size (some (s.data.toList.map fun b=>Value.int .u8 b.toNat))) bl:=⟨fun b r hr=>⟨r,by rw[hro b (hk b r hr)];exact hr,zGM _⟩,fun _ _ h=>h,fun id e' he=>⟨e',he,zF5 _,fun _=>⟨rfl,fun blk hb=>by
     obtain⟨r,_,_,h1,_⟩:=hM.tail id e' blk he hb;exact hro blk (hk blk r h1)⟩⟩,fun _ x h=>⟨x,h,x.le_refl⟩,rfl⟩
    have hos:(Lib.bytesWorld w e s).os=w.os∧(Lib.bytesWorld w e s).tape=w.tape∧(Lib.bytesWorld w e s).output=w.output:=by unfold Lib.bytesWorld World.freeze;rw[if_neg (by decide)];exact⟨rfl,rfl,rfl⟩
    have hG':Gr ro bl w (zaq ro w.heap.size (some (s.data.toList.map fun b=>Value.int .u8 b.toNat))) bl (Lib.bytesWorld w e s):=⟨hos.1,hos.2.1,hos.2.2,hsz,fun b hb _=>⟨hold b hb,hro b hb⟩,hle,fun _ h=>.inl h,rfl⟩;have hM':=hM.to hG' ⟨hM.len,hM.ver,fun id blk t u hb hc=>by
     obtain⟨cl,e',h1,h2,h3,h4⟩:=hM.box id blk t u hb hc;exact⟨cl,e',(hold _ (hM.lt hb)).trans h1,h2.mono hle,h3,by rw[hro blk (hM.lt hb)];exact h4⟩,hM.inj,fun id e' blk hi he=>by
     obtain⟨r,cl,ty,h1,h2,h3⟩:=hM.tail id e' blk hi he;exact⟨r,cl,ty,by rw[hro blk (hk _ _ h1)];exact h1,(hold _ (hk _ _ h1)).trans h2,h3⟩,hM.tinj,fun b r hr=>by
     by_cases hb:b=w.heap.size
     ·subst hb;rw[hself]at hr;cases hr;exact⟨_,e,_,hnew,by unfold Lib.bytesCells;rw[zId,zG6];exact zIu _ _⟩
     ·have hr':ro b=some r:=by unfold zaq at hr;rwa [if_neg hb]at hr
      obtain⟨cl,e',fz,h1,h2⟩:=hM.known b r hr';exact⟨cl,e',fz,(hold _ (hk _ _ hr')).trans h1,h2⟩,hM.olen,fun id y x hy hx=>(hM.obj id y x hy hx).to hle fun b hb=>⟨hold b ((hM.obj id y x hy hx).blk hb),hro b ((hM.obj id y x hy hx).blk hb)⟩,hM.oinj,hM.bo⟩
    refine g.val (x:=.slice (some ⟨w.heap.size,0,none⟩) s.size (grownCap w s.size 0 e)) (w':=Lib.bytesWorld w e s) (by simp[execOp,hxv,hrun]) h ⟨(fun h=>by cases h),fun _=>?_⟩ hM' hG';refine⟨_,_,rfl,grownCap_ge w s.size 0 e,fun _=>⟨_,_,_,fun i=>[.int .u8 (zaL s i)],rfl,hself,by simp[Ty.size],fun i hi=>⟨rfl,⟨rfl,zl6⟩,?_⟩⟩⟩;have:=zjV hi;simpa[Ty.size]using this
  ·exact h.elim
 |call c=>
  obtain⟨callee,args,argTypes⟩:=c;cases callee with
  |value f=>
   simp only[zek]at h;split at h
   ·rename_i id l hf hl;split at h
    ·rename_i ps as body N fr hob;rw[zfj]at hob;split at h
     ·exact h.elim
     ·obtain⟨lb,hbo,hfv⟩:=(hρ _ _ hf).yl;obtain⟨fn,tmps,df,pend,hheap,hpend,hsz,hfr⟩:=hM.obj id _ _ hbo hob;cases hpend;have hargs:=zcY hρ hl;have hlen:=hargs.len;obtain⟨hal,hround⟩:=h;refine zmJ (by intro c h;cases h) ?_;have hrun:(execOp a.eval {dst:=dst,op:=.call ⟨.value f,args,argTypes⟩,type:=type,pos:=pos,after:=after,guard:=guard}).run P w=.ok (.round lb fn ((ps.toArray.zip (args.toList.map a.eval).toArray).foldl (fun tmps (t,a)=>tmps.setIfInBounds t a) tmps) as body) w:=by
       have hmap:(args.toList.map a.eval).toArray=args.map a.eval:=zH3 (by simp);have hsz2:(args.map a.eval).size=ps.toArray.size:=by have h1:(args.toList.map a.eval).length=ps.length:=hlen.symm.trans hal;simpa using h1
       have hy:=run_yield (P:=P) (args:=args.map a.eval) (show w.heap[lb]?=some (.loop {state:=.ready,pending:=none,fn:=fn,tmps:=tmps,params:=ps.toArray,assign:=as,body:=body,defers:=df}) from hheap) hsz2;rw[hmap];simp only[execOp,resolve,Sem.run_bind,Sem.run_pure,Result.andThen_ok,hfv,Deferred.ofValue,invoke,Array.empty_append,Array.append_empty];exact hy
      rw[hrun];refine⟨fun h=>(by cases h),?_⟩;refine RoundIn.mono (hround E (nn - 1) ro bl w _ lb fn tmps df hM hargs hbo hheap hsz (hfr (by simp))) ?_;rintro e w' ⟨ro',bl',m',v,x,rfl,hx,hM',hG',hK⟩;exact g.ok _ _ _ _ _ _ hK hx hM' hG'
    ·exact h.elim
   ·rename_i k v l hf hl;obtain⟨y,hy,hfv⟩:=(hρ _ _ hf).fb;have hargs:=zcY hρ hl;have hA:za5 ro bl (v::l) (y::args.toList.map a.eval):=⟨hy,hargs⟩;have hrun:∀(hE:zgs P k),(execOp a.eval {dst:=dst,op:=.call ⟨.value f,args,argTypes⟩,type:=type,pos:=pos,after:=after,guard:=guard}).run P w=.ok (.enter k (y::args.toList.map a.eval).toArray) w:=fun hE=>by simp[execOp,resolve,hfv,Deferred.ofValue,invoke,hE _ _]
    split at h
    ·obtain⟨u,hv,hK⟩:=h;exact zeF g hM hA (hrun (hG _ hv).1) (zbk (hG _ hv) hK)
    ·exact zeF g hM hA (hrun h.1) h
   ·exact h.elim
  |invoke r s=>exact h.elim
  |builtin b=>
   cases b with
   |len=>
    simp only[zek]at h;split at h
    ·rename_i id ver T hl hT;obtain⟨x,hmap,hx⟩:=zeD hρ hl;have hT':=zfL hT;split at h
     ·rename_i v n t f ie hr hie;obtain⟨e,hu,_⟩:=zdG hP hie;obtain⟨rfl,hi⟩:=hG _ h.1;obtain⟨b,c,hR⟩:=hM.row_is hr;cases hR.mr hx;refine g.val (w':=w) ?_ h.2 (zdf (zb9 hi)) hM (Gr.refl _ _ _);simp[execOp,resolve,invoke,builtin,Builtin.len_,hmap,hT',run_underlying hu,goInt]
     ·exact h.elim
    ·rename_i id ver lo T hl hT;obtain⟨x,hmap,hx⟩:=zeD hρ hl;have hT':=zfL hT;split at h
     ·rename_i v n t f ie hr hie;obtain⟨e,hu,_⟩:=zdG hP hie;obtain⟨rfl,hi⟩:=hG _ h.1;obtain⟨b,c,hR⟩:=hM.row_is hr;obtain⟨hlo,hxx⟩:=hR.mq hx;subst hxx;refine g.val (w':=w) ?_ h.2 (zdf (zb9 hi)) hM (Gr.refl _ _ _);simp[execOp,resolve,invoke,builtin,Builtin.len_,hmap,hT',run_underlying hu,goInt,sliced]
     ·exact h.elim
    ·rename_i id path lo n T hl hT;obtain⟨x,hmap,hx⟩:=zeD hρ hl;have hT':=zfL hT;split at h
     ·rename_i ie hie;obtain⟨e,hu,_⟩:=zdG hP hie;obtain⟨_,_,_,_,_,_,_,_,A,cap,rfl,_⟩:=hx.hd;refine g.val (w':=w) ?_ h.2 (zdf (zb9 (hG _ h.1))) hM (Gr.refl _ _ _);simp[execOp,resolve,invoke,builtin,Builtin.len_,hmap,hT',run_underlying hu,goInt]
     ·exact h.elim
    ·exact h.elim
   |cap=>
    simp only[zek]at h;split at h
    ·rename_i n t f T hl hT;obtain⟨x,hmap,hx⟩:=zeD hρ hl;have hT':=zfL hT;split at h
     ·rename_i ie hie;obtain⟨e,hu,_⟩:=zdG hP hie;obtain⟨y,en,_,hen,_,htl,hxx⟩:=hx.2 rfl;cases hxx;cases hen;obtain⟨A,rfl⟩:∃A,x=.slice A n n:=by
       rcases htl rfl with h1|⟨_,_,_,_,h1,_⟩
       ·exact h1
       ·cases h1
      refine g.val (w':=w) ?_ h.2 (zdf (zb9 (hG _ h.1))) hM (Gr.refl _ _ _);simp[execOp,resolve,invoke,builtin,Builtin.cap_,hmap,hT',run_underlying hu,goInt]
     ·exact h.elim
    ·exact h.elim
   |append=>
    simp only[zek]at h;split at h
    ·exact h.elim
    split at h
    ·rename_i id ver yv T T' hl hT;obtain⟨x,y,hmap,hx,hy⟩:=zgA hρ hl;have hT':=zih hT;split at h
     ·rename_i v n t f ie q n' t' f' hr hie hap;obtain⟨e,hu,hie⟩:=zdG hP hie;split at h
      ·rename_i hc;simp only[zFR,zFS]at hc;obtain⟨⟨hc1,hc2⟩,hc3,rfl⟩:=hc;have hTT:=zGk hc1;subst hTT;obtain⟨hq,⟨rfl,hb⟩,hK⟩:=zAO h;obtain⟨news,hsrc,hnl,hnp⟩:=zt8 (P:=P) hM hu hap hq hy;obtain⟨bl',w',v',hrun,hv',hM',hG'⟩:=zkr (P:=P) (ty:=type) hP hM hu hie hr (zGk hc2) (zGk hc3) hx hsrc hnl hnp hb;rw[zez]at hK;refine g.val (w':=w') ?_ hK hv' hM' hG';simp only[execOp,resolve,invoke,builtin,hmap,hT',Sem.run_bind,Sem.run_pure,Result.andThen_ok,hrun]
      ·exact h.elim
     ·exact h.elim
    ·rename_i t f k T T' hl hT;obtain⟨x,y,hmap,hx,hy⟩:=zgA hρ hl;have hT':=zih hT;split at h
     ·rename_i ie s2 ag2 k2 z2 hie hti;obtain⟨e,hu,hie⟩:=zdG hP hie;have hu2:P.underlying T'=some (.int k2):=(hP T' _ hti).2.1;split at h
      ·rename_i hc;have hc:=zGk hc;obtain⟨⟨hk0,hk1⟩,hK⟩:=h;obtain⟨rfl,_⟩:=hy.z;obtain⟨x',en,_,hen,_,htl,hxx⟩:=hx.2 rfl;cases hxx;cases hen;obtain⟨A,rfl⟩:∃A,x=.slice A 0 0:=by
        rcases htl rfl with h1|⟨_,_,_,_,h1,_⟩
        ·exact h1
        ·cases h1
       obtain⟨kn,rfl⟩:∃kn:Nat,k=kn:=⟨k.toNat,by omega⟩;obtain⟨hsz,⟨hk,hz,hag,hby⟩⟩:=hP _ _ hie;obtain⟨i,hi,hsi⟩:=zGj.1 hsz.1;simp only[hi,zGE,zGh]at hz hby;have hby:=zFG hby;have hcap:=grownCap_ge w kn 0 e;have hzc:=(zcD.of_cells (ro:=ro) (bl:=bl) (v:=.d ie.zero.d) (ie.zero.rep ro)).cells;rw[show(SV.d ie.zero.d).agg=ie.ag from hag]at hzc;generalize hzv:(if ie.ag then Value.agg ie.zero.cells.toArray else ie.zero.cells.headD undef)=zv at hz hzc;have hzl:zv.cells.size=ie.zero.d.shape.size:=by have:=hzc.length;show _=(SV.d ie.zero.d).shape.size;simpa using this
       have hfits:Builtin.nextslicecap kn 0*i.bytes≤281474976710656:=growslice_fits (by omega) (zFU (zH9 (show kn≤2147483648 by omega) hby) (by decide));have hwr:IntKind.i64.wrap (kn:Int)=kn:=zcC (zb9 ⟨by omega,by omega⟩);have hrun:(Builtin.append_ #[T,T'] type #[.slice A 0 0,.int .i64 kn]).run P w=.ok (.slice (some ⟨w.heap.size,0,none⟩) kn (grownCap w kn 0 e)) (w.drew.alloc (.cells (Builtin.zeroCells zv.cells kn++Builtin.zeroCells zv.cells (grownCap w kn 0 e - kn)) e)):=by
        have h63:¬((kn:Int)<0):=by omega
        have hb48:¬((kn:Int)*(i.bytes:Int)>2 ^ 48):=by
         have h1:kn*i.bytes≤140737488355328:=zFU (zH9 (show kn≤2147483648 by omega) hby) (by decide);have h2:((kn*i.bytes:Nat):Int)≤140737488355328:=by omega
         rw[Int.natCast_mul]at h2;omega
        have hf48:¬(Builtin.nextslicecap kn 0*i.bytes>2 ^ 48):=by omega
        have h0:¬(kn≤0):=by omega
        have hmax:¬((kn:Int)>9223372036854775807):=by omega
        have hold:(Builtin.firstCells i.size 0 (.slice A 0 0)).run P w.drew=.ok #[] w.drew:=by cases A<;>simp[Builtin.firstCells,loadCells,loadCellsFrom]
        have hb48':¬(281474976710656<(kn:Int)*(i.bytes:Int)):=hb48;have hf48':¬(281474976710656<Builtin.nextslicecap kn 0*i.bytes):=hf48;have h0':¬kn=0:=by omega
        have hmax':¬(9223372036854775807<(kn:Int)):=by omega
        simp[Builtin.append_,run_underlying hu,run_underlying hu2,sizeOf,typeInfo,zeroValue,hi,hz,asInt,asIntOf,hwr,h63,hb48',hf48',h0',hmax',hold,Question.forced,newRow,grownCap];intro hh;have he:Builtin.zeroCells zv.cells kn= #[]:=Array.eq_empty_of_size_eq_zero (by rw[size_zeroCells,hzl,hc,←hsi];exact hh);rw[he,Array.empty_append]
       generalize grownCap w kn 0 e=gc at hrun hcap;obtain⟨hM',hG'⟩:=hM.oadd (y:=.row 0 (some w.heap.size) kn gc ie.zero.d.shape.size) (x:=.row 0 kn ie.zero.d.shape fun _=>ie.zero.d) (w':=w.drew.alloc (.cells (Builtin.zeroCells zv.cells kn++Builtin.zeroCells zv.cells (gc - kn)) e)) (fun b hb=>by cases hb;exact zF5 _) rfl rfl rfl (by simp) (fun b hb=>Below.heap_alloc w.drew _ _ hb)
        (fun hl=>zcK hcap (fun e=>by cases e) fun q hq=>by
         cases hq;refine⟨?_,_,e,heap_alloc_new w.drew _,?_,fun j hj=>⟨rfl,?_⟩⟩
         ·cases hq:ro w.heap.size with
          |none=>rfl
          |some row=>exact absurd (hM.known_lt hq) (zH0 _)
         ·rw[zIc,size_zeroCells,size_zeroCells,hzl,←zG8,show kn+(gc - kn)=gc by omega]
         ·have h1:j*zv.cells.size+zv.cells.size≤kn*zv.cells.size:=by rw[←zFZ];exact zGK _ hj
          rw[zId,←hzl,zGQ (by rw[zGu,size_zeroCells];omega),zGP (by rw[zGY,zGu,size_zeroCells];omega),zjA hj];exact hzc)
       have e0:(kn:Int).toNat=kn:=by omega
       rw[e0]at hK;refine g.val (w':=_) ?_ hK (zgv.v ⟨rfl,_,_,_,_,_,by rw[←hM.olen];exact zbl,zF5 _,fun _=>rfl⟩) hM' hG';simp only[execOp,resolve,invoke,builtin,hmap,hT',Sem.run_bind,Sem.run_pure,Result.andThen_ok,hrun];rfl
      ·exact h.elim
     ·exact h.elim
    ·rename_i t f yv T T' _ hl hT;obtain⟨x,y,hmap,hx,hy⟩:=zgA hρ hl;have hT':=zih hT;split at h
     ·rename_i n' t' f' ie hyd hie;have hyr:=(hy.dat hyd).sl;obtain⟨e,hu,hie⟩:=zdG hP hie;split at h
      ·rename_i hc;simp only[zFR]at hc;obtain⟨⟨hc1,hc2⟩,hc3⟩:=hc;have hTT:=zGk hc1;subst hTT;have hc2:=zGk hc2;have hc3:=zGk hc3;obtain⟨x',en,hg1,hen,hle,htl,hxx⟩:=hx.2 rfl;cases hxx;cases hen;obtain⟨A,rfl⟩:∃A,x=.slice A 0 0:=by
        rcases htl rfl with h1|⟨_,_,_,_,h1,_⟩
        ·exact h1
        ·cases h1
       obtain⟨hb,hK|⟨hpos,hK⟩⟩:=h
       ·have hx':zaX ro bl (.ow 0 0 0 t' f) (.slice A 0 0):=⟨(fun h=>by cases h),fun _=>⟨_,_,hg1.sl_any,rfl,hle,fun _=>.inl ⟨A,rfl⟩,rfl⟩⟩;obtain⟨ro',bl',w',v',hr,hv',hM',hG'⟩:=zlZ (P:=P) (ty:=type) hP hM hu hie hc2 hc3 hx' (show zAi m.t 0=some 0 from rfl) hyr (by omega);refine g.val (w':=w') ?_ hK hv' hM' hG';simp only[execOp,resolve,invoke,builtin,hmap,hT',Sem.run_bind,Sem.run_pure,Result.andThen_ok,hr]
       ·obtain⟨hM1,hG1⟩:=hM.oadd (y:=.row 0 none 0 0 t'.size) (x:=.row 0 0 t' (za4 [])) (w':=w) (fun b hb=>by cases hb) rfl rfl rfl (zF5 _) (fun _ _=>rfl) (fun hl=>zcK (zF5 _) (fun _=>rfl) fun k hk=>by cases hk);obtain⟨news,hsrc,hnl,hnp⟩:=ztg hM1 hu (hyr.mono hG1.le.r);have hr0:zd6 ⟨m.c,m.t,m.o++[.row 0 0 t' (za4 [])]⟩ m.o.length=some (0,0,t',za4 []):=by
         unfold zd6;rw[zfj];show(match(m.o++[Ob.row 0 0 t' (za4 [])])[m.o.length]? with
          |some (.row v n t f)=>some (v,n,t,f)
          |_=>none)=_
         rw[zbl]
        have hx0:zaX ro (bl.oadd (.row 0 none 0 0 t'.size)) (.ob (.mr m.o.length 0)) (.slice none 0 0):=zgv.v ⟨rfl,_,_,_,_,_,by rw[←hM.olen];exact zbl,zF5 _,fun _=>rfl⟩;obtain⟨bl',w',v',hr,hv',hM',hG'⟩:=zkr (P:=P) (ty:=type) hP hM1 hu hie hr0 hc2 hc3 hx0 hsrc hnl hnp (by omega);have same:(Builtin.append_ #[T,T] type #[.slice A 0 0,y]).run P w=(Builtin.append_ #[T,T] type #[.slice none 0 0,y]).run P w:=by
         obtain⟨hsz,⟨hk,hz,hag,hby⟩⟩:=hP _ _ hie;obtain⟨i,hi,hsi⟩:=zGj.1 hsz.1;simp only[hi,zGE,zGh]at hz hby;have hby:=zFG hby;have hits:i.size=t'.size:=by rw[hc2,hsi]
         have hbytes:(0+n')*i.bytes≤140737488355328:=zFU (zH9 (show 0+n'≤2147483648 by omega) hby) (by decide);have key:∀B:Option Addr,(Builtin.append_ #[T,T] type #[.slice B 0 0,y]).run P w=_:=fun B=>run_append_grow_src (P:=P) w T T type e i _ hu hi hz B 0 0 [] (by cases B<;>simp[Builtin.firstCells,loadCells,loadCellsFrom]) y n' news (by rw[hits];exact hsrc) (by omega) (by omega) (growslice_fits (by omega) hbytes);exact(key A).trans (key none).symm
        have eo:(m.o++[Ob.row 0 0 t' (za4 [])]).set m.o.length (.row (0+1) (0+n') t' (zdc 0 (za4 []) f'))=m.o++[.row 1 (0+n') t' (zdc 0 (za4 []) f')]:=by rw[zIQ _ _ (zF5 _),zGd];rfl
        rw[eo]at hM';refine g.val (w':=w') ?_ hK hv' hM' (hG1.trans hG');simp only[execOp,resolve,invoke,builtin,hmap,hT',Sem.run_bind,Sem.run_pure,Result.andThen_ok,same,hr]
      ·exact h.elim
     ·exact h.elim
    ·exact h.elim
   |copy=>
    simp only[zek]at h;split at h
    ·exact h.elim
    split at h
    ·rename_i id path lo n yv T T' hl hT;obtain⟨x,y,hmap,hx,hy⟩:=zgA hρ hl;have hT':=zih hT;split at h
     ·rename_i c t f ie n2 t2 gsrc hat hie hsv;obtain⟨e,hu,hie⟩:=zdG hP hie;split at h
      ·rename_i hc;simp only[zFR,zFS]at hc;obtain⟨rfl,hc2⟩:=hc;have hc2:=zGk hc2;obtain⟨hI,h⟩:=h;unfold zvf at h;split at h
       ·rename_i cc hcc;obtain⟨f2,rfl,h⟩:=h;split at h
        ·rename_i c2 hset;obtain⟨news,hlen,hnl,hone,hparts,hcells⟩:=zyA (P:=P) hM hsv hy;obtain⟨_,_,_,_,_,_,_,_,A,cap,rfl,_⟩:=hx.hd;have hk1:Nat.min n2 n≤n2:=Nat.min_le_left _ _;have hk2:Nat.min n2 n≤n:=Nat.min_le_right _ _;have hks:Nat.min n2 n*t2.size≤n2*t2.size:=zGK _ hk1;obtain⟨w',hst,hno,hM',hG'⟩:=zwt (P:=P) hM hat hx (k:=Nat.min n2 n) hk2 (vs:=news.take (Nat.min n2 n*t2.size)) (by rw[zHf,hnl];exact zGW hks) (fun v hv=>hone v (zHU hv)) (fun i hi=>⟨(hparts i (by omega)).1,by
          have h1:i*t2.size+t2.size≤Nat.min n2 n*t2.size:=by rw[←zFZ];exact zGK _ hi
          have:=zbf (l:=news) (a:=0) (b:=Nat.min n2 n*t2.size) (o:=i*t2.size) (k:=t2.size) h1;simp only[zGX,zGt]at this;rw[this];exact(hparts i (by omega)).2⟩) hcc hset
         refine g.val (w':=w') ?_ h (zdf (zb9 (hG _ hI))) hM' hG';have hcopy:(Builtin.copy_ #[T,T'] type #[.slice A n cap,y]).run P w=.ok (.int .i64 (Nat.min n2 n:Nat)) w':=by
          have hsz:=(hP _ _ hie).1.sizeOf w;rw[←hc2]at hsz;cases A with
          |none=>
           have:=hno rfl;subst this;simp[Builtin.copy_,run_underlying hu,hlen,hsz,hcells _ hk1,goInt]
          |some q=>
           have:=hst q rfl;simp[Builtin.copy_,run_underlying hu,hlen,hsz,hcells _ hk1,goInt,this]
         simp only[execOp,resolve,invoke,builtin,hmap,hT',Sem.run_bind,Sem.run_pure,Result.andThen_ok,hcopy]
        ·exact h.elim
       ·exact h.elim
      ·exact h.elim
     ·exact h.elim
    ·exact h.elim
   |clear=>
    simp only[zek]at h;split at h
    ·exact h.elim
    split at h
    ·rename_i id path lo n T hl hT;obtain⟨x,hmap,hx⟩:=zeD hρ hl;have hT':=zfL hT;split at h
     ·rename_i c t f ie hat hie;obtain⟨e,hu,hie⟩:=zdG hP hie;split at h
      ·rename_i hc;simp only[zFR,zFS]at hc;obtain⟨rfl,hc2⟩:=hc;have hc2:=zGk hc2;obtain⟨zv,hzr,hzc,hzl,hz1⟩:=zkx (P:=P) (ro:=ro) (w:=w) hP hie;unfold zvf at h;split at h
       ·rename_i cc hcc;obtain⟨f2,rfl,h⟩:=h;split at h
        ·rename_i c2 hset;obtain⟨_,_,_,_,_,_,_,_,A,cap,rfl,hcap,hA⟩:=hx.hd;obtain⟨w',hst,hno,hM',hG'⟩:=zwt (P:=P) hM hat hx (k:=n) (zF5 _) (vs:=(Builtin.zeroCells zv.cells n).toList) (by rw[zGu,size_zeroCells,hzl]) (fun v hv=>hz1 _ _ hv) (fun i hi=>⟨rfl,by rw[←hzl,zjA hi];exact hzc⟩) hcc hset;refine g.val (w':=w') (x:=.tuple #[]) ?_ h zfQ hM' hG';have hrun:=zl7 (P:=P) (ty:=type) (cap:=cap) hu hzr hst hno;simp only[execOp,resolve,invoke,builtin,hmap,hT',Sem.run_bind,Sem.run_pure,Result.andThen_ok,hrun]
        ·exact h.elim
       ·exact h.elim
      ·exact h.elim
     ·exact h.elim
    ·rename_i id ver lo T hl hT;obtain⟨x,hmap,hx⟩:=zeD hρ hl;have hT':=zfL hT;split at h
     ·rename_i v n t f ie hr hie;obtain⟨e,hu,hie⟩:=zdG hP hie;split at h
      ·rename_i hc;simp only[zFR,zFS]at hc;obtain⟨rfl,hc2⟩:=hc;have:=hG _ h.1;subst this;obtain⟨zv,hzr,hzc,hzl,hz1⟩:=zkx (P:=P) (ro:=ro) (w:=w) hP hie;obtain⟨b,c,hR⟩:=hM.row_is hr;obtain⟨hlo,hxx⟩:=hR.mq hx;unfold sliced at hxx;subst hxx;obtain⟨bl',w',_,hst,hno,hM',hG'⟩:=zs6 (P:=P) hM hr hx (z:=ie.zero.d) rfl (vs:=(Builtin.zeroCells zv.cells (n - lo)).toList) (by rw[zGu,size_zeroCells,hzl]) (fun v hv=>hz1 _ _ hv) (fun i hi=>by rw[←hzl,zjA hi];exact hzc);have hK:=h.2;rw[zez]at hK;refine g.val (w':=w') (x:=.tuple #[]) ?_ hK zfQ hM' hG';have hrun:=zl7 (P:=P) (ty:=type) (cap:=c - lo) hu hzr hst hno;simp only[execOp,resolve,invoke,builtin,hmap,hT',Sem.run_bind,Sem.run_pure,Result.andThen_ok,hrun]
      ·exact h.elim
     ·exact h.elim
    ·exact h.elim
   |_=>exact h.elim
 |buildSlice T n ps=>
  simp only[zek]at h;split at h
  ·exact h.elim
  split at h
  ·rename_i ie hie;obtain⟨e,hu,hie⟩:=zdG hP hie;split at h
   ·rename_i l hc hl;simp only[zFR]at hc;split at h
    ·rename_i hln;rcases h with h|h
     ·obtain⟨ro',w',x,hr,hx,hM',hG'⟩:=zgC hP hM hu hie (zGk hc.2) (zFG hc.1) hρ hl (zGk hln);exact g.val (w':=w') (by simp[execOp,hr]) h hx hM' hG'
     ·have hs:=zGk hc.2;obtain⟨cs,hr,h1,h2⟩:=zfY (P:=P) (w:=w) (bl:=bl) hP hu hie hs (zFG hc.1) hρ hl (zGk hln);obtain⟨hM',hG'⟩:=hM.oadd (y:=.row 0 (some w.heap.size) n n ie.zero.d.shape.size) (x:=.row 0 n ie.zero.d.shape (za4 l)) (w':=w.alloc (.cells cs.toArray e)) (fun b hb=>by cases hb;exact zF5 _) rfl rfl rfl (by simp) (fun b hb=>Below.heap_alloc w _ _ hb)
       (fun hl=>zcK (zF5 _) (fun e=>by cases e) fun q hq=>by
        cases hq;refine⟨?_,_,e,World.alloc_heap_new w _,by simpa using h1,fun j hj=>by simpa using h2 j hj⟩;cases hq:ro w.heap.size with
        |none=>rfl
        |some row=>exact absurd (hM.known_lt hq) (zH0 _))
      exact g.val (w':=_) (x:=.slice (some ⟨w.heap.size,0,none⟩) n n) (by simp[execOp,hr]) h (zgv.v ⟨rfl,_,_,_,_,_,by rw[←hM.olen];exact zbl,zF5 _,fun _=>rfl⟩) hM' hG'
    ·exact h.elim
   ·exact h.elim
  ·exact h.elim
 |build T ps=>
  simp only[zek]at h;split at h
  ·rename_i s ag n e z hT;have hu:P.underlying T=some (.array n e):=(hP T _ hT).2.1;split at h
   ·rename_i ie hie;split at h
    ·rename_i hc;simp only[zFR,zFS]at hc;split at h
     ·rename_i v hv;obtain⟨out,ho,hro,hsh⟩:=zl5 hρ hv (z.rep_sv' ro bl).1 hc.2;have hzz:=(hP T _ hT).2.2;have hag:ag=true:=by have h1:=hzz.2.1;rw[←(z.rep_sv' ro bl).2.2]at h1;rw[show z.sv'.agg=true from by rw[SV.agg_shape (z.rep_sv' ro bl).1.nt,hc.2];rfl]at h1;exact h1.symm
      subst hag;obtain⟨i,hi,hiz⟩:=zGj.1 hzz.1;have hzv:(zeroValue T).run P w=.ok (.agg z.cells.toArray) w:=by simp[zeroValue,typeInfo,hi,hiz]
      have hes:=(hP e _ hie).1.sizeOf w;have hs:ie.zero.d.shape.size=ie.size:=zGk hc.1;refine g.val (w':=w) (x:=.agg out) ?_ h ?_ hM (Gr.refl _ _ _)
      ·have hps:(ps.map fun x=>(x.1,a.eval x.2)).toList=ps.toList.map fun x=>(x.1,a.eval x.2):=by simp
       rw[←hs]at hes;simp only[execOp,Instr.build,Sem.run_bind,hzv,Result.andThen_ok,run_underlying hu,hes,Value.cells,hps,ho,Sem.run_pure]
      ·have h1:=zcD.of_cells hro;rw[SV.agg_shape hro.nt,hsh]at h1;simpa[Ty.agg]using h1.v
     ·exact h.elim
    ·exact h.elim
   ·exact h.elim
  ·exact h.elim
 |makeMap T q=>
  simp only[zek]at h;split at h
  ·rename_i s ag k z zz hT;split at h
   ·exact h.elim
   ·obtain⟨hM',hG'⟩:=hM.oadd (y:=.map w.heap.size) (x:=.map k []) (w':=w.alloc (.map #[] 0)) (fun b hb=>by cases hb;exact zF5 _) rfl rfl rfl (by simp) (fun b hb=>Below.heap_alloc w _ _ hb) (fun hl=>⟨#[],0,World.alloc_heap_new w _,trivial⟩);refine g.val (w':=w.alloc (.map #[] 0)) (x:=.map (some w.heap.size)) (by simp[execOp,Instr.makeMap]) h (zgv.v ⟨_,by rw[←hM.olen];exact zbl,rfl⟩) hM' hG'
  ·exact h.elim
 |insert T x kx y=>
  simp only[zek]at h;obtain⟨id,kk,n,u,l,kt,et,hx,hkx,hy,hu,hkt,hr,hK⟩:=zpO hP h;have hkv:=(hρ _ _ hkx).z.1;obtain⟨bl',w',hrun,hM',hG'⟩:=zsq (P:=P) hM hr (hρ _ _ hx) hu hkt (n:=n) (hρ _ _ hy);exact skip (by intro c h;cases h) (by simp[execOp,hkv,hrun]) hK hM' hG'
 |mapUpdate T x kx y=>
  simp only[zek]at h;obtain⟨id,kk,n,u,l,kt,et,hx,hkx,hy,hu,hkt,hr,hK⟩:=zpO hP h;have hkv:=(hρ _ _ hkx).z.1;obtain⟨bl',w',hrun,hM',hG'⟩:=zsq (P:=P) hM hr (hρ _ _ hx) hu hkt (n:=n) (hρ _ _ hy);exact skip (by intro c h;cases h) (by simp[execOp,hkv,hrun]) hK hM' hG'
 |lookup T x kx ok=>
  simp only[zek]at h;split at h
  ·rename_i k n s ag k' zz hx hkx hT;obtain⟨kt,et,hu,hkt,hz,_⟩:=(hP T _ hT).2.1;have hkv:=(hρ _ _ hkx).z.1;split at h
   ·rename_i hc;simp only[zFR,zFS]at hc;obtain⟨rfl,rfl⟩:=hc;split at h
    ·exact h.elim
    ·have hxv:a.eval x=.map (some bl.g):=(hρ _ _ hx).hd;have hL:=zi0 h;have hkey:MapKept.IsKey (.int .u8) (.int .u8 n):=rfl;obtain⟨es,clock,hg,hf⟩:=zxJ hM (n:=n);rcases hf with⟨hf,hm⟩|⟨i,v,y,hf,hm,hv⟩
     ·rw[hm]at hL;obtain⟨inf,hi,hiz⟩:=zGj.1 hz;refine g.val (w':=w) (x:=.tuple #[.nilFunc,.bool false]) ?_ hL (zfu ⟨(fun h=>by cases h),fun _=>rfl⟩ rfl) hM (Gr.refl _ _ _);have hzr:(zeroValue et).run P w=.ok .nilFunc w:=by simp[zeroValue,typeInfo,hi,hiz,ZT.cells]
      simp[execOp,hxv,hkv,Instr.lookup,run_underlying hu,MapKept.run_getObj_map hg,MapKept.run_checkKey hkt hkey,MapKept.run_findKey hkt hf,Result.andThen,hzr]
     ·rw[hm]at hL;have hnt:v.nt=true:=by refine ziA (l:=znA) rfl hm
      refine g.val (w':=w) (x:=.tuple #[y,.bool true]) ?_ hL (zfu hv hnt) hM (Gr.refl _ _ _);simp[execOp,hxv,hkv,Instr.lookup,run_underlying hu,MapKept.run_getObj_map hg,MapKept.run_checkKey hkt hkey,MapKept.run_findKey hkt hf,Result.andThen]
   ·exact h.elim
  ·rename_i id k n s ag k' z zz hx hkx hT;obtain⟨kt,et,hu,hkt,hz,hzag⟩:=(hP T _ hT).2.1;have hkv:=(hρ _ _ hkx).z.1;split at h
   ·rename_i k2 l hr;split at h
    ·rename_i hc;simp only[zFR,zFS]at hc;obtain⟨rfl,rfl⟩:=hc;obtain⟨q,es,clock,hbo,hxv,hg,hes⟩:=hM.map_is hr (hρ _ _ hx);have hkey:MapKept.IsKey (.int k) (.int k n):=rfl;obtain⟨inf,hi,hiz⟩:=zGj.1 hz;have hzr:(zeroValue et).run P w=.ok (z.cells.headD undef) w:=by simp[zeroValue,typeInfo,hi,hiz]
     have hzrep:zaX ro bl (.d z.d) (z.cells.headD undef):=by have:=zcD.of_cells (ro:=ro) (bl:=bl) (v:=.d z.d) (z.rep ro);rw[show(SV.d z.d).agg=false from hzag]at this;exact this.v
     split at h
     ·split at h
      ·rename_i hnt;have hL:=zi0 h;rcases hes.find (n:=n) (i:=0)with⟨hm,hf⟩|⟨j,v,e,hm,hf,hv,he,hek⟩
       ·rw[hm]at hL;refine g.val (w':=w) (x:=.tuple #[z.cells.headD undef,.bool false]) ?_ hL (zfu hzrep rfl) hM (Gr.refl _ _ _);simp[execOp,hxv,hkv,Instr.lookup,run_underlying hu,MapKept.run_getObj_map hg,MapKept.run_checkKey hkt hkey,MapKept.run_findKey hkt hf,Result.andThen,hzr]
       ·rw[hm]at hL;rw[zGt]at hf;refine g.val (w':=w) (x:=.tuple #[e.val,.bool true]) ?_ hL (zfu hv (ziA hnt hm)) hM (Gr.refl _ _ _);simp[execOp,hxv,hkv,Instr.lookup,run_underlying hu,MapKept.run_getObj_map hg,MapKept.run_checkKey hkt hkey,MapKept.run_findKey hkt hf,Result.andThen]
      ·exact h.elim
     ·split at h
      ·obtain⟨hall,b,hb,hK⟩:=h;have hall:=hG _ hall;rcases hes.find (n:=n) (i:=0)with⟨hm,hf⟩|⟨j,v,e,hm,hf,hv,he,hek⟩
       ·rw[hm]at hb;subst hb;refine g.val (w':=w) (x:=.bool false) ?_ hK (zbM _) hM (Gr.refl _ _ _);simp[execOp,hxv,hkv,Instr.lookup,run_underlying hu,MapKept.run_getObj_map hg,MapKept.run_checkKey hkt hkey,MapKept.run_findKey hkt hf,Result.andThen,hzr,ZT.cells]
       ·obtain⟨b',rfl⟩:=zlW hall hm;rw[hm]at hb;subst hb;rw[zGt]at hf;have hvb:=hv.bo;refine g.val (w':=w) (x:=.bool b') ?_ hK (zbM _) hM (Gr.refl _ _ _);rw[hvb]at hf;simp[execOp,hxv,hkv,Instr.lookup,run_underlying hu,MapKept.run_getObj_map hg,MapKept.run_checkKey hkt hkey,MapKept.run_findKey hkt hf,Result.andThen]
      ·exact h.elim
    ·exact h.elim
   ·exact h.elim
  ·exact h.elim
 |typeAssert x xT T ok=>
  simp only[zek]at h;split at h
  ·rename_i T' k n s ag k2 z hx hT;have hu:P.underlying T=some (.int k2):=(hP T _ hT).2.1;split at h
   ·rename_i he;have he:=zGk he;subst he;obtain⟨y,hy,hxv⟩:∃y,zaX ro bl (.d (.z k n)) y∧a.eval x=.iface T y:=by obtain⟨y,h1,h2⟩:=(hρ _ _ hx).2 rfl;exact⟨y,⟨(fun h=>by cases h),fun _=>h1⟩,by simpa using h2⟩
    split at h
    ·exact g.val (w':=w) (x:=.tuple #[y,.bool true]) (by simp[execOp,Instr.typeAssert,hxv,run_underlying hu]) h (zfu hy rfl) hM (Gr.refl _ _ _)
    ·exact g.val (w':=w) (x:=y) (by simp[execOp,Instr.typeAssert,hxv,run_underlying hu]) h hy hM (Gr.refl _ _ _)
   ·exact h.elim
  ·exact h.elim
 |panic x=>
  simp only[zek]at h;split at h
  ·exact h.elim
  split at h
  ·rename_i T d hx;obtain⟨y,hy,hxv⟩:∃y,zbg ro d [y]∧a.eval x=.iface T y:=by obtain⟨y,h1,h2⟩:=(hρ _ _ hx).2 rfl;exact⟨y,h1,by simpa using h2⟩
   refine zmJ (by intro c h;cases h) ?_;have hrun:(execOp a.eval {dst:=dst,op:=.panic x,type:=type,pos:=pos,after:=after,guard:=guard}).run P w=.halt (.panic (.iface T y)) w:=by simp[execOp,Instr.panic,hxv,goPanic]
   rw[hrun];exact g.pan _ _ _ _ _ _ h ⟨(fun h=>by cases h),fun _=>⟨y,hy,rfl⟩⟩ hM (Gr.refl _ _ _)
  ·exact h.elim
 |_=>exact h.elim
theorem zfA(hP:tb.ok P){o:Oper}{a:Act}(hM:Mem E ro bl m w){ρ:Operand→Option SV}(hρ:∀x v,ρ x=some v→zaX ro bl v (a.eval x)){G:Prop→Prop}(hG:∀p,G p→p){pr:Bool}{K:SV→MS→Prop}{Kp:D→MS→Prop}
 (h:xop P tb o.op m ρ G pr K Kp){next:Act→World→Prop}{Q:Exit→Act→World→Prop}(g:Goes E P ro bl w o a next Q K Kp):o.wpIn (FR r) nn P a w next Q:=by
 unfold xop at h;split at h
 ·exact zqy hP hM hρ hG h g
 ·exact zqw hP hM hρ hG h g
end Sx
end Go.Proofs.YtfbhkfhbnkncoaaGreatDoor
