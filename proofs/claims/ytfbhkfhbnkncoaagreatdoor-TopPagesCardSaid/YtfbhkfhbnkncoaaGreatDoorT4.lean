import Derived.Test.YtfbhkfhbnkncoaaGreatDoorT3
set_option linter.all false
namespace Go.Proofs.YtfbhkfhbnkncoaaGreatDoor
open Go.RowKit
namespace Sx
variable {E:Gh}
variable {P:Program} {tb:TT} {ro:Ro} {bl:Bl} {m:MS} {w:World}
theorem zdi:∀{l:List SV} {n:Nat},zg6 l n=l[n]?
 |[],_=>rfl
 |_::_,0=>rfl
 |_::r,n+1=>by simpa[zg6]using zdi (l:=r) (n:=n)
theorem zfy:∀{l:List SV} {n:Nat} {x:SV},zmV l n x=l.set n x
 |[],_,_=>rfl
 |_::_,0,_=>rfl
 |_::r,n+1,x=>by simpa[zmV]using zfy (l:=r) (n:=n)
theorem zn4:∀{l:List (Nat×TypeId)} {n:Nat},zAN l n=l[n]?
 |[],_=>rfl
 |_::_,0=>rfl
 |_::r,n+1=>by simpa[zAN]using zn4 (l:=r) (n:=n)
theorem zaX.pt{id:Nat}{path:List Nat}{x:Value}(h:zaX ro bl (.pt id path) x):∃blk t o t',bl.b[id]?=some (blk,t)∧t.off path=some (o,t')∧x=.pointer (some ⟨blk,o,none⟩):=by obtain⟨blk,t,o,t',h1,h2,h3⟩:=h.2 rfl;exact⟨blk,t,o,t',h1,h2,by simpa using h3⟩
theorem zaX.el{y:D}{x:Value}(h:zaX ro bl (.el y) x):∃blk off row vs,ro blk=some row∧zbg ro y vs∧off+vs.length≤row.length∧(row.drop off).take vs.length=vs∧x=.pointer (some ⟨blk,off,none⟩):=by obtain⟨blk,off,row,vs,h1,h2,h3,h4,h5⟩:=h.2 rfl;exact⟨blk,off,row,vs,h1,h2,h3,h4,by simpa using h5⟩
theorem zxY(hM:Mem E ro bl m w){blk off:Nat}{row vs:List Value}{y:D}(h1:ro blk=some row)(h2:zbg ro y vs)(h3:off+vs.length≤row.length)(h4:(row.drop off).take vs.length=vs){T:TypeId}(hT:TF P T y.shape.size y.agg):
 ∃x,(loadVar T ⟨blk,off,none⟩).run P w=.ok x w∧zcD ro bl (.d y) x:=by
 obtain⟨cells,e,fz,hg,hp⟩:=hM.known _ _ h1;have hl:=h2.length;have e1:(cells.toList.drop off).take y.shape.size=vs:=by rw[←hl,zgl hp h3,h4]
 have hle:=hp.length_le;have:=zcL (P:=P) hT hg (o:=off) (by simp at hle;omega) (fun h=>by have:=SV.shape_c (v:=.d y) h;show(SV.d y).shape.size=1;rw[this];rfl);rw[e1]at this;exact⟨_,this,zcD.of_cells (v:=.d y) h2⟩
theorem zaX.bo{b:Bool}{x:Value}(h:zaX ro bl (.d (.bo b)) x):x=.bool b:=by have h3:=h.2 rfl;simp[zb5,zbg]at h3;exact h3
theorem zaX.z{k:IntKind}{n:Int}{x:Value}(h:zaX ro bl (.d (.z k n)) x):x=.int k n∧inK k n=true:=by have h3:=h.2 rfl;simp[zb5,zbg]at h3;exact h3
theorem zbM(b:Bool):zaX ro bl (.d (.bo b)) (.bool b):=⟨(fun h=>by cases h),fun _=>rfl⟩
theorem zdf{k:IntKind}{n:Int}(h:inK k n=true):zaX ro bl (.d (.z k n)) (.int k n):=⟨(fun h=>by cases h),fun _=>⟨rfl,h⟩⟩
theorem zaX.fn{f:Fn}{c:SV}{x:Value}(h:zaX ro bl (.fn f c) x):∃vs,zb5 ro bl c vs∧x=.func f #[] vs.toArray:=by obtain⟨vs,h1,h3⟩:=h.2 rfl;exact⟨vs,h1,by simpa using h3⟩
theorem zaX.hd{k:Hd}{x:Value}(h:zaX ro bl (.ob k) x):zgv bl k x:=by obtain⟨y,h1,h2⟩:=h.2 rfl;cases h1;exact h2
theorem zgv.v{k:Hd}{x:Value}(h:zgv bl k x):zaX ro bl (.ob k) x:=⟨(fun h=>by cases h),fun _=>⟨x,rfl,h⟩⟩
theorem zaX.yl{id:Nat}{x:Value}(h:zaX ro bl (.ob (.yl id)) x):∃l,bl.o[id]?=some (.loop l)∧x=.func (.yield l) #[] #[]:=h.hd
theorem zkz.comp:∀{v:SV} {vs:List Value} {i:Nat} {u:SV},zkz ro bl v vs→zrs v i=some u→∃x,vs[i]?=some x∧zaX ro bl u x
 | .pr a b,_,0,u,⟨x,r,h,h1,h2⟩,hc=>by simp only[zrs,zGh]at hc;subst hc;subst h;exact⟨x,rfl,h1.v⟩
 | .pr a b,_,i+1,u,⟨x,r,h,h1,h2⟩,hc=>by obtain⟨y,hy,hr⟩:=zkz.comp (v:=b) (i:=i) h2 hc;subst h;exact⟨y,by simpa using hy,hr⟩
 | .d _,_,_,_,_,hc| .pt _ _,_,_,_,_,hc| .el _,_,_,_,_,hc| .fn _ _,_,_,_,_,hc| .ow _ _ _ _ _,_,_,_,_,hc| .tu _,_,_,_,_,hc| .ob _,_,_,_,_,hc| .fb ..,_,_,_,_,hc| .ar ..,_,_,_,_,hc=>by simp[zrs]at hc
theorem zhv:∀{t:Ty} {r s:List Nat} {o:Nat} {t':Ty} {o2:Nat} {t2:Ty},t.off r=some (o,t')→t'.off s=some (o2,t2)→t.off (r++s)=some (o+o2,t2)
 |t,[],s,o,t',o2,t2,h,h2=>by obtain⟨rfl,rfl⟩:=zln h;simpa using h2
 | .p a b,0::r,s,o,t',o2,t2,h,h2=>zhv (t:=a) (r:=r) h h2
 | .p a b,(k+1)::r,s,o,t',o2,t2,h,h2=>by simp only[Ty.off,zGj]at h;obtain⟨x,hx,h⟩:=h;cases h;have:=zhv (t:=b) (r:=k::r) hx h2;simp only[zHP]at this;simp only[zHP,Ty.off,this,zGE,zG0]
 | .ar n t,k::r,s,o,t',o2,t2,h,h2=>by
  simp only[Ty.off]at h;split at h
  ·rename_i hk;simp only[zGj]at h;obtain⟨x,hx,h⟩:=h;cases h;have:=zhv (t:=t) (r:=r) hx h2;simp only[zHP,Ty.off,if_pos hk,this,zGE,zG0]
  ·cases h
 | .c,_::_,_,_,_,_,_,h,_| .u,_::_,_,_,_,_,_,h,_=>by simp[Ty.off]at h
theorem SV.one_agg:∀{v:SV},v.one=true→v.agg=false
 | .d x,h=>by simpa[SV.one,SV.agg]using h
 | .pt _ _,_| .el _,_| .fn _ _,_| .ow _ _ _ _ _,_| .ob _,_| .fb _ _,_=>rfl
 | .pr _ _,h| .tu _,h| .ar ..,h=>by simp[SV.one]at h
theorem SV.one_nt:∀{v:SV},v.one=true→∀a,v≠.tu a
 | .tu _,h,_=>by simp[SV.one]at h
 | .d _,_,_| .pt _ _,_,_| .el _,_,_| .fn _ _,_,_| .ow _ _ _ _ _,_,_| .pr _ _,_,_| .ob _,_,_| .fb ..,_,_| .ar ..,_,_=>by simp
theorem SV.nt_ne:∀{v:SV},v.nt=true→∀a,v≠.tu a
 | .tu _,h,_=>by simp[SV.nt]at h
 | .d _,_,_| .pt _ _,_,_| .el _,_,_| .fn _ _,_,_| .ow _ _ _ _ _,_,_| .pr _ _,_,_| .ob _,_,_| .fb ..,_,_| .ar ..,_,_=>by simp
theorem zoI{ρ:Operand→Option SV}{ev:Operand→Value}(hρ:∀x v,ρ x=some v→zaX ro bl v (ev x)):∀{l:List Operand} {c:SV},zjC ρ l=some c→zb5 ro bl c (l.map ev)
 |[],c,h=>by simp only[zjC,zGh]at h;subst h;rfl
 |x::r,c,h=>by
  simp only[zjC]at h;split at h
  ·rename_i v c' hv hc;split at h
   ·rename_i h1;simp only[zGh]at h;subst h;exact⟨[ev x],_,rfl,((hρ x v hv).a (SV.one_nt h1)).2 (SV.one_agg h1),zoI hρ hc⟩
   ·cases h
  ·cases h
theorem zgK{T k:Nat}{t:Ty}(hP:tb.ok P)(h:zkY tb T k t=true):∃fields f o' t',P.underlying T=some (.struct fields)∧fields[k]?=some f∧t.off [k]=some (o',t')∧f.offset=o'∧(∃n ag,TF P f.type n ag∧n≠0∧t'.size=n):=by
 unfold zkY at h;split at h
 ·rename_i fs z a n hT;split at h
  ·rename_i o ft hf;split at h
   ·rename_i i o' t' hi ho;simp only[zFR,zGC]at h;obtain⟨⟨h1,h2⟩,h3⟩:=h;have h1:=zGk h1;have h3:=zGk h3;obtain⟨fields,hu,hl⟩:=(hP T _ hT).2.1;rw[zn4,←hl,zHz]at hf;obtain⟨f,hf1,hf2⟩:=zGj.1 hf;cases hf2;refine⟨fields,f,o',t',hu,by simpa using hf1,ho,h1,i.size,i.ag,(hP _ _ hi).1,?_,h3⟩;intro e;rw[e]at h2;cases h2
   ·cases h
  ·cases h
 ·cases h
theorem zgZ{T:TypeId}{n:Nat}{ag:Bool}(hT:TF P T n ag){cells:List Value}{o:Nat}(hn:o+n≤cells.length)(h1:ag=false→n=1):
 (part T cells.toArray o).run P w=.ok (if ag then .agg ((cells.drop o).take n).toArray else((cells.drop o).take n).headD undef) w:=by
 cases ag with
 |true=>
  simp only[part,Sem.run_bind,hT.isAgg,Result.andThen_ok,zG7,hT.sizeOf,Sem.run_pure]
  congr 2
  apply zH3;simp[zHw,zHx]
 |false=>
  have:=h1 rfl;subst this;have hlt:o<cells.length:=by omega
  simp only[part,Sem.run_bind,hT.isAgg,Result.andThen_ok,if_false,Bool.false_eq_true];have e:(cells.drop o).take 1=[cells[o]]:=by rw[zHQ hlt];rfl
  simp[e,hlt]
theorem zxD(hP:tb.ok P){T k:Nat}{v u:SV}(h:zAf tb T k v=some u){cells:List Value}(hr:zb5 ro bl v cells):
 ∃fields f x,P.underlying T=some (.struct fields)∧fields[k]?=some f∧(part f.type cells.toArray f.offset).run P w=.ok x w∧zcD ro bl u x:=by
 unfold zAf at h;split at h
 ·rename_i hf;split at h
  ·rename_i u' hn;split at h
   ·rename_i s ag fs z hT;split at h
    ·rename_i o ft hk;split at h
     ·rename_i i hi;split at h
      ·rename_i hs;cases h;simp only[zc4,zFR,zGG]at hs;obtain⟨fields,f,o',t2,hun,hfk,hoff,hfo,n,ag',hTF,hn0,hsz⟩:=zgK hP hf;obtain⟨fields',hu',hl⟩:=(hP T _ hT).2.1;rw[hun]at hu';cases hu';rw[zn4,←hl,zHz]at hk;obtain⟨f',hf1,hf2⟩:=zGj.1 hk;have hff:f'=f:=by
        have:fields.toList[k]?=some f:=by simpa using hfk
        rw[this]at hf1;cases hf1;rfl
       subst hff;cases hf2;obtain⟨hs',hr'⟩:=SV.nav_rep hr hoff hn;have hle:=Ty.off_le hoff;have hl2:=hr.length;have hTF':TF P f'.type u.shape.size u.agg:=by rw[zGk hs.1,hs.2];exact(hP _ _ hi).1
       refine⟨fields,f',_,hun,hfk,zgZ hTF' (by rw[hs',hfo];omega) (fun h=>by rw[SV.shape_c h];rfl),?_⟩;rw[hfo,hs'];exact zcD.of_cells hr'
      ·cases h
     ·cases h
    ·cases h
   ·cases h
  ·cases h
 ·cases h
theorem zjp(off:Nat):∀(l:List Value) (j:Nat) (cs:Array Value),off+j+l.length≤cs.size→
 ((l.zipIdx j).foldl (fun cs (x:Value×Nat)=>cs.setIfInBounds (off+x.2) x.1) cs).toList=cs.toList.take (off+j)++l++cs.toList.drop (off+j+l.length)
 |[],j,cs,_=>by simp
 |x::l,j,cs,h=>by simp only[List.zipIdx_cons,zH4];rw[zjp off l (j+1) _ (by simp at h ⊢;omega)];simp only[Array.toList_setIfInBounds,zFI];have:=list_seg_step cs.toList (off+j) x l (by simp at h ⊢;omega);simpa[zG0]using this
theorem zkW{place:Nat→Option (Nat×Nat)}{cs:List Value}{k off size:Nat}{v:Value}{rest:List (Nat×Value)}(hp:place k=some (off,size))(hv:v.cells.size=size)(h:off+size≤cs.length):
 Instr.fill place cs.toArray ((k,v)::rest)=Instr.fill place (cs.take off++v.cells.toList++cs.drop (off+size)).toArray rest:=by
 have e:=zjp off v.cells.toList 0 cs.toArray (by simp[hv];omega);have e2:v.cells.zipIdx.foldl (fun cs (x:Value×Nat)=>cs.setIfInBounds (off+x.2) x.1) cs.toArray=(cs.take off++v.cells.toList++cs.drop (off+size)).toArray:=by apply zH3;rw[←Array.foldl_toList,Array.toList_zipIdx];simpa[hv]using e
 rw[←e2];show(match place k with
  |none=>none
  |some (off,size)=>if v.cells.size≠size||off+v.cells.size>cs.toArray.size then none else Instr.fill place (v.cells.zipIdx.foldl (fun cs (x:Value×Nat)=>cs.setIfInBounds (off+x.2) x.1) cs.toArray) rest)=_
 rw[hp];simp only[hv,ne_eq,zH5,decide_false,zF8,zH6];rw[if_neg (by simp;omega)]
theorem zsp{fs:List Field}:zt5 tb (fs.map fun f=>(f.offset,f.type))=true→tb.ok P→∃places,fs.mapM (fun f=>(P.info? f.type).map fun i=>(f.offset,i.size))=some places∧
 ∀(k:Nat) f,fs[k]?=some f→∃n,(P.info? f.type).map (·.size)=some n∧places[k]?=some (f.offset,n):=by
 induction fs with
 |nil=>intro _ _;exact⟨[],rfl,fun k f h=>by cases h⟩
 |cons f fs ih=>
  intro h hP;simp only[zGF,zt5,zFR]at h;obtain⟨places,hp,hk⟩:=ih h.2 hP;obtain⟨i,hi⟩:=zH7.1 h.1;obtain⟨hsz,_⟩:=(hP _ _ hi).1;obtain⟨x,hx,hxe⟩:=zGj.1 hsz;refine⟨(f.offset,x.size)::places,by simp[List.mapM_cons,hx,hp],fun k g hg=>?_⟩;cases k with
  |zero=>cases hg;exact⟨x.size,by rw[hx];rfl,rfl⟩
  |succ k=>simpa using hk k g (by simpa using hg)
theorem zoE(hP:tb.ok P){T:Nat}{fields:Array Field}(hun:P.underlying T=some (.struct fields)){places:List (Nat×Nat)}
 (hpl:∀(k:Nat) f,fields.toList[k]?=some f→∃n,(P.info? f.type).map (·.size)=some n∧places[k]?=some (f.offset,n)){ρ:Operand→Option SV}{ev:Operand→Value}(hρ:∀x v,ρ x=some v→zaX ro bl v (ev x)):
 ∀{l:List (Nat×Operand)} {v u:SV} {cells:List Value},zfZ tb T ρ l v=some u→zb5 ro bl v cells→∃out,Instr.fill (places.toArray[·]?) cells.toArray (l.map fun x=>(x.1,ev x.2))=some out∧zb5 ro bl u out.toList∧u.shape=v.shape
 |[],v,u,cells,h,hr=>by simp only[zfZ,zGh]at h;subst h;exact⟨cells.toArray,rfl,by simpa using hr,rfl⟩
 |(k,x)::l,v,u,cells,h,hr=>by
  unfold zfZ at h;split at h
  ·rename_i u_ old hf hx hold;split at h
   ·rename_i hc;simp only[zFR,zFS]at hc;split at h
    ·rename_i v' hv';obtain⟨fields',f,o',t2,hun',hfk,hoff,hfo,n,ag',hTF,hn0,hsz⟩:=zgK hP hf;rw[hun]at hun';cases hun';obtain⟨hs',_⟩:=SV.nav_rep hr hoff hold;have hxa:=(hρ _ _ hx).a (SV.nt_ne hc.2);have hxc:=hxa.cells;obtain⟨hsv,hrv⟩:=SV.set_rep hr hoff (SV.into_rep (old:=old) hxc) (by rw[(SV.into_shape u_ old).1,←hc.1,hs']) hv';obtain⟨m,hm,hpk⟩:=hpl k f (by simpa using hfk);have hmn:m=n:=by rw[hTF.1]at hm;cases hm;rfl
     subst hmn;have hle:=Ty.off_le hoff;have hl:=hr.length;have hxl:(ev x).cells.size=m:=by have:=hxc.length;rw[←hc.1,hs',hsz]at this;simpa using this
     obtain⟨out,ho,hro,hsh⟩:=zoE hP hun hpl hρ (l:=l) h hrv;refine⟨out,?_,hro,hsh.trans hsv⟩;simp only[zGF];rw[zkW (off:=f.offset) (size:=m) (by simpa using hpk) hxl (by rw[hfo];omega),hfo,←hsz];exact ho
    ·cases h
   ·cases h
  ·cases h
set_option maxHeartbeats 1000000 in
theorem zu8(hP:tb.ok P){o:Oper}{a:Act}(hM:Mem E ro bl m w){ρ:Operand→Option SV}(hρ:∀x v,ρ x=some v→zaX ro bl v (a.eval x)){v:SV}(h:pv tb m.c ρ o.op=some v):
 ∃x,(execOp a.eval o).run P w=.ok (.value x) w∧zaX ro bl v x:=by
 obtain⟨dst,op,type,pos,after,guard⟩:=o;cases op with
 |move x=>exact⟨_,rfl,hρ x v h⟩
 |assign x=>exact⟨_,rfl,hρ x v h⟩
 |load T x=>
  simp only[pv]at h;split at h
  ·rename_i id path hx;obtain⟨blk,t,o,t',hb,ho,hxv⟩:=(hρ _ _ hx).pt;split at h
   ·rename_i u hu;rw[zdi]at hu;split at h
    ·rename_i v' hn;split at h
     ·rename_i i hi;split at h
      ·rename_i hs;simp only[zGh]at h;subst h;simp only[zc4,zFR,zGG]at hs;obtain⟨y,hy,hr⟩:=zsl (P:=P) hM hb hu ho hn (T:=T) (by rw[zGk hs.1,hs.2];exact(hP _ _ hi).1);exact⟨y,by simp[execOp,Instr.loadAt,Instr.sureAddr,hxv,hy],hr.v⟩
      ·cases h
     ·cases h
    ·cases h
   ·cases h
  ·rename_i y hx;obtain⟨blk,off,row,vs,h1,h2,h3,h4,hxv⟩:=(hρ _ _ hx).el;split at h
   ·rename_i i hi;split at h
    ·rename_i hs;simp only[zGh]at h;subst h;simp only[zc4,zFR,zGG]at hs;obtain⟨z,hz,hr⟩:=zxY (P:=P) hM h1 h2 h3 h4 (T:=T) (by rw[zGk hs.1,hs.2];exact(hP _ _ hi).1);exact⟨z,by simp[execOp,Instr.loadAt,Instr.sureAddr,hxv,hz],hr.v⟩
    ·cases h
   ·cases h
  ·cases h
 |fieldAddr T x k=>
  simp only[pv]at h;split at h
  ·rename_i id path hx;obtain⟨blk,t,o,t',hb,ho,hxv⟩:=(hρ _ _ hx).pt;split at h
   ·rename_i u hu;rw[zdi]at hu;split at h
    ·rename_i v' hn;split at h
     ·rename_i hf;simp only[zGh]at h;subst h;obtain⟨cells,e,hg,hr,hst,_⟩:=hM.box id blk t u hb hu;subst hst;obtain⟨hs',_⟩:=SV.nav_rep hr ho hn;obtain⟨fields,f,o',t2,hun,hfk,hoff,hfo,n,ag,hTF,hn0,hsz⟩:=zgK hP hf;rw[hs']at hoff;have:=zhv ho hoff;refine⟨.pointer (some ⟨blk,o+o',none⟩),?_,?_⟩
      ·simp[execOp,Instr.fieldAt,Instr.sureAddr,hxv,run_underlying hun,hfk,fieldPlace,hTF.sizeOf,hn0,zbA,hfo]
      ·exact⟨(fun h=>by cases h),fun _=>⟨blk,_,_,_,hb,this,rfl⟩⟩
     ·cases h
    ·cases h
   ·cases h
  ·rename_i y hx;obtain⟨blk,off,row,vs,h1,h2,h3,h4,hxv⟩:=(hρ _ _ hx).el;split at h
   ·rename_i hf;split at h
    ·rename_i y' hn;simp only[zGh]at h;subst h;obtain⟨fields,f,o',t2,hun,hfk,hoff,hfo,n,ag,hTF,hn0,hsz⟩:=zgK hP hf;obtain⟨hs',hr'⟩:=D.nav_rep h2 hoff hn;have hle:=Ty.off_le hoff;have hl:=h2.length;have hl':=hr'.length;refine⟨.pointer (some ⟨blk,off+o',none⟩),?_,?_⟩
     ·simp[execOp,Instr.fieldAt,Instr.sureAddr,hxv,run_underlying hun,hfk,fieldPlace,hTF.sizeOf,hn0,zbA,hfo]
     ·refine⟨(fun h=>by cases h),fun _=>⟨blk,off+o',row,_,h1,hr',?_,?_,rfl⟩⟩
      ·rw[hl',hs'];omega
      ·rw[hl',hs',←h4,zbf (by rw[hl];exact hle)]
    ·cases h
   ·cases h
  ·cases h
 |extract t i=>
  simp only[pv]at h;split at h
  ·rename_i c hx;obtain⟨vs,hl,hxv⟩:=hρ _ _ hx;obtain⟨y,hy,hr⟩:=hl.comp h;exact⟨y,by simp[execOp,Instr.extract,hxv,hy],hr⟩
  ·cases h
 |unOp op T x=>
  cases op with
  |not=>
   simp only[pv]at h;split at h
   ·rename_i b hx;simp only[zGh]at h;subst h;exact⟨.bool (!b),by simp[execOp,Op.unary,(hρ _ _ hx).bo],zbM _⟩
   ·cases h
  |_=>simp[pv]at h
 |makeFunc f first cp=>
  simp only[pv]at h;split at h
  ·rename_i hf;have hf:first= #[]:=zH3 (by simpa using hf)
   subst hf;split at h
   ·rename_i c hc;simp only[zGh]at h;subst h;have:=zoI hρ hc;exact⟨.func f #[] (cp.map a.eval),by simp[execOp,Instr.makeFunc],⟨(fun h=>by cases h),fun _=>⟨_,this,congrArg (fun z=>[Value.func f #[] z]) (zH3 (by simp))⟩⟩⟩
   ·cases h
  ·rename_i x hf;have hf:first= #[x]:=zH3 (by simpa using hf)
   subst hf;split at h
   ·rename_i k v hcp hx;have hcp:cp= #[]:=zH3 (by simpa using hcp);subst hcp;split at h
    ·rename_i h1;cases h;have hr:=((hρ _ _ hx).a (SV.one_nt h1)).2 (SV.one_agg h1);exact⟨.func (.func k) #[a.eval x] #[],by simp[execOp,Instr.makeFunc],⟨(fun h=>by cases h),fun _=>⟨_,⟨hr,SV.one_agg h1⟩,rfl⟩⟩⟩
    ·cases h
   ·cases h
  ·cases h
 |nilCheck x=>
  simp only[pv]at h;split at h
  ·rename_i id path hx;simp only[zGh]at h;subst h;obtain⟨blk,t,o,t',hb,ho,hxv⟩:=(hρ _ _ hx).pt;exact⟨a.eval x,by simp[execOp,hxv],hρ _ _ hx⟩
  ·rename_i y hx;simp only[zGh]at h;subst h;obtain⟨blk,off,row,vs,h1,h2,h3,h4,hxv⟩:=(hρ _ _ hx).el;exact⟨a.eval x,by simp[execOp,hxv],hρ _ _ hx⟩
  ·rename_i f c hx;simp only[zGh]at h;subst h;obtain⟨vs,_,hxv⟩:=(hρ _ _ hx).fn;exact⟨a.eval x,by simp[execOp,hxv],hρ _ _ hx⟩
  ·rename_i id hx;simp only[zGh]at h;subst h;obtain⟨l,_,hxv⟩:=(hρ _ _ hx).yl;exact⟨a.eval x,by simp[execOp,hxv],hρ _ _ hx⟩
  ·rename_i k v hx;simp only[zGh]at h;subst h;obtain⟨y,_,hxv⟩:=(hρ _ _ hx).2 rfl;have hxv:a.eval x=.func (.func k) #[y] #[]:=by simpa using hxv
   exact⟨a.eval x,by simp[execOp,hxv],hρ _ _ hx⟩
  ·cases h
 |field T x k=>
  simp only[pv]at h;split at h
  ·rename_i u hx;have hag:∃cells,zb5 ro bl u cells∧a.eval x=.agg cells.toArray:=by
    have hnt:∀b,u≠.tu b:=fun b e=>by
     subst e;unfold zAf zkY at h;simp[SV.shape,Ty.off]at h
     repeat' split at h
     all_goals simp_all
    have hA:=(hρ _ _ hx).a hnt;cases hq:u.agg with
    |true=>exact hA.1 hq
    |false=>
     exfalso;have hsh:=SV.shape_c hq;unfold zAf zkY at h;rw[hsh]at h;simp[Ty.off]at h
     repeat' split at h
     all_goals simp_all
   obtain⟨cells,hr,hxv⟩:=hag;obtain⟨fields,f,y,hun,hfk,hrun,hy⟩:=zxD (w:=w) hP h hr;exact⟨y,by simp[execOp,Instr.field,hxv,run_underlying hun,hfk,asAgg,hrun],hy.v⟩
  ·cases h
 |build T parts=>
  simp only[pv]at h;split at h
  ·rename_i s ag fs z hT;split at h
   ·rename_i hall;obtain⟨fields,hun,hl⟩:=(hP T _ hT).2.1;rw[←hl]at hall;obtain⟨places,hpm,hpl⟩:=zsp hall hP;have hz0:=(hP T _ hT).2.2;have hagT:ag=true:=by obtain⟨_,d,hd,hda⟩:=(hP T _ hT).1;rw[hun]at hd;cases hd;exact hda.symm
    subst hagT;obtain⟨out,ho,hro,hsh⟩:=zoE hP hun hpl hρ (v:=z.sv') (cells:=z.cells) h (z.rep_sv' ro bl).1;obtain⟨it,hit,hzz⟩:=zGj.1 hz0.1;have hb:P.built T (parts.map fun x=>(x.1,a.eval x.2)).toList=some out:=by unfold Program.built;rw[hit,hun];simp only[hzz,zG7,hpm,Value.cells];rw[zG6];exact ho
    refine⟨.agg out,by simp[execOp,run_build w T _ out hb],?_⟩;have hagv:v.agg=true:=by
     cases hq:v.agg with
     |true=>rfl
     |false=>
      have h1:=SV.shape_c hq;rw[hsh]at h1;rw[(z.rep_sv' ro bl).2.1]at h1;have h2:(SV.d z.d).agg=true:=hz0.2.1;cases hd:z.d<;>rw[hd]at h1 h2<;>simp[SV.shape,D.shape,SV.agg,D.agg]at h1 h2
    have:zcD ro bl v (.agg out):=⟨fun _=>⟨out.toList,hro,by simp⟩,fun e=>by rw[hagv]at e;cases e⟩;exact this.v
   ·cases h
  ·cases h
 |makeInterface T x=>
  simp only[pv]at h;split at h
  ·rename_i k n s ag k' z hx hT;cases h;obtain⟨hxv,hk⟩:=(hρ _ _ hx).z;have hu:P.underlying T=some (.int k'):=(hP T _ hT).2.1;exact⟨.iface T (.int k n),by simp[execOp,Instr.makeInterface,run_underlying hu,hxv],⟨(fun h=>by cases h),fun _=>⟨_,⟨rfl,hk⟩,rfl⟩⟩⟩
  ·cases h
 |binOp op T x y yT=>
  simp only[pv]at h;split at h
  ·rename_i k n k' m hx hy;split at h
   ·rename_i hk;have hk:k=k':=by simpa using hk
    subst hk;obtain⟨c,hc,rfl⟩:=zGj.1 h;refine⟨.bool c,?_,zbM c⟩;have e1:=(hρ _ _ hx).z.1;have e2:=(hρ _ _ hy).z.1;cases op<;>simp only[zCs,zGh,reduceCtorEq]at hc<;>subst hc<;>simp[execOp,eqGuard,binOp,Op.intCmp,e1,e2]
   ·cases h
  ·rename_i id path hx hy;split at h
   ·rename_i s ag e z hT;have hu:P.underlying T=some (.pointer e):=(hP T _ hT).2.1;obtain⟨blk,t,o,t',hb,ho,e1⟩:=(hρ _ _ hx).pt;have e2:a.eval y=.pointer none:=by have:=(hρ _ _ hy).2 rfl;simpa[zb5,zbg]using this
    have he:(Op.equal T (.pointer (some ⟨blk,o,none⟩)) (.pointer none)).run P w=.ok false w:=by unfold Op.equal Op.maxDepth Op.equalIn;simp[run_underlying hu]
    cases op<;>simp only[zhZ,zGh,reduceCtorEq]at h<;>subst h
    ·exact⟨.bool false,by simp[execOp,eqGuard,binOp,e1,e2,he],zbM _⟩
    ·exact⟨.bool true,by simp[execOp,eqGuard,binOp,e1,e2,he],zbM _⟩
   ·cases h
  ·rename_i hx hy;split at h
   ·rename_i s ag e z hT;have hu:P.underlying T=some (.pointer e):=(hP T _ hT).2.1;have e1:a.eval x=.pointer none:=by have:=(hρ _ _ hx).2 rfl;simpa[zb5,zbg]using this
    have e2:a.eval y=.pointer none:=by have:=(hρ _ _ hy).2 rfl;simpa[zb5,zbg]using this
    have he:(Op.equal T (.pointer none) (.pointer none)).run P w=.ok true w:=by unfold Op.equal Op.maxDepth Op.equalIn;simp[run_underlying hu]
    cases op<;>simp only[zhZ,zGh,reduceCtorEq]at h<;>subst h
    ·exact⟨.bool true,by simp[execOp,eqGuard,binOp,e1,e2,he],zbM _⟩
    ·exact⟨.bool false,by simp[execOp,eqGuard,binOp,e1,e2,he],zbM _⟩
   ·cases h
  ·rename_i hx hy;split at h
   ·rename_i c;split at h
    ·rename_i s ag z hT;obtain⟨ms,hu⟩:=(hP T _ hT).2.1;have e1:a.eval x=.nilIface:=by have:=(hρ _ _ hx).2 rfl;simpa[zb5,zbg]using this
     have e2:c=.nilIface:=by have:=(hρ _ _ hy).2 rfl;simpa[zb5,zbg,Act.eval]using this
     subst e2;have e2:a.eval (.const .nilIface)=.nilIface:=rfl;have hg:∀op,(eqGuard op T x (.const .nilIface) .nilIface .nilIface).run P w=.ok () w:=fun op=>by unfold eqGuard;cases op<;>simp
     have he:(Op.equal T .nilIface .nilIface).run P w=.ok true w:=by unfold Op.equal Op.maxDepth Op.equalIn;simp[run_underlying hu]
     cases op<;>simp only[zhZ,zGh,reduceCtorEq]at h<;>subst h
     ·exact⟨.bool true,by simp[execOp,binOp,e1,e2,hg,he],zbM _⟩
     ·exact⟨.bool false,by simp[execOp,binOp,e1,e2,hg,he],zbM _⟩
    ·cases h
   ·cases h
  ·rename_i tt d hx hy;split at h
   ·rename_i s ag z hT;obtain⟨ms,hu⟩:=(hP T _ hT).2.1;obtain⟨v1,_,e1⟩:=(hρ _ _ hx).2 rfl;have e1:a.eval x=.iface tt v1:=by simpa using e1
    have e2:a.eval y=.nilIface:=by have:=(hρ _ _ hy).2 rfl;simpa[zb5,zbg]using this
    have he:(Op.equal T (.iface tt v1) .nilIface).run P w=.ok false w:=by unfold Op.equal Op.maxDepth Op.equalIn;simp[run_underlying hu]
    cases op<;>simp only[zhZ,zGh,reduceCtorEq]at h<;>subst h
    ·exact⟨.bool false,by simp[execOp,eqGuard,binOp,e1,e2,he],zbM _⟩
    ·exact⟨.bool true,by simp[execOp,eqGuard,binOp,e1,e2,he],zbM _⟩
   ·cases h
  ·cases h
 |_=>simp[pv]at h
end Sx
end Go.Proofs.YtfbhkfhbnkncoaaGreatDoor
