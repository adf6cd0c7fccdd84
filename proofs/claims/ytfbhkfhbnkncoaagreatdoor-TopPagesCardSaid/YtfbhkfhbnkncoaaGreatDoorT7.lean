import Derived.Test.YtfbhkfhbnkncoaaGreatDoorT6
set_option linter.all false
namespace Go.Proofs.YtfbhkfhbnkncoaaGreatDoor
open Go.RowKit
namespace Sx
variable {E:Gh}
variable {P:Program} {tb:TT}
theorem zaX.dat{ro:Ro}{bl:Bl}{v:SV}{d:D}{x:Value}(h:zaX ro bl v x)(hd:v.dat=.d d):zaX ro bl (.d d) x:=by
 cases v with
 |ow id ver n t f=>
  cases hd;obtain⟨y,e,h1,_,_,_,h2⟩:=h.2 rfl;cases h2;exact⟨(fun h=>by cases h),fun _=>h1⟩
 |d y=>cases hd;exact h
 |_=>cases hd
theorem zo3{ro:Ro}{bl:Bl}{ρ:Operand→Option SV}{ev:Operand→Value}(hρ:∀x v,ρ x=some v→zaX ro bl v (ev x)){t:Ty}:
 ∀{ps:List (Nat×Operand)} {i:Nat} {l:List D} {done rest:List Value},zoj ρ t ps i=some l→done.length=i*t.size→rest.length=l.length*t.size→
  ∃cs,Instr.fill (fun i=>some (i*t.size,t.size)) (done++rest).toArray (ps.map fun x=>(x.1,ev x.2))=some (done++cs).toArray∧cs.length=l.length*t.size∧∀j,j<l.length→(za4 l j).shape=t∧zbg ro (za4 l j) ((cs.drop (j*t.size)).take t.size)
 |[],i,l,done,rest,h,_,hr=>by simp only[zoj,zGh]at h;subst h;exact⟨rest,rfl,hr,fun j hj=>by simp at hj⟩
 |(k,x)::ps,i,l,done,rest,h,hd,hr=>by
  unfold zoj at h;split at h
  ·rename_i hk;have:=zGk hk;subst this;split at h
   ·rename_i v hv;split at h
    ·rename_i d hdat;split at h
     ·rename_i hsh;have hsh:=zFL hsh;split at h
      ·rename_i l' hl';cases h;have hx:=(hρ _ _ hv).dat hdat;have hcs:=(hx.a (fun a e=>by cases e)).cells;have hcl:(ev x).cells.toList.length=t.size:=by rw[hcs.length];show d.shape.size=_;rw[hsh]
       have hr':rest.length=t.size+l'.length*t.size:=by rw[hr,zFI,zFZ];omega
       obtain⟨cs,h1,h2,h3⟩:=zo3 hρ (ps:=ps) (i:=k+1) (l:=l') (done:=done++(ev x).cells.toList) (rest:=rest.drop t.size) hl' (by rw[zFY,hcl,hd,zFZ]) (by simp;omega);refine⟨(ev x).cells.toList++cs,?_,by rw[zFY,hcl,h2,zFI,zFZ];omega,fun j hj=>?_⟩
       ·simp only[zGF];rw[zkW (off:=k*t.size) (size:=t.size) rfl (by simpa using hcl) (by simp;omega)];have e1:(done++rest).take (k*t.size)=done:=by rw[←hd,zG3]
        have e2:(done++rest).drop (k*t.size+t.size)=rest.drop t.size:=by rw[zGI,zGi (by omega),zG4,show k*t.size+t.size - done.length=t.size by omega]
        rw[e1,e2,h1,zG5]
       ·cases j with
        |zero=>
         rw[Nat.zero_mul,zGX,zGP (by omega),zGN (by omega)];exact⟨hsh,hcs⟩
        |succ j=>
         have h4:=h3 j (by simpa using hj);rw[zFZ,zGI,zGi (by omega),zG4,show j*t.size+t.size -(ev x).cells.toList.length=j*t.size by omega];exact h4
      ·cases h
     ·cases h
    ·cases h
   ·cases h
  ·cases h
theorem zfY(hP:tb.ok P){ro:Ro}{bl:Bl}{w:World}{T e:TypeId}(hT:P.underlying T=some (.slice e)){ie:TI}(hie:tb.get e=some ie){t:Ty}(hs:t.size=ie.size){n:Nat}(hn:n*ie.size≤16777216)
 {ρ:Operand→Option SV}{ev:Operand→Value}(hρ:∀x v,ρ x=some v→zaX ro bl v (ev x)){ps:Array (Nat×Operand)}{l:List D}(hl:zoj ρ t ps.toList 0=some l)(hln:l.length=n):
 ∃cs:List Value,(Instr.buildSlice T n (ps.map fun x=>(x.1,ev x.2))).run P w=.ok (.slice (some ⟨w.heap.size,0,none⟩) n n) (w.alloc (.cells cs.toArray e))∧cs.length=n*t.size∧∀j,j<n→(za4 l j).shape=t∧zbg ro (za4 l j) ((cs.drop (j*t.size)).take t.size):=by
 obtain⟨hsz,⟨hk,hz,hag,hby⟩⟩:=hP _ _ hie;obtain⟨i,hi,hsi⟩:=zGj.1 hsz.1;simp only[hi,zGE,zGh]at hz;have run:∀init:Array Value,init.size=n*t.size→∃cs:List Value,Instr.fill (fun i=>some (i*t.size,t.size)) init (ps.map fun x=>(x.1,ev x.2)).toList=some cs.toArray∧cs.length=n*t.size∧∀j,j<n→(za4 l j).shape=t∧zbg ro (za4 l j) ((cs.drop (j*t.size)).take t.size):=fun init hinit=>by obtain⟨cs,h1,h2,h3⟩:=zo3 hρ (done:=[]) (rest:=init.toList) hl (by simp) (by rw[hln];simpa using hinit);refine⟨cs,?_,by rw[h2,hln],fun j hj=>h3 j (by omega)⟩;rw[zG6];simpa using h1
 have hnot:¬(n*ie.size>2 ^ 24):=by omega
 have hsize:(sizeOf e).run P w=.ok ie.size w:=hsz.sizeOf w;have hzr:(zeroValue e).run P w=.ok (if ie.ag then Value.agg ie.zero.cells.toArray else ie.zero.cells.headD undef) w:=by simp[zeroValue,typeInfo,hi,hz]
 generalize(if ie.ag then Value.agg ie.zero.cells.toArray else ie.zero.cells.headD undef)=zv at hzr;by_cases h0:n*ie.size=0
 ·obtain⟨cs,h1,h2,h3⟩:=run ((Array.range (n*ie.size)).map fun x=>(#[]:Array Value)[x %(#[]:Array Value).size]!) (by simp[hs]);rw[hs]at h1;refine⟨cs,?_,h2,h3⟩;unfold Instr.buildSlice;simp only[Sem.run_bind,run_underlying hT,Result.andThen_ok,hsize,h0,if_neg (by decide:¬((0:Nat)>2 ^ 24)),zG7,Sem.run_pure];rw[h0]at h1;rw[h1];simp[newRow]
 ·obtain⟨cs,h1,h2,h3⟩:=run ((Array.range (n*ie.size)).map fun x=>zv.cells[x % zv.cells.size]!) (by simp[hs]);rw[hs]at h1;refine⟨cs,?_,h2,h3⟩;unfold Instr.buildSlice;simp only[Sem.run_bind,run_underlying hT,Result.andThen_ok,hsize,if_neg hnot,h0,if_false,Sem.run_pure,hzr];rw[h1];simp[newRow]
theorem zgC(hP:tb.ok P){ro:Ro}{bl:Bl}{m:MS}{w:World}(hM:Mem E ro bl m w){T e:TypeId}(hT:P.underlying T=some (.slice e)){ie:TI}(hie:tb.get e=some ie){t:Ty}(hs:t.size=ie.size){n:Nat}(hn:n*ie.size≤16777216)
 {ρ:Operand→Option SV}{ev:Operand→Value}(hρ:∀x v,ρ x=some v→zaX ro bl v (ev x)){ps:Array (Nat×Operand)}{l:List D}(hl:zoj ρ t ps.toList 0=some l)(hln:l.length=n):
 ∃ro' w' x,(Instr.buildSlice T n (ps.map fun x=>(x.1,ev x.2))).run P w=.ok x w'∧zaX ro' bl (.ow 0 0 n t (za4 l)) x∧Mem E ro' bl m w'∧Gr ro bl w ro' bl w':=by
 obtain⟨cs,hr,h1,h2⟩:=zfY (w:=w) (bl:=bl) hP hT hie hs hn hρ hl hln;obtain⟨hM1,hG1⟩:=hM.row (zGM cs) e;exact⟨_,_,_,hr,⟨(fun h=>by cases h),fun _=>⟨_,(none,0,0),zog (row:=cs) (off:=0) (by unfold zaq;exact if_pos rfl) rfl h1 (zFV _) (zF5 _) (zhy hG1.le.r h2),rfl,zF5 _,fun _=>.inl ⟨_,rfl⟩,rfl⟩⟩,hM1,hG1⟩
theorem zhF{ro:Ro}{n:Nat}{t:Ty}{f:Nat→D}{A:Option Addr}{c l h mm:Nat}(hr:zbg ro (.sl n t f) [.slice A n c])(hl:l≤h)(hh:h≤n)(hm:h≤mm):zbg ro (.sl (h - l) t (zbP f l)) [sliced A l h mm t.size]:=by
 obtain⟨A',c',h1,h2,h3⟩:=hr;cases h1;refine⟨_,_,rfl,by omega,fun hp=>?_⟩;obtain⟨blk,off,row,g,rfl,k1,k2,k3⟩:=h3 (by omega);have hle:l*t.size+(h - l)*t.size≤n*t.size:=by rw[←zG8];exact zGK _ (by omega)
 refine⟨blk,off+l*t.size,row,fun i=>g (l+i),?_,k1,by omega,fun i hi=>?_⟩
 ·rw[if_neg (by omega)];simp[zbA]
 ·obtain⟨g1,g2,g3⟩:=k3 (l+i) (by omega);refine⟨g1,g2,?_⟩;show(row.drop (off+l*t.size+i*t.size)).take t.size=g (l+i);rw[←g3,zG8,zG0]
theorem zol{ro:Ro}{n:Nat}{t:Ty}{e:Option Nat×Nat×Nat}{A:Option Addr}{c l:Nat}(hr:zBz ro n t e (.slice A n c))(hl:l≤n)(hc:n≤c):zBz ro (n - l) t e (sliced A l n c t.size):=by
 rcases hr with⟨A',h⟩|⟨blk,off,row,c',h1,h2,h3,h4,h5⟩
 ·cases h;exact .inl ⟨_,rfl⟩
 ·cases h2;by_cases hcl:c=l
  ·subst hcl;have:n=c:=by omega
   subst this;exact .inl ⟨_,rfl⟩
  ·refine .inr ⟨blk,off+l*t.size,row,c - l,h1,?_,h3,?_,?_⟩
   ·unfold sliced;rw[if_neg hcl];simp[zbA]
   ·rw[h4,zG0,←zG8,show l+(n - l)=n by omega]
   ·rw[zG0,←zG8,show l+(c - l)=c by omega];exact h5
end Sx
end Go.Proofs.YtfbhkfhbnkncoaaGreatDoor
