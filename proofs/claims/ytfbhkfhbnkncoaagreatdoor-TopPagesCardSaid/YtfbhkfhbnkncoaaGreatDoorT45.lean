import Derived.Test.YtfbhkfhbnkncoaaGreatDoorT44
set_option linter.all false
set_option maxRecDepth 100000
set_option maxHeartbeats 8000000
namespace Go.Proofs.YtfbhkfhbnkncoaaGreatDoor
open Go.RowKit
namespace Sx
attribute [local irreducible] Con zax zan zau zai zaw zbt zak zaC zbh zba I64
section
variable {Z:SV} {a b:Nat} {x:Cr} {c:Rt}
theorem zzD{t:Nat}(hz:Z.ids 3 2 0=true)(hw:WOk x c t):Con Tryz.prog 124 [.pt 2 [],.d (zdL c)] (MC Z x a b) fun o m=>o=.ret (T3 (.d (zdL (za1 x c).c)) (.d (zaK (za1 x c).r)) (B (za1 x c).e))∧∃a',m=MC Z (za1 x c).x a' b:=by
 have hR:=zqZ hw.s hw.ct.r hw.ct.s;have hE:∀(p:Sp) (a':Nat),za1 x c=p→Ok Tryz.prog Tryz.f124.ntmps false (zbR 3 (zbE Tryz.f124)) (zdx [(4,.pt 4 []),(5,.pt 5 []),(7,.pt 6 [])] []) (M7 Z (zdL c) zBJ.zero.d i76.zero.d p.x p.c p.r p.e a' b) (zeJ tbl 3 2 0 Tryz.f124.results.toList fun o m=>o=.ret (T3 (.d (zdL (za1 x c).c)) (.d (zaK (za1 x c).r)) (B (za1 x c).e))∧∃a',m=MC Z (za1 x c).x a' b):=fun p a' e=>by
  rw[e];refine zab zaa ?_;conv=>whnf
  refine zaA zaa (by kernel_rfl) (List.range 15) [(12,4080),(13,3840)] (by kernel_rfl) ?_;conv=>whnf
  refine⟨(show _∧_ from⟨rfl,rfl⟩),zas ?_ ?_⟩;rotate_left
  ·repeat' (first|exact trivial|refine And.intro (show _∧_ from⟨rfl,rfl⟩) ?_)
  conv=>whnf
  refine⟨(show _∧_ from⟨rfl,rfl⟩),zas ?_ ?_⟩;rotate_left
  ·repeat' (first|exact trivial|refine And.intro (show _∧_ from⟨rfl,rfl⟩) ?_)
  conv=>whnf
  exact⟨zaJ rfl (za6 hz p.x a'),rfl,a',rfl⟩
 refine zcp Tryz.func124 rfl (by kernel_rfl) rfl rfl ?_;refine zav (zab zaa ?_);conv=>whnf
 refine zav (zab zaa ?_);conv=>whnf
 refine zaD (l:=[(4,.pt 4 []),(5,.pt 5 []),(7,.pt 6 [])]) (m':=M7 Z (zdL c) zBJ.zero.d i76.zero.d x c rs0 false a b) ⟨rfl,rfl,rfl,trivial⟩ rfl ?_;refine zav (zab zaa ?_);conv=>whnf
 refine zaB zaa (fun i:Nat=>i≤4∧(1≤i→c.chk=true)∧(2≤i→c.regs=[])∧(3≤i→((zaE x.s c.task c.c != 0)&&decide (c.run.n≤0))=false)∧(4≤i→decide (c.clr<c.run.n)=false)) (fun i=>5 - i) (fun i=>[(25,I i)]) (fun i=>M7 Z (zdL c) zBJ.zero.d i76.zero.d x c rs0 false a b) 0 ⟨zFV _,by omega,by omega,by omega,by omega⟩ ⟨rfl,trivial⟩ rfl (fun i=>⟨zF5 _,zF5 _,zF5 _⟩) ?_;intro i ⟨hi,f1,f2,f3,f4⟩
 match i,hi,f1,f2,f3,f4 with
 |0,_,_,_,_,_=>
  conv=>whnf
  refine⟨fun _=>?_,(fun h=>by cases h)⟩;conv=>whnf
  refine⟨⟨(by decide:(0:Int)≤0),(by decide:(0:Int)<5)⟩,?_⟩;conv=>whnf
  cases g1:c.chk with
  |true=>
   refine zal (zuo hz g1) ?_;rintro o m ⟨rfl,rfl⟩;conv=>whnf
   refine⟨(fun h=>by cases h),fun _=>?_⟩;conv=>whnf
   conv=>whnf
   refine⟨zac (x:=(1:Int)) (by decide) (by decide),?_⟩;conv=>whnf
   exact⟨1,⟨by decide,fun _=>by first|exact g1|rfl,fun h=>absurd h (by decide),fun h=>absurd h (by decide),fun h=>absurd h (by decide)⟩,by decide,⟨rfl,trivial⟩,⟨rfl,zcr hz (zFG rfl) rfl⟩,rfl⟩
  |false=>
   refine zal (zxg hz hw g1 hR) ?_;rintro o m ⟨rfl,a',rfl⟩;conv=>whnf
   refine⟨fun _=>?_,(fun h=>by cases h)⟩;conv=>whnf
   conv=>whnf
   exact zaD (l:=[(4,.pt 4 []),(5,.pt 5 []),(7,.pt 6 [])]) ⟨rfl,rfl,rfl,trivial⟩ rfl (hE _ a' (by unfold za1;rw[g1];rfl))
 |1,_,f1,_,_,_=>
  have g1:=f1 (by decide);conv=>whnf
  refine⟨fun _=>?_,(fun h=>by cases h)⟩;conv=>whnf
  refine⟨⟨(by decide:(0:Int)≤1),(by decide:(1:Int)<5)⟩,?_⟩;conv=>whnf
  cases g2:c.regs with
  |nil=>
   refine zal (zuW hz g2) ?_;rintro o m ⟨rfl,rfl⟩;conv=>whnf
   refine⟨(fun h=>by cases h),fun _=>?_⟩;conv=>whnf
   conv=>whnf
   refine⟨zac (x:=(2:Int)) (by decide) (by decide),?_⟩;conv=>whnf
   exact⟨2,⟨by decide,fun _=>by first|exact g1|rfl,fun _=>by first|exact g2|rfl,fun h=>absurd h (by decide),fun h=>absurd h (by decide)⟩,by decide,⟨rfl,trivial⟩,⟨rfl,zcr hz (zFG rfl) rfl⟩,rfl⟩
  |cons g l=>
   have hl:=hw.rx.rg;rw[g2,zFI]at hl;refine zal (zx1 hz hw.mks g2 (by omega)) ?_;rintro o m ⟨rfl,a',rfl⟩;conv=>whnf
   refine⟨fun _=>?_,(fun h=>by cases h)⟩;conv=>whnf
   conv=>whnf
   exact zaD (l:=[(4,.pt 4 []),(5,.pt 5 []),(7,.pt 6 [])]) ⟨rfl,rfl,rfl,trivial⟩ rfl (hE _ a' (by unfold za1;rw[g1,g2];rfl))
 |2,_,f1,f2,_,_=>
  have g1:=f1 (by decide);have g2:=f2 (by decide);conv=>whnf
  refine⟨fun _=>?_,(fun h=>by cases h)⟩;conv=>whnf
  refine⟨⟨(by decide:(0:Int)≤2),(by decide:(2:Int)<5)⟩,?_⟩;conv=>whnf
  cases g3:((zaE x.s c.task c.c != 0)&&decide (c.run.n≤0))with
  |false=>
   refine zal (zrj hz hw g3) ?_;rintro o m ⟨rfl,rfl⟩;conv=>whnf
   refine⟨(fun h=>by cases h),fun _=>?_⟩;conv=>whnf
   conv=>whnf
   refine⟨zac (x:=(3:Int)) (by decide) (by decide),?_⟩;conv=>whnf
   exact⟨3,⟨by decide,fun _=>by first|exact g1|rfl,fun _=>by first|exact g2|rfl,fun _=>by first|exact g3|rfl,fun h=>absurd h (by decide)⟩,by decide,⟨rfl,trivial⟩,⟨rfl,zcr hz (zFG rfl) rfl⟩,rfl⟩
  |true=>
   refine zal (zup hz hw g3) ?_;rintro o m ⟨rfl,a',rfl⟩;conv=>whnf
   refine⟨fun _=>?_,(fun h=>by cases h)⟩;conv=>whnf
   conv=>whnf
   exact zaD (l:=[(4,.pt 4 []),(5,.pt 5 []),(7,.pt 6 [])]) ⟨rfl,rfl,rfl,trivial⟩ rfl (hE _ a' (by unfold za1;rw[g1,g2,g3];rfl))
 |3,_,f1,f2,f3,_=>
  have g1:=f1 (by decide);have g2:=f2 (by decide);have g3:=f3 (by decide);conv=>whnf
  refine⟨fun _=>?_,(fun h=>by cases h)⟩;conv=>whnf
  refine⟨⟨(by decide:(0:Int)≤3),(by decide:(3:Int)<5)⟩,?_⟩;conv=>whnf
  cases g4:decide (c.clr<c.run.n)with
  |false=>
   refine zal (zrk hz g4) ?_;rintro o m ⟨rfl,rfl⟩;conv=>whnf
   refine⟨(fun h=>by cases h),fun _=>?_⟩;conv=>whnf
   conv=>whnf
   refine⟨zac (x:=(4:Int)) (by decide) (by decide),?_⟩;conv=>whnf
   exact⟨4,⟨by decide,fun _=>by first|exact g1|rfl,fun _=>by first|exact g2|rfl,fun _=>by first|exact g3|rfl,fun _=>by first|exact g4|rfl⟩,by decide,⟨rfl,trivial⟩,⟨rfl,zcr hz (zFG rfl) rfl⟩,rfl⟩
  |true=>
   have hrn:zbd c.run:=by
    rcases hw.rn with h|h
    ·have h1:=zFL g4;have h2:=hw.rx.c0;omega
    ·exact h
   refine zal (zuq hz hw.fr.ok (zFU (zfK hw.fr) (by decide)) hw.n hrn hw.rx.c0 g4) ?_;rintro o m ⟨rfl,a',rfl⟩;conv=>whnf
   refine⟨fun _=>?_,(fun h=>by cases h)⟩;conv=>whnf
   conv=>whnf
   exact zaD (l:=[(4,.pt 4 []),(5,.pt 5 []),(7,.pt 6 [])]) ⟨rfl,rfl,rfl,trivial⟩ rfl (hE _ a' (by unfold za1;rw[g1,g2,g3,g4];rfl))
 |4,_,f1,f2,f3,f4=>
  have g1:=f1 (by decide);have g2:=f2 (by decide);have g3:=f3 (by decide);have g4:=f4 (by decide);conv=>whnf
  refine⟨fun _=>?_,(fun h=>by cases h)⟩;conv=>whnf
  refine⟨⟨(by decide:(0:Int)≤4),(by decide:(4:Int)<5)⟩,?_⟩;conv=>whnf
  refine zal (zrr hz hw) ?_;rintro o m ⟨rfl,a',rfl⟩;conv=>whnf
  refine⟨fun _=>?_,(fun h=>by cases h)⟩;conv=>whnf
  conv=>whnf
  exact zaD (l:=[(4,.pt 4 []),(5,.pt 5 []),(7,.pt 6 [])]) ⟨rfl,rfl,rfl,trivial⟩ rfl (hE _ a' (by unfold za1;rw[g1,g2,g3,g4];rfl))
end
end Sx
namespace Sx
def zbi(x:Ins):D:=.pr (.z .u8 x.op) (.pr (.z .u8 x.a) (.pr (.z .u8 x.b) (.pr (.z .u8 x.c) (.pr (.z .u16 x.n) .un))))
def zpI:Ty:=.p .c (.p .c (.p .c (.p .c (.p .c .u))))
def za0(t:Tsk):D:=.pr (.sl t.code.length zpI fun i=>zbi (t.code.getD i zh0)) (.pr (.z .i64 t.next) (.pr (.ar 8 .c fun i=>.z .u64 (t.regs i)) .un))
attribute [local irreducible] Con zax zan zau zai zaw zbt zak zaC zbh zba I64
theorem znO{t:Tsk}(h:TskOk t):zay Tryz.prog 122 [.d (za0 t)] (T2 (.d (zbi (zcN t))) (B (zid t))):=by
 obtain⟨h1,h2,h3,h4⟩:=h;refine zat Tryz.func122 rfl (by kernel_rfl) rfl rfl rfl ?_;conv=>whnf
 refine⟨fun _=>zac (x:=(t.code.length:Int)) (by omega) (by omega),?_⟩;conv=>whnf
 refine⟨fun hq=>?_,fun hq=>?_⟩
 ·have hq:(decide (t.next<0)||decide (t.next≥(t.code.length:Int)))=true:=hq;conv=>whnf
  refine⟨rfl,zae ?_⟩;rw[show zcN t=zh0 by unfold zcN zid;rw[hq];rfl,show zid t=false by unfold zid;rw[hq];rfl];rfl
 ·have hq:(decide (t.next<0)||decide (t.next≥(t.code.length:Int)))=false:=hq;have hq':=hq;simp only[zFM,zFO]at hq';conv=>whnf
  refine⟨⟨by omega,by omega⟩,?_⟩;conv=>whnf
  refine⟨rfl,zae ?_⟩;rw[show zcN t=t.code.getD t.next.toNat zh0 by unfold zcN zid;rw[hq];rfl,show zid t=true by unfold zid;rw[hq];rfl];rfl
theorem zoe(t:Tsk){n:Int}(hn:0≤n∧n<256):zay Tryz.prog 123 [.d (za0 t),.d (.z .u8 n)] (.d (.z .u64 (zf6 t n))):=by
 have h0:0≤n.tmod 8:=zHh _ hn.1;have h1:n.tmod 8<8:=zHi _ (by decide);refine zat Tryz.func123 rfl (by kernel_rfl) rfl rfl rfl ?_;conv=>whnf
 refine⟨⟨by decide,zbL (by simp only[zcB];omega) (fun _=>h0) (by simp only[zcB];omega)⟩,?_⟩;conv=>whnf
 refine⟨⟨h0,h1⟩,?_⟩;conv=>whnf
 exact⟨rfl,zae rfl⟩
theorem zni{t:Tsk}(h:TskOk t):zay Tryz.prog 67 [.d (za0 t)] (T2 (.d (zaW (zcw t))) (B (zda t))):=by
 refine zat Tryz.func67 rfl (by kernel_rfl) rfl rfl rfl ?_;conv=>whnf
 refine zad (znO h) ?_;conv=>whnf
 refine⟨fun hq=>?_,fun hq=>?_⟩
 ·have hq:(!zid t||((zcN t).op==0))=true:=hq;conv=>whnf
  refine⟨rfl,zae ?_⟩;rw[show zcw t=zbo 20 by unfold zcw;rw[hq];rfl,show zda t=true by unfold zda;rw[hq];rfl];rfl
 ·have hq:(!zid t||((zcN t).op==0))=false:=hq;conv=>whnf
  refine⟨fun h2=>?_,fun h2=>?_⟩
  ·have h2:decide ((zcN t).op≤16)=true:=h2;conv=>whnf
   refine⟨rfl,zae ?_⟩;rw[show zcw t=zbo 0 by unfold zcw;rw[hq,h2];rfl,show zda t=false by unfold zda;rw[hq,h2];rfl];rfl
  ·have h2:decide ((zcN t).op≤16)=false:=h2;conv=>whnf
   refine zao zaa (by kernel_rfl) 24 (by kernel_rfl) ?_;conv=>whnf
   have hi:=zla h;refine zam (zoe t hi.b) (fun _ h=>h) ?_;conv=>whnf
   refine zam (zoe t hi.c) (fun _ h=>h) ?_;conv=>whnf
   refine⟨⟨(by decide:(0:Int)≤6),(by decide:(6:Int)<8)⟩,?_⟩;conv=>whnf
   refine⟨⟨(by decide:(0:Int)≤5),(by decide:(5:Int)<8)⟩,?_⟩;conv=>whnf
   refine⟨rfl,zae ?_⟩;have hw:IntKind.u32.wrap (zcN t).n=(zcN t).n:=zcC (zbL (by have:=hi.n.1;simp only[zcB];omega) (fun _=>hi.n.1) (by have:=hi.n.2;simp only[zcB];omega));rw[show zcw t=⟨IntKind.u8.wrap ((zcN t).op - 16),IntKind.u32.wrap (zf6 t (zcN t).b),IntKind.u32.wrap (zf6 t (zcN t).c),IntKind.u32.wrap (t.regs 6),(zcN t).n,t.regs 5⟩ by unfold zcw;rw[hq,h2,hw];rfl,show zda t=true by unfold zda;rw[hq,h2];rfl];rfl
end Sx
namespace Sx
attribute [local irreducible] Con zax zan zau zai zaw zbt zak zaC zbh zba I64
theorem zgq(t:Tsk)(k:Nat)(v:Int):SV.d ((za0 t).set [2,k] (.z .u64 v))=.d (za0 ⟨t.code,t.next,zaq t.regs k v⟩):=by
 refine congrArg (fun f=>SV.d (.pr (.sl t.code.length zpI fun i=>zbi (t.code.getD i zh0)) (.pr (.z .i64 t.next) (.pr (.ar 8 .c f) .un)))) (funext fun j=>?_);show(if j=k then _ else _)=D.z .u64 (if j=k then v else t.regs j);by_cases h:j=k
 ·rw[if_pos h,if_pos h];rfl
 ·rw[if_neg h,if_neg h]
section
variable {t:Tsk} {r:Rs} {i:Ins} {z:D}
theorem zyR:Ok Tryz.prog Tryz.f197.ntmps false (zbR 7 (zbE Tryz.f197)) (zdx [(2,.pt 0 []),(3,.pt 1 []),(4,.pt 2 []),(5,.pt 3 [])] []) ⟨[.d (za0 t),.d (zaK r),.d ziV.zero.d,.d (zbi i),.d z],[],[]⟩ (zeJ tbl 0 0 0 Tryz.f197.results.toList fun o m=>(∃u,o=.ret u∧u.le (.d (za0 t)))∧m=⟨[],[],[]⟩):=by
 refine zab zaa ?_;conv=>whnf
 exact⟨rfl,zae rfl⟩
theorem zyQ(n0:0≤t.next)(n1:t.next≤65536):Ok Tryz.prog Tryz.f197.ntmps false (zbR 6 (zbE Tryz.f197)) (zdx [(2,.pt 0 []),(3,.pt 1 []),(4,.pt 2 []),(5,.pt 3 [])] []) ⟨[.d (za0 t),.d (zaK r),.d ziV.zero.d,.d (zbi i),.d z],[],[]⟩ (zeJ tbl 0 0 0 Tryz.f197.results.toList fun o m=>(∃u,o=.ret u∧u.le (.d (za0 ⟨t.code,t.next+1,t.regs⟩)))∧m=⟨[],[],[]⟩):=by
 refine zav (zab zaa ?_);conv=>whnf
 refine⟨zac (x:=t.next+1) (by omega) (by omega),?_⟩;conv=>whnf
 exact zaD (l:=[(2,.pt 0 []),(3,.pt 1 []),(4,.pt 2 []),(5,.pt 3 [])]) ⟨rfl,rfl,rfl,rfl,trivial⟩ rfl (zyR (t:=⟨t.code,t.next+1,t.regs⟩))
theorem zyP(n0:0≤t.next)(n1:t.next≤65536):Ok Tryz.prog Tryz.f197.ntmps false (zbR 5 (zbE Tryz.f197)) (zdx [(2,.pt 0 []),(3,.pt 1 []),(4,.pt 2 []),(5,.pt 3 [])] []) ⟨[.d (za0 t),.d (zaK r),.d ziV.zero.d,.d (zbi i),.d z],[],[]⟩ (zeJ tbl 0 0 0 Tryz.f197.results.toList fun o m=>(∃u,o=.ret u∧u.le (.d (za0 ⟨t.code,t.next+1,zaq t.regs 7 (IntKind.u64.wrap r.e)⟩)))∧m=⟨[],[],[]⟩):=by
 refine zav (zab zaa ?_);conv=>whnf
 refine⟨⟨(by decide:(0:Int)≤7),(by decide:(7:Int)<8)⟩,?_⟩;conv=>whnf
 refine⟨_,zgq t 7 (IntKind.u64.wrap r.e),?_⟩;conv=>whnf
 exact zaD (l:=[(2,.pt 0 []),(3,.pt 1 []),(4,.pt 2 []),(5,.pt 3 [])]) ⟨rfl,rfl,rfl,rfl,trivial⟩ rfl (zyQ (t:=⟨t.code,t.next,zaq t.regs 7 (IntKind.u64.wrap r.e)⟩) n0 n1)
theorem zyO(n0:0≤t.next)(n1:t.next≤65536):Ok Tryz.prog Tryz.f197.ntmps false (zbR 4 (zbE Tryz.f197)) (zdx [(2,.pt 0 []),(3,.pt 1 []),(4,.pt 2 []),(5,.pt 3 [])] []) ⟨[.d (za0 t),.d (zaK r),.d ziV.zero.d,.d (zbi i),.d z],[],[]⟩ (zeJ tbl 0 0 0 Tryz.f197.results.toList fun o m=>(∃u,o=.ret u∧u.le (.d (za0 ⟨t.code,t.next+1,zaq (zaq t.regs 4 r.w) 7 (IntKind.u64.wrap r.e)⟩)))∧m=⟨[],[],[]⟩):=by
 refine zav (zab zaa ?_);conv=>whnf
 refine⟨⟨(by decide:(0:Int)≤4),(by decide:(4:Int)<8)⟩,?_⟩;conv=>whnf
 refine⟨_,zgq t 4 r.w,?_⟩;conv=>whnf
 exact zaD (l:=[(2,.pt 0 []),(3,.pt 1 []),(4,.pt 2 []),(5,.pt 3 [])]) ⟨rfl,rfl,rfl,rfl,trivial⟩ rfl (zyP (t:=⟨t.code,t.next,zaq t.regs 4 r.w⟩) n0 n1)
theorem zyN(hi:0≤i.a∧i.a<256)(n0:0≤t.next)(n1:t.next≤65536):Ok Tryz.prog Tryz.f197.ntmps false (zbR 3 (zbE Tryz.f197)) (zdx [(2,.pt 0 []),(3,.pt 1 []),(4,.pt 2 []),(5,.pt 3 [])] []) ⟨[.d (za0 t),.d (zaK r),.d ziV.zero.d,.d (zbi i),.d z],[],[]⟩ (zeJ tbl 0 0 0 Tryz.f197.results.toList fun o m=>(∃u,o=.ret u∧u.le (.d (za0 ⟨t.code,t.next+1,zaq (zaq (zaq t.regs ((i.a.tmod 8).toNat) r.v) 4 r.w) 7 (IntKind.u64.wrap r.e)⟩)))∧m=⟨[],[],[]⟩):=by
 have h0:0≤i.a.tmod 8:=zHh _ hi.1;have h1:i.a.tmod 8<8:=zHi _ (by decide);refine zav (zab zaa ?_);conv=>whnf
 refine⟨⟨by decide,zbL (by simp only[zcB];omega) (fun _=>h0) (by simp only[zcB];omega)⟩,?_⟩;conv=>whnf
 refine⟨⟨h0,h1⟩,?_⟩;conv=>whnf
 refine⟨_,zgq t (i.a.tmod 8).toNat r.v,?_⟩;conv=>whnf
 exact zaD (l:=[(2,.pt 0 []),(3,.pt 1 []),(4,.pt 2 []),(5,.pt 3 [])]) ⟨rfl,rfl,rfl,rfl,trivial⟩ rfl (zyO (t:=⟨t.code,t.next,zaq t.regs ((i.a.tmod 8).toNat) r.v⟩) n0 n1)
end
theorem zw3{t:Tsk}(h:TskOk t)(r:Rs):zay Tryz.prog 197 [.d (za0 t),.d (zaK r)] (.d (za0 (zgp t r))):=by
 have hi:=zla h;refine zgU Tryz.func197 rfl (by kernel_rfl) rfl rfl rfl ?_;refine zav (zab zaa ?_);conv=>whnf
 refine zav (zab zaa ?_);conv=>whnf
 refine zad (znO h) ?_;conv=>whnf
 refine zaD (l:=[(2,.pt 0 []),(3,.pt 1 []),(4,.pt 2 []),(5,.pt 3 []),(6,B (zid t))]) (m':=⟨[.d (za0 t),.d (zaK r),.d ziV.zero.d,.d (zbi (zcN t))],[],[]⟩) ⟨rfl,rfl,rfl,rfl,rfl,trivial⟩ rfl ?_;refine zav (zav (zab zaa ?_));conv=>whnf
 refine zad (zni h) ?_;conv=>whnf
 refine zaD (l:=[(2,.pt 0 []),(3,.pt 1 []),(4,.pt 2 []),(5,.pt 3 []),(6,B (zid t)),(8,B (zda t))]) (m':=⟨[.d (za0 t),.d (zaK r),.d ziV.zero.d,.d (zbi (zcN t)),.d (zaW (zcw t))],[],[]⟩) ⟨rfl,rfl,rfl,rfl,rfl,rfl,trivial⟩ rfl ?_;refine zab zaa ?_;conv=>whnf
 refine⟨fun hq=>?_,fun hq=>?_⟩
 ·have hq:(!zid t||!zda t)=true:=hq;conv=>whnf
  refine⟨rfl,zae ?_⟩;rw[show zgp t r=t by unfold zgp;rw[hq];rfl];rfl
 ·have hq:(!zid t||!zda t)=false:=hq;rw[show zgp t r=⟨t.code,t.next+1,zaq (zaq (zaq t.regs ((zcN t).a.tmod 8).toNat r.v) 4 r.w) 7 (IntKind.u64.wrap r.e)⟩ by unfold zgp;rw[hq];rfl];conv=>whnf
  exact zaD (l:=[(2,.pt 0 []),(3,.pt 1 []),(4,.pt 2 []),(5,.pt 3 [])]) ⟨rfl,rfl,rfl,rfl,trivial⟩ rfl (zyN hi.a h.n0 h.n1)
end Sx
namespace Sx
abbrev zBO:SV:=.fn (.func 127) (.pr (.pt 3 []) (.pr (.pt 4 []) (.d .un)))
abbrev zBP:SV:=.fn (.func 128) (.pr (.pt 0 []) (.pr (.pt 3 []) (.pr (.pt 4 []) (.d .un))))
abbrev zBQ:SV:=.fn (.func 129) (.pr (.pt 0 []) (.pr (.pt 3 []) (.pr (.pt 4 []) (.d .un))))
abbrev zBR:SV:=.fn (.func 130) (.pr (.pt 0 []) (.pr (.pt 3 []) (.pr (.pt 4 []) (.d .un))))
abbrev zBS:SV:=.fn (.func 131) (.pr (.pt 3 []) (.pr (.pt 5 []) (.d .un)))
abbrev zBT:SV:=.fn (.func 132) (.pr (.pt 4 []) (.pr (.pt 3 []) (.pr (.pt 5 []) (.d .un))))
def ztH:List (Int×SV):=[(1,zBO),(2,zBP),(3,zBQ),(4,zBR),(5,zBS),(6,zBT)]
attribute [local irreducible] Con zax zan zau zai zaw zbt zak zaC zbh zba I64
def zqh(c:Code):Code:=match zbR 6 c with
 | .seq (.seq _ y) _=>y
 |c=>c
section
variable {t:Tsk} {i:Ins} {z:D} {n:Int}
theorem zhX:Ok Tryz.prog Tryz.f69.ntmps false (zbR 7 (zbE Tryz.f69)) (zdx [(1,.pt 0 []),(2,.pt 1 []),(8,.pt 5 [])] []) ⟨[.d (za0 t),.d ziV.zero.d,.d z,.d (zbi i),.pt 0 [2,(i.a.tmod 8).toNat],I n],[],[.map .u8 ztH]⟩ (zeJ tbl 0 0 0 Tryz.f69.results.toList fun o m=>(∃u,o=.ret u∧u.le (.d (za0 ⟨t.code,n,t.regs⟩)))∧m=⟨[],[],[]⟩):=by
 refine zav (zab zaa ?_);conv=>whnf
 refine zab zaa ?_;conv=>whnf
 exact⟨rfl,zae rfl⟩
theorem zyB(hi:InsOk i){tt:Tsk}(e:tt=⟨t.code,t.next+1,(⟨t.code,t.next,zaq t.regs ((i.a.tmod 8).toNat) (i.n)⟩:Tsk).regs⟩):Ok Tryz.prog Tryz.f69.ntmps false (zqh (zbE Tryz.f69)) (zdx [(1,.pt 0 []),(2,.pt 1 []),(5,.pt 3 []),(7,.pt 4 []),(8,.pt 5 []),(10,zBO),(11,B true)] []) ⟨[.d (za0 t),.d ziV.zero.d,.d z,.d (zbi i),.pt 0 [2,(i.a.tmod 8).toNat],I (t.next+1)],[],[.map .u8 ztH]⟩ (fun x fr m=>match x with| .nor=>Ok Tryz.prog Tryz.f69.ntmps false (zbR 7 (zbE Tryz.f69)) fr m (zeJ tbl 0 0 0 Tryz.f69.results.toList fun o m=>(∃u,o=.ret u∧u.le (.d (za0 tt)))∧m=⟨[],[],[]⟩)|x=>zeJ tbl 0 0 0 Tryz.f69.results.toList (fun o m=>(∃u,o=.ret u∧u.le (.d (za0 tt)))∧m=⟨[],[],[]⟩) x fr m):=by
 subst e;refine zab zaa ?_;conv=>whnf
 refine⟨fun _=>?_,(fun h=>by cases h)⟩;conv=>whnf
 refine zaM Tryz.func127 rfl (by kernel_rfl) rfl rfl ?_;conv=>whnf
 refine⟨_,zgq t ((i.a.tmod 8).toNat) i.n,?_⟩;conv=>whnf
 exact zaD (l:=[(1,.pt 0 []),(2,.pt 1 []),(8,.pt 5 [])]) ⟨rfl,rfl,rfl,trivial⟩ rfl (zhX (t:=⟨t.code,t.next,zaq t.regs ((i.a.tmod 8).toNat) (i.n)⟩) (n:=(t.next+1)))
theorem zyC(hi:InsOk i){tt:Tsk}(e:tt=⟨t.code,t.next+1,(⟨t.code,t.next,zaq t.regs ((i.a.tmod 8).toNat) (IntKind.u64.wrap (zf6 t i.b+zf6 t i.c))⟩:Tsk).regs⟩):Ok Tryz.prog Tryz.f69.ntmps false (zqh (zbE Tryz.f69)) (zdx [(1,.pt 0 []),(2,.pt 1 []),(5,.pt 3 []),(7,.pt 4 []),(8,.pt 5 []),(10,zBP),(11,B true)] []) ⟨[.d (za0 t),.d ziV.zero.d,.d z,.d (zbi i),.pt 0 [2,(i.a.tmod 8).toNat],I (t.next+1)],[],[.map .u8 ztH]⟩ (fun x fr m=>match x with| .nor=>Ok Tryz.prog Tryz.f69.ntmps false (zbR 7 (zbE Tryz.f69)) fr m (zeJ tbl 0 0 0 Tryz.f69.results.toList fun o m=>(∃u,o=.ret u∧u.le (.d (za0 tt)))∧m=⟨[],[],[]⟩)|x=>zeJ tbl 0 0 0 Tryz.f69.results.toList (fun o m=>(∃u,o=.ret u∧u.le (.d (za0 tt)))∧m=⟨[],[],[]⟩) x fr m):=by
 subst e;refine zab zaa ?_;conv=>whnf
 refine⟨fun _=>?_,(fun h=>by cases h)⟩;conv=>whnf
 refine zaM Tryz.func128 rfl (by kernel_rfl) rfl rfl ?_;conv=>whnf
 refine zao zaa (by kernel_rfl) 11 (by kernel_rfl) ?_;conv=>whnf
 refine zam (zoe t hi.b) (fun _ h=>h) ?_;conv=>whnf
 refine zam (zoe t hi.c) (fun _ h=>h) ?_;conv=>whnf
 refine⟨_,zgq t ((i.a.tmod 8).toNat) (IntKind.u64.wrap (zf6 t i.b+zf6 t i.c)),?_⟩;conv=>whnf
 exact zaD (l:=[(1,.pt 0 []),(2,.pt 1 []),(8,.pt 5 [])]) ⟨rfl,rfl,rfl,trivial⟩ rfl (zhX (t:=⟨t.code,t.next,zaq t.regs ((i.a.tmod 8).toNat) (IntKind.u64.wrap (zf6 t i.b+zf6 t i.c))⟩) (n:=(t.next+1)))
theorem zyD(hi:InsOk i){tt:Tsk}(e:tt=⟨t.code,t.next+1,(⟨t.code,t.next,zaq t.regs ((i.a.tmod 8).toNat) (IntKind.u64.wrap (zf6 t i.b - zf6 t i.c))⟩:Tsk).regs⟩):Ok Tryz.prog Tryz.f69.ntmps false (zqh (zbE Tryz.f69)) (zdx [(1,.pt 0 []),(2,.pt 1 []),(5,.pt 3 []),(7,.pt 4 []),(8,.pt 5 []),(10,zBQ),(11,B true)] []) ⟨[.d (za0 t),.d ziV.zero.d,.d z,.d (zbi i),.pt 0 [2,(i.a.tmod 8).toNat],I (t.next+1)],[],[.map .u8 ztH]⟩ (fun x fr m=>match x with| .nor=>Ok Tryz.prog Tryz.f69.ntmps false (zbR 7 (zbE Tryz.f69)) fr m (zeJ tbl 0 0 0 Tryz.f69.results.toList fun o m=>(∃u,o=.ret u∧u.le (.d (za0 tt)))∧m=⟨[],[],[]⟩)|x=>zeJ tbl 0 0 0 Tryz.f69.results.toList (fun o m=>(∃u,o=.ret u∧u.le (.d (za0 tt)))∧m=⟨[],[],[]⟩) x fr m):=by
 subst e;refine zab zaa ?_;conv=>whnf
 refine⟨fun _=>?_,(fun h=>by cases h)⟩;conv=>whnf
 refine zaM Tryz.func129 rfl (by kernel_rfl) rfl rfl ?_;conv=>whnf
 refine zao zaa (by kernel_rfl) 11 (by kernel_rfl) ?_;conv=>whnf
 refine zam (zoe t hi.b) (fun _ h=>h) ?_;conv=>whnf
 refine zam (zoe t hi.c) (fun _ h=>h) ?_;conv=>whnf
 refine⟨_,zgq t ((i.a.tmod 8).toNat) (IntKind.u64.wrap (zf6 t i.b - zf6 t i.c)),?_⟩;conv=>whnf
 exact zaD (l:=[(1,.pt 0 []),(2,.pt 1 []),(8,.pt 5 [])]) ⟨rfl,rfl,rfl,trivial⟩ rfl (zhX (t:=⟨t.code,t.next,zaq t.regs ((i.a.tmod 8).toNat) (IntKind.u64.wrap (zf6 t i.b - zf6 t i.c))⟩) (n:=(t.next+1)))
theorem zyE(hi:InsOk i){tt:Tsk}(e:tt=⟨t.code,t.next+1,(⟨t.code,t.next,zaq t.regs ((i.a.tmod 8).toNat) (zbh .u64 (zf6 t i.b) i.n)⟩:Tsk).regs⟩):Ok Tryz.prog Tryz.f69.ntmps false (zqh (zbE Tryz.f69)) (zdx [(1,.pt 0 []),(2,.pt 1 []),(5,.pt 3 []),(7,.pt 4 []),(8,.pt 5 []),(10,zBR),(11,B true)] []) ⟨[.d (za0 t),.d ziV.zero.d,.d z,.d (zbi i),.pt 0 [2,(i.a.tmod 8).toNat],I (t.next+1)],[],[.map .u8 ztH]⟩ (fun x fr m=>match x with| .nor=>Ok Tryz.prog Tryz.f69.ntmps false (zbR 7 (zbE Tryz.f69)) fr m (zeJ tbl 0 0 0 Tryz.f69.results.toList fun o m=>(∃u,o=.ret u∧u.le (.d (za0 tt)))∧m=⟨[],[],[]⟩)|x=>zeJ tbl 0 0 0 Tryz.f69.results.toList (fun o m=>(∃u,o=.ret u∧u.le (.d (za0 tt)))∧m=⟨[],[],[]⟩) x fr m):=by
 subst e;refine zab zaa ?_;conv=>whnf
 refine⟨fun _=>?_,(fun h=>by cases h)⟩;conv=>whnf
 refine zaM Tryz.func130 rfl (by kernel_rfl) rfl rfl ?_;conv=>whnf
 refine zao zaa (by kernel_rfl) 9 (by kernel_rfl) ?_;conv=>whnf
 refine zam (zoe t hi.b) (fun _ h=>h) ?_;conv=>whnf
 refine⟨_,zgq t ((i.a.tmod 8).toNat) (zbh .u64 (zf6 t i.b) i.n),?_⟩;conv=>whnf
 exact zaD (l:=[(1,.pt 0 []),(2,.pt 1 []),(8,.pt 5 [])]) ⟨rfl,rfl,rfl,trivial⟩ rfl (zhX (t:=⟨t.code,t.next,zaq t.regs ((i.a.tmod 8).toNat) (zbh .u64 (zf6 t i.b) i.n)⟩) (n:=(t.next+1)))
theorem zyF(hi:InsOk i){tt:Tsk}(e:tt=⟨t.code,i.n,(t:Tsk).regs⟩):Ok Tryz.prog Tryz.f69.ntmps false (zqh (zbE Tryz.f69)) (zdx [(1,.pt 0 []),(2,.pt 1 []),(5,.pt 3 []),(7,.pt 4 []),(8,.pt 5 []),(10,zBS),(11,B true)] []) ⟨[.d (za0 t),.d ziV.zero.d,.d z,.d (zbi i),.pt 0 [2,(i.a.tmod 8).toNat],I (t.next+1)],[],[.map .u8 ztH]⟩ (fun x fr m=>match x with| .nor=>Ok Tryz.prog Tryz.f69.ntmps false (zbR 7 (zbE Tryz.f69)) fr m (zeJ tbl 0 0 0 Tryz.f69.results.toList fun o m=>(∃u,o=.ret u∧u.le (.d (za0 tt)))∧m=⟨[],[],[]⟩)|x=>zeJ tbl 0 0 0 Tryz.f69.results.toList (fun o m=>(∃u,o=.ret u∧u.le (.d (za0 tt)))∧m=⟨[],[],[]⟩) x fr m):=by
 subst e;refine zab zaa ?_;conv=>whnf
 refine⟨fun _=>?_,(fun h=>by cases h)⟩;conv=>whnf
 refine zaM Tryz.func131 rfl (by kernel_rfl) rfl rfl ?_;conv=>whnf
 exact zaD (l:=[(1,.pt 0 []),(2,.pt 1 []),(8,.pt 5 [])]) ⟨rfl,rfl,rfl,trivial⟩ rfl (zhX (t:=t) (n:=i.n))
theorem zyG(hi:InsOk i){tt:Tsk}(e:tt=⟨t.code,bif (t.regs ((i.a.tmod 8).toNat)) != 0 then i.n else t.next+1,(t:Tsk).regs⟩):Ok Tryz.prog Tryz.f69.ntmps false (zqh (zbE Tryz.f69)) (zdx [(1,.pt 0 []),(2,.pt 1 []),(5,.pt 3 []),(7,.pt 4 []),(8,.pt 5 []),(10,zBT),(11,B true)] []) ⟨[.d (za0 t),.d ziV.zero.d,.d z,.d (zbi i),.pt 0 [2,(i.a.tmod 8).toNat],I (t.next+1)],[],[.map .u8 ztH]⟩ (fun x fr m=>match x with| .nor=>Ok Tryz.prog Tryz.f69.ntmps false (zbR 7 (zbE Tryz.f69)) fr m (zeJ tbl 0 0 0 Tryz.f69.results.toList fun o m=>(∃u,o=.ret u∧u.le (.d (za0 tt)))∧m=⟨[],[],[]⟩)|x=>zeJ tbl 0 0 0 Tryz.f69.results.toList (fun o m=>(∃u,o=.ret u∧u.le (.d (za0 tt)))∧m=⟨[],[],[]⟩) x fr m):=by
 subst e;refine zab zaa ?_;conv=>whnf
 refine⟨fun _=>?_,(fun h=>by cases h)⟩;conv=>whnf
 refine zaM Tryz.func132 rfl (by kernel_rfl) rfl rfl ?_;conv=>whnf
 refine⟨fun h7=>?_,fun h7=>?_⟩
 ·have h7:((t.regs ((i.a.tmod 8).toNat)) != 0)=true:=h7;conv=>whnf
  rw[show(bif (t.regs ((i.a.tmod 8).toNat)) != 0 then i.n else t.next+1)=i.n by rw[h7];rfl];exact zaD (l:=[(1,.pt 0 []),(2,.pt 1 []),(8,.pt 5 [])]) ⟨rfl,rfl,rfl,trivial⟩ rfl (zhX (t:=t) (n:=i.n))
 ·have h7:((t.regs ((i.a.tmod 8).toNat)) != 0)=false:=h7;conv=>whnf
  rw[show(bif (t.regs ((i.a.tmod 8).toNat)) != 0 then i.n else t.next+1)=t.next+1 by rw[h7];rfl];exact zaD (l:=[(1,.pt 0 []),(2,.pt 1 []),(8,.pt 5 [])]) ⟨rfl,rfl,rfl,trivial⟩ rfl (zhX (t:=t) (n:=(t.next+1)))
theorem zBa(hi:InsOk i)(hw:1≤i.op)(h16:i.op≤16){tt:Tsk}(e:tt=⟨t.code,bif (i.op==5)||((i.op==6)&&((t.regs ((i.a.tmod 8).toNat)) != 0))then i.n else t.next+1,bif i.op==1 then zaq t.regs ((i.a.tmod 8).toNat) i.n else bif i.op==2 then zaq t.regs ((i.a.tmod 8).toNat) (IntKind.u64.wrap (zf6 t i.b+zf6 t i.c))else bif i.op==3 then zaq t.regs ((i.a.tmod 8).toNat) (IntKind.u64.wrap (zf6 t i.b - zf6 t i.c))else bif i.op==4 then zaq t.regs ((i.a.tmod 8).toNat) (zbh .u64 (zf6 t i.b) i.n)else t.regs⟩):Ok Tryz.prog Tryz.f69.ntmps false (zbR 6 (zbE Tryz.f69)) (zdx [(1,.pt 0 []),(2,.pt 1 []),(5,.pt 3 []),(7,.pt 4 []),(8,.pt 5 []),(9,.ob (.mo 0))] []) ⟨[.d (za0 t),.d ziV.zero.d,.d z,.d (zbi i),.pt 0 [2,(i.a.tmod 8).toNat],I (t.next+1)],[],[.map .u8 ztH]⟩ (zeJ tbl 0 0 0 Tryz.f69.results.toList fun o m=>(∃u,o=.ret u∧u.le (.d (za0 tt)))∧m=⟨[],[],[]⟩):=by
 refine zav (zav (zab zaa ?_));conv=>whnf
 refine⟨fun h=>?_,fun h1=>?_⟩
 ·have h:i.op=1:=h;conv=>whnf
  exact zaD (l:=[(1,.pt 0 []),(2,.pt 1 []),(5,.pt 3 []),(7,.pt 4 []),(8,.pt 5 []),(10,zBO),(11,B true)]) ⟨rfl,rfl,rfl,rfl,rfl,rfl,rfl,trivial⟩ rfl (zyB hi (by rw[e,h];rfl))
 conv=>whnf
 refine⟨fun h=>?_,fun h2=>?_⟩
 ·have h:i.op=2:=h;conv=>whnf
  exact zaD (l:=[(1,.pt 0 []),(2,.pt 1 []),(5,.pt 3 []),(7,.pt 4 []),(8,.pt 5 []),(10,zBP),(11,B true)]) ⟨rfl,rfl,rfl,rfl,rfl,rfl,rfl,trivial⟩ rfl (zyC hi (by rw[e,h];rfl))
 conv=>whnf
 refine⟨fun h=>?_,fun h3=>?_⟩
 ·have h:i.op=3:=h;conv=>whnf
  exact zaD (l:=[(1,.pt 0 []),(2,.pt 1 []),(5,.pt 3 []),(7,.pt 4 []),(8,.pt 5 []),(10,zBQ),(11,B true)]) ⟨rfl,rfl,rfl,rfl,rfl,rfl,rfl,trivial⟩ rfl (zyD hi (by rw[e,h];rfl))
 conv=>whnf
 refine⟨fun h=>?_,fun h4=>?_⟩
 ·have h:i.op=4:=h;conv=>whnf
  exact zaD (l:=[(1,.pt 0 []),(2,.pt 1 []),(5,.pt 3 []),(7,.pt 4 []),(8,.pt 5 []),(10,zBR),(11,B true)]) ⟨rfl,rfl,rfl,rfl,rfl,rfl,rfl,trivial⟩ rfl (zyE hi (by rw[e,h];rfl))
 conv=>whnf
 refine⟨fun h=>?_,fun h5=>?_⟩
 ·have h:i.op=5:=h;conv=>whnf
  exact zaD (l:=[(1,.pt 0 []),(2,.pt 1 []),(5,.pt 3 []),(7,.pt 4 []),(8,.pt 5 []),(10,zBS),(11,B true)]) ⟨rfl,rfl,rfl,rfl,rfl,rfl,rfl,trivial⟩ rfl (zyF hi (by rw[e,h];rfl))
 conv=>whnf
 refine⟨fun h=>?_,fun h6=>?_⟩
 ·have h:i.op=6:=h;conv=>whnf
  exact zaD (l:=[(1,.pt 0 []),(2,.pt 1 []),(5,.pt 3 []),(7,.pt 4 []),(8,.pt 5 []),(10,zBT),(11,B true)]) ⟨rfl,rfl,rfl,rfl,rfl,rfl,rfl,trivial⟩ rfl (zyG hi (by rw[e,h];rfl))
 conv=>whnf
 refine zaD (l:=[(1,.pt 0 []),(2,.pt 1 []),(8,.pt 5 []),(11,.d (.bo false))]) (m':=⟨[.d (za0 t),.d ziV.zero.d,.d z,.d (zbi i),.pt 0 [2,(i.a.tmod 8).toNat],I (t.next+1)],[],[.map .u8 ztH]⟩) ⟨rfl,rfl,rfl,rfl,trivial⟩ rfl ?_;refine zab zaa ?_;conv=>whnf
 refine⟨(fun h=>by cases h),fun _=>?_⟩;conv=>whnf
 have e2:tt=⟨t.code,t.next+1,t.regs⟩:=by rw[e,show(i.op==1)=false from zHj h1,show(i.op==2)=false from zHj h2,show(i.op==3)=false from zHj h3,show(i.op==4)=false from zHj h4,show(i.op==5)=false from zHj h5,show(i.op==6)=false from zHj h6];rfl
 rw[e2];exact zaD (l:=[(1,.pt 0 []),(2,.pt 1 []),(8,.pt 5 [])]) ⟨rfl,rfl,rfl,trivial⟩ rfl (zhX (t:=t) (n:=(t.next+1)))
end
theorem zzE{t:Tsk}(h:TskOk t):zay Tryz.prog 69 [.d (za0 t)] (.d (za0 (zhG t))):=by
 have hi:=zla h;have n0:=h.n0;have n1:=h.n1;have h0:0≤(zcN t).a.tmod 8:=zHh _ hi.a.1;have h1:(zcN t).a.tmod 8<8:=zHi _ (by decide);refine zgU Tryz.func69 rfl (by kernel_rfl) rfl rfl rfl ?_;refine zav (zab zaa ?_);conv=>whnf
 refine zav (zav (zab zaa ?_));conv=>whnf
 refine zad (zni h) ?_;conv=>whnf
 refine zaD (l:=[(1,.pt 0 []),(2,.pt 1 []),(4,B (zda t))]) (m':=⟨[.d (za0 t),.d ziV.zero.d,.d (zaW (zcw t))],[],[]⟩) ⟨rfl,rfl,rfl,trivial⟩ rfl ?_;refine zab zaa ?_;conv=>whnf
 refine⟨fun hq=>?_,fun hq=>?_⟩
 ·have hq:zda t=true:=hq;conv=>whnf
  refine⟨rfl,zae ?_⟩;rw[show zhG t=t by unfold zhG;rw[hq];rfl];rfl
 ·have hq:zda t=false:=hq;have hop:1≤(zcN t).op∧(zcN t).op≤16:=by have:=hi.op.1;unfold zda at hq;simp only[zFM,zGy,zFN,zFS,Bool.not_eq_eq_eq_not]at hq;have h2:=hq.1.2;have h3:=hq.2;exact⟨by omega,by simpa using h3⟩
  conv=>whnf
  refine zaD (l:=[(1,.pt 0 []),(2,.pt 1 [])]) (m':=⟨[.d (za0 t),.d ziV.zero.d,.d (zaW (zcw t))],[],[]⟩) ⟨rfl,rfl,trivial⟩ rfl ?_;refine zav (zab zaa ?_);conv=>whnf
  refine zad (znO h) ?_;conv=>whnf
  refine zaD (l:=[(1,.pt 0 []),(2,.pt 1 []),(5,.pt 3 [])]) (m':=⟨[.d (za0 t),.d ziV.zero.d,.d (zaW (zcw t)),.d (zbi (zcN t))],[],[]⟩) ⟨rfl,rfl,rfl,trivial⟩ rfl ?_;refine zav (zab zaa ?_);conv=>whnf
  refine⟨⟨by decide,zbL (by simp only[zcB];omega) (fun _=>h0) (by simp only[zcB];omega)⟩,?_⟩;conv=>whnf
  refine⟨⟨h0,h1⟩,?_⟩;conv=>whnf
  refine zaD (l:=[(1,.pt 0 []),(2,.pt 1 []),(5,.pt 3 []),(7,.pt 4 [])]) (m':=⟨[.d (za0 t),.d ziV.zero.d,.d (zaW (zcw t)),.d (zbi (zcN t)),.pt 0 [2,((zcN t).a.tmod 8).toNat]],[],[]⟩) ⟨rfl,rfl,rfl,rfl,trivial⟩ rfl ?_;refine zav (zab zaa ?_);conv=>whnf
  refine⟨zac (x:=t.next+1) (by omega) (by omega),?_⟩;conv=>whnf
  refine zaD (l:=[(1,.pt 0 []),(2,.pt 1 []),(5,.pt 3 []),(7,.pt 4 []),(8,.pt 5 [])]) (m':=⟨[.d (za0 t),.d ziV.zero.d,.d (zaW (zcw t)),.d (zbi (zcN t)),.pt 0 [2,((zcN t).a.tmod 8).toNat],I (t.next+1)],[],[]⟩) ⟨rfl,rfl,rfl,rfl,rfl,trivial⟩ rfl ?_;refine zav (zab zaa ?_);refine zsW (ze4 [(9,[],some (.ob (.mo 0))),(39,[],some (.ob (.mo 0))),(38,[],some zBT),(37,[],some zBS),(36,[],some zBR),(35,[],some zBQ),(34,[],some zBP),(33,[],some zBO),(32,[],some (.ob (.mo 0)))] (zdx [(1,.pt 0 []),(2,.pt 1 []),(5,.pt 3 []),(7,.pt 4 []),(8,.pt 5 [])] [])) ⟨[.d (za0 t),.d ziV.zero.d,.d (zaW (zcw t)),.d (zbi (zcN t)),.pt 0 [2,((zcN t).a.tmod 8).toNat],I (t.next+1)],[],[.map .u8 ztH]⟩ (fun K0=>by kernel_rfl) ?_;exact zaD (l:=[(1,.pt 0 []),(2,.pt 1 []),(5,.pt 3 []),(7,.pt 4 []),(8,.pt 5 []),(9,.ob (.mo 0))]) ⟨rfl,rfl,rfl,rfl,rfl,rfl,trivial⟩ rfl (zBa (z:=zaW (zcw t)) hi hop.1 hop.2 (by unfold zhG;rw[hq];rfl))
end Sx
end Go.Proofs.YtfbhkfhbnkncoaaGreatDoor
