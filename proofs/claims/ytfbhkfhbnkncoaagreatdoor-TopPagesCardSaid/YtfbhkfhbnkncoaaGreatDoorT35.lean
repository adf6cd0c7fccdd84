import Derived.Test.YtfbhkfhbnkncoaaGreatDoorT34
set_option linter.all false
set_option maxRecDepth 100000
set_option maxHeartbeats 8000000
namespace Go.Proofs.YtfbhkfhbnkncoaaGreatDoor
open Go.RowKit
namespace Sx
theorem zq7{x y:Int}(h0:0≤x)(h1:x≤4611686018427387904):0≤zaC .andNot .i64 x y∧zaC .andNot .i64 x y≤x:=by
 unfold zaC;have h2:(BitVec.ofInt IntKind.i64.bits x&&& ~~~(BitVec.ofInt IntKind.i64.bits y)).toNat≤(BitVec.ofInt IntKind.i64.bits x).toNat:=by rw[zGb];exact Nat.and_le_left
 have h3:((BitVec.ofInt IntKind.i64.bits x).toNat:Int)=x:=by have e:(BitVec.ofInt IntKind.i64.bits x).toNat=(x %((2 ^ 64:Nat):Int)).toNat:=BitVec.toNat_ofInt ..;rw[e];omega
 have:=zcC (k:=.i64) (x:=((BitVec.ofInt IntKind.i64.bits x&&& ~~~(BitVec.ofInt IntKind.i64.bits y)).toNat:Int)) (zbL (by simp only[zcB];omega) (fun _=>by omega) (by simp only[zcB];omega));show 0≤IntKind.i64.wrap _∧IntKind.i64.wrap _≤x;rw[this];omega
theorem zCa{a:Int}(h:zBA a=true):1≤a∧a≤8:=by
 unfold zBA at h;have h1:zmu (fun i=>([1,2,4,8]:List Int).getD i 0) a 4≥0:=by simpa using h
 by_cases c:a=1∨a=2∨a=4∨a=8
 ·omega
 ·exfalso;have e:zmu (fun i=>([1,2,4,8]:List Int).getD i 0) a 4= -1:=by have c1:¬a=1:=fun h=>c (.inl h);have c2:¬a=2:=fun h=>c (.inr (.inl h));have c4:¬a=4:=fun h=>c (.inr (.inr (.inl h)));have c8:¬a=8:=fun h=>c (.inr (.inr (.inr h)));simp[zmu,zmv,c1,c2,c4,c8,zFN.2 c1,zFN.2 c2,zFN.2 c4,zFN.2 c8]
  omega
theorem zBn{len s a:Int}(ho:zjQ s a=true)(h0:0≤len)(h1:len≤1000000):0≤upA len a∧upA len a≤2000000:=by
 have h2:zBA a=true:=by unfold zjQ at ho;simp only[zFR]at ho;exact ho.2
 have h3:=zCa h2;have h4:=zq7 (x:=len+a - 1) (y:=a - 1) (by omega) (by omega);unfold upA;omega
theorem zwd{x b:Int}(hx:U32 x)(hb:0≤b):0≤zbs x b∧zbs x b≤b:=by
 have:=hx.1;unfold zbs;cases h:decide (b<x)with
 |true=>exact⟨hb,zFJ b⟩
 |false=>
  have:¬b<x:=by simpa using h
  show 0≤x∧x≤b;omega
theorem zll{s a:Int}(ho:zjQ s a=true):1≤zbm s a∧zbm s a≤4:=by
 have h2:1≤s∧s≤128:=by unfold zjQ at ho;simp only[zFR,zFS]at ho;exact ho.1
 have e:((s+32 - 1).tdiv 32)=(s+31) / 32:=by rw[Int.tdiv_eq_ediv_of_nonneg (by omega)];congr 1;omega
 unfold zbm;rw[ho,zHH,e,zcC (k:=.i64) (zbL (by simp only[zcB];omega) (fun _=>by omega) (by simp only[zcB];omega))];omega
theorem zuY(s a:Int):0≤zbm s a∧zbm s a≤4:=by
 cases ho:zjQ s a with
 |true=>have:=zll ho;omega
 |false=>unfold zbm;rw[ho];exact⟨zFJ 0,(by decide:(0:Int)≤4)⟩
theorem zsY{r:Rg}(h:RgI r):0≤r.len∧r.len≤zaS r.rs*32:=by have:=h.mx;unfold zmD at this;simp only[zFR,zFS]at this;exact this.2
def AX(n:Int)(a:Bool)(s:St)(task:Int)(c:Call)(run:Rn)(o:Out)(m:MS):Prop:=∃v' x',m=⟨[zaQ x' v'],[v'],[]⟩∧
 (a=false→match zdq s task c run with
  | .ok (s',r,b)=>o=.ret (.d (zaK r))∧x'.s=s'∧x'.back=b
  | .error e=>o=thr e)∧
 (a=true→match zh6 s task c with
  | .ok k=>(∃r:Rs,r.e=0∧o=.ret (.d (zaK r)))∧x'.needs=(bif k==0 then n else k)
  | .error e=>o=thr e∧x'.needs=n)
attribute [local irreducible] Con zax zan zau zai zaw zbt zak zaC zbh zba I64
section
variable {s:St} {task:Int} {c:Call} {run:Rn} {n:Int} {a:Bool} {v:Nat} {d:Int→Nat}
theorem zxa{x':Cl}{v:Nat}{r:Rs}(h1:a=false→zdq s task c run=.ok (x'.s,r,x'.back))(h2:a=true→∃k,zh6 s task c=.ok k∧x'.needs=(bif k==0 then n else k))(h0:r.e=0:=by rfl):AX n a s task c run (.ret (.d (zaK r))) ⟨[zaQ x' v],[v],[]⟩:=
 ⟨v,x',rfl,(fun h=>by rw[h1 h];exact⟨rfl,rfl,rfl⟩),fun h=>by
  obtain⟨k,hk,hn⟩:=h2 h;rw[hk];exact⟨⟨r,h0,rfl⟩,hn⟩⟩
theorem zno{x':Cl}{v:Nat}{e:Int}(h1:a=false→zdq s task c run=.error e)(h2:a=true→zh6 s task c=.error e∧x'.needs=n):AX n a s task c run (thr e) ⟨[zaQ x' v],[v],[]⟩:=
 ⟨v,x',rfl,(fun h=>by rw[h1 h]),fun h=>by
  obtain⟨hk,hn⟩:=h2 h;rw[hk];exact⟨rfl,hn⟩⟩
theorem zCV{x:Cl}{v:Nat}{h:Int}{r:Rg}(hr:zvJ r):Con Tryz.prog 322 [.pt 0 [],H h,.d (zdX r)] ⟨[zaQ x v],[v],[]⟩ fun o m=>∃C',m=⟨[C'],[v],[]⟩∧((zfx x.s.t h r=0∧o=.ret (.tu (.d .un))∧C'=zaQ (zdQ x (zdm x.s.t h r)) v)∨(zfx x.s.t h r≠0∧o=thr (zfx x.s.t h r)∧C'=zaQ x v)):=by
 refine za3 Tryz.func322 rfl (by kernel_rfl) rfl rfl ?_;conv=>whnf
 refine zaA zaa (by kernel_rfl) (List.range 15) [(12,4095),(13,2048)] (by kernel_rfl) ?_;conv=>whnf
 refine zam (zt2 x.s.t h r hr) (fun _ h=>h) ?_;conv=>whnf
 refine⟨(show _∧_ from⟨rfl,rfl⟩),zas ?_ ?_⟩;rotate_left
 ·repeat' (first|exact trivial|refine And.intro (show _∧_ from⟨rfl,rfl⟩) ?_)
 conv=>whnf
 refine zbO (zfx x.s.t h r) _ (fun he=>?_) (fun he=>?_)
 ·conv=>whnf
  exact⟨rfl,_,rfl,.inl ⟨he,rfl,rfl⟩⟩
 ·conv=>whnf
  exact⟨rfl,_,rfl,.inr ⟨he,rfl,rfl⟩⟩
theorem zvR{x:Cl}{v:Nat}{h:Int}{r:Rg}(hr:zvJ r){c2:List SV}{t2:List Nat}{o2:List Ob}{K:Out→MS→Prop}(h1:zfx x.s.t h r=0→K (.ret (.tu (.d .un))) ⟨zaQ (zdQ x (zdm x.s.t h r)) v::c2,v::t2,o2⟩)(h2:zfx x.s.t h r≠0→K (thr (zfx x.s.t h r)) ⟨zaQ x v::c2,v::t2,o2⟩):Con Tryz.prog 322 [.pt 0 [],H h,.d (zdX r)] ⟨zaQ x v::c2,v::t2,o2⟩ K:=
 zpW (zCV (x:=x) (v:=v) hr) rfl (zka x v) (fun o m ⟨C',hm,_⟩=>⟨C',v,hm⟩) fun o C' v' ⟨C2,hm,hk⟩=>by
  have e1:=congrArg MS.c hm;have e2:=congrArg MS.t hm;simp only[zFD,zFE]at e1 e2;subst e1 e2;rcases hk with⟨a1,rfl,rfl⟩|⟨a1,rfl,rfl⟩
  ·exact h1 a1
  ·exact h2 a1
theorem zFk{r:Rg}:zlO s c r=thn (zfx s.t c.r {r with len:=zoc r.rs r.len (zbs c.a 129) (zbs c.b 9)}) (.ok ({s with t:=zdm s.t c.r {r with len:=zoc r.rs r.len (zbs c.a 129) (zbs c.b 9)}},⟨0,IntKind.u64.wrap (zrK r.rs r.len (zbs c.a 129) (zbs c.b 9)),0⟩,[])):=rfl
theorem zDV:zdq s task c run=thn (no (zjQ (zbs c.a 129) (zbs c.b 9)) 2) (thn (zf4 s task c.r 1) (thn (no (zah s.t.b c.r) 4) (bif zjD (zaj s.t c.r).rs (zaj s.t c.r).len (zbs c.a 129) (zbs c.b 9)then zlO s c (zaj s.t c.r)
 else thn (no (decide (zaS (zaj s.t c.r).rs+zbm (zbs c.a 129) (zbs c.b 9)≤(zaj s.t c.r).quota)) 6) (thn (no ((run.n==zbm (zbs c.a 129) (zbs c.b 9))&&zmD (zcV (zaj s.t c.r) run).rs (zcV (zaj s.t c.r) run).len) 2) (zlO s c (zcV (zaj s.t c.r) run)))))):=rfl
theorem zDW:zh6 s task c=thn (no (zjQ (zbs c.a 129) (zbs c.b 9)) 2) (thn (zf4 s task c.r 1) (thn (no (zah s.t.b c.r) 4) (bif zjD (zaj s.t c.r).rs (zaj s.t c.r).len (zbs c.a 129) (zbs c.b 9)then(match zlO s c (zaj s.t c.r)with
  | .ok _=>.ok (0:Int)
  | .error e=>.error e)
 else thn (no (decide (zaS (zaj s.t c.r).rs+zbm (zbs c.a 129) (zbs c.b 9)≤(zaj s.t c.r).quota)) 6) (.ok (zbm (zbs c.a 129) (zbs c.b 9)))))):=rfl
theorem zb3{P:Program}{tb:TT}{N:Nat}{ir:Bool}{a b:Code}{fr:List Ent}{m:MS}{K:X→List Ent→MS→Prop}(h:∀K0:X→List Ent→MS→Prop,(∀fr' m',sxC P tb N ir b fr' m' K→K0 .nor fr' m')→(∀x fr' m',(match x with
  | .nor=>False
  |_=>True)→K x fr' m'→K0 x fr' m')→sxC P tb N ir a fr m K0):sxC P tb N ir (.seq a b) fr m K:=
 h (fun x fr' m'=>match x with
  | .nor=>sxC P tb N ir b fr' m' K
  |x=>K x fr' m') (fun _ _ h=>h) fun x fr m hx h=>by cases x<;>first|exact h|exact hx.elim
theorem zkO{f:FuncId}{a a':List SV}{m:MS}{K:Out→MS→Prop}(h:a=a')(hc:Con Tryz.prog f a' m K):Con Tryz.prog f a m K:=h▸hc
theorem zw7(hs:StOk s d)(hc:CallOk s task c)(hr:zbd run∨run.n=0):Con Tryz.prog 292 [.pt 0 []] ⟨[zaQ (cl0 s task c run n a) v],[v],[]⟩ (AX n a s task c run):=by
 have hsz:=zwd hc.a (b:=129) (by decide);have hal:=zwd hc.b (b:=9) (by decide);have hR:=zc1 hs.t c.r;have hRl:=zsY hR;have hRn:=zdu hR.ok;have hRp:=hR.pg;have hRq:=hR.q1;refine za3 Tryz.func292 rfl (by kernel_rfl) rfl rfl ?_;refine zb3 fun K0 hn0 hp0=>?_;conv=>whnf
 refine hn0 _ _ ?_;refine zb3 fun K1 hn1 hp1=>?_;conv=>whnf
 refine zao zaa (by kernel_rfl) 16 (by kernel_rfl) ?_;conv=>whnf
 refine⟨⟨zfo hc.a,rfl⟩,?_⟩;conv=>whnf
 refine⟨⟨zfo hc.b,rfl⟩,?_⟩;conv=>whnf
 refine hn1 _ _ ?_;refine zb3 fun K2 hn2 hp2=>?_;conv=>whnf
 generalize esz:(bif decide (129<(cl0 s task c run n a).c.a)then(129:Int)else(cl0 s task c run n a).c.a)=sz;generalize eal:(bif decide (9<(cl0 s task c run n a).c.b)then(9:Int)else(cl0 s task c run n a).c.b)=al;have esz:sz=zbs c.a 129:=esz.symm;have eal:al=zbs c.b 9:=eal.symm;rw[←esz]at hsz;rw[←eal]at hal;have hA:=zDV (s:=s) (task:=task) (c:=c) (run:=run);have hK:=zDW (s:=s) (task:=task) (c:=c);have hP:=fun r=>zFk (s:=s) (c:=c) (r:=r);rw[←esz,←eal]at hA hK;simp only[←esz,←eal]at hP;refine zad (zwX sz al) ?_;conv=>whnf
 refine hn2 _ _ ?_;refine zb3 fun K3 hn3 hp3=>?_;conv=>whnf
 refine zcG (zjQ sz al) 2 _ (fun h1=>?_) (fun h1=>?_)
 ·have e1:no (zjQ sz al) 2=0:=by rw[h1];rfl
  have hne:=zll h1;have hup:=zBn h1 hRl.1 (by omega);rw[zap e1]at hA hK;conv=>whnf
  refine hn3 _ _ ?_;refine zb3 fun K4 hn4 hp4=>?_;conv=>whnf
  refine zea (x:=cl0 s task c run n a) hs hc.t0 hc.r 1 (.inr (.inl rfl)) (fun h2=>?_) (fun h2=>?_)
  ·rw[zap h2]at hA hK;conv=>whnf
   refine hn4 _ _ ?_;refine zb3 fun K5 hn5 hp5=>?_;conv=>whnf
   refine zkR (x:=cl0 s task c run n a) (fun h3=>?_) (fun h3=>?_)
   ·have e3:no (zah s.t.b c.r) 4=0:=by rw[h3];rfl
    rw[zap e3]at hA hK;conv=>whnf
    refine hn5 _ _ ?_;refine zb3 fun K6 hn6 hp6=>?_;conv=>whnf
    refine zad (zvB (len:=(zaj s.t c.r).len) (s:=sz) (a:=al) hR.ok (by omega) (by omega) (by omega) (by omega) hup) ?_;conv=>whnf
    refine⟨fun h4=>?_,fun h4=>?_⟩
    ·have h4:zjD (zaj s.t c.r).rs (zaj s.t c.r).len sz al=false:=by rw[zGC]at h4;exact h4
     rw[h4,zHJ]at hA hK;refine zb3 fun Ka hna hpa=>?_;conv=>whnf
     refine zao zaa (by kernel_rfl) 8 (by kernel_rfl) ?_;conv=>whnf
     refine zam (znh hR.ok (by omega) (zaj s.t c.r).len) (fun _ h=>h) ?_;conv=>whnf
     refine⟨zac (x:=zaS (zaj s.t c.r).rs+zbm sz al) (by omega) (by omega),?_⟩;conv=>whnf
     refine zcG (decide (zaS (zaj s.t c.r).rs+zbm sz al≤(zaj s.t c.r).quota)) 6 _ (fun h5=>?_) (fun h5=>?_)
     ·have e5:no (decide (zaS (zaj s.t c.r).rs+zbm sz al≤(zaj s.t c.r).quota)) 6=0:=by rw[h5];rfl
      have h5:zaS (zaj s.t c.r).rs+zbm sz al≤(zaj s.t c.r).quota:=by simpa using h5
      rw[zap e5]at hA hK;conv=>whnf
      refine hna _ _ ?_;refine zb3 fun Kb hnb hpb=>?_;conv=>whnf
      refine hnb _ _ ?_;refine zb3 fun Kc hnc hpc=>?_;conv=>whnf
      refine⟨fun h6=>?_,fun h6=>?_⟩
      ·have h6:a=true:=h6;have hk0:(zbm sz al==0)=false:=by
        have:¬zbm sz al=0:=by omega
        simpa using this
       refine zb3 fun Ke hne hpe=>?_;conv=>whnf
       refine hne _ _ ?_;conv=>whnf
       refine hpc _ _ _ trivial ?_;refine hp6 _ _ _ trivial ?_;conv=>whnf
       exact⟨rfl,zxa (x':=cl0 s task c run (zbm sz al) a) (r:=⟨0,0,0⟩) (fun h=>by rw[h6]at h;cases h) (fun _=>⟨zbm sz al,hK,by rw[hk0];rfl⟩)⟩
      ·have h6:a=false:=h6;conv=>whnf
       refine hnc _ _ ?_;refine zb3 fun Kd hnd hpd=>?_;conv=>whnf
       refine zao zaa (by kernel_rfl) 8 (by kernel_rfl) ?_;conv=>whnf
       refine zam (zzu hR.ok (by omega) (zaj s.t c.r).len run) (fun _ h=>h) ?_;conv=>whnf
       refine hnd _ _ ?_;conv=>whnf
       have hgn:((zaj s.t c.r).rs++[run]).length≤1000:=by rw[zFY,zIk];omega
       have hgi:∀y∈(zaj s.t c.r).rs++[run],I64 y.n:=fun y hy=>by
        rcases zF2.1 hy with h|h
        ·have:=hR.ok y h;unfold zbd at this;exact zac (by omega) (by omega)
        ·rw[zHW.1 h];unfold zbd at hr;exact zac (by omega) (by omega)
       have hup2:=zBn h1 (len:=zaS (zaj s.t c.r).rs*32) (by omega) (by omega);refine zam (zzy hgi hgn (zaS (zaj s.t c.r).rs*32)) (fun _ h _=>h) ?_;conv=>whnf
       refine zcG ((run.n==zbm sz al)&&zmD (zcV (zaj s.t c.r) run).rs (zcV (zaj s.t c.r) run).len) 2 _ (fun h7=>?_) (fun h7=>?_)
       ·have e7:no ((run.n==zbm sz al)&&zmD (zcV (zaj s.t c.r) run).rs (zcV (zaj s.t c.r) run).len) 2=0:=by rw[h7];rfl
        have hgr:∀y∈(zaj s.t c.r).rs++[run],zbd y:=fun y hy=>by
         rcases zF2.1 hy with h|h
         ·exact hR.ok y h
         ·rw[zHW.1 h];have h8:run.n=zbm sz al:=by rw[zFR]at h7;simpa using h7.1
          rcases hr with h9|h9
          ·exact h9
          ·omega
        rw[zap e7,hP]at hA;conv=>whnf
        refine hn6 _ _ ?_;refine zb3 fun K9 hn9 hp9=>?_;conv=>whnf
        refine zad (zvx (len:=(zcV (zaj s.t c.r) run).len) (s:=sz) (a:=al) hgr hgn (by show 0≤zaS (zaj s.t c.r).rs*32∧zaS (zaj s.t c.r).rs*32≤1000000;omega) (by omega) (by omega) hup2) ?_;conv=>whnf
        refine hn9 _ _ ?_;refine zb3 fun K10 hn10 hp10=>?_;conv=>whnf
        refine hn10 _ _ ?_;refine zb3 fun K11 hn11 hp11=>?_;conv=>whnf
        refine zao zaa (by kernel_rfl) 7 (by kernel_rfl) ?_;conv=>whnf
        refine zvR (x:=cl0 s task c run (zbm sz al) a) (h:=c.r) (r:={(zcV (zaj s.t c.r) run)with len:=zoc (zcV (zaj s.t c.r) run).rs (zcV (zaj s.t c.r) run).len sz al}) ⟨hgi,hgn⟩ (fun h9=>?_) (fun h9=>?_)
        ·have h9:zfx s.t c.r {(zcV (zaj s.t c.r) run)with len:=zoc (zcV (zaj s.t c.r) run).rs (zcV (zaj s.t c.r) run).len sz al}=0:=h9;rw[zap h9]at hA;conv=>whnf
         refine hn11 _ _ ?_;refine zb3 fun K12 hn12 hp12=>?_;conv=>whnf
         refine hn12 _ _ ?_;conv=>whnf
         exact⟨rfl,zxa (x':=zdQ (cl0 s task c run (zbm sz al) a) (zdm s.t c.r {(zcV (zaj s.t c.r) run)with len:=zoc (zcV (zaj s.t c.r) run).rs (zcV (zaj s.t c.r) run).len sz al})) (r:=⟨0,IntKind.u64.wrap (zrK (zcV (zaj s.t c.r) run).rs (zcV (zaj s.t c.r) run).len sz al),0⟩) (fun _=>hA) (fun _=>(by rename_i h;rw[h6]at h;cases h))⟩
        ·have h9:zfx s.t c.r {(zcV (zaj s.t c.r) run)with len:=zoc (zcV (zaj s.t c.r) run).rs (zcV (zaj s.t c.r) run).len sz al}≠0:=h9;conv=>whnf
         refine hp11 _ _ _ trivial ?_;conv=>whnf
         exact⟨rfl,zno (x':=cl0 s task c run (zbm sz al) a) (fun _=>hA.trans (zaP h9)) (fun _=>(by rename_i h;rw[h6]at h;cases h))⟩
       ·conv=>whnf
        refine hp6 _ _ _ trivial ?_;conv=>whnf
        exact⟨rfl,zno (x':=cl0 s task c run (zbm sz al) a) (fun _=>hA.trans (by rw[h7];rfl)) (fun h=>by rw[h6]at h;cases h)⟩
     ·conv=>whnf
      refine hpa _ _ _ trivial ?_;refine hp6 _ _ _ trivial ?_;conv=>whnf
      exact⟨rfl,zno (x':=cl0 s task c run n a) (fun _=>hA.trans (by rw[h5];rfl)) (fun _=>⟨hK.trans (by rw[h5];rfl),rfl⟩)⟩
    ·have h4:zjD (zaj s.t c.r).rs (zaj s.t c.r).len sz al=true:=by rw[zGy]at h4;exact h4
     rw[h4,zHH,hP]at hA hK;conv=>whnf
     refine hn6 _ _ ?_;refine zb3 fun K9 hn9 hp9=>?_;conv=>whnf
     refine zad (zvx (len:=(zaj s.t c.r).len) (s:=sz) (a:=al) hR.ok (by omega) (by omega) (by omega) (by omega) hup) ?_;conv=>whnf
     refine hn9 _ _ ?_;refine zb3 fun K10 hn10 hp10=>?_;conv=>whnf
     refine hn10 _ _ ?_;refine zb3 fun K11 hn11 hp11=>?_;conv=>whnf
     refine zao zaa (by kernel_rfl) 7 (by kernel_rfl) ?_;conv=>whnf
     refine zvR (x:=cl0 s task c run n a) (h:=c.r) (r:={(zaj s.t c.r)with len:=zoc (zaj s.t c.r).rs (zaj s.t c.r).len sz al}) hR.ok' (fun h9=>?_) (fun h9=>?_)
     ·have h9:zfx s.t c.r {(zaj s.t c.r)with len:=zoc (zaj s.t c.r).rs (zaj s.t c.r).len sz al}=0:=h9;rw[zap h9]at hA hK;conv=>whnf
      refine hn11 _ _ ?_;refine zb3 fun K12 hn12 hp12=>?_;conv=>whnf
      refine hn12 _ _ ?_;conv=>whnf
      exact⟨rfl,zxa (x':=zdQ (cl0 s task c run n a) (zdm s.t c.r {(zaj s.t c.r)with len:=zoc (zaj s.t c.r).rs (zaj s.t c.r).len sz al})) (r:=⟨0,IntKind.u64.wrap (zrK (zaj s.t c.r).rs (zaj s.t c.r).len sz al),0⟩) (fun _=>hA) (fun _=>⟨0,hK,rfl⟩)⟩
     ·have h9:zfx s.t c.r {(zaj s.t c.r)with len:=zoc (zaj s.t c.r).rs (zaj s.t c.r).len sz al}≠0:=h9;conv=>whnf
      refine hp11 _ _ _ trivial ?_;conv=>whnf
      exact⟨rfl,zno (x':=cl0 s task c run n a) (fun _=>hA.trans (zaP h9)) (fun _=>⟨by rw[hK,zaP h9],rfl⟩)⟩
   ·conv=>whnf
    refine hp5 _ _ _ trivial ?_;conv=>whnf
    exact⟨rfl,zno (x':=cl0 s task c run n a) (fun _=>hA.trans (by rw[h3];rfl)) (fun _=>⟨hK.trans (by rw[h3];rfl),rfl⟩)⟩
  ·conv=>whnf
   refine hp4 _ _ _ trivial ?_;conv=>whnf
   exact⟨rfl,zno (x':=cl0 s task c run n a) (fun _=>hA.trans (zaP h2)) (fun _=>⟨hK.trans (zaP h2),rfl⟩)⟩
 ·conv=>whnf
  refine hp3 _ _ _ trivial ?_;conv=>whnf
  exact⟨rfl,zno (x':=cl0 s task c run n a) (fun _=>hA.trans (by rw[h1];rfl)) (fun _=>⟨hK.trans (by rw[h1];rfl),rfl⟩)⟩
end
end Sx
namespace Sx
variable {r:Option Nat} {nn:Nat}
variable {P:Program} {tb:TT}
def zf9:List Oper→Nat→Nat→List Oper
 |[],_,_=>[]
 |o::l,0,x=>{o with after:=o.after.push ⟨x,.phase⟩}::l
 |o::l,y+1,x=>o::zf9 l y x
theorem zh5:∀(l:List Oper) (y x:Nat),(zf9 l y x).length=l.length
 |[],_,_=>rfl
 |o::l,0,x=>rfl
 |o::l,y+1,x=>by rw[zf9,zFI,zh5 l y x,zFI]
theorem zfC:∀(l:List Oper) (y x i:Nat),i≠y→(zf9 l y x)[i]?=l[i]?
 |[],_,_,_,_=>rfl
 |o::l,0,x,0,h=>absurd rfl h
 |o::l,0,x,i+1,_=>rfl
 |o::l,y+1,x,0,_=>rfl
 |o::l,y+1,x,i+1,h=>by rw[zf9,zIi,zIi];exact zfC l y x i (fun e=>h (by rw[e]))
theorem zgx:∀(l:List Oper) (y x:Nat),(zf9 l y x)[y]?=(l[y]?).map fun o=>{o with after:=o.after.push ⟨x,.phase⟩}
 |[],_,_=>rfl
 |o::l,0,x=>rfl
 |o::l,y+1,x=>by rw[zf9,zIi,zIi];exact zgx l y x
theorem zhL:∀(l:List Oper) (y x:Nat),zcx (zf9 l y x)=zcx l
 |[],_,_=>rfl
 |o::l,0,x=>rfl
 |o::l,y+1,x=>by unfold zf9;unfold zcx;rw[zhL l y x]
def Alk(o o':Oper):Prop:=o'.dst=o.dst∧o'.op=o.op∧o'.type=o.type∧o'.pos=o.pos∧o'.guard=o.guard
theorem zt4(l:List Oper)(y x i:Nat):(l[i]?=none∧(zf9 l y x)[i]?=none)∨∃o o',l[i]?=some o∧(zf9 l y x)[i]?=some o'∧Alk o o':=by
 by_cases h:i=y
 ·subst h;rw[zgx];cases hl:l[i]? with
  |none=>exact .inl ⟨rfl,rfl⟩
  |some o=>exact .inr ⟨o,_,rfl,rfl,rfl,rfl,rfl,rfl,rfl⟩
 ·rw[zfC l y x i h];cases hl:l[i]? with
  |none=>exact .inl ⟨rfl,rfl⟩
  |some o=>exact .inr ⟨o,o,rfl,rfl,rfl,rfl,rfl,rfl,rfl⟩
def Lin(ops:Array Oper):Nat→Array Bool→List Nat→Prop
 |0,_,l=>l=[]
 |f+1,ls,l=>match l with
  |[]=>Region.ready .any ops ls=[]
  |i::l'=>i∈Region.ready .any ops ls∧Lin ops f (ls.setIfInBounds i true) l'
theorem zsj(ops:Array Oper):∀(f t:Nat) (ls:Array Bool),Lin ops f ls (Region.linearise.go .any ops f t ls [])
 |0,_,_=>rfl
 |f+1,t,ls=>by
  simp only[Region.linearise.go]
  change Lin ops (f+1) ls (match(Region.ready .any ops ls)[t %(Region.ready .any ops ls).length]? with
   |some i=>Region.linearise.go .any ops f (t /(Region.ready .any ops ls).length) (ls.setIfInBounds i true) [i]
   |none=>[].reverse)
  cases hi:(Region.ready .any ops ls)[t %(Region.ready .any ops ls).length]? with
  |none=>
   show Region.ready .any ops ls=[];cases hr:Region.ready .any ops ls with
   |nil=>rfl
   |cons a l=>
    rw[hr]at hi;have:=List.getElem?_eq_none_iff.1 hi;have h2:=Nat.mod_lt t (show 0<(a::l).length by simp);omega
  |some i=>
   simp only;rw[linearise_go_acc];exact⟨zGz hi,zsj ops f _ _⟩
def zqG(y x:Nat):Array Bool→List Nat→Prop
 |_,[]=>True
 |ls,i::l=>(i=y→ls.getD x false=true)∧zqG y x (ls.setIfInBounds i true) l
theorem zkB:∀{l:List Nat} {ls:Array Bool} {y x:Nat},ls.getD x false=true→zqG y x ls l
 |[],_,_,_,_=>trivial
 |i::l,ls,y,x,h=>⟨fun _=>h,zkB (by
  simp only[zGe,zIl]at h ⊢;split
  ·rename_i e;split
   ·rfl
   ·rename_i e2;subst e;rw[zIm (by omega)]at h;cases h
  ·exact h)⟩
theorem zpy{ops:Array Oper}{ls:Array Bool}{i:Nat}(h:i∈Region.ready .any ops ls):i<ops.size∧ls.getD i true=false:=by unfold Region.ready at h;rw[zGH]at h;simp only[zFR,zGC]at h;exact⟨zF1.1 h.1,h.2.1⟩
theorem zwv{ls:Array Bool}{i:Nat}(h:ls.getD i true=false):(ls.setIfInBounds i true).getD i false=true:=by
 have hl:i<ls.size:=by
  rcases zGc i ls.size with h2|h2
  ·exact h2
  ·rw[zGe,zIm h2]at h;cases h
 simp[zGe,zIl,hl]
theorem zrH{ops:Array Oper}(x y:Nat)(hxy:x≠y):∀{f:Nat} {ls:Array Bool} {l:List Nat},Lin ops f ls l→zqG y x ls l∨zqG x y ls l
 |0,ls,l,h=>by have:l=[]:=h;subst this;exact .inl trivial
 |f+1,ls,[],_=>.inl trivial
 |f+1,ls,i::l,h=>by
  by_cases h1:i=x
  ·subst h1;exact .inl ⟨fun e=>absurd e hxy,zkB (zwv (zpy h.1).2)⟩
  ·by_cases h2:i=y
   ·subst h2;exact .inr ⟨fun e=>absurd e.symm hxy,zkB (zwv (zpy h.1).2)⟩
   ·rcases zrH x y hxy h.2 with h3|h3
    ·exact .inl ⟨fun e=>absurd e h2,h3⟩
    ·exact .inr ⟨fun e=>absurd e h1,h3⟩
theorem zmQ{ops ops1:Array Oper}{y x:Nat}(he:ops1.toList=zf9 ops.toList y x)(ls:Array Bool)(i:Nat):i∈Region.ready .any ops1 ls↔i∈Region.ready .any ops ls∧(i=y→ls.getD x false=true):=by
 have hsz:ops1.size=ops.size:=by have:=congrArg List.length he;rw[zh5]at this;simpa using this
 have hget:∀j,ops1[j]?=(zf9 ops.toList y x)[j]?:=fun j=>by rw[←he,zGo]
 unfold Region.ready;rw[zGH,zGH,hsz,hget];by_cases h:i=y
 ·subst h;rw[zgx,zGo];cases ho:ops[i]? with
  |none=>simp
  |some o=>
   simp[Region.binds];constructor
   ·rintro⟨a1,a2,a3,a4⟩;exact⟨⟨a1,a2,a3⟩,a4⟩
   ·rintro⟨⟨a1,a2,a3⟩,a4⟩;exact⟨a1,a2,a3,a4⟩
 ·rw[zfC _ _ _ _ h,zGo];simp[h]
theorem ziZ{ops ops1:Array Oper}{y x:Nat}(he:ops1.toList=zf9 ops.toList y x):∀{f:Nat} {ls:Array Bool} {l:List Nat},Lin ops f ls l→zqG y x ls l→Lin ops1 f ls l
 |0,_,_,h,_=>h
 |f+1,ls,[],h,_=>by have h:Region.ready .any ops ls=[]:=h;show Region.ready .any ops1 ls=[];refine List.eq_nil_iff_forall_not_mem.2 fun i hi=>?_;have:=((zmQ he ls i).1 hi).1;rw[h]at this;cases this
 |f+1,ls,i::l,h,ha=>⟨(zmQ he ls i).2 ⟨h.1,ha.1⟩,ziZ he h.2 ha.2⟩
theorem zkE{F:Fence}{n:Nat}{ops:Array Oper}{Q:Exit→Act→World→Prop}:∀{f:Nat} {ls:Array Bool} {l:List Nat} {a:Act} {w:World},wpAnyIn F n P .any ops Q f ls a w→Lin ops f ls l→wpOpsIn F n P ops Q l a w
 |0,ls,l,a,w,h,hl=>by have:l=[]:=hl;subst this;exact h.2
 |f+1,ls,[],a,w,h,hl=>h.1 hl
 |f+1,ls,i::l,a,w,h,hl=>by rw[wpOpsIn_cons];exact wpOpIn_mono (fun a w hh=>zkE hh hl.2) (h.2 i hl.1)
end Sx
namespace Sx
variable {P:Program} {tb:TT}
theorem zos{ops ops1:Array Oper}{y x:Nat}(he:ops1.toList=zf9 ops.toList y x)(tm:Array Value):yielded ops1 tm=yielded ops tm:=by
 funext j
 have h1:ops1[j]?=(zf9 ops.toList y x)[j]?:=by rw[←he,zGo]
 have h2:ops[j]?=ops.toList[j]?:=by rw[zGo]
 unfold yielded;rw[h1,h2];rcases zt4 ops.toList y x j with⟨a1,a2⟩|⟨o,o',a1,a2,a3⟩
 ·rw[a1,a2]
 ·rw[a1,a2];simp only[zGp,a3.1]
theorem zu1{F:Fence}{n:Nat}{ops ops1:Array Oper}{Q:Exit→Act→World→Prop}{y x:Nat}(he:ops1.toList=zf9 ops.toList y x){i:Nat}{K:Act→World→Prop}{a:Act}{w:World}(h:wpOpIn F n P ops1 Q i K a w):wpOpIn F n P ops Q i K a w:=by
 have h1:ops1[i]?=(zf9 ops.toList y x)[i]?:=by rw[←he,zGo]
 have h2:ops[i]?=ops.toList[i]?:=by rw[zGo]
 unfold wpOpIn at h ⊢;rw[h1,zos he]at h;rw[h2];by_cases c:i=y
 ·subst c;rw[zgx]at h;cases ho:ops.toList[i]? with
  |none=>rw[ho]at h;exact h
  |some o=>rw[ho]at h;exact h
 ·rw[zfC _ _ _ _ c]at h;exact h
theorem zgR{F:Fence}{n:Nat}{ops ops1:Array Oper}{Q:Exit→Act→World→Prop}{y x:Nat}(he:ops1.toList=zf9 ops.toList y x):∀{l:List Nat} {a:Act} {w:World},wpOpsIn F n P ops1 Q l a w→wpOpsIn F n P ops Q l a w
 |[],_,_,h=>h
 |i::l,a,w,h=>by rw[wpOpsIn_cons]at h ⊢;exact wpOpIn_mono (fun _ _ hh=>zgR he hh) (zu1 he h)
theorem zz4(hP:tb.ok P)(hm:P.follows .mixedOrders=true){N id:Nat}{ir:Bool}{ops ops1:Array Oper}{y x:Nat}(he:ops1.toList=zf9 ops.toList y x){ord:List Nat}{im:List (Nat×Nat)}{fr:List Ent}{m:MS}{K:X→List Ent→MS→Prop}{sw:Nat→Nat}(hok:zgd sw ops1.toList ord im=true)
 (h:sxD P tb N ops1.toList im fr ord [] [] m (fun fr' m'=>K .nor fr' m') (fun d m'=>K (.pan d) fr m'))
 {E:Gh}{r:Option Nat}{nn:Nat}{ro:Ro}{bl:Bl}{a0:Act}{w0:World}(hS:Sim E ro bl fr m N a0 w0):wpAnyIn (FR r) nn P .any ops1 (QK E ro bl N ir (zby (.region id ops true)) a0 w0 K) ops1.size (Array.replicate ops1.size false) a0 {w0 with drawn:=w0.drawn+1}:=by
 have dk:=zCz hok;have hl0:∀j,zd5 (Array.replicate ops1.size false) j=false:=fun j=>by unfold zd5;simp only[zGe,zGv];split<;>rfl
 have hcnt:cnt ops1.size (zd5 (Array.replicate ops1.size false))=ops1.size:=by unfold cnt;rw[zGw.2 (fun j _=>by simp[hl0]),zGx]
 have hG0:Gr ro bl w0 ro bl {w0 with drawn:=w0.drawn+1}:=⟨rfl,rfl,rfl,zF5 _,fun _ _ _=>⟨rfl,rfl⟩,Le.refl _ _,fun _ h=>.inl h,rfl⟩;have hM0:Mem E ro bl m {w0 with drawn:=w0.drawn+1}:=hS.m.to hG0 ⟨hS.m.len,hS.m.ver,hS.m.box,hS.m.inj,hS.m.tail,hS.m.tinj,hS.m.known,hS.m.olen,fun i y x hy hx=>(hS.m.obj i y x hy hx).to (Le.refl _ _) fun _ _=>⟨rfl,rfl⟩,hS.m.oinj,hS.m.bo⟩;have hw:zcx ops1.toList=zby (.region id ops true):=by rw[he,zhL];rfl
 exact zrD hP dk hS.l (Q:=QK E ro bl N ir (zby (.region id ops true)) a0 w0 K) (K:=fun fr' m'=>K .nor fr' m') (Kp:=fun d m'=>K (.pan d) fr m')
  ⟨fun ro2 bl2 fr' m' a' w' h1 h2 h3 h4 h5 h6=>QK.put (x:=.nor) h1 trivial h3 (fun _=>h2) h2.size h4 h5 (hw▸h6),
   fun ro2 bl2 m' a' w' d x h1 h2 h3 h4 h5 h6 h7=>QK.put (x:=.pan d) h1 ⟨x,rfl,h2⟩ h3 (fun hd=>absurd rfl (hd d)) h5 h4 h6 (hw▸h7)⟩
  ops1.size (Array.replicate ops1.size false) ro bl a0 _ 0 (fun _=>([],.d .un)) [] m (by simp) hcnt (fun j o ho hl=>by rw[hl0]at hl;cases hl)
  ⟨zFV _,fun k _ _ hk=>absurd hk (zIn _),fun k _ _ _ hk=>absurd hk (zIn _),fun k _ _ hk=>absurd hk (zIn _),fun k _ _ hk=>absurd hk (zIn _)⟩
  ⟨hM0,hG0,hS.l.size,rfl,zdJ.refl _ _,fun k _ hk=>absurd hk (zIn _),(fun j hl=>by rw[hl0]at hl;cases hl),fun k _ _ _ hk=>absurd hk (zIn _),fun k _ _ _ hk=>absurd hk (zIn _),fun _ _=>rfl,fun k _ _ hk=>absurd hk (zIn _)⟩ h
theorem zkU(hP:tb.ok P)(hm:P.follows .mixedOrders=true)(x y:Nat)(hxy:x≠y)(ord1:List Nat)(im1:List (Nat×Nat))(ord2:List Nat)(im2:List (Nat×Nat)){N id:Nat}{ir:Bool}{ops:Array Oper}{fr:List Ent}{m:MS}{K:X→List Ent→MS→Prop}
 (hok1:znB (zf9 ops.toList y x) ord1 im1=true)(hok2:zgd (swP x y) (zf9 ops.toList x y) ord2 im2=true)
 (h1:sxD P tb N (zf9 ops.toList y x) im1 fr ord1 [] [] m (fun fr' m'=>K .nor fr' m') (fun d m'=>K (.pan d) fr m'))
 (h2:sxD P tb N (zf9 ops.toList x y) im2 fr ord2 [] [] m (fun fr' m'=>K .nor fr' m') (fun d m'=>K (.pan d) fr m')):zaw P N ir id ops fr m K:=by
 intro E r nn ro bl a0 w0 hrr hS;refine wpIn_region_draw fun t=>?_;simp only[Region.schedule,hm,zIo,zG7];have hl:=zsj ops ops.size t (Array.replicate ops.size false);have hs:∀z z',(⟨zf9 ops.toList z z'⟩:Array Oper).size=ops.size:=fun z z'=>by show(zf9 ops.toList z z').length=_;rw[zh5];rfl
 rcases zrH x y hxy hl with ha|ha
 ·have hw:=zz4 hP hm (ops1:=⟨zf9 ops.toList y x⟩) rfl (id:=id) (ir:=ir) hok1 h1 (r:=r) (nn:=nn) hS;rw[hs]at hw;exact zgR rfl (zkE hw (ziZ rfl hl ha))
 ·have hw:=zz4 hP hm (ops1:=⟨zf9 ops.toList x y⟩) rfl (id:=id) (ir:=ir) hok2 h2 (r:=r) (nn:=nn) hS;rw[hs]at hw;exact zgR rfl (zkE hw (ziZ rfl hl ha))
end Sx
namespace Sx
attribute [local irreducible] Con zax zan zau zai zaw zbt zak zaC zbh zba I64
section
variable {s:St} {task:Int} {c:Call} {run:Rn} {n:Int} {a:Bool} {v:Nat} {d:Int→Nat}
theorem zwo(hs:StOk s d)(hB:BoxOk (s.box task.toNat))(hc:CallOk s task c):Con Tryz.prog 305 [.pt 0 []] ⟨[zaQ (cl0 s task c run n a) v],[v],[]⟩ (MX (zh3 s task)):=by
 have ht:0≤task∧task<8:=⟨hc.t0,hc.t1⟩;refine za3 Tryz.func305 rfl (by kernel_rfl) rfl rfl ?_;conv=>whnf
 refine zkU zaa (by kernel_rfl) 15 16 (by decide) (List.range 20) [(15,32767),(16,32767),(17,24576),(18,16384)] [0,1,2,3,4,5,6,7,8,9,10,11,12,13,14,16,15,17,18,19] [(15,32767),(16,32767),(17,24576),(18,16384)] (by kernel_rfl) (by kernel_rfl) ?_ ?_
 ·conv=>whnf
  refine⟨ht,?_⟩;conv=>whnf
  refine zam (zvL (s.box task.toNat) hB) (fun _ h=>h) ?_;conv=>whnf
  refine And.intro (by first|exact(show _∧_ from⟨rfl,rfl⟩)|exact(show _∧_ from⟨ht,rfl,rfl⟩)) (zas ?_ ?_);rotate_left
  ·repeat' (first|exact trivial|refine And.intro (by first|exact(show _∧_ from⟨rfl,rfl⟩)|exact(show _∧_ from⟨ht,rfl,rfl⟩)) ?_)
  conv=>whnf
  refine And.intro (by first|exact(show _∧_ from⟨rfl,rfl⟩)|exact(show _∧_ from⟨ht,rfl,rfl⟩)) (zas ?_ ?_);rotate_left
  ·repeat' (first|exact trivial|refine And.intro (by first|exact(show _∧_ from⟨rfl,rfl⟩)|exact(show _∧_ from⟨ht,rfl,rfl⟩)) ?_)
  conv=>whnf
  refine zbO (zg1 (s.box task.toNat)) _ (fun h1=>?_) (fun h1=>?_)
  ·conv=>whnf
   refine zao zaa (by kernel_rfl) 10 (by kernel_rfl) ?_;conv=>whnf
   refine⟨ht,?_⟩;conv=>whnf
   refine⟨zaQ (zbX (cl0 s task c run n a) task.toNat (zcu (s.box task.toNat))) _,zfg (cl0 s task c run n a) _ _ _,?_⟩;conv=>whnf
   refine⟨fun h2=>?_,fun h2=>?_⟩
   ·have h2:(((zbV (s.box task.toNat)).reg != 0)&&!(zbV (s.box task.toNat)).sh)=true:=h2;conv=>whnf
    refine zao zaa (by kernel_rfl) 7 (by kernel_rfl) ?_;conv=>whnf
    refine zd7 (zmK (x:=zbX (cl0 s task c run n a) task.toNat (zcu (s.box task.toNat))) hs.t (h:=(zbV (s.box task.toNat)).reg) (task:=task)) rfl (fun h4 v'=>?_) (fun h4 x' v'=>?_)
    ·conv=>whnf
     exact⟨rfl,zc2 (r:=⟨0,(zbV (s.box task.toNat)).word,(zbV (s.box task.toNat)).reg⟩) (x':=zeP (zbX (cl0 s task c run n a) task.toNat (zcu (s.box task.toNat))) (zfv s.o s.t (zbV (s.box task.toNat)).reg task ⟨1,tkB task,0⟩)) (by rw[zh3,zap h1,h2,zHH];exact zap h4)⟩
    ·conv=>whnf
     exact⟨rfl,zbb (by rw[zh3,zap h1,h2,zHH];exact zaP h4)⟩
   ·have h2:(((zbV (s.box task.toNat)).reg != 0)&&!(zbV (s.box task.toNat)).sh)=false:=h2;conv=>whnf
    exact⟨rfl,zc2 (r:=⟨0,(zbV (s.box task.toNat)).word,(zbV (s.box task.toNat)).reg⟩) (x':=zbX (cl0 s task c run n a) task.toNat (zcu (s.box task.toNat))) (by rw[zh3,zap h1,h2];rfl)⟩
  ·conv=>whnf
   exact⟨rfl,zbb (x':=cl0 s task c run n a) (zaP h1)⟩
 ·conv=>whnf
  refine⟨ht,?_⟩;conv=>whnf
  refine zam (zvL (s.box task.toNat) hB) (fun _ h=>h) ?_;conv=>whnf
  refine And.intro (by first|exact(show _∧_ from⟨rfl,rfl⟩)|exact(show _∧_ from⟨ht,rfl,rfl⟩)) (zas ?_ ?_);rotate_left
  ·repeat' (first|exact trivial|refine And.intro (by first|exact(show _∧_ from⟨rfl,rfl⟩)|exact(show _∧_ from⟨ht,rfl,rfl⟩)) ?_)
  conv=>whnf
  refine And.intro (by first|exact(show _∧_ from⟨rfl,rfl⟩)|exact(show _∧_ from⟨ht,rfl,rfl⟩)) (zas ?_ ?_);rotate_left
  ·repeat' (first|exact trivial|refine And.intro (by first|exact(show _∧_ from⟨rfl,rfl⟩)|exact(show _∧_ from⟨ht,rfl,rfl⟩)) ?_)
  conv=>whnf
  refine zbO (zg1 (s.box task.toNat)) _ (fun h1=>?_) (fun h1=>?_)
  ·conv=>whnf
   refine zao zaa (by kernel_rfl) 10 (by kernel_rfl) ?_;conv=>whnf
   refine⟨ht,?_⟩;conv=>whnf
   refine⟨zaQ (zbX (cl0 s task c run n a) task.toNat (zcu (s.box task.toNat))) _,zfg (cl0 s task c run n a) _ _ _,?_⟩;conv=>whnf
   refine⟨fun h2=>?_,fun h2=>?_⟩
   ·have h2:(((zbV (s.box task.toNat)).reg != 0)&&!(zbV (s.box task.toNat)).sh)=true:=h2;conv=>whnf
    refine zao zaa (by kernel_rfl) 7 (by kernel_rfl) ?_;conv=>whnf
    refine zd7 (zmK (x:=zbX (cl0 s task c run n a) task.toNat (zcu (s.box task.toNat))) hs.t (h:=(zbV (s.box task.toNat)).reg) (task:=task)) rfl (fun h4 v'=>?_) (fun h4 x' v'=>?_)
    ·conv=>whnf
     exact⟨rfl,zc2 (r:=⟨0,(zbV (s.box task.toNat)).word,(zbV (s.box task.toNat)).reg⟩) (x':=zeP (zbX (cl0 s task c run n a) task.toNat (zcu (s.box task.toNat))) (zfv s.o s.t (zbV (s.box task.toNat)).reg task ⟨1,tkB task,0⟩)) (by rw[zh3,zap h1,h2,zHH];exact zap h4)⟩
    ·conv=>whnf
     exact⟨rfl,zbb (by rw[zh3,zap h1,h2,zHH];exact zaP h4)⟩
   ·have h2:(((zbV (s.box task.toNat)).reg != 0)&&!(zbV (s.box task.toNat)).sh)=false:=h2;conv=>whnf
    exact⟨rfl,zc2 (r:=⟨0,(zbV (s.box task.toNat)).word,(zbV (s.box task.toNat)).reg⟩) (x':=zbX (cl0 s task c run n a) task.toNat (zcu (s.box task.toNat))) (by rw[zh3,zap h1,h2];rfl)⟩
  ·conv=>whnf
   exact⟨rfl,zbb (x':=cl0 s task c run n a) (zaP h1)⟩
end
end Sx
namespace Sx
attribute [local irreducible] Con zax zan zau zai zaw zbt zak zaC zbh zba I64 OkW zhN zgr zlR
theorem zrh{C:SV}{r:Rs}{v:Nat}{K:MS→Prop}(h:K ⟨[C,.d (zaK r)],[v],[]⟩):zgr Tryz.prog 97 [.pt 1 []] ⟨[C,.d (zaK r)],[v],[]⟩ K:=by
 refine znw zaa Tryz.func97 rfl rfl rfl rfl rfl rfl rfl rfl rfl rfl (zFG rfl) (zFG rfl) (zFG rfl) ?_;conv=>whnf
 refine⟨(fun h=>by cases h),fun _=>?_⟩;conv=>whnf
 exact⟨.inl rfl,h⟩
theorem ziF{C:SV}{r:Rs}{e:Int}{v:Nat}{K:MS→Prop}(h:K ⟨[C,.d (zaK ⟨e,0,0⟩)],[v],[]⟩):zhN Tryz.prog 97 [.pt 1 []] (.ic 62 (.z .i64 e)) ⟨[C,.d (zaK r)],[v],[]⟩ K:=by
 refine zgc zaa Tryz.func97 rfl rfl rfl rfl rfl rfl rfl rfl rfl rfl (zFG rfl) (zFG rfl) (zFG rfl) ?_;conv=>whnf
 refine⟨fun _=>?_,(fun h=>by cases h)⟩;conv=>whnf
 refine⟨(fun h=>by cases h),fun _=>?_⟩;conv=>whnf
 exact⟨.inl rfl,h⟩
end Sx
end Go.Proofs.YtfbhkfhbnkncoaaGreatDoor
