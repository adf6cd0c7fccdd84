import Derived.Test.YtfbhkfhbnkncoaaGreatDoorT15
import Derived.RangeFuncIn
set_option linter.all false
namespace Go.Proofs.YtfbhkfhbnkncoaaGreatDoor
open Go.RowKit
namespace Sx
variable {E:Gh} {r:Option Nat} {nn:Nat}
variable {P:Program} {tb:TT}
def zja:List Nat→List SV→List Ent→List Ent
 |p::ps,v::vs,fr=>zja ps vs (.put p v::fr)
 |_,_,fr=>fr
theorem zmM{ro:Ro}{bl:Bl}:∀{ps:List Nat} {args:List SV} {xs:List Value} {tmps:Array Value} {fr:List Ent},za5 ro bl args xs→args.length=ps.length→(∀p∈ps,p<tmps.size)→zy5 ro bl fr tmps→
 zy5 ro bl (zja ps args fr) ((ps.zip xs).foldl (fun tmps x=>tmps.setIfInBounds x.1 x.2) tmps)∧((ps.zip xs).foldl (fun tmps x=>tmps.setIfInBounds x.1 x.2) tmps).size=tmps.size
 |[],[],xs,tmps,fr,_,_,_,h=>⟨by simpa[zja]using h,by simp⟩
 |p::ps,v::vs,x::xs,tmps,fr,hA,hl,hp,h=>by
  have hps:=hp p (zF3 ..);have h1:zy5 ro bl (.put p v::fr) (tmps.setIfInBounds p x):=fun t u hu=>by
   simp only[look]at hu;split at hu
   ·rename_i ht;have:=zGk ht;subst this;cases hu;simp only[zGe,zIl,if_pos trivial,if_pos hps];exact hA.1
   ·rename_i ht;have hne:p≠t:=fun e=>by subst e;simp at ht
    simp only[zGe,zIl,if_neg hne];have:=h t u hu;simpa only[zGe]using this
  obtain⟨h2,h3⟩:=zmM (ps:=ps) (args:=vs) (xs:=xs) (tmps:=tmps.setIfInBounds p x) (fr:=.put p v::fr) hA.2 (by simpa using hl) (fun q hq=>by simpa using hp q (zF4 _ hq)) h1;exact⟨by simpa[zja]using h2,by simpa using h3⟩
 |[],_::_,_,_,_,_,hl,_,_=>by simp at hl
 |_::_,[],_,_,_,_,hl,_,_=>by simp at hl
 |_::_,_::_,[],_,_,hA,_,_,_=>hA.elim
def zwq(j:Nat)(K:SV→MS→Prop)(x:X)(_:List Ent)(m:MS):Prop:=match zqB m.o j with
 |some (.loop ps as body N f .busy)=>match x with
  | .nor=>K (.d (.bo true)) ⟨m.c,m.t,zmW m.o j (.loop ps as body N f .ready)⟩
  | .ret=>K (.d (.bo false)) ⟨m.c,m.t,zmW m.o j (.loop ps as body N f (.done .ret))⟩
  | .exit i=>K (.d (.bo false)) ⟨m.c,m.t,zmW m.o j (.loop ps as body N f (.done (.exit i)))⟩
  | .pan _=>False
 |_=>False
theorem Mem.loop_turn{ro:Ro}{bl:Bl}{m:MS}{w:World}(h:Mem E ro bl m w){id l:Nat}(hy:bl.o[id]?=some (.loop l)){ps:List Nat}{as body:Code}{N:Nat}{fr:List Ent}{st:LSt}(hx:m.o[id]?=some (.loop ps as body N fr st))(hst:st≠.over):
 ∃fn tmps df pend,w.heap[l]?=some (.loop {state:=st.state,pending:=pend,fn:=fn,tmps:=tmps,params:=ps.toArray,assign:=as,body:=body,defers:=df})∧st.pend pend∧
  ∀(st':LSt) pend',st'.pend pend'→Mem E ro (bl.oset id (.loop l)) ⟨m.c,m.t,m.o.set id (.loop ps as body N fr st')⟩ (w.putObj l (.loop {state:=st'.state,pending:=pend',fn:=fn,tmps:=tmps,params:=ps.toArray,assign:=as,body:=body,defers:=df}))∧
   Gr ro bl w ro (bl.oset id (.loop l)) (w.putObj l (.loop {state:=st'.state,pending:=pend',fn:=fn,tmps:=tmps,params:=ps.toArray,assign:=as,body:=body,defers:=df})):=by
 obtain⟨fn,tmps,df,pend,h1,h2,h3,h4⟩:=h.obj id _ _ hy hx;refine⟨fn,tmps,df,pend,h1,h2,fun st' pend' hp=>?_⟩;have hl:=(zIq.1 h1).1;exact h.oturn hy (BO.le_refl _) (fun b hb=>.inl hb) rfl rfl rfl (by simp) (fun b _ hn=>World.putObj_heap_other (fun e=>hn (by rw[e];rfl))) fun hle=>⟨fn,tmps,df,pend',World.putObj_heap_same hl,hp,h3,fun _ t v hv=>(h4 hst t v hv).mono hle⟩
theorem zfr{bl:Bl}{id:Nat}{y:BO}(h:bl.o[id]?=some y):bl.oset id y=bl:=by
 have:bl.o.set id y=bl.o:=by
  apply zHL;intro i;rw[zIw];split
  ·rename_i e;subst e;rw[h];split
   ·rfl
   ·rename_i hlt;exact absurd (zGf.1 h).1 hlt
  ·rfl
 unfold Bl.oset;rw[this]
theorem zyu{ro:Ro}{bl:Bl}{fr:List Ent}{tmps:Array Value}{ds:List Deferred}(h:zy5 ro bl fr tmps):SimL ro bl [] fr tmps.size {tmps:=tmps,defers:=ds}:=⟨rfl,fun t c v hl _=>by
 simp only[zbr,zGj]at hl;obtain⟨u,hu,hl⟩:=hl;cases hl;exact h t _ hu,fun t c v hl hc=>by
 simp only[zbr,zGj]at hl;obtain⟨u,hu,hl⟩:=hl;cases hl;exact absurd (fun _ hp=>by cases hp) hc⟩
theorem zct(hP:tb.ok P){id:Nat}{ps:List Nat}{as body:Code}{N:Nat}{fr:List Ent}{args:List SV}{m:MS}{K:SV→MS→Prop}(hps:args.length=ps.length)(hlt:∀p∈ps,p<N)
 (h:sxC P tb N true as (zja ps args fr) m fun x fr1 m1=>match x with
  | .nor=>match zqB m1.o id with
   |some (.loop ps' as' body' N' f .ready)=>sxC P tb N true body fr1 ⟨m1.c,m1.t,zmW m1.o id (.loop ps' as' body' N' f .busy)⟩ (zwq id K)
   |_=>False
  |_=>False):zak P id ps as body N fr args m K:=by
 refine⟨hps,fun E nn ro bl w xs l fn tmps df hM hA hbo hheap hsz hfr=>?_⟩;obtain⟨hfr',hsz'⟩:=zmM hA hps (fun p hp=>by rw[hsz];exact hlt p hp) hfr;have hfold:(ps.toArray.zip xs.toArray).foldl (fun tmps (t,a)=>tmps.setIfInBounds t a) tmps=(ps.zip xs).foldl (fun tmps x=>tmps.setIfInBounds x.1 x.2) tmps:=by simp
 rw[hfold];generalize(ps.zip xs).foldl (fun tmps x=>tmps.setIfInBounds x.1 x.2) tmps=T at hfr' hsz';rw[hsz]at hsz';subst hsz';refine roundIn_of_wpIn trivial (wpIn_mono (zab hP h E (some l) nn ro bl {tmps:=T,defers:=[]} w (fun h=>by cases h) ⟨zyu hfr',hM⟩) ?_);rintro e a1 w1 ⟨x,fr1,m1,ro1,bl1,L1,h1,h2,h3,h4,h5,h6,h7,h8,h9⟩;cases e with
 |normal=>
  cases zgQ h2;have hL1:=h7.2.2 rfl;subst hL1;have hk1:bl1.k=bl.k:=h7.1;have hG1:Gr ro bl w ro1 bl1 w1:=by rw[←hk1]at h6;exact h6
  simp only at h1;split at h1
  ·rename_i ps' as' body' N' f hob;rw[zfj]at hob;rw[zez]at h1;obtain⟨y,hy,hyl⟩:=hG1.le.o id _ hbo;cases BO.le_loop hyl;obtain⟨fn1,tm1,df1,pend1,g1,g2,g3⟩:=h3.loop_turn hy hob (by simp);cases g2;obtain⟨hM2,hG2⟩:=g3 .busy none trivial;rw[zfr hy]at hM2 hG2;refine⟨_,run_beginRound g1 rfl,?_⟩;have hS2:Sim E ro1 bl1 fr1 ⟨m1.c,m1.t,m1.o.set id (.loop ps' as' body' N' f .busy)⟩ T.size a1 (w1.putObj l (.loop {state:=.busy,pending:=none,fn:=fn1,tmps:=tm1,params:=ps'.toArray,assign:=as',body:=body',defers:=df1})):=⟨h4 (by simp),hM2⟩;refine wpIn_mono (zab hP h1 E (some l) nn ro1 bl1 a1 _ (fun h=>by cases h) hS2) ?_;rintro e a2 w2 ⟨x2,fr2,m2,ro2,bl2,L2,q1,q2,q3,q4,q5,q6,q7,q8,q9⟩;have hL2:=q7.2.2 rfl;subst hL2;have hk2:bl2.k=bl1.k:=q7.1;have hG3:=q6;rw[←hk2,Bl.unk_self]at hG3;have hGall:=(hG1.trans hG2).trans hG3;unfold zwq at q1;split at q1
   ·rename_i ps2 as2 body2 N2 f2 hob2;rw[zfj]at hob2;obtain⟨y2,hy2,hyl2⟩:=hG3.le.o id _ hy;cases BO.le_loop hyl2;obtain⟨fn2,tm2,df2,pend2,r1,r2,r3⟩:=q3.loop_turn hy2 hob2 (by simp);have fin:∀(j:Option Code) (st:LSt),st.state=(if j.isNone then .ready else .done)→st.pend j→K (.d (.bo j.isNone)) ⟨m2.c,m2.t,zmW m2.o id (.loop ps2 as2 body2 N2 f2 st)⟩→∃v w',(Instr.endRound l j).run P w2=.ok v w'∧∃ro' bl' m' v' x',Ending.returned v=.returned x'∧zaX ro' bl' v' x'∧Mem E ro' bl' m' w'∧Gr ro bl w ro' bl' w'∧K v' m':=fun j st hs hp hK=>by obtain⟨hM3,hG4⟩:=r3 st j hp;rw[zfr hy2]at hM3 hG4;rw[zez]at hK;have:=run_endRound (P:=P) j r1;rw[←hs]at this;exact⟨_,_,this,ro2,bl2,_,.d (.bo j.isNone),_,rfl,zbM _,hM3,hGall.trans hG4,hK⟩
    cases e with
    |normal=>cases zgQ q2;exact fin none .ready rfl rfl q1
    |ret=>cases x2<;>first|exact q2.elim|exact fin (some .ret) (.done .ret) rfl rfl q1
    |exit i=>cases zex q2;exact fin (some (.exit i)) (.done (.exit i)) rfl rfl q1
    |goto t=>cases x2<;>exact q2.elim
    |panic ch=>cases x2<;>first|exact q2.elim|exact q1.elim
    |outgrown=>cases x2<;>exact q2.elim
   ·exact q1.elim
  ·exact h1.elim
 |exit i=>cases zex h2;exact h1.elim
 |ret=>cases x<;>first|exact h2.elim|exact h1.elim
 |goto t=>cases x<;>exact h2.elim
 |panic ch=>cases x<;>first|exact h2.elim|exact h1.elim
 |outgrown=>cases x<;>exact h2.elim
def zwn(j:Nat)(K:X→List Ent→MS→Prop)(fr:List Ent)(o:Out)(m:MS):Prop:=match o with
 | .pan _=>False
 | .ret _=>match zqB m.o j with
  |some (.loop ps as body N f st)=>match st with
   | .ready=>K .nor fr ⟨m.c,m.t,zmW m.o j (.loop ps as body N f .over)⟩
   | .done (.ret)=>K .ret fr ⟨m.c,m.t,zmW m.o j (.loop ps as body N f .over)⟩
   | .done (.exit i)=>K (.exit i) fr ⟨m.c,m.t,zmW m.o j (.loop ps as body N f .over)⟩
   |_=>False
  |_=>False
theorem Mem.addmark{ro:Ro}{bl:Bl}{m:MS}{w:World}(h:Mem E ro bl m w):Mem E ro (bl.unk (w.heap.size::bl.k)) m (w.alloc (.deferred (some []))):=by
 have hb:∀b,b<w.heap.size→(w.alloc (.deferred (some []))).heap[b]?=w.heap[b]?:=fun b hb=>Below.heap_alloc _ _ _ hb;have hle:Le ro bl ro (bl.unk (w.heap.size::bl.k)):=⟨Ro.le_refl _,fun _ _ h=>h,(Le.refl ro bl).t,(Le.refl ro bl).o,rfl⟩;have hC:MemC ro (bl.unk (w.heap.size::bl.k)) m (w.alloc (.deferred (some []))):=⟨h.len,h.ver,fun id blk t v hx hc=>by
  obtain⟨cl,e',h1,h2,h3⟩:=h.box id blk t v hx hc;exact⟨cl,e',(hb blk (h.lt hx)).trans h1,h2.mono hle,h3⟩,h.inj,fun id e blk he hx=>by
  obtain⟨row,cl,ty,h1,h2,h3⟩:=h.tail id e blk he hx;exact⟨row,cl,ty,h1,(hb _ (h.known_lt h1)).trans h2,h3⟩,h.tinj,fun b row hr=>by
  obtain⟨cl,e',fz,h1,h2⟩:=h.known b row hr;exact⟨cl,e',fz,(hb _ (h.known_lt hr)).trans h1,h2⟩,h.olen,fun id y x hy hx=>(h.obj id y x hy hx).to hle fun b hx'=>⟨hb b ((h.obj id y x hy hx).blk hx'),rfl⟩,h.oinj,h.bo⟩
 have hl:=h.glob.lt;refine⟨hC,E.on h.gh ⟨rfl,rfl,rfl,by simp,fun b hb' _=>⟨hb b hb',rfl⟩,Ro.le_refl _,fun b hx=>?_⟩ hC.known,h.glob.to (hb 0 hl.1) (hb bl.g hl.2),h.gno,fun D hD=>?_⟩
 ·rcases hx with hx|hx
  ·exact .inl (.inl hx)
  ·rcases zGm.1 hx with rfl|hx
   ·exact .inr (zF5 _)
   ·exact .inl (.inr hx)
 ·rcases zGm.1 hD with rfl|hD
  ·exact World.alloc_heap_new w _
  ·have h1:=h.marks D hD;rw[hb D (zIq.1 h1).1];exact h1
theorem zcs{N:Nat}{f:Operand}{ps:Array Nat}{as body:Code}{fr:List Ent}{m:MS}{K:X→List Ent→MS→Prop}{k:FuncId}{cp:SV}(hf:evL [] fr [] f=some (.fn (.func k) cp))(hcap:zp0 cp=true)
 (h:Con P k (.ob (.yl m.o.length)::zun cp) ⟨m.c,m.t,m.o++[.loop ps.toList as body N fr .ready]⟩ (zwn m.o.length K fr)):zai P N f ps as body fr m K:=by
 intro E r nn ro bl a w hr hS;have hr:=hr rfl;subst hr;refine wpIn_rangeFunc fun fn _=>?_;obtain⟨vs,hvs,hfv⟩:=(zgf hS.l (g:=[]) (fun p hp=>by cases hp) hf).fn;have hM1:=hS.m.addmark;have hlu:Le ro bl ro (bl.unk (w.heap.size::bl.k)):=⟨Ro.le_refl _,fun _ _ h=>h,(Le.refl ro bl).t,(Le.refl ro bl).o,rfl⟩;obtain⟨hM2,hG2⟩:=hM1.oadd (y:=.loop (w.heap.size+1)) (x:=.loop ps.toList as body N fr .ready) (w':=(w.alloc (.deferred (some []))).alloc (.loop {state:=.ready,pending:=none,fn:=fn,tmps:=a.tmps,params:=ps,assign:=as,body:=body,defers:=w.heap.size}))
  (fun b hb=>by cases hb;simp) rfl rfl rfl (by simp) (fun b hb=>Below.heap_alloc _ _ _ hb) (fun hl=>⟨fn,a.tmps,w.heap.size,none,by have:=World.alloc_heap_new (w.alloc (.deferred (some []))) (.loop {state:=.ready,pending:=none,fn:=fn,tmps:=a.tmps,params:=ps,assign:=as,body:=body,defers:=w.heap.size});simpa[LSt.state]using this,rfl,hS.l.size,fun _ t v hv=>((hS.l.yes t [] v (by simp[zbr,hv]) (fun p hp=>by cases hp)).mono hlu).mono hl⟩)
 have hG0:Gr ro bl w ro (bl.unk bl.k) (w.alloc (.deferred (some []))):=⟨rfl,rfl,rfl,by simp,fun b hb _=>⟨Below.heap_alloc _ _ _ hb,rfl⟩,Le.refl ro bl,fun _ h=>.inl h,rfl⟩;have hG1:Gr ro bl w ro (((bl.unk (w.heap.size::bl.k)).oadd (.loop (w.heap.size+1))).unk bl.k) ((w.alloc (.deferred (some []))).alloc (.loop {state:=.ready,pending:=none,fn:=fn,tmps:=a.tmps,params:=ps,assign:=as,body:=body,defers:=w.heap.size})):=Gr.unk (bl1:=bl.unk (w.heap.size::bl.k)) (k:=w.heap.size::bl.k) hG0 hG2;have hcapr:=znr (hvs.mono hlu) hcap;have hA:za5 ro ((bl.unk (w.heap.size::bl.k)).oadd (.loop (w.heap.size+1))) (.ob (.yl m.o.length)::zun cp) (.func (.yield (w.heap.size+1)) #[] #[]::vs):=by
  refine⟨zgv.v ⟨_,by rw[←hS.m.olen];exact zbl,rfl⟩,?_⟩;have:∀{l:List SV} {xs:List Value},za5 ro (bl.unk (w.heap.size::bl.k)) l xs→za5 ro ((bl.unk (w.heap.size::bl.k)).oadd (.loop (w.heap.size+1))) l xs:=fun{l}=>by
   induction l with
   |nil=>intro xs h;cases xs<;>exact h
   |cons u r ih=>
    intro xs h;cases xs with
    |nil=>exact h.elim
    |cons x xs=>exact⟨h.1.mono hG2.le,ih h.2⟩
  exact this hcapr
 have e1:=run_enterLoop_outer (P:=P) (w:=w) fn a.tmps ps as body;generalize hW:(w.alloc (.deferred (some []))).alloc (.loop {state:=.ready,pending:=none,fn:=fn,tmps:=a.tmps,params:=ps,assign:=as,body:=body,defers:=w.heap.size})=W at*;have e2:(resolve a.eval (rangeCall f (w.heap.size+1)) 0).run P W=.ok {target:=.fn (.func k) vs.toArray,args:= #[.func (.yield (w.heap.size+1)) #[] #[]]} W:=by have hy:a.eval (.const (.func (.yield (w.heap.size+1)) #[] #[]))=.func (.yield (w.heap.size+1)) #[] #[]:=rfl;simp[resolve,hfv,Deferred.ofValue,rangeCall,hy]
 have e3:(invoke (.fn (.func k) vs.toArray) #[.func (.yield (w.heap.size+1)) #[] #[]]).run P W=.ok (.enter k (.func (.yield (w.heap.size+1)) #[] #[]::vs).toArray) W:=by simp[invoke,h.1 _ _]
 refine⟨w.heap.size+1,[zjM w.heap.size],W,{target:=.fn (.func k) vs.toArray,args:= #[.func (.yield (w.heap.size+1)) #[] #[]]},W,k,(.func (.yield (w.heap.size+1)) #[] #[]::vs).toArray,W,e1,e2,fun _ _=>trivial,e3,fun h=>(by cases h),?_⟩
 ·refine callsIn_wide.2 ((h.2 E ro _ W _ hM2 hA).mono ?_);rintro e w3 ⟨ro3,bl3,m3,out,hM3,hG3,ho,hK⟩;unfold zwn at hK;cases out with
  |pan d=>exact hK.elim
  |ret v=>
   obtain⟨x,rfl,hx⟩:=ho;simp only at hK;split at hK
   ·rename_i ps' as' body' N' f' st hob;rw[zfj]at hob;have hbo:((bl.unk (w.heap.size::bl.k)).oadd (.loop (w.heap.size+1))).o[m.o.length]?=some (.loop (w.heap.size+1)):=by rw[←hS.m.olen];exact zbl
    obtain⟨y,hy,hyl⟩:=hG3.le.o _ _ hbo;cases BO.le_loop hyl;have hst:st≠.over:=fun e=>by subst e;exact hK.elim
    obtain⟨fn1,tm1,df1,pend1,g1,g2,g3⟩:=hM3.loop_turn hy hob hst;obtain⟨hM4,hG4⟩:=g3 .over pend1 trivial;rw[zfr hy]at hM4 hG4;have hGf:Gr ro bl w ro3 (bl3.unk bl.k) (w3.putObj (w.heap.size+1) (.loop {state:=.exhausted,pending:=pend1,fn:=fn1,tmps:=tm1,params:=ps'.toArray,assign:=as',body:=body',defers:=df1})):=by have:=hG3.trans hG4;exact Gr.unk (bl1:=(bl.unk (w.heap.size::bl.k)).oadd (.loop (w.heap.size+1))) (k:=bl3.k) hG1 this
    have hk3:bl3.k=[w.heap.size]++bl.k:=hG3.k;have hSim:SimL ro3 bl3 [] fr N {a with defers:=[zjM w.heap.size]++a.defers}:=by
     refine⟨hS.l.size,fun t c v hl hc=>?_,fun t c v hl hc=>?_⟩
     ·have hlf:Le ro bl ro3 bl3:=⟨hGf.le.r,hGf.le.b,hGf.le.t,hGf.le.o,hGf.le.g⟩;exact(hS.l.yes t c v hl hc).mono hlf
     ·simp only[zbr,zGj]at hl;obtain⟨u,hu,hl⟩:=hl;cases hl;exact absurd (fun _ hp=>by cases hp) hc
    have fin:∀(x:X) (ex:Exit),(∀ro bl,zw6 ro bl x ex)→K x fr ⟨m3.c,m3.t,m3.o.set m.o.length (.loop ps' as' body' N' f' .over)⟩→QK E ro bl N false (zby (.rangeFunc f ps as body)) a w K ex {a with defers:=[zjM w.heap.size]++a.defers} (w3.putObj (w.heap.size+1) (.loop {state:=.exhausted,pending:=pend1,fn:=fn1,tmps:=tm1,params:=ps'.toArray,assign:=as',body:=body',defers:=df1})):=fun x ex hx hKx=>
     ⟨x,fr,_,ro3,bl3,[w.heap.size],hKx,hx _ _,hM4,fun _=>hSim,hS.l.size,hGf,⟨hk3,⟨by simp,fun D hD=>by simp at hD;omega⟩,fun h=>by cases h⟩,rfl,fun t _=>rfl⟩
    rw[zez]at hK;cases st with
    |ready=>
     cases g2;exact⟨none,_,run_endLoop g1 (by simp[LSt.state]),fin .nor .normal (fun _ _=>trivial) hK⟩
    |busy=>exact hK.elim
    |over=>exact hK.elim
    |done jc=>
     cases g2;refine⟨some jc,_,run_endLoop g1 (by simp[LSt.state]),?_⟩;cases jc<;>first|exact hK.elim|skip
     ·exact wpIn_exit (fin (.exit _) (.exit _) (fun _ _=>rfl) hK)
     ·exact wpIn_ret (fin .ret .ret (fun _ _=>trivial) hK)
   ·exact hK.elim
end Sx
end Go.Proofs.YtfbhkfhbnkncoaaGreatDoor
