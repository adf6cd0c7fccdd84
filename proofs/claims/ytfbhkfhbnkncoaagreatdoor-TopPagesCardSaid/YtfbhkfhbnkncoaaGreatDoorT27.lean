import Derived.Test.YtfbhkfhbnkncoaaGreatDoorT26
set_option linter.all false
namespace Go.Proofs.YtfbhkfhbnkncoaaGreatDoor
open Go.RowKit
namespace Sx
variable {P:Program} {tb:TT}
theorem zeY{F:Fence}{n:Nat}{fn:Func}{tmps:Array Value}{R:Ending→World→Prop}{u:FrameMode}{ds:List Deferred}(hu:u≠.run):∀{L:List Nat} {w:World},L.Nodup→(∀D∈L,w.heap[D]?=some (.deferred (some [])))→(∀wf,Shut L w wf→LeavesInM F n P fn tmps R ds u wf)→LeavesInM F n P fn tmps R (L.map zjM++ds) u w
 |[],w,_,_,h=>h w ⟨rfl,rfl,rfl,rfl,fun _ _=>rfl⟩
 |D::L,w,hn,hm,h=>by
  have hn:=zIp.1 hn;have hD:=hm D (zF3 ..);refine⟨hu,.inl ⟨D,w.putObj D (.deferred none),rfl,run_takeDeferred hD,zeY hu hn.2 (fun D' hD'=>?_) fun wf hs=>h wf ⟨hs.os,hs.tape,hs.output,by rw[hs.size];simp,fun b hb=>?_⟩⟩⟩
  ·rw[World.putObj_heap_other (fun e=>hn.1 (by subst e;exact hD'))];exact hm D' (zF4 _ hD')
  ·rw[hs.same b (fun h=>hb (zF4 _ h)),World.putObj_heap_other (fun e=>hb (by subst e;exact zF3 ..))]
theorem zft{ro ro':Ro}{bl bl':Bl}(hl:Le ro bl ro' bl'):∀{a:List SV} {xs:List Value},za5 ro bl a xs→za5 ro' bl' a xs
 |[],[],_=>trivial
 |_::_,_::_,h=>⟨h.1.mono hl,zft hl h.2⟩
 |[],_::_,h|_::_,[],h=>h
theorem zkd{F:Fence}{fn:Func}{tmps:Array Value}{R:Ending→World→Prop}{u:FrameMode}{w:World}{fv:Fn}{zjC dargs:Array Value}{g:FuncId}{xs:Array Value}(hF:F=Fence.wide)(hu:u≠.run)(hinv:(invoke (.fn fv zjC) dargs).run P w=.ok (.enter g xs) w)
 (hc:CallsDIn Fence.wide 0 P g xs u w fun e u' w'=>∃v,e=.returned v∧settle u'=.returning∧∃y,(results fn tmps).run P w'=.ok y w'∧R (.returned y) w'):LeavesInM F 0 P fn tmps R [{target:=.fn fv zjC,args:=dargs}] u w:=by
 subst hF;refine⟨hu,.inr ⟨(fun h=>by cases h),fv,zjC,g,xs,rfl,hinv,fun _ _=>trivial,hc.mono ?_⟩⟩;rintro e u' w' ⟨v,rfl,hs,y,h1,h2⟩;show LeavesInM Fence.wide 0 P fn tmps R [] (settle u') w';rw[hs];exact⟨y,h1,h2⟩
theorem zl8(hP:tb.ok P){f:FuncId}{fn:Func}{R0 rest:Code}{id:Nat}{ops:Array Oper}(hf:P.funcs[f]?=some fn)(hb:fn.body=some (.seq R0 (.seq (.region id ops false) rest)))(hE:zgs P f)(hl:fn.results.toList.length≤3){args:List SV}(ha:args.length≤fn.ntmps){g:FuncId}(hg:zgs P g){W:List Nat}{m:MS}{K:Out→MS→Prop}
 (h:sxC P tb fn.ntmps true R0 (zen 0 args) m fun x fr m1=>∃cap fr1,x=.nor∧zlR P fn.ntmps ops g fr cap fr1∧OkW P fn.ntmps false rest W fr1 m1 fun x fr2 m2=>match x with
  | .exit _=>False
  | .pan d=>zhN P g [cap] d m2 fun m3=>∃v,zqn tb (zqk W fr1) m3 fn.results.toList=some v∧K (.ret v) m3
  |_=>zgr P g [cap] m2 fun m3=>∃v,zqn tb fr2 m3 fn.results.toList=some v∧K (.ret v) m3):Con P f args m K:=by
 refine⟨hE,fun E ro bl w xs hM hA=>callsIn_wide (n:=0) |>.1 (callsIn_of_wp_marks hf hb trivial ?_)⟩;refine wpIn_seq (wpIn_mono (zab hP h E none 0 ro bl _ w (fun h=>by cases h) (ziD hM hA ha)) ?_);rintro e a1 w1 ⟨x,fr,m1,ro1,bl1,L,⟨cap,fr1,hx,hD,hW⟩,h2,h3,h4,h5,h6,⟨h7,h8,h8'⟩,h9,h10⟩;subst hx;have hL:L=[]:=h8' rfl;subst hL;have h7:bl1.k=bl.k:=h7;have h6:Gr ro bl w ro1 bl1 w1:=by rw[←h7]at h6;exact h6
 have h9:a1.defers=[]:=by rw[h9];rfl
 cases e with
 |normal=>
  show Code.wpIn Fence.wide 0 P _ _ a1 w1;refine wpIn_seq (wpIn_region (hD ro1 bl1 a1 w1 _ (h4 (by simp)) fun a2 fv zjC dargs ys hd hinv hA2 hS2=>?_));show Code.wpIn Fence.wide 0 P rest _ a2 w1;rw[h9]at hd;refine wpIn_mono (hW E none 0 ro1 bl1 a2 w1 (fun _=>rfl) ⟨hS2,h3⟩) ?_;rintro e a3 w3 ⟨⟨x,fr2,m2,ro2,bl2,L,k1,k2,k3,k4,k5,k6,⟨k7,k8,_⟩,k9,_⟩,hp⟩;have hd3:a3.defers=L.map zjM++[{target:=.fn fv zjC,args:=dargs}]:=by rw[k9,hd]
  have hmk:∀D∈L,w3.heap[D]?=some (.deferred (some [])):=fun D hD=>k3.marks D (by rw[k7];exact zF2.2 (.inl hD));have hdis:∀D∈bl1.k,D∉L:=fun D hD hL=>by have:=k8.ge D hL;have:=(zIq.1 (h3.marks D hD)).1;omega
  have hGf:∀wf,Shut L w3 wf→Gr ro bl w ro2 (bl2.unk bl1.k) wf:=fun wf hs=>h6.trans ⟨hs.os.trans k6.os,hs.tape.trans k6.tape,hs.output.trans k6.output,by rw[hs.size];exact k6.size,fun b hb hn=>by
   obtain⟨g1,g2⟩:=k6.old b hb hn;exact⟨(hs.same b fun hL=>by have:=k8.ge b hL;omega).trans g1,g2⟩,k6.le,k6.new,rfl⟩
  have hle:Le ro2 bl2 ro2 (bl2.unk bl1.k):=⟨Ro.le_refl _,fun _ _ h=>h,(Le.refl ro2 bl2).t,(Le.refl ro2 bl2).o,rfl⟩;have hle1:Le ro1 bl1 ro2 (bl2.unk bl1.k):=⟨k6.le.r,k6.le.b,k6.le.t,k6.le.o,k6.le.g⟩;have fin:∀{fr':List Ent} {wf:World},SimL ro2 (bl2.unk bl1.k) [] fr' fn.ntmps a3→Gr ro bl w ro2 (bl2.unk bl1.k) wf→∀(e':Ending) (u':FrameMode) (w':World),(∃v ro' bl' m',e'=.returned v∧settle u'=.returning∧Mem E ro' bl' m' w'∧Gr ro2 (bl2.unk bl1.k) wf ro' bl' w'∧∃v,zqn tb fr' m' fn.results.toList=some v∧K (.ret v) m')→
   ∃v,e'=.returned v∧settle u'=.returning∧∃y,(results fn a3.tmps).run P w'=.ok y w'∧(∃ro' bl' m' out,Mem E ro' bl' m' w'∧Gr ro bl w ro' bl' w'∧zow ro' bl' out (.returned y)∧K out m'):=by
   rintro fr' wf hS hG e' u' w' ⟨v,ro',bl',m',rfl,hs,q1,q2,v2,q3,q4⟩;obtain⟨y,hy,hr⟩:=zsS hP (hS.le q2.le) q1 hl q3;exact⟨v,rfl,hs,y,hy,ro',bl',m',.ret v2,q1,hG.trans q2,⟨y,rfl,hr⟩,q4⟩
  have done:∀(hx:x=.nor∨x=.ret),LeavesInM Fence.wide 0 P fn a3.tmps (fun e w'=>∃ro' bl' m' out,Mem E ro' bl' m' w'∧Gr ro bl w ro' bl' w'∧zow ro' bl' out e∧K out m') a3.defers .returning w3:=fun hx=>by
   rw[hd3];refine zeY (by simp) k8.nd hmk fun wf hs=>?_;have k1':zgr P g [cap] m2 fun m3=>∃v,zqn tb fr2 m3 fn.results.toList=some v∧K (.ret v) m3:=by rcases hx with rfl|rfl<;>exact k1
   have hMf:=k3.shut k7 hs hdis;have hSf:=(k4 (fun d=>by rcases hx with rfl|rfl<;>simp)).le hle;refine zkd rfl (by simp) ?_ ((k1' E ro2 (bl2.unk bl1.k) wf ys hMf (zft hle1 hA2)).mono fun e' u' w' hq=>fin hSf (hGf wf hs) e' u' w' hq);rw[hinv];exact hg _ _
  cases e with
  |normal=>cases zgQ k2;exact done (.inl rfl)
  |ret=>cases x<;>first|exact k2.elim|exact done (.inr rfl)
  |exit i=>cases zex k2;exact k1.elim
  |goto l=>cases x<;>exact k2.elim
  |panic ch=>
   cases x with
   |pan d=>
    obtain⟨y,rfl,hy⟩:=k2;show LeavesInM Fence.wide 0 P fn a3.tmps _ a3.defers (.panicking _) w3;rw[hd3];refine zeY (by simp) k8.nd hmk fun wf hs=>?_;have hMf:=k3.shut k7 hs hdis;have hSf:=ztc (hS2.le hle1) (hp _ rfl) k5;refine zkd rfl (by simp) ?_ ((k1 E ro2 (bl2.unk bl1.k) wf ys y hMf (zft hle1 hA2) (hy.mono hle)).mono fun e' u' w' hq=>fin hSf (hGf wf hs) e' u' w' hq);rw[hinv];exact hg _ _
   |_=>exact k2.elim
  |outgrown=>cases x<;>exact k2.elim
 |exit i=>exact(h2:False).elim
 |ret=>exact(h2:False).elim
 |goto l=>exact(h2:False).elim
 |panic ch=>exact(h2:False).elim
 |outgrown=>exact(h2:False).elim
theorem zww{ro:Ro}{bl:Bl}{fr:List Ent}{N:Nat}{a:Act}(h:SimL ro bl [] fr N a){d:Nat}{v:SV}{x:Value}(hd:d<N)(hv:zaX ro bl v x):SimL ro bl [] (.put d v::fr) N (a.put (some d) x):=by
 have hsz:a.tmps.size=N:=h.size;refine⟨by simp[Act.put,hsz],fun t c u hl _=>?_,fun t c u hl hc=>?_⟩
 ·simp only[zbr,zGj]at hl;obtain⟨u',hu',e⟩:=hl;cases e;simp only[look]at hu';split at hu'
  ·rename_i ht;have:=zGk ht;subst this;cases hu';simp[Act.put,zGe,zIl,hsz,hd];exact hv
  ·rename_i ht;have hne:d≠t:=fun e=>by rw[e]at ht;simp at ht
   have:=h.yes t [] u (by simp[zbr,hu']) fun _ hp=>by cases hp
   simp only[Act.put,zGe,zIl]at this ⊢;rw[if_neg hne];exact this
 ·simp only[zbr,zGj]at hl;obtain⟨u,_,e⟩:=hl;cases e;exact absurd (fun _ hp=>by cases hp) hc
theorem zlz{ro:Ro}{bl:Bl}{fr:List Ent}{N:Nat}{a:Act}(h:SimL ro bl [] fr N a){t:Nat}{v:SV}(hl:look fr t=some v):zaX ro bl v (a.tmps.getD t undef):=h.yes t [] v (by simp[zbr,hl]) fun _ hp=>by cases hp
theorem zjy{o:Oper}(h:o.guard=none)(ops:Array Oper)(t:Array Value):Region.wanted o (yielded ops t)=true:=by unfold Region.wanted;rw[h]
theorem zhw{ops:Array Oper}{i:Nat}{l:List Nat}{a:Act}{w:World}{o:Oper}{Q:Exit→Act→World→Prop}(ho:ops[i]?=some o)(hg:o.guard=none)(h:o.uponIn Fence.wide 0 P a (wpOpsIn Fence.wide 0 P ops Q l) Q ((execOp a.eval o).run P w)):wpOpsIn Fence.wide 0 P ops Q (i::l) a w:=by simp only[wpOpsIn,ho];rw[if_pos (zjy hg _ _)];exact⟨fun _ _=>trivial,h⟩
theorem zu3{ops:Array Oper}{i:Nat}{l:List Nat}{a:Act}{cs cs':List Frame}{w:World}{o:Oper}{v:Value}{Q:Exit→Act→List Frame→World→Prop}(ho:ops[i]?=some o)(hg:o.guard=none)(he:(execOp a.eval o).run P w=.ok .recover w)(hR:recoverD cs=some (v,cs')∨(recoverD cs=none∧v=.nilIface∧cs'=cs))(h:wpOpsSIn Fence.wide 0 P ops Q l (a.put o.dst v) cs' w):wpOpsSIn Fence.wide 0 P ops Q (i::l) a cs w:=by simp only[wpOpsSIn,ho];refine⟨fun _ _=>trivial,?_⟩;rw[if_pos (zjy hg _ _),he];rcases hR with hR|⟨hR,rfl,rfl⟩<;>simp only[hR]<;>exact h
theorem zu4{ops:Array Oper}{i:Nat}{l:List Nat}{a:Act}{cs:List Frame}{w:World}{o:Oper}{v:Value}{Q:Exit→Act→List Frame→World→Prop}(ho:ops[i]?=some o)(hg:o.guard=none)(he:(execOp a.eval o).run P w=.ok (.value v) w)(h:wpOpsSIn Fence.wide 0 P ops Q l (a.put o.dst v) cs w):wpOpsSIn Fence.wide 0 P ops Q (i::l) a cs w:=by simp only[wpOpsSIn,ho];refine⟨fun _ _=>trivial,?_⟩;rw[if_pos (zjy hg _ _),he];exact h
theorem zry{o:Oper}{c:Go.Call}{t:Nat}{g:FuncId}{fr:List Ent}{cap:SV}{N:Nat}(h1:o.op=.defer c)(h2:o.dst=none)(h3:o.guard=none)(h4:c.callee=.value (.func g))(h5:c.args= #[.tmp t])(hl:look fr t=some cap):zlR P N #[o] g fr cap fr:=by
 intro ro bl a w Q hS hK;have e:(execOp a.eval o).run P w=.ok (.defer {target:=.fn (.func g) #[],args:= #[a.tmps.getD t undef]}) w:=by simp[execOp,h1,resolve,h4,h5,Act.eval,Deferred.ofValue]
 show wpOpsIn Fence.wide 0 P #[o] Q [0] a w;refine zhw (o:=o) rfl h3 ?_;rw[e,Oper.uponIn_defer,h2];exact hK _ (.func g) #[] #[a.tmps.getD t undef] [a.tmps.getD t undef] rfl (fun w=>by simp[invoke]) ⟨zlz hS hl,trivial⟩ ⟨hS.size,fun t c v hl hc=>hS.yes t c v hl hc,fun t c v hl hc=>hS.no t c v hl hc⟩
theorem zxu{o o2:Oper}{c:Go.Call}{t u:Nat}{g:FuncId}{fr:List Ent}{cap:SV}{N:Nat}(h1:o.op=.makeFunc (.func g) #[] #[.tmp t])(h2:o.dst=some u)(h3:o.guard=none)(hu:u<N)(k1:o2.op=.defer c)(k2:o2.dst=none)(k3:o2.guard=none)(h4:c.callee=.value (.tmp u))(h5:c.args= #[])(hl:look fr t=some cap):zlR P N #[o,o2] g fr cap (zqk [u] fr):=by
 intro ro bl a w Q hS hK;have e:(execOp a.eval o).run P w=.ok (.value (.func (.func g) #[] #[a.tmps.getD t undef])) w:=by simp[execOp,h1,Instr.makeFunc,Act.eval]
 show wpOpsIn Fence.wide 0 P #[o,o2] Q [0,1] a w;refine zhw (o:=o) rfl h3 ?_;rw[e,Oper.uponIn_value,h2];generalize ha:a.put (some u) (.func (.func g) #[] #[a.tmps.getD t undef])=a1;have hsz:a.tmps.size=N:=hS.size;have hget:a1.tmps.getD u undef=.func (.func g) #[] #[a.tmps.getD t undef]:=by rw[←ha];simp[Act.put,zGe,zIl,hsz,hu]
 have hU:zdJ [u] a a1:=by rw[←ha];exact zdJ.put (zHW.2 rfl)
 have hd1:a1.defers=a.defers:=by rw[←ha];rfl
 have hsz1:a1.tmps.size=N:=by rw[←ha];simp[Act.put,hsz]
 have e2:(execOp a1.eval o2).run P w=.ok (.defer {target:=.fn (.func g) #[a.tmps.getD t undef],args:= #[]}) w:=by simp[execOp,k1,resolve,h4,h5,Act.eval,hget,Deferred.ofValue]
 refine zhw (o:=o2) rfl k3 ?_;rw[e2,Oper.uponIn_defer,k2];have hS1:=ztc hS hU hsz1;exact hK _ (.func g) #[a.tmps.getD t undef] #[] [a.tmps.getD t undef] (by rw[←hd1];rfl) (fun w=>by simp[invoke]) ⟨zlz hS hl,trivial⟩ ⟨hS1.size,fun t c v hl hc=>hS1.yes t c v hl hc,fun t c v hl hc=>hS1.no t c v hl hc⟩
theorem zrx(hP:tb.ok P){g:FuncId}{fn:Func}{rest:Code}{id:Nat}{o o2:Oper}{t4 t1:Nat}{c:Go.Call}(hf:P.funcs[g]?=some fn)(hb:fn.body=some (.seq (.region id #[o,o2] false) rest))(h1:o.op=.call c)(h2:o.dst=some t4)(h3:o.guard=none)(h4:c.callee=.builtin .recover)(h5:c.args= #[])(k1:o2.op=.assign (.tmp t4))(k2:o2.dst=some t1)(k3:o2.guard=none)
 (hr:fn.results= #[]){args:List SV}(ha:args.length≤fn.ntmps)(l4:t4<fn.ntmps)(l1:t1<fn.ntmps){d:D}{m:MS}{K:MS→Prop}{E:Gh}{ro:Ro}{bl:Bl}{w:World}{xs:List Value}{y:Value}{u u':FrameMode}(hM:Mem E ro bl m w)(hA:za5 ro bl args xs)(hy:zaX ro bl (.d d) y)
 (hu:∀c₀:Frame,∀cs,c₀.mode=u→(recoverD (c₀::cs)=some (y,{c₀ with mode:=u'}::cs))∨(recoverD (c₀::cs)=none∧y=.nilIface∧u'=u))(hs:settle u'=.returning)
 (h:sxC P tb fn.ntmps true rest (.put t1 (.d d)::.put t4 (.d d)::zen 0 args) m fun x _ m'=>(x=.nor∨x=.ret)∧K m'):
 CallsDIn Fence.wide 0 P g xs.toArray u w fun e u' w'=>∃v ro' bl' m',e=.returned v∧settle u'=.returning∧Mem E ro' bl' m' w'∧Gr ro bl w ro' bl' w'∧K m':=by
 refine callsDIn_of_wpSIn hf hb trivial fun c₀ cs hc=>wpSIn_seq (wpSIn_region ?_);have hS:=(ziD hM hA ha (N:=fn.ntmps)).l;have hd0:({tmps:=xs.toArray++Array.replicate (fn.ntmps - xs.toArray.size) undef,defers:=[]}:Act).defers=[]:=rfl;generalize({tmps:=xs.toArray++Array.replicate (fn.ntmps - xs.toArray.size) undef,defers:=[]}:Act)=a at hS hd0;have e1:(execOp a.eval o).run P w=.ok .recover w:=by simp[execOp,h1,resolve,h4,h5,invoke];rfl
 have hS1:=zww hS l4 hy;have hd1:(a.put (some t4) y).defers=[]:=hd0;have main:∀cs',cs'={c₀ with mode:=u'}::cs→wpOpsSIn Fence.wide 0 P #[o,o2] (Exit.thenS (rest.wpSIn Fence.wide 0 P (bodyPostS P fn c₀ cs fun e u' w'=>∃v ro' bl' m',e=.returned v∧settle u'=.returning∧Mem E ro' bl' m' w'∧Gr ro bl w ro' bl' w'∧K m')) (bodyPostS P fn c₀ cs fun e u' w'=>∃v ro' bl' m',e=.returned v∧settle u'=.returning∧Mem E ro' bl' m' w'∧Gr ro bl w ro' bl' w'∧K m')) [1] (a.put (some t4) y) cs' w:=by
  intro cs' hcs;generalize a.put (some t4) y=a1 at hS1 hd1;have hget:=zlz hS1 (t:=t4) (v:=.d d) (by simp[look]);have e2:∃z,(execOp a1.eval o2).run P w=.ok (.value z) w∧zaX ro bl (.d d) z:=⟨a1.eval (.tmp t4),by simp[execOp,k1],hget⟩;obtain⟨z,e2,hz⟩:=e2;have hS2:=zww hS1 l1 hz;refine zu4 (o:=o2) rfl k3 e2 ?_;show rest.wpSIn Fence.wide 0 P _ (a1.put o2.dst z) cs' w;rw[k2,hcs];have hd2:(a1.put (some t1) z).defers=[]:=hd1;generalize a1.put (some t1) z=a2 at hS2 hd2;refine wpSIn_of_wpIn rfl (wpIn_mono (zab hP h E none 0 ro bl a2 w (fun h=>by cases h) ⟨hS2,hM⟩) ?_);rintro e a' w' ⟨x,fr',m',ro',bl',L,⟨hx,hK⟩,q2,q3,q4,q5,q6,⟨q7,q8,q8'⟩,q9,_⟩;have hL:L=[]:=q8' rfl;subst hL;have q7:bl'.k=bl.k:=q7;have q6:Gr ro bl w ro' bl' w':=by rw[←q7]at q6;exact q6
  have hda:a'.defers=[]:=by rw[q9,hd2];rfl
  have hres:(results fn a'.tmps).run P w'=.ok (.tuple #[]) w':=by unfold results;rw[hr];simp
  cases e with
  |normal=>exact⟨hda,u',rfl,_,hres,_,ro',bl',m',rfl,hs,q3,q6,hK⟩
  |ret=>exact⟨hda,u',rfl,_,hres,_,ro',bl',m',rfl,hs,q3,q6,hK⟩
  |exit i=>rcases hx with rfl|rfl<;>exact(q2:False).elim
  |goto l=>rcases hx with rfl|rfl<;>exact(q2:False).elim
  |panic ch=>rcases hx with rfl|rfl<;>exact(q2:False).elim
  |outgrown=>rcases hx with rfl|rfl<;>exact(q2:False).elim
 show wpOpsSIn Fence.wide 0 P #[o,o2] _ [0,1] a (c₀::cs) w;refine zu3 (o:=o) (v:=y) (cs':={c₀ with mode:=u'}::cs) rfl h3 e1 ?_ (by rw[h2];exact main _ rfl);rcases hu c₀ cs hc with hR|⟨hR,hy',hu'⟩
 ·exact .inl hR
 ·exact .inr ⟨hR,hy',by rw[hu',←hc]⟩
theorem zgc(hP:tb.ok P){g:FuncId}{fn:Func}{rest:Code}{id:Nat}{o o2:Oper}{t4 t1:Nat}{c:Go.Call}(hf:P.funcs[g]?=some fn)(hb:fn.body=some (.seq (.region id #[o,o2] false) rest))(h1:o.op=.call c)(h2:o.dst=some t4)(h3:o.guard=none)(h4:c.callee=.builtin .recover)(h5:c.args= #[])(k1:o2.op=.assign (.tmp t4))(k2:o2.dst=some t1)(k3:o2.guard=none)
 (hr:fn.results= #[]){args:List SV}(ha:args.length≤fn.ntmps)(l4:t4<fn.ntmps)(l1:t1<fn.ntmps){d:D}{m:MS}{K:MS→Prop}
 (h:sxC P tb fn.ntmps true rest (.put t1 (.d d)::.put t4 (.d d)::zen 0 args) m fun x _ m'=>(x=.nor∨x=.ret)∧K m'):zhN P g args d m K:=fun E ro bl w xs y hM hA hy=>
 zrx hP hf hb h1 h2 h3 h4 h5 k1 k2 k3 hr ha l4 l1 (u':=.panicking [{v:=y,recovered:=true}]) hM hA hy (fun c₀ cs hc=>.inl (by simp[recoverD,hc])) rfl h
theorem znw(hP:tb.ok P){g:FuncId}{fn:Func}{rest:Code}{id:Nat}{o o2:Oper}{t4 t1:Nat}{c:Go.Call}(hf:P.funcs[g]?=some fn)(hb:fn.body=some (.seq (.region id #[o,o2] false) rest))(h1:o.op=.call c)(h2:o.dst=some t4)(h3:o.guard=none)(h4:c.callee=.builtin .recover)(h5:c.args= #[])(k1:o2.op=.assign (.tmp t4))(k2:o2.dst=some t1)(k3:o2.guard=none)
 (hr:fn.results= #[]){args:List SV}(ha:args.length≤fn.ntmps)(l4:t4<fn.ntmps)(l1:t1<fn.ntmps){m:MS}{K:MS→Prop}
 (h:sxC P tb fn.ntmps true rest (.put t1 (.d .ni)::.put t4 (.d .ni)::zen 0 args) m fun x _ m'=>(x=.nor∨x=.ret)∧K m'):zgr P g args m K:=fun E ro bl w xs hM hA=>
 zrx hP hf hb h1 h2 h3 h4 h5 k1 k2 k3 hr ha l4 l1 (d:=.ni) (y:=.nilIface) (u':=.returning) hM hA ⟨(fun h=>by cases h),fun _=>rfl⟩ (fun c₀ cs hc=>.inr ⟨by simp[recoverD,hc],rfl,rfl⟩) rfl h
end Sx
namespace Sx
attribute [local irreducible] Con zax zan zau zai zaw zbt zak zaC zbh zba I64
def zjG(t:Tb)(r cell:Int):Int:=bif zah t.b r then(bif decide (cell≥0)&&decide (cell<8)then 0 else 2)else 4
theorem zma(t:Tb)(r cell:Int){m:MS}{K:Out→MS→Prop}(h1:zjG t r cell=0→K (.ret (.d (zdX (zaj t r)))) m)(h2:zjG t r cell≠0→K (thr (zjG t r cell)) m):Con Tryz.prog 366 [.d (zaU t),H r,I cell] m K:=by
 refine zl1 (Q:=fun o=>(zjG t r cell=0∧o=.ret (.d (zdX (zaj t r))))∨(zjG t r cell≠0∧o=thr (zjG t r cell))) rfl ?_ fun o h=>?_
 ·refine za3 Tryz.func366 rfl (by kernel_rfl) rfl rfl ?_;conv=>whnf
  refine zad (zlS t r) ?_;conv=>whnf
  cases hg:zah t.b r with
  |false=>
   have e:zjG t r cell=4:=by rw[zjG,hg];rfl
   refine ziG false 4 _ (fun hb=>by cases hb) (fun _=>?_);conv=>whnf
   rw[e];exact⟨rfl,.inr ⟨by decide,rfl⟩,rfl⟩
  |true=>
   refine ziG true 0 _ (fun _=>?_) (fun hb=>by cases hb);conv=>whnf
   refine ziG (decide (cell≥0)&&decide (cell<8)) 2 _ (fun hc=>?_) (fun hc=>?_)
   ·have e:zjG t r cell=0:=by rw[zjG,hg,hc];rfl
    conv=>whnf
    exact⟨rfl,.inl ⟨e,rfl⟩,rfl⟩
   ·have e:zjG t r cell=2:=by rw[zjG,hg,hc];rfl
    conv=>whnf
    rw[e];exact⟨rfl,.inr ⟨by decide,rfl⟩,rfl⟩
 ·rcases h with⟨hb,rfl⟩|⟨hb,rfl⟩
  ·exact h1 hb
  ·exact h2 hb
end Sx
namespace Sx
theorem znx{f:FuncId}{fn:Func}{R0 rest:Code}{id:Nat}{ops:Array Oper}(hf:Tryz.prog.funcs[f]?=some fn)(hb:fn.body=some (.seq R0 (.seq (.region id ops false) rest)))(hn:(fn.name== "runtime.NumGoroutine")=false)(hl:Nat.ble fn.results.toList.length 3=true){args:List SV}(ha:Nat.ble args.length fn.ntmps=true){g:FuncId}{gn:Func}(hg:Tryz.prog.funcs[g]?=some gn)(hgn:(gn.name== "runtime.NumGoroutine")=false)(hgb:gn.body.isNone=false)(W:List Nat){m:MS}{K:Out→MS→Prop}
 (h:sxC Tryz.prog tbl fn.ntmps true R0 (zen 0 args) m fun x fr m1=>∃cap fr1,x=.nor∧zlR Tryz.prog fn.ntmps ops g fr cap fr1∧OkW Tryz.prog fn.ntmps false rest W fr1 m1 fun x fr2 m2=>match x with
  | .exit _=>False
  | .pan d=>zhN Tryz.prog g [cap] d m2 fun m3=>∃v,zqn tbl (zqk W fr1) m3 fn.results.toList=some v∧K (.ret v) m3
  |_=>zgr Tryz.prog g [cap] m2 fun m3=>∃v,zqn tbl fr2 m3 fn.results.toList=some v∧K (.ret v) m3):Con Tryz.prog f args m K:=
 zl8 zaa hf hb (zdY hf hn (by rw[hb];rfl)) (zFG hl) (zFG ha) (zdY hg hgn hgb) (W:=W) h
attribute [local irreducible] Con zax zan zau zai zaw zbt zak zaC zbh zba I64 OkW zhN zgr zlR
theorem zz5{P:Program}{f:FuncId}{args:List SV}{Q:Out→Prop}(h:Con P f args ⟨[],[],[]⟩ fun o _=>(match o with
  | .ret v=>v.ids 0 0 0=true
  | .pan _=>True)∧Q o):Con P f args ⟨[],[],[]⟩ fun o m=>Q o∧m=⟨[],[],[]⟩:=zh9 (zal h fun o m' h=>by
 cases o with
 |pan d=>exact⟨rfl,h.2,rfl⟩
 |ret v=>exact⟨v,fun _ _ _ h=>h,by
  show(v.ids 0 0 0&&(zaG 0 0 0 (m'.c.take 0)&&zbH 0 0 0 (m'.o.take 0)))=true;rw[h.1];rfl,h.2,rfl⟩)
set_option maxHeartbeats 1000000 in
theorem zCR(t:Tb)(r cell to:Int)(firm:Bool){rk:Int→Nat}(hr:Rk t rk)(hR:zvJ {zaj t r with cells:=zaq (zaj t r).cells cell.toNat to}):Con Tryz.prog 364 [.d (zaU t),H r,I cell,H to,B firm] ⟨[],[],[]⟩ fun o m=>(∃X:D,o=.ret (T2 (.d X) (I (znf t r cell to firm)))∧(X=ZT.d z96∨∃t',X=zaU t')∧(znf t r cell to firm=0→X=zaU (zyh t r cell to)))∧m=⟨[],[],[]⟩:=by
 refine zz5 ?_;refine znx Tryz.func364 rfl (by kernel_rfl) rfl rfl (g:=365) Tryz.func365 (by kernel_rfl) rfl (List.range' 12 60) ?_;conv=>whnf
 refine⟨_,_,rfl,zry (t:=11) rfl rfl rfl rfl rfl rfl,?_⟩;refine zmI (zab zaa ?_) (by kernel_rfl);conv=>whnf
 refine zad (zbz t.b r) ?_;conv=>whnf
 refine zam (zbz t.b to) (fun _ h _ _=>h) ?_;conv=>whnf
 refine ziG (zah t.b r&&((to==0)||zah t.b to)) 4 _ (fun hb=>?_) (fun hb=>?_)
 ·conv=>
   whnf
  refine zma t r cell (fun hc=>?_) (fun hc=>?_)
  ·conv=>
    whnf
   refine zam (zg8 t to r hr) (fun _ h _=>h) ?_;conv=>whnf
   refine ziG (((to==0)||firm)||zpv t to r) 5 _ (fun hd=>?_) (fun hd=>?_)
   ·have hi:0≤cell∧cell<8:=by
     cases hq:(decide (cell≥0)&&decide (cell<8))with
     |true=>simpa using hq
     |false=>
      unfold zjG at hc;rw[hq]at hc;cases hg:zah t.b r<;>rw[hg]at hc<;>cases hc
    conv=>whnf
    refine⟨hi,?_⟩;conv=>whnf
    refine⟨.d (zdX {zaj t r with cells:=zaq (zaj t r).cells cell.toNat to}),congrArg (fun f=>SV.d (.pr (.z .u32 (zaj t r).up) (.pr (.z .i64 (zaj t r).quota) (.pr (zhf (zaj t r).rs (zaj t r).len) (.pr (.ar 8 .c f) .un))))) (zaY (fun x=>D.z .u32 x) (zaj t r).cells cell.toNat to),?_⟩;conv=>whnf
    refine zad (zt2 t r {zaj t r with cells:=zaq (zaj t r).cells cell.toNat to} hR) ?_;conv=>whnf
    refine znw zaa Tryz.func365 rfl rfl rfl rfl rfl rfl rfl rfl rfl rfl (zFG rfl) (zFG rfl) (zFG rfl) ?_;conv=>whnf
    refine⟨(fun h=>by cases h),fun _=>?_⟩;conv=>whnf
    refine⟨.inl rfl,_,rfl,rfl,zaU (zyh t r cell to),?_,.inr ⟨_,rfl⟩,fun _=>rfl⟩;have e:znf t r cell to firm=zfx t r {zaj t r with cells:=zaq (zaj t r).cells cell.toNat to}:=by unfold znf;have h1:=zHr.1 hb;rw[h1.1,h1.2,hd,zFQ hi.1,zFQ hi.2];rfl
    rw[e];rfl
   ·conv=>whnf
    refine zgc zaa Tryz.func365 rfl rfl rfl rfl rfl rfl rfl rfl rfl rfl (zFG rfl) (zFG rfl) (zFG rfl) ?_;conv=>whnf
    refine⟨fun _=>?_,fun h=>by cases h⟩;conv=>whnf
    refine⟨(fun h=>by cases h),fun _=>?_⟩;conv=>whnf
    have e:znf t r cell to firm=5:=by
     unfold znf;have h1:=zHr.1 hb;have hi:0≤cell∧cell<8:=by
      cases hq:(decide (cell≥0)&&decide (cell<8))with
      |true=>simpa using hq
      |false=>
       unfold zjG at hc;rw[hq]at hc;cases hg:zah t.b r<;>rw[hg]at hc<;>cases hc
     rw[h1.1,h1.2,hd,zFQ hi.1,zFQ hi.2];rfl
    rw[e];exact⟨.inl rfl,_,rfl,rfl,ZT.d z96,rfl,.inl rfl,(fun h=>by cases h)⟩
  ·conv=>whnf
   refine zgc zaa Tryz.func365 rfl rfl rfl rfl rfl rfl rfl rfl rfl rfl (zFG rfl) (zFG rfl) (zFG rfl) ?_;conv=>whnf
   refine⟨fun _=>?_,(fun h=>by cases h)⟩;conv=>whnf
   refine⟨(fun h=>by cases h),fun _=>?_⟩;conv=>whnf
   have e:znf t r cell to firm=zjG t r cell:=by
    have h1:=zHr.1 hb;have hc':zjG t r cell≠0:=hc;unfold znf;unfold zjG at hc' ⊢;rw[h1.1,h1.2];rw[h1.1]at hc';cases hq:(decide (cell≥0)&&decide (cell<8))with
    |true=>rw[hq]at hc';exact absurd rfl hc'
    |false=>rfl
   rw[e];exact⟨.inl rfl,_,rfl,rfl,ZT.d z96,rfl,.inl rfl,(fun h=>absurd h hc)⟩
 ·conv=>whnf
  refine zgc zaa Tryz.func365 rfl rfl rfl rfl rfl rfl rfl rfl rfl rfl (zFG rfl) (zFG rfl) (zFG rfl) ?_;conv=>whnf
  refine⟨fun _=>?_,(fun h=>by cases h)⟩;conv=>whnf
  refine⟨(fun h=>by cases h),fun _=>?_⟩;conv=>whnf
  have e:znf t r cell to firm=4:=by unfold znf;rw[hb];rfl
  rw[e];exact⟨.inl rfl,_,rfl,rfl,ZT.d z96,rfl,.inl rfl,(fun h=>by cases h)⟩
end Sx
namespace Sx
attribute [local irreducible] Con zax zan zau zai zaw zbt zak zaC zbh zba I64 OkW zhN zgr zlR
theorem zB8(t:Tb)(r cell to:Int)(firm:Bool){rk:Int→Nat}(hr:Rk t rk)(hR:zvJ {zaj t r with cells:=zaq (zaj t r).cells cell.toNat to}):zay Tryz.prog 339 [.d (zaU t),H r,I cell,H to,B firm] (T2 (.d (zaU (bif znf t r cell to firm==0 then zyh t r cell to else t))) (I (znf t r cell to firm))):=by
 have hP:=zCR t r cell to firm hr hR;generalize znf t r cell to firm=e at hP ⊢;refine zat Tryz.func339 rfl (by kernel_rfl) rfl rfl rfl ?_;conv=>whnf
 refine zl1 rfl hP ?_;rintro o ⟨X,rfl,hX,h0⟩;rcases hX with rfl|⟨t',rfl⟩
 all_goals
  conv=>whnf
  refine⟨fun hq=>?_,fun hq=>?_⟩
  ·have hq:(e != 0)=true:=hq;have h1:(e==0)=false:=by simpa using hq
   conv=>whnf
   refine⟨rfl,zae ?_⟩;rw[h1];rfl
  ·have hq:(e != 0)=false:=hq;have h1:e=0:=by simpa using hq
   have h2:=h0 h1;conv=>whnf
   refine⟨rfl,zae ?_⟩;subst h1
   first
   |exact congrArg (fun x=>T2 (.d x) (I 0)) h2
   |rfl
def zhS(t:Tb)(r cell:Int):Int:=(zaj t r).cells cell.toNat
theorem zwK(t:Tb)(r cell:Int):Con Tryz.prog 340 [.d (zaU t),H r,I cell] ⟨[],[],[]⟩ fun o m=>(∃x:Int,o=.ret (T2 (H x) (I (zf1 t r cell)))∧(zf1 t r cell=0→x=zhS t r cell))∧m=⟨[],[],[]⟩:=by
 refine zz5 ?_;refine znx Tryz.func340 rfl (by kernel_rfl) rfl rfl (g:=365) Tryz.func365 (by kernel_rfl) rfl (List.range' 8 60) ?_;conv=>whnf
 refine⟨_,_,rfl,zry (t:=7) rfl rfl rfl rfl rfl rfl,?_⟩;refine zn6 (zmI (zab zaa ?_) (by kernel_rfl)) (by kernel_rfl);conv=>whnf
 have hE:zf1 t r cell=bif zjG t r cell==0 then(bif zhS t r cell != 0 then no (zah t.b (zhS t r cell)) 4 else 10)else zjG t r cell:=by unfold zf1 zjG zhS;cases zah t.b r<;>cases(decide (cell≥0)&&decide (cell<8))<;>rfl
 refine zma t r cell (fun hc=>?_) (fun hc=>?_)
 ·have hi:0≤cell∧cell<8:=by
   cases hq:(decide (cell≥0)&&decide (cell<8))with
   |true=>simpa using hq
   |false=>
    unfold zjG at hc;rw[hq]at hc;cases hg:zah t.b r<;>rw[hg]at hc<;>cases hc
  conv=>whnf
  refine⟨hi,?_⟩;conv=>whnf
  refine zn6 (zmI (zab zaa ?_) (by kernel_rfl)) (by kernel_rfl);conv=>whnf
  refine ziG (zhS t r cell != 0) 10 _ (fun hd=>?_) (fun hd=>?_)
  ·conv=>whnf
   refine zn6 (zmI (zab zaa ?_) (by kernel_rfl)) (by kernel_rfl);conv=>whnf
   refine zad (zbz t.b (zhS t r cell)) ?_;conv=>whnf
   refine ziG (zah t.b (zhS t r cell)) 4 _ (fun hg=>?_) (fun hg=>?_)
   ·conv=>whnf
    refine zAP (zab zaa ?_);conv=>whnf
    refine znw zaa Tryz.func365 rfl rfl rfl rfl rfl rfl rfl rfl rfl rfl (zFG rfl) (zFG rfl) (zFG rfl) ?_;conv=>whnf
    refine⟨(fun h=>by cases h),fun _=>?_⟩;conv=>whnf
    have e:zf1 t r cell=0:=by rw[hE,hc,hd,hg];rfl
    rw[e];exact⟨.inl rfl,_,rfl,rfl,zhS t r cell,rfl,fun _=>rfl⟩
   ·conv=>whnf
    refine zgc zaa Tryz.func365 rfl rfl rfl rfl rfl rfl rfl rfl rfl rfl (zFG rfl) (zFG rfl) (zFG rfl) ?_;conv=>whnf
    refine⟨fun _=>?_,(fun h=>by cases h)⟩;conv=>whnf
    refine⟨(fun h=>by cases h),fun _=>?_⟩;conv=>whnf
    have e:zf1 t r cell=4:=by rw[hE,hc,hd,hg];rfl
    rw[e];exact⟨.inl rfl,_,rfl,rfl,0,rfl,(fun h=>by cases h)⟩
  ·conv=>whnf
   refine zgc zaa Tryz.func365 rfl rfl rfl rfl rfl rfl rfl rfl rfl rfl (zFG rfl) (zFG rfl) (zFG rfl) ?_;conv=>whnf
   refine⟨fun _=>?_,(fun h=>by cases h)⟩;conv=>whnf
   refine⟨(fun h=>by cases h),fun _=>?_⟩;conv=>whnf
   have e:zf1 t r cell=10:=by rw[hE,hc,hd];rfl
   rw[e];exact⟨.inl rfl,_,rfl,rfl,0,rfl,(fun h=>by cases h)⟩
 ·conv=>whnf
  refine zgc zaa Tryz.func365 rfl rfl rfl rfl rfl rfl rfl rfl rfl rfl (zFG rfl) (zFG rfl) (zFG rfl) ?_;conv=>whnf
  refine⟨fun _=>?_,(fun h=>by cases h)⟩;conv=>whnf
  refine⟨(fun h=>by cases h),fun _=>?_⟩;conv=>whnf
  have e:zf1 t r cell=zjG t r cell:=by rw[hE,zFN.2 hc];rfl
  rw[e];exact⟨.inl rfl,_,rfl,rfl,0,rfl,(fun h=>absurd h hc)⟩
end Sx
end Go.Proofs.YtfbhkfhbnkncoaaGreatDoor
