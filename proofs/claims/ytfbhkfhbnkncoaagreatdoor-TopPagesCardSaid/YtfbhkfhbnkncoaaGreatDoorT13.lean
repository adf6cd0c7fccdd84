import Derived.Test.YtfbhkfhbnkncoaaGreatDoorT12
import Derived.Deep.LoopGhost
import Derived.ControlIn
set_option linter.all false
namespace Go.Proofs.YtfbhkfhbnkncoaaGreatDoor
open Go.RowKit
namespace Sx
variable {E:Gh} {r:Option Nat} {nn:Nat}
variable {P:Program} {tb:TT}
inductive X where
 |nor|exit (id:Nat)|ret|pan (d:D)
def zw6(ro:Ro)(bl:Bl):X→Exit→Prop
 | .nor,.normal=>True
 | .exit i,.exit j=>i=j
 | .ret,.ret=>True
 | .pan d,.panic ch=>∃x,ch=[{v:=x,recovered:=false}]∧zaX ro bl (.d d) x
 |_,_=>False
structure Sim (E:Gh) (ro:Ro) (bl:Bl) (fr:List Ent) (m:MS) (N:Nat) (a:Act) (w:World):Prop where
 l:SimL ro bl [] fr N a
 m:Mem E ro bl m w
def zby:Code→List Nat
 | .region _ ops _=>zcx ops.toList
 | .seq a b=>zby a++zby b
 | .cond _ a b=>zby a++zby b
 | .block _ c| .loop c| .scope c=>zby c
 | .rangeFunc _ ps a b=>ps.toList++zby a++zby b
 |_=>[]
def Bl.unk(bl:Bl)(k:List Nat):Bl:=⟨bl.b,bl.t,bl.o,k,bl.g⟩
theorem Bl.unk_self(bl:Bl):bl.unk bl.k=bl:=rfl
def zjM(D:Nat):Deferred:={target:=.collected D,args:= #[]}
theorem Le.unk{ro ro':Ro}{bl bl':Bl}(h:Le ro bl ro' bl')(k k':List Nat):Le ro (bl.unk k) ro' (bl'.unk k'):=⟨h.r,h.b,h.t,h.o,h.g⟩
theorem Gr.unk{ro ro1 ro2:Ro}{bl bl1 bl2:Bl}{w w1 w2:World}{k:List Nat}(h:Gr ro bl w ro1 (bl1.unk bl.k) w1)(g:Gr ro1 bl1 w1 ro2 (bl2.unk k) w2):Gr ro bl w ro2 (bl2.unk bl.k) w2:=by have g':Gr ro1 (bl1.unk bl.k) w1 ro2 (bl2.unk bl.k) w2:=⟨g.os,g.tape,g.output,g.size,g.old,g.le.unk _ _,g.new,rfl⟩;exact h.trans g'
structure Mks (L:List Nat) (w:World):Prop where
 nd:L.Nodup
 ge:∀D∈L,w.heap.size≤D
theorem znZ(w:World):Mks [] w:=⟨zHV,fun _ h=>by cases h⟩
def QK(E:Gh)(ro:Ro)(bl:Bl)(N:Nat)(ir:Bool)(ws:List Nat)(a:Act)(w:World)(K:X→List Ent→MS→Prop)(e:Exit)(a':Act)(w':World):Prop:=
 ∃x fr' m' ro' bl' L,K x fr' m'∧zw6 ro' bl' x e∧Mem E ro' bl' m' w'∧((∀d,x≠.pan d)→SimL ro' bl' [] fr' N a')∧a'.tmps.size=N∧Gr ro bl w ro' (bl'.unk bl.k) w'∧(bl'.k=L++bl.k∧Mks L w∧(ir=true→L=[]))∧a'.defers=L.map zjM++a.defers∧zdJ ws a a'
def Ok(P:Program)(N:Nat)(ir:Bool)(c:Code)(fr:List Ent)(m:MS)(K:X→List Ent→MS→Prop):Prop:=
 ∀E r nn ro bl a w,(ir=false→r=none)→Sim E ro bl fr m N a w→c.wpIn (FR r) nn P (QK E ro bl N ir (zby c) a w K) a w
def zau(P:Program)(N:Nat)(ir:Bool)(c:Code)(fr:List Ent)(m:MS)(K:X→List Ent→MS→Prop):Prop:=Ok P N ir (.loop c) fr m K
def zai(P:Program)(N:Nat)(f:Operand)(ps:Array Tmp)(a b:Code)(fr:List Ent)(m:MS)(K:X→List Ent→MS→Prop):Prop:=Ok P N false (.rangeFunc f ps a b) fr m K
def zaw(P:Program)(N:Nat)(ir:Bool)(id:Nat)(ops:Array Oper)(fr:List Ent)(m:MS)(K:X→List Ent→MS→Prop):Prop:=Ok P N ir (.region id ops true) fr m K
def sxC(P:Program)(tb:TT)(N:Nat)(ir:Bool):Code→List Ent→MS→(X→List Ent→MS→Prop)→Prop
 | .skip,fr,m,K=>K .nor fr m
 | .region id ops dr,fr,m,K=>match dr with
  |true=>zaw P N ir id ops fr m K
  |false=>zgo P tb N ops.toList 0 ops.toList 0 [] fr m (fun fr' m'=>K .nor fr' m') (fun d m'=>K (.pan d) fr m')
 | .seq a b,fr,m,K=>sxC P tb N ir a fr m fun x fr' m'=>match x with
  | .nor=>sxC P tb N ir b fr' m' K
  |x=>K x fr' m'
 | .cond c x y,fr,m,K=>match evL [] fr [] c with
  |some (.d (.bo b))=>(b=true→sxC P tb N ir x fr m K)∧(b=false→sxC P tb N ir y fr m K)
  |_=>False
 | .block id c,fr,m,K=>sxC P tb N ir c fr m fun x fr' m'=>match x with
  | .exit i=>match Nat.beq i id with
   |true=>K .nor fr' m'
   |false=>K (.exit i) fr' m'
  |x=>K x fr' m'
 | .exit id,fr,m,K=>K (.exit id) fr m
 | .ret,fr,m,K=>K .ret fr m
 | .loop c,fr,m,K=>zau P N ir c fr m K
 | .rangeFunc f ps a b,fr,m,K=>match ir with
  |true=>False
  |false=>zai P N f ps a b fr m K
 |_,_,_,_=>False
theorem QK.next{ro ro':Ro}{bl bl':Bl}{N:Nat}{ir:Bool}{ws ws':List Nat}{a a':Act}{w w':World}{L:List Nat}{m':MS}{K K':X→List Ent→MS→Prop}{e:Exit}{a2:Act}{w2:World}(h:QK E ro' bl' N ir ws' a' w' K' e a2 w2)(hM:Mem E ro' bl' m' w')(hG:Gr ro bl w ro' (bl'.unk bl.k) w')
 (hL:bl'.k=L++bl.k∧Mks L w∧(ir=true→L=[]))(hd:a'.defers=L.map zjM++a.defers)(hu:zdJ ws a a')(hs:∀t∈ws',t∈ws)(hK:∀x fr m,K' x fr m→K x fr m):QK E ro bl N ir ws a w K e a2 w2:=by
 obtain⟨x,fr',m2,ro2,bl2,L2,h1,h2,h3,h4,h5,h6,h7,h8,h9⟩:=h;refine⟨x,fr',m2,ro2,bl2,L2++L,hK _ _ _ h1,h2,h3,h4,h5,hG.unk h6,⟨by rw[h7.1,hL.1,zG5],⟨?_,fun D hD=>?_⟩,fun hi=>by rw[h7.2.2 hi,hL.2.2 hi];rfl⟩,by rw[h8,hd,zF6,zG5],hu.trans (h9.sub hs)⟩
 ·refine zHO.2 ⟨h7.2.1.nd,hL.2.1.nd,fun x hx y hy e=>?_⟩;subst e;have h1:=h7.2.1.ge x hx;have h2:=(zIq.1 (hM.marks x (by rw[hL.1];exact zF2.2 (.inl hy)))).1;omega
 ·rcases zF2.1 hD with hD|hD
  ·exact zFU hG.size (h7.2.1.ge D hD)
  ·exact hL.2.1.ge D hD
theorem QK.same{ro:Ro}{bl:Bl}{N:Nat}{ir:Bool}{ws ws':List Nat}{a a':Act}{w w':World}{K K':X→List Ent→MS→Prop}{e:Exit}{a2:Act}{w2:World}{ro':Ro}{bl':Bl}{m':MS}(h:QK E ro' bl' N ir ws' a' w' K' e a2 w2)(hM:Mem E ro' bl' m' w')(hG:Gr ro bl w ro' bl' w')
 (hd:a'.defers=a.defers)(hu:zdJ ws a a')(hs:∀t∈ws',t∈ws)(hK:∀x fr m,K' x fr m→K x fr m):QK E ro bl N ir ws a w K e a2 w2:=
 h.next hM (L:=[]) (by rw[←hG.k];exact hG) ⟨hG.k,znZ w,fun _=>rfl⟩ hd hu hs hK
theorem QK.put{ro ro':Ro}{bl bl':Bl}{N:Nat}{ir:Bool}{ws:List Nat}{a a':Act}{w w':World}{K:X→List Ent→MS→Prop}{e:Exit}{x:X}{fr':List Ent}{m':MS}(h1:K x fr' m')(h2:zw6 ro' bl' x e)(h3:Mem E ro' bl' m' w')(h4:(∀d,x≠.pan d)→SimL ro' bl' [] fr' N a')(h5:a'.tmps.size=N)
 (h6:Gr ro bl w ro' bl' w')(h7:a'.defers=a.defers)(h8:zdJ ws a a'):QK E ro bl N ir ws a w K e a' w':=
 ⟨x,fr',m',ro',bl',[],h1,h2,h3,h4,h5,by rw[←h6.k];exact h6,⟨h6.k,znZ w,fun _=>rfl⟩,h7,h8⟩
theorem QK.of{ro:Ro}{bl:Bl}{N:Nat}{ir:Bool}{ws ws':List Nat}{a:Act}{w:World}{K K':X→List Ent→MS→Prop}{e e2:Exit}{a2:Act}{w2:World}(h:QK E ro bl N ir ws' a w K' e a2 w2)(hs:∀t∈ws',t∈ws)(hK:∀x fr m ro' bl',zw6 ro' bl' x e→K' x fr m→∃x',K x' fr m∧zw6 ro' bl' x' e2∧((∀d,x'≠.pan d)→∀d,x≠.pan d)):QK E ro bl N ir ws a w K e2 a2 w2:=by obtain⟨x,fr',m2,ro2,bl2,L2,h1,h2,h3,h4,h5,h6,h7,h8,h9⟩:=h;obtain⟨x',g1,g2,g3⟩:=hK _ _ _ _ _ h2 h1;exact⟨x',fr',m2,ro2,bl2,L2,g1,g2,h3,fun hx=>h4 (g3 hx),h5,h6,h7,h8,h9.sub hs⟩
theorem zgQ{ro:Ro}{bl:Bl}{x:X}(h:zw6 ro bl x .normal):x=.nor:=by cases x<;>first|rfl|exact h.elim
theorem zex{ro:Ro}{bl:Bl}{x:X}{i:Nat}(h:zw6 ro bl x (.exit i)):x=.exit i:=by cases x<;>first|(cases h;rfl)|exact h.elim
theorem zab(hP:tb.ok P){N:Nat}{ir:Bool}:∀{c:Code} {fr:List Ent} {m:MS} {K:X→List Ent→MS→Prop},sxC P tb N ir c fr m K→Ok P N ir c fr m K
 | .skip,fr,m,K,h=>fun E r nn ro bl a w hr hS=>wpIn_skip (QK.put h trivial hS.m (fun _=>hS.l) hS.l.size (Gr.refl _ _ _) rfl (zdJ.refl _ _))
 | .region id ops true,fr,m,K,h=>h
 | .region id ops false,fr,m,K,h=>fun E r nn ro bl a w hr hS=>by
  unfold sxC at h;refine wpIn_region ?_;rw[List.range_eq_range'];have:=zcH (r:=r) (nn:=nn) (ws:=zcx ops.toList) (i:=0) (Q:=QK E ro bl N ir (zcx ops.toList) a w K) hP h rfl (fun t ht=>ht) hS.l hS.m
   ⟨fun ro' bl' fr' m' a' w' h1 h2 h3 h4 h5 h6=>QK.put (x:=.nor) h1 trivial h3 (fun _=>h2) h2.size h4 h5 h6,
    fun ro' bl' m' a' w' d x h1 h2 h3 h4 h5 h6 h7=>QK.put (x:=.pan d) (fr':=fr) h1 ⟨x,rfl,h2⟩ h3 (fun hd=>absurd rfl (hd d)) h5 h4 h6 h7⟩
  simpa[zby]using this
 | .seq x y,fr,m,K,h=>fun E r nn ro bl a w hr hS=>by
  unfold sxC at h;have hl:∀t∈zby x,t∈zby (.seq x y):=fun t ht=>zF2.2 (.inl ht);refine wpIn_seq (wpIn_mono (zab (c:=x) hP h E r nn ro bl a w hr hS) ?_);rintro e a' w' hq;cases e with
  |normal=>
   obtain⟨u,fr',m',ro',bl',L,h1,h2,h3,h4,h5,h6,h7,h8,h9⟩:=hq;cases zgQ h2;refine wpIn_mono (zab hP h1 E r nn ro' bl' a' w' hr ⟨h4 (by simp),h3⟩) fun e a2 w2 hq=>?_;exact hq.next h3 h6 h7 h8 (h9.sub hl) (fun t ht=>zF2.2 (.inr ht)) fun _ _ _ h=>h
  |exit id=>exact hq.of hl fun x fr m ro' bl' h2 h1=>by cases zex h2;exact⟨_,h1,h2,fun h=>h⟩
  |ret=>exact hq.of hl fun x fr m ro' bl' h2 h1=>by cases x<;>first|exact h2.elim|exact⟨_,h1,h2,fun h=>h⟩
  |goto l=>obtain⟨u,_,_,_,_,_,_,h2,_⟩:=hq;cases u<;>exact h2.elim
  |panic ch=>exact hq.of hl fun x fr m ro' bl' h2 h1=>by cases x<;>first|exact h2.elim|exact⟨_,h1,h2,fun h=>h⟩
  |outgrown=>obtain⟨u,_,_,_,_,_,_,h2,_⟩:=hq;cases u<;>exact h2.elim
 | .cond c x y,fr,m,K,h=>fun E r nn ro bl a w hr hS=>by
  unfold sxC at h;split at h
  ·rename_i b hc;have hb:=(zgf hS.l (g:=[]) (fun p hp=>by cases hp) hc).bo;refine wpIn_cond_split hb (fun ht=>wpIn_mono (zab hP (h.1 ht) E r nn ro bl a w hr hS) fun e a2 w2 hq=>?_) (fun ht=>wpIn_mono (zab hP (h.2 ht) E r nn ro bl a w hr hS) fun e a2 w2 hq=>?_)
   ·exact hq.of (fun t ht=>zF2.2 (.inl ht)) fun x _ _ _ _ h2 h1=>⟨x,h1,h2,fun h=>h⟩
   ·exact hq.of (fun t ht=>zF2.2 (.inr ht)) fun x _ _ _ _ h2 h1=>⟨x,h1,h2,fun h=>h⟩
  ·exact h.elim
 | .block id c,fr,m,K,h=>fun E r nn ro bl a w hr hS=>by
  unfold sxC at h;refine wpIn_block (wpIn_mono (zab (c:=c) hP h E r nn ro bl a w hr hS) ?_);rintro e a' w' hq;cases e with
  |exit i=>
   simp only[Exit.inBlock];split
   ·rename_i hb;subst hb;refine hq.of (fun _ h=>h) fun x fr m ro' bl' h2 h1=>?_;cases zex h2;simp only[zIh]at h1;exact⟨.nor,h1,trivial,fun _=>by simp⟩
   ·rename_i hb;refine hq.of (fun _ h=>h) fun x fr m ro' bl' h2 h1=>?_;cases zex h2;have hbf:Nat.beq i id=false:=by
     cases hq:Nat.beq i id with
     |false=>rfl
     |true=>exact absurd (zGk hq) hb
    simp only[hbf]at h1;exact⟨_,h1,rfl,fun h=>h⟩
  |normal=>exact hq.of (fun _ h=>h) fun x fr m ro' bl' h2 h1=>by cases zgQ h2;exact⟨_,h1,h2,fun h=>h⟩
  |ret=>exact hq.of (fun _ h=>h) fun x fr m ro' bl' h2 h1=>by cases x<;>first|exact h2.elim|exact⟨_,h1,h2,fun h=>h⟩
  |goto l=>obtain⟨u,_,_,_,_,_,_,h2,_⟩:=hq;cases u<;>exact h2.elim
  |panic ch=>exact hq.of (fun _ h=>h) fun x fr m ro' bl' h2 h1=>by cases x<;>first|exact h2.elim|exact⟨_,h1,h2,fun h=>h⟩
  |outgrown=>obtain⟨u,_,_,_,_,_,_,h2,_⟩:=hq;cases u<;>exact h2.elim
 | .exit id,fr,m,K,h=>fun E r nn ro bl a w hr hS=>wpIn_exit (QK.put (x:=.exit id) h rfl hS.m (fun _=>hS.l) hS.l.size (Gr.refl _ _ _) rfl (zdJ.refl _ _))
 | .ret,fr,m,K,h=>fun E r nn ro bl a w hr hS=>wpIn_ret (QK.put (x:=.ret) h trivial hS.m (fun _=>hS.l) hS.l.size (Gr.refl _ _ _) rfl (zdJ.refl _ _))
 | .loop c,fr,m,K,h=>h
 | .rangeFunc f ps a b,fr,m,K,h=>by
  unfold sxC at h;split at h
  ·exact h.elim
  ·exact h
 | .scope _,_,_,_,h| .label _,_,_,_,h| .goto _,_,_,_,h| .refuse _,_,_,_,h=>h.elim
def zy6(p:Nat→Bool):Nat→Bool
 |0=>true
 |n+1=>zy6 p n&&p n
theorem zkD{p:Nat→Bool}:∀{n i:Nat},zy6 p n=true→i<n→p i=true
 |n+1,i,h,hi=>by
  simp only[zy6,zFR]at h;by_cases e:i=n
  ·subst e;exact h.2
  ·exact zkD h.1 (by omega)
def Hd.ids(n j:Nat):Hd→Bool
 | .mr id _| .mq id _ _| .mp id _ _| .yl id| .mo id=>Nat.blt id j
 | .sb id .. =>Nat.blt id n
 | .gl _| .gm=>true
def SV.ids(n k j:Nat):SV→Bool
 | .d _| .el _=>true
 | .pt id _=>Nat.blt id n
 | .fn _ c=>c.ids n k j
 | .ow id .. =>Nat.ble id k
 | .pr a b=>a.ids n k j&&b.ids n k j
 | .tu a=>a.ids n k j
 | .ob h=>h.ids n j
 | .fb _ a=>a.ids n k j
 | .ar m _ f=>zy6 (fun i=>(f i).ids n k j) m
def zaG(n k j:Nat):List SV→Bool
 |[]=>true
 |v::r=>v.ids n k j&&zaG n k j r
def zqe(n k j:Nat):List Ent→Bool
 |[]=>true
 | .put _ v::r=>v.ids n k j&&zqe n k j r
 | .kill _::r=>zqe n k j r
def zjJ(n k j:Nat):List (Int×SV)→Bool
 |[]=>true
 |(_,v)::r=>v.ids n k j&&zjJ n k j r
def Ob.ids(n k j:Nat):Ob→Bool
 | .row .. | .dead=>true
 | .loop _ _ _ _ fr st=>match st with
  | .over=>true
  |_=>zqe n k j fr
 | .map _ l=>zjJ n k j l
def zbH(n k j:Nat):List Ob→Bool
 |[]=>true
 |x::r=>x.ids n k j&&zbH n k j r
def MS.take(m:MS)(n k j:Nat):MS:=⟨m.c.take n,m.t.take k,m.o.take j⟩
theorem zck{α:Type}{l:List α}{n i:Nat}{x:α}(h:l[i]?=some x)(hi:i<n):(l.take n)[i]?=some x:=by rw[zIb hi];exact h
theorem zgv.drop{bl:Bl}{n k j:Nat}:∀{h:Hd} {x:Value},zgv bl h x→h.ids n j=true→zgv (bl.take n k j) h x
 | .mr ..,_,⟨h0,v,b,m,c,s,h1,h2⟩,hi=>⟨h0,v,b,m,c,s,zck h1 (zFG hi),h2⟩
 | .mq ..,_,⟨h0,v,b,m,c,s,h1,h2⟩,hi=>⟨h0,v,b,m,c,s,zck h1 (zFG hi),h2⟩
 | .mp ..,_,⟨h0,v,b,m,c,s,h1,h2⟩,hi=>⟨h0,v,b,m,c,s,zck h1 (zFG hi),h2⟩
 | .yl _,_,⟨l,h1,h2⟩,hi=>⟨l,zck h1 (zFG hi),h2⟩
 | .mo _,_,⟨l,h1,h2⟩,hi=>⟨l,zck h1 (zFG hi),h2⟩
 | .sb ..,_,⟨blk,t,o,c,t',h1,h2⟩,hi=>⟨blk,t,o,c,t',zck h1 (zFG hi),h2⟩
 | .gl _,_,h,_=>h
 | .gm,_,h,_=>h
theorem zb5.drop{ro:Ro}{bl:Bl}{n k j:Nat}:∀{v:SV} {cs:List Value},zb5 ro bl v cs→v.ids n k j=true→zb5 ro (bl.take n k j) v cs
 | .d _,_,h,_=>h
 | .el _,_,h,_=>h
 | .pt id _,_,⟨blk,t,o,t',h,h2⟩,hi=>⟨blk,t,o,t',zck h (zFG hi),h2⟩
 | .fn _ c,_,⟨vs,h,h2⟩,hi=>⟨vs,zb5.drop (v:=c) h hi,h2⟩
 | .ow id ..,_,⟨x,e,h1,h2,h3⟩,hi=>⟨x,e,h1,(by cases id with|zero=>exact h2|succ id=>exact zck h2 (zFG hi)),h3⟩
 | .pr a b,_,⟨c1,c2,h,h1,h2⟩,hi=>by simp only[SV.ids,zFR]at hi;exact⟨c1,c2,h,zb5.drop (v:=a) h1 hi.1,zb5.drop (v:=b) h2 hi.2⟩
 | .ob _,_,⟨x,h,h1⟩,hi=>⟨x,h,h1.drop hi⟩
 | .fb _ a,_,⟨x,h,h1⟩,hi=>⟨x,⟨zb5.drop (v:=a) h.1 hi,h.2⟩,h1⟩
 | .ar m t f,_,⟨g,h,hg⟩,hi=>⟨g,h,fun i hlt=>⟨(hg i hlt).1,zb5.drop (v:=f i) (hg i hlt).2 (zkD hi hlt)⟩⟩
theorem zcD.drop{ro:Ro}{bl:Bl}{n k j:Nat}{v:SV}{x:Value}(h:zcD ro bl v x)(hi:v.ids n k j=true):zcD ro (bl.take n k j) v x:=
 ⟨fun ha=>let⟨cs,h1,hx⟩:=h.1 ha;⟨cs,h1.drop hi,hx⟩,fun ha=>(h.2 ha).drop hi⟩
theorem zkz.drop{ro:Ro}{bl:Bl}{n k j:Nat}:∀{v:SV} {vs:List Value},zkz ro bl v vs→v.ids n k j=true→zkz ro (bl.take n k j) v vs
 | .d _,_,h,_| .pt _ _,_,h,_| .el _,_,h,_| .fn _ _,_,h,_| .ow _ _ _ _ _,_,h,_| .tu _,_,h,_| .ob _,_,h,_| .fb ..,_,h,_| .ar ..,_,h,_=>h
 | .pr a b,_,⟨x,r,h,h1,h2⟩,hi=>by simp only[SV.ids,zFR]at hi;exact⟨x,r,h,h1.drop hi.1,zkz.drop (v:=b) h2 hi.2⟩
theorem zaX.drop{ro:Ro}{bl:Bl}{n k j:Nat}:∀{v:SV} {x:Value},zaX ro bl v x→v.ids n k j=true→zaX ro (bl.take n k j) v x
 | .tu a,_,⟨vs,h,hx⟩,hi=>⟨vs,zkz.drop (v:=a) h hi,hx⟩
 | .d _,_,h,hi| .pt _ _,_,h,hi| .el _,_,h,hi| .fn _ _,_,h,hi| .ow _ _ _ _ _,_,h,hi| .pr _ _,_,h,hi| .ob _,_,h,hi| .fb ..,_,h,hi| .ar ..,_,h,hi=>zcD.drop h hi
theorem zj9{n k j:Nat}:∀{l:List SV} {i:Nat} {v:SV},zaG n k j l=true→l[i]?=some v→v.ids n k j=true
 |v::r,0,u,h,hi=>by simp only[zaG,zFR]at h;cases hi;exact h.1
 |v::r,i+1,u,h,hi=>by simp only[zaG,zFR]at h;exact zj9 h.2 (by simpa using hi)
 |[],_,_,_,hi=>by cases hi
theorem zms{n k j:Nat}:∀{l:List Ob} {i:Nat} {v:Ob},zbH n k j l=true→l[i]?=some v→v.ids n k j=true
 |v::r,0,u,h,hi=>by simp only[zbH,zFR]at h;cases hi;exact h.1
 |v::r,i+1,u,h,hi=>by simp only[zbH,zFR]at h;exact zms h.2 (by simpa using hi)
 |[],_,_,_,hi=>by cases hi
theorem ziW{n k j:Nat}:∀{fr:List Ent} {t:Nat} {v:SV},zqe n k j fr=true→look fr t=some v→v.ids n k j=true
 | .put t' u::r,t,v,h,hl=>by
  simp only[zqe,zFR]at h;simp only[look]at hl;split at hl
  ·cases hl;exact h.1
  ·exact ziW h.2 hl
 | .kill l::r,t,v,h,hl=>by
  simp only[look]at hl;split at hl
  ·cases hl
  ·exact ziW (by simpa[zqe]using h) hl
 |[],_,_,_,hl=>by cases hl
theorem zeS.drop{ro:Ro}{bl:Bl}{n k j:Nat}{kk:IntKind}:∀{l:List (Int×SV)} {es:List MapEntry},zeS ro bl kk l es→zjJ n k j l=true→zeS ro (bl.take n k j) kk l es
 |[],[],_,_=>trivial
 |(a,b)::r,e::es,h,hi=>by simp only[zjJ,zFR]at hi;exact⟨⟨h.1.1,h.1.2.drop hi.1⟩,h.2.drop hi.2⟩
 |[],_::_,h,_=>h.elim
 |_::_,[],h,_=>h.elim
theorem zqz.drop{ro:Ro}{bl:Bl}{w:World}{n k j:Nat}{x:Ob}{y:BO}(h:zqz ro bl w x y)(hi:x.ids n k j=true):zqz ro (bl.take n k j) w x y:=by
 cases x<;>cases y<;>first|exact h.elim|skip
 ·exact h
 ·rename_i ps as body N fr st l;obtain⟨fn,tmps,df,pend,h1,h2,h3,h4⟩:=h;refine⟨fn,tmps,df,pend,h1,h2,h3,fun hst t v hv=>(h4 hst t v hv).drop (ziW ?_ hv)⟩;cases st<;>first|exact hi|exact absurd rfl hst
 ·obtain⟨es,clock,h1,h2⟩:=h;exact⟨es,clock,h1,h2.drop hi⟩
 ·trivial
theorem zbD{α:Type}{l:List α}{n i:Nat}{x:α}(h:(l.take n)[i]?=some x):l[i]?=some x:=by
 rw[zIg]at h;split at h
 ·exact h
 ·cases h
theorem zdE{bl:Bl}{n k j b:Nat}(h:(bl.take n k j).hb b):bl.hb b:=by
 rcases h with⟨id,x,hx,e⟩|⟨id,e,he,hb⟩|⟨id,x,hx,e⟩
 ·exact .inl ⟨id,x,zbD hx,e⟩
 ·exact .inr (.inl ⟨id,e,zbD he,hb⟩)
 ·exact .inr (.inr ⟨id,x,zbD hx,e⟩)
theorem MemC.drop{ro:Ro}{bl:Bl}{m:MS}{w:World}(h:MemC ro bl m w){n k j:Nat}(hi:zaG n k j (m.c.take n)=true)(ho:zbH n k j (m.o.take j)=true):MemC ro (bl.take n k j) (m.take n k j) w where
 len:=by simp[Bl.take,MS.take,h.len]
 ver:=by simp[Bl.take,MS.take,←h.ver]
 box id blk t v hb hc:=by obtain⟨cells,e,h1,h2,h3⟩:=h.box id blk t v (zbD hb) (zbD hc);exact⟨cells,e,h1,h2.drop (zj9 hi hc),h3⟩
 inj i j x y hx hy:=h.inj i j x y (zbD hx) (zbD hy)
 tail id e blk he:=h.tail id e blk (zbD he)
 tinj i j e e' blk hi hj:=h.tinj i j e e' blk (zbD hi) (zbD hj)
 known:=h.known
 olen:=by simp[Bl.take,MS.take,h.olen]
 obj id y x hy hx:=(h.obj id y x (zbD hy) (zbD hx)).drop (zms ho hx)
 oinj i j x y b hx hy:=h.oinj i j x y b (zbD hx) (zbD hy)
 bo i j x y hx hy:=h.bo i j x y (zbD hx) (zbD hy)
theorem Mem.drop{ro:Ro}{bl:Bl}{m:MS}{w:World}(h:Mem E ro bl m w){n k j:Nat}(hi:zaG n k j (m.c.take n)=true)(ho:zbH n k j (m.o.take j)=true):Mem E ro (bl.take n k j) (m.take n k j) w:=
 ⟨h.toMemC.drop hi ho,E.on h.gh (GrS.sub fun b hb=>hb.elim (fun hb=>.inl (zdE hb)) .inr) h.known,h.glob,⟨fun hb=>h.gno.1 (zdE hb),fun hb=>h.gno.2 (zdE hb)⟩,h.marks⟩
theorem Gr.drop{ro ro':Ro}{bl bl':Bl}{w w':World}(h:Gr ro bl w ro' bl' w'){n k j:Nat}(hn:bl.b.length≤n)(hk:bl.t.length≤k)(hj:bl.o.length≤j):Gr ro bl w ro' (bl'.take n k j) w' where
 os:=h.os
 tape:=h.tape
 output:=h.output
 size:=h.size
 old:=h.old
 le:=⟨h.le.r,fun id x hx=>zck (h.le.b id x hx) (zIB (zGf.1 hx).1 hn),fun id e he=>by
  obtain⟨e',h1,h2⟩:=h.le.t id e he;exact⟨e',zck h1 (zIB (zGf.1 he).1 hk),h2⟩,fun id x hx=>by
  obtain⟨x',h1,h2⟩:=h.le.o id x hx;exact⟨x',zck h1 (zIB (zGf.1 hx).1 hj),h2⟩,h.le.g⟩
 new b hb:=h.new b (zdE hb)
 k:=h.k
theorem Mem.lens{ro:Ro}{bl:Bl}{m:MS}{w:World}(h:Mem E ro bl m w):bl.b.length=m.c.length∧bl.t.length=m.t.length∧bl.o.length=m.o.length:=⟨h.len,by have:=congrArg List.length h.ver;simpa using this,h.olen⟩
theorem zkA{ro:Ro}{bl:Bl}{m:MS}{w:World}(h:Mem E ro bl m w):Mem E ro (bl.tadd (none,0,0)) ⟨m.c,m.t++[0],m.o⟩ w∧Gr ro bl w ro (bl.tadd (none,0,0)) w∧Le ro bl ro (bl.tadd (none,0,0))∧∀{ty0 ty:Ty} {f0 f:Nat→D} {cs:List Value},zb5 ro bl (.ow 0 0 0 ty0 f0) cs→zb5 ro (bl.tadd (none,0,0)) (.ow (m.t.length+1) 0 0 ty f) cs:=by
 have hG:Gr ro bl w ro (bl.tadd (none,0,0)) w:=(Gr.refl ro bl w).turn (Le.tadd ro bl _) rfl fun id e blk he hb=>by
  rcases zbB he with⟨rfl,rfl⟩|he
  ·cases hb
  ·exact .inl ⟨e,he,hb⟩
 obtain⟨h1,h2⟩:=h.tadd (b:=none) (sz:=0) (fun blk h=>by cases h) (fun _ _ _ _ _ h=>by cases h) (E.on h.gh hG.s h.known) (h.gno_to hG);have hlen:bl.t.length=m.t.length:=h.lens.2.1;refine⟨h1,hG,h2,fun{ty0 ty f0 f cs} hx=>?_⟩;obtain⟨y,e,g1,g2,_,g4,g5⟩:=hx;cases g2;refine⟨y,(none,0,0),g1.sl_any,?_,zF5 _,fun _=>.inl ?_,g5⟩
 ·show(bl.t++[_])[m.t.length]?=_;rw[←hlen];exact zbl
 ·rcases g4 rfl with g4|⟨_,_,_,_,g6,_⟩
  ·exact g4
  ·cases g6
theorem zAQ{N:Nat}{ir:Bool}{c:Code}{fr:List Ent}{m:MS}{K:X→List Ent→MS→Prop}(t:Nat)(ty:Ty)(f:Nat→D){ty0:Ty}{f0:Nat→D}(hl:look fr t=some (.ow 0 0 0 ty0 f0))
 (h:Ok P N ir c (.put t (.ow (m.t.length+1) 0 0 ty f)::fr) ⟨m.c,m.t++[0],m.o⟩ K):Ok P N ir c fr m K:=by
 intro E r nn ro bl a w hr hS;obtain⟨h1,hG,h2,hrep⟩:=zkA hS.m;have hx:zaX ro bl (.ow 0 0 0 ty0 f0) (a.tmps.getD t undef):=hS.l.yes t [] _ (by simp[zbr,hl]) (fun p hp=>by cases hp);have hy:zaX ro (bl.tadd (none,0,0)) (.ow (m.t.length+1) 0 0 ty f) (a.tmps.getD t undef):=⟨(fun h=>by cases h),fun _=>hrep (hx.2 rfl)⟩;have hS':Sim E ro (bl.tadd (none,0,0)) (.put t (.ow (m.t.length+1) 0 0 ty f)::fr) ⟨m.c,m.t++[0],m.o⟩ N a w:=by
  refine⟨⟨hS.l.size,fun t' cc v hlk _=>?_,fun t' cc v hlk hc=>?_⟩,h1⟩
  ·simp only[zbr,zGj]at hlk;obtain⟨u,hu,hlk⟩:=hlk;cases hlk;simp only[look]at hu;split at hu
   ·rename_i ht;have:=zGk ht;subst this;cases hu;exact hy
   ·exact(hS.l.yes t' [] v (by simp[zbr,hu]) (fun p hp=>by cases hp)).mono h2
  ·simp only[zbr,zGj]at hlk;obtain⟨u,hu,hlk⟩:=hlk;cases hlk;exact absurd (fun _ hp=>by cases hp) hc
 exact wpIn_mono (h E r nn ro _ a w hr hS') fun e a2 w2 hq=>hq.same h1 hG rfl (zdJ.refl _ _) (fun _ h=>h) fun _ _ _ h=>h
theorem zcJ{N:Nat}{ir:Bool}{c:Code}{fr:List Ent}{m:MS}{K:X→List Ent→MS→Prop}(t:Nat)(ty:Ty)(f:Nat→D){ty0:Ty}{f0:Nat→D}(hl:look fr t=some (.ow 0 0 0 ty0 f0))
 (h:zau P N ir c (.put t (.ow (m.t.length+1) 0 0 ty f)::fr) ⟨m.c,m.t++[0],m.o⟩ K):zau P N ir c fr m K:=zAQ t ty f hl h
theorem zi8{N:Nat}{ir:Bool}{c:Code}{fr:List Ent}{m:MS}{K:X→List Ent→MS→Prop}(id:Nat)(path:List Nat)(ty:Ty)(f:Nat→D){ty0:Ty}{f0:Nat→D}{v v':SV}(hc:zg6 m.c id=some v)(hl:v.nav path=some (.ow 0 0 0 ty0 f0))(hv:v.set path (.ow (m.t.length+1) 0 0 ty f)=some v')(hoff:∃o t',v.shape.off path=some (o,t'))
 (h:Ok P N ir c fr ⟨zmV m.c id v',m.t++[0],m.o⟩ K):Ok P N ir c fr m K:=by
 intro E r nn ro bl a w hr hS;obtain⟨h1,hG,h2,hrep⟩:=zkA hS.m;rw[zdi]at hc;rw[zfy]at h;have hM':Mem E ro (bl.tadd (none,0,0)) ⟨m.c.set id v',m.t++[0],m.o⟩ w:=by
  refine⟨⟨by show(bl.tadd _).b.length=(m.c.set id v').length;rw[zHM];exact h1.len,h1.ver,fun i blk t u hb hu=>?_,h1.inj,h1.tail,h1.tinj,h1.known,h1.olen,h1.obj,h1.oinj,h1.bo⟩,h1.gh,h1.glob,h1.gno,h1.marks⟩;rcases zb1 hu with⟨rfl,rfl⟩|⟨_,hu⟩
  ·obtain⟨cells,e,g1,g2,g3,g4⟩:=h1.box i blk t v hb hc;refine⟨cells,e,g1,?_⟩;subst g3;obtain⟨o,t',ho⟩:=hoff;obtain⟨hs,hr1⟩:=SV.nav_rep g2 ho hl;cases hs;obtain⟨cells0,e0,q1,q2,q3,q4⟩:=hS.m.box i blk _ v hb hc;rw[g1]at q1;cases q1;obtain⟨_,hr0⟩:=SV.nav_rep q2 ho hl;obtain⟨k1,k2⟩:=SV.set_rep g2 ho (hrep (ty:=ty) (f:=f) hr0) rfl hv;have hle:=Ty.off_le ho;have hlen:=g2.length;have:(cells.toList.take o++(cells.toList.drop o).take (Ty.size .c)++cells.toList.drop (o+Ty.size .c))=cells.toList:=by rw[zG5,←zGV,zG1,zG1]
   rw[show(SV.ow 0 0 0 ty0 f0).shape.size=Ty.size .c from rfl]at k2;rw[this]at k2;exact⟨k2,k1,g4⟩
  ·exact h1.box i blk t u hb hu
 have hS':Sim E ro (bl.tadd (none,0,0)) fr ⟨m.c.set id v',m.t++[0],m.o⟩ N a w:=⟨hS.l.le h2,hM'⟩;exact wpIn_mono (h E r nn ro _ a w hr hS') fun e a2 w2 hq=>hq.same hM' hG rfl (zdJ.refl _ _) (fun _ h=>h) fun _ _ _ h=>h
theorem zqu{F:Fence}{rm:Nat}{Q:Exit→Act→World→Prop}{a:Act}{w:World}{c:Code}(I:Nat→Act→World→Prop)(n₀:Nat)(h₀:I n₀ a w)
 (round:∀n a w,I n a w→c.wpIn F rm P (Exit.then (fun a' w'=>∃n',n'<n∧I n' a' w') Q) a w):(Code.loop c).wpIn F rm P Q a w:=by
 refine wpIn_loop (fun a w=>∃n,I n a w) (fun a w=>leastOf (fun n=>I n a w)) ⟨n₀,h₀⟩ ?_;intro a w hI;refine wpIn_mono (round _ a w (leastOf_spec hI).1) ?_;intro e a' w' hq;cases e with
 |normal=>
  obtain⟨n',hlt,hI'⟩:=hq;exact show(∃n,I n a' w')∧leastOf (fun n=>I n a' w')<leastOf (fun n=>I n a w) from⟨⟨n',hI'⟩,Nat.lt_of_le_of_lt ((leastOf_spec ⟨n',hI'⟩).2 n' hI') hlt⟩
 |exit id=>exact hq
 |goto l=>exact hq
 |ret=>exact hq
 |panic ch=>exact hq
 |outgrown=>exact hq
def zdx:List (Nat×SV)→List Ent→List Ent
 |[],fr=>fr
 |(t,v)::r,fr=>.put t v::zdx r fr
def zel(fr:List Ent):List (Nat×SV)→Prop
 |[]=>True
 |(t,v)::r=>look fr t=some v∧zel fr r
def zot(m' m:MS):Prop:=m'.take m.c.length m.t.length m.o.length=m∧(zaG m.c.length m.t.length m.o.length m.c&&zbH m.c.length m.t.length m.o.length m.o)=true
theorem zdU{fr:List Ent}:∀{l:List (Nat×SV)},zel fr l→∀e∈l,look fr e.1=some e.2
 |[],_,_,he=>by cases he
 |(t,v)::r,h,e,he=>by
  rcases zGm.1 he with rfl|he
  ·exact h.1
  ·exact zdU h.2 e he
theorem zi1:∀{l:List (Nat×SV)} {fr:List Ent} {t:Nat} {v:SV},look (zdx l fr) t=some v→(t,v)∈l∨look fr t=some v
 |[],_,_,_,h=>.inr h
 |(t',u)::r,fr,t,v,h=>by
  simp only[zdx,look]at h;split at h
  ·rename_i ht;have:=zGk ht;subst this;cases h;exact .inl (zF3 ..)
  ·rcases zi1 h with h|h
   ·exact .inl (zF4 _ h)
   ·exact .inr h
theorem zAo{n k j:Nat}:∀{l:List (Nat×SV)},zaG n k j (l.map (·.2))=true→∀e∈l,e.2.ids n k j=true
 |[],_,_,he=>by cases he
 |x::r,h,e,he=>by
  simp only[zGF,zaG,zFR]at h;rcases zGm.1 he with rfl|he
  ·exact h.1
  ·exact zAo h.2 e he
theorem zpo{N:Nat}{ir:Bool}{c:Code}{fr:List Ent}{m:MS}{K:X→List Ent→MS→Prop}{ι:Type}(inv:ι→Prop)(μ:ι→Nat)(md:ι→List (Nat×SV))(mm:ι→MS)(i0:ι)(hi0:inv i0)(h0:zel fr (md i0))(hm:m=mm i0)
 (hn:∀i,m.c.length≤(mm i).c.length∧m.t.length≤(mm i).t.length∧m.o.length≤(mm i).o.length)
 (hr:∀i,inv i→Ok P N ir c (zdx (md i) (.kill (zby c)::fr)) (mm i) fun x fr' m'=>match x with
  | .nor=>∃j,inv j∧μ j<μ i∧zel fr' (md j)∧(m'=mm j∨(zot m' (mm j)∧zaG (mm j).c.length (mm j).t.length (mm j).o.length ((md j).map (·.2))=true))
  |x=>K x fr' m'):zau P N ir c fr m K:=by
 intro E r nn ro bl a0 w0 hrr hS;have zjL:∀t v,look fr t=some v→zaX ro bl v (a0.tmps.getD t undef):=fun t v h=>hS.l.yes t [] v (by simp[zbr,h]) (fun p hp=>by cases hp);refine zqu (fun n a w=>∃i ro' bl' L,inv i∧μ i=n∧Gr ro bl w0 ro' (bl'.unk bl.k) w∧(bl'.k=L++bl.k∧Mks L w0∧(ir=true→L=[]))∧Mem E ro' bl' (mm i) w∧(∀e∈md i,zaX ro' bl' e.2 (a.tmps.getD e.1 undef))∧a.tmps.size=N∧a.defers=L.map zjM++a0.defers∧zdJ (zby c) a0 a) (μ i0)
  ⟨i0,ro,bl,[],hi0,rfl,Gr.refl _ _ _,⟨rfl,znZ w0,fun _=>rfl⟩,hm▸hS.m,fun e he=>zjL _ _ (zdU h0 e he),hS.l.size,rfl,zdJ.refl _ _⟩ ?_
 rintro n a w ⟨i,ro',bl',L,hinv,rfl,hG,hL,hM,hmd,hsz,hdf,hU⟩;have hle:Le ro bl ro' bl':=⟨hG.le.r,hG.le.b,hG.le.t,hG.le.o,hG.le.g⟩;have hSim:Sim E ro' bl' (zdx (md i) (.kill (zby c)::fr)) (mm i) N a w:=by
  refine⟨⟨hsz,fun t cc v hl _=>?_,fun t cc v hl hc=>?_⟩,hM⟩
  ·simp only[zbr,zGj]at hl;obtain⟨u,hu,hl⟩:=hl;cases hl;rcases zi1 hu with hu|hu
   ·exact hmd _ hu
   ·simp only[look]at hu;split at hu
    ·cases hu
    ·rename_i hk;have hnot:t∉zby c:=fun ht=>by have:(zby c).any (Nat.beq t)=true:=zHt.2 ⟨t,ht,zIh t⟩;rw[this]at hk;cases hk
     rw[hU t hnot];exact(zjL _ _ hu).mono hle
  ·simp only[zbr,zGj]at hl;obtain⟨u,hu,hl⟩:=hl;cases hl;exact absurd (fun _ hp=>by cases hp) hc
 refine wpIn_mono (hr i hinv E r nn ro' bl' a w hrr hSim) ?_;rintro e a' w' hq;cases e with
 |normal=>
  obtain⟨x,fr',m',ro2,bl2,L2,h1,h2,h3,h4,h5,h6,h7,h8,h9⟩:=hq.next (K:=fun x fr' m'=>match x with
   | .nor=>∃j,inv j∧μ j<μ i∧zel fr' (md j)∧(m'=mm j∨(zot m' (mm j)∧zaG (mm j).c.length (mm j).t.length (mm j).o.length ((md j).map (·.2))=true))
   |x=>K x fr' m') hM hG hL hdf hU (fun _ h=>h) (fun _ _ _ h=>h)
  cases zgQ h2;obtain⟨j,hjv,hj,hl,rfl|⟨⟨hd1,hd2⟩,hd3⟩⟩:=h1
  ·exact⟨μ j,hj,j,ro2,bl2,L2,hjv,rfl,h6,h7,h3,fun e he=>(h4 (by simp)).yes e.1 [] e.2 (by simp[zbr,zdU hl e he]) (fun p hp=>by cases hp),h5,h8,h9⟩
  simp only[zFR]at hd2;have hc1:m'.c.take (mm j).c.length=(mm j).c:=by have:=congrArg MS.c hd1;simpa only[MS.take]using this
  have ho1:m'.o.take (mm j).o.length=(mm j).o:=by have:=congrArg MS.o hd1;simpa only[MS.take]using this
  obtain⟨l1,l2,l3⟩:=hS.m.lens;obtain⟨n1,n2,n3⟩:=hn j;refine⟨μ j,hj,j,ro2,bl2.take (mm j).c.length (mm j).t.length (mm j).o.length,L2,hjv,rfl,h6.drop (by omega) (by omega) (by omega),h7,?_,fun e he=>?_,h5,h8,h9⟩
  ·have:=h3.drop (n:=(mm j).c.length) (k:=(mm j).t.length) (j:=(mm j).o.length) (by rw[hc1];exact hd2.1) (by rw[ho1];exact hd2.2);rw[hd1]at this;exact this
  ·have hy:=(h4 (by simp)).yes e.1 [] e.2 (by simp[zbr,zdU hl e he]) (fun p hp=>by cases hp);exact hy.drop (zAo hd3 e he)
 |exit id=>
  refine(hq.next hM hG hL hdf hU (fun _ h=>h) (fun _ _ _ h=>h)).of (fun _ h=>h) fun x fr m ro' bl' h2 h1=>?_;cases zex h2;exact⟨_,h1,h2,fun h=>h⟩
 |ret=>
  refine(hq.next hM hG hL hdf hU (fun _ h=>h) (fun _ _ _ h=>h)).of (fun _ h=>h) fun x fr m ro' bl' h2 h1=>?_;cases x<;>first|exact h2.elim|exact⟨_,h1,h2,fun h=>h⟩
 |goto l=>obtain⟨x,_,_,_,_,_,_,h2,_⟩:=hq;cases x<;>exact h2.elim
 |panic ch=>
  refine(hq.next hM hG hL hdf hU (fun _ h=>h) (fun _ _ _ h=>h)).of (fun _ h=>h) fun x fr m ro' bl' h2 h1=>?_;cases x<;>first|exact h2.elim|exact⟨_,h1,h2,fun h=>h⟩
 |outgrown=>obtain⟨x,_,_,_,_,_,_,h2,_⟩:=hq;cases x<;>exact h2.elim
theorem zed(hP:tb.ok P){N:Nat}{ir:Bool}{c:Code}{fr:List Ent}{m:MS}{K:X→List Ent→MS→Prop}{ι:Type}(inv:ι→Prop)(μ:ι→Nat)(md:ι→List (Nat×SV))(mm:ι→MS)(i0:ι)(hi0:inv i0)(h0:zel fr (md i0))(hm:m=mm i0)
 (hn:∀i,m.c.length≤(mm i).c.length∧m.t.length≤(mm i).t.length∧m.o.length≤(mm i).o.length)
 (hr:∀i,inv i→sxC P tb N ir c (zdx (md i) (.kill (zby c)::fr)) (mm i) fun x fr' m'=>match x with
  | .nor=>∃j,inv j∧μ j<μ i∧zel fr' (md j)∧(m'=mm j∨(zot m' (mm j)∧zaG (mm j).c.length (mm j).t.length (mm j).o.length ((md j).map (·.2))=true))
  |x=>K x fr' m'):zau P N ir c fr m K:=zpo inv μ md mm i0 hi0 h0 hm hn fun i hi=>zab hP (hr i hi)
theorem zaB(hP:tb.ok P){N:Nat}{ir:Bool}{c:Code}{fr:List Ent}{m:MS}{K:X→List Ent→MS→Prop}{ι:Type}(inv:ι→Prop)(μ:ι→Nat)(md:ι→List (Nat×SV))(mm:ι→MS)(i0:ι)(hi0:inv i0)(h0:zel fr (md i0))(hm:m=mm i0)
 (hn:∀i,m.c.length≤(mm i).c.length∧m.t.length≤(mm i).t.length∧m.o.length≤(mm i).o.length)
 (hr:∀i,inv i→sxC P tb N ir c (zdx (md i) (.kill (zby c)::fr)) (mm i) fun x fr' m'=>match x with
  | .nor=>∃j,inv j∧μ j<μ i∧zel fr' (md j)∧zot m' (mm j)∧zaG (mm j).c.length (mm j).t.length (mm j).o.length ((md j).map (·.2))=true
  |x=>K x fr' m'):zau P N ir c fr m K:=
 zpo inv μ md mm i0 hi0 h0 hm hn fun i hi E r nn ro bl a w h1 h2=>wpIn_mono (zab hP (hr i hi) E r nn ro bl a w h1 h2) fun e a' w' hq=>hq.of (fun _ h=>h) fun x fr m ro' bl' hx h=>⟨x,(by
  cases x with
  |nor=>
   obtain⟨j,h1,h2,h3,h4,h5⟩:=h;exact⟨j,h1,h2,h3,.inr ⟨h4,h5⟩⟩
  |_=>exact h),hx,fun h=>h⟩
end Sx
end Go.Proofs.YtfbhkfhbnkncoaaGreatDoor
