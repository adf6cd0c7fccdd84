import Derived.Test.YtfbhkfhbnkncoaaGreatDoorT1
set_option linter.all false
namespace Go.Proofs.YtfbhkfhbnkncoaaGreatDoor
open Go.RowKit
namespace Sx
theorem zln{t:Ty}{o:Nat}{t':Ty}(h:t.off []=some (o,t')):o=0∧t'=t:=by unfold Ty.off at h;simp at h;exact⟨h.1.symm,h.2.symm⟩
theorem SV.nav_rep{ro:Ro}{bl:Bl}:∀{w:SV} {r:List Nat} {cs:List Value} {o:Nat} {t':Ty} {d':SV},zb5 ro bl w cs→w.shape.off r=some (o,t')→w.nav r=some d'→d'.shape=t'∧zb5 ro bl d' ((cs.drop o).take t'.size)
 |w,[],cs,o,t',d',h,ho,hn=>by
  have hl:=h.length;have:d'=w:=by(unfold SV.nav at hn;simpa using hn.symm)
  subst this;obtain⟨rfl,rfl⟩:=zln ho;refine⟨rfl,?_⟩;rw[zGX,zGN (by omega)];exact h
 | .d x,k::r,cs,o,t',d',h,ho,hn=>by simp only[SV.nav,zGj]at hn;obtain⟨y,hy,rfl⟩:=hn;exact D.nav_rep h ho hy
 | .pr a b,0::r,cs,o,t',d',⟨c1,c2,hc,h1,h2⟩,ho,hn=>by simp only[SV.shape,Ty.off]at ho;have hle:=Ty.off_le ho;obtain⟨hs,hr⟩:=SV.nav_rep (w:=a) (r:=r) h1 ho hn;refine⟨hs,?_⟩;have hl:=h1.length;rw[hc,zGQ (by omega),zGP (by rw[zGY];omega)];exact hr
 | .pr a b,(k+1)::r,cs,o,t',d',⟨c1,c2,hc,h1,h2⟩,ho,hn=>by simp only[SV.shape,Ty.off,zGj]at ho;obtain⟨x,hx,ho⟩:=ho;cases ho;obtain⟨hs,hr⟩:=SV.nav_rep (w:=b) (r:=k::r) h2 hx hn;refine⟨hs,?_⟩;have hl:=h1.length;rw[hc,zGI,zGi (by omega)];simpa[hl]using hr
 | .ar n t f,i::r,cs,o,t',d',⟨g,hc,hg⟩,ho,hn=>by
  simp only[SV.shape,Ty.off]at ho;split at ho
  ·rename_i hi;simp only[zGj]at ho;obtain⟨x,hx,ho⟩:=ho;cases ho;have hle:=Ty.off_le hx;obtain⟨hs,hr⟩:=SV.nav_rep (w:=f i) (r:=r) (hg i hi).2 (by rw[(hg i hi).1];exact hx) hn;refine⟨hs,?_⟩;have hp:=zdt (k:=t.size) (fun j hj=>by rw[(hg j hj).2.length,(hg j hj).1]) hi;rw[←hp,←hc,zbf hle]at hr;exact hr
  ·cases ho
 | .pt _ _,_::_,_,_,_,_,_,_,hn| .el _,_::_,_,_,_,_,_,_,hn| .fn _ _,_::_,_,_,_,_,_,_,hn| .ow _ _ _ _ _,_::_,_,_,_,_,_,_,hn| .tu _,_::_,_,_,_,_,_,_,hn| .ob _,_::_,_,_,_,_,_,_,hn| .fb _ _,_::_,_,_,_,_,_,_,hn=>by simp[SV.nav]at hn
theorem zwi{c1 c2 vs:List Value}{o k:Nat}(h:o+k≤c1.length):(c1++c2).take o++vs++(c1++c2).drop (o+k)=(c1.take o++vs++c1.drop (o+k))++c2:=by rw[zGP (by omega),zGQ (by omega)];simp
theorem zwj{c1 c2 vs:List Value}{o k n:Nat}(h:c1.length=n):(c1++c2).take (n+o)++vs++(c1++c2).drop (n+o+k)=c1++(c2.take o++vs++c2.drop (o+k)):=by subst h;rw[zGJ,zGN (by omega),zGI,zGi (by omega)];simp[zG0]
theorem D.setS_rep{ro:Ro}{bl:Bl}:∀{d:D} {r:List Nat} {cs:List Value} {o:Nat} {t':Ty} {v d':SV} {vs:List Value},zbg ro d cs→d.shape.off r=some (o,t')→zb5 ro bl v vs→v.shape=t'→
 d.setS r v=some d'→d'.shape=d.shape∧zb5 ro bl d' (cs.take o++vs++cs.drop (o+t'.size))
 |d,[],cs,o,t',v,d',vs,h,ho,hv,hs,hd=>by
  have hl:=h.length;have e:d'=v:=by unfold D.setS at hd;simpa using hd.symm
  subst e;obtain⟨rfl,rfl⟩:=zln ho;refine⟨hs,?_⟩;rw[zG2,zGi (by omega)];simpa using hv
 | .pr a b,0::r,cs,o,t',v,d',vs,⟨c1,c2,hc,h1,h2⟩,ho,hv,hs,hd=>by simp only[D.shape,Ty.off]at ho;have hle:=Ty.off_le ho;simp only[D.setS,zGj]at hd;obtain⟨y,hy,rfl⟩:=hd;obtain⟨hs',hr⟩:=D.setS_rep (d:=a) (r:=r) h1 ho hv hs hy;have hl:=h1.length;refine⟨by simp only[SV.shape,D.shape,hs'],_,c2,?_,hr,h2⟩;rw[hc,zwi (by omega)]
 | .pr a b,(k+1)::r,cs,o,t',v,d',vs,⟨c1,c2,hc,h1,h2⟩,ho,hv,hs,hd=>by simp only[D.shape,Ty.off,zGj]at ho;obtain⟨x,hx,ho⟩:=ho;cases ho;simp only[D.setS,zGj]at hd;obtain⟨y,hy,rfl⟩:=hd;obtain⟨hs',hr⟩:=D.setS_rep (d:=b) (r:=k::r) h2 hx hv hs hy;have hl:=h1.length;refine⟨by simp only[SV.shape,D.shape,hs'],c1,_,?_,h1,hr⟩;rw[hc,zwj hl]
 | .ar n t f,i::r,cs,o,t',v,d',vs,⟨g,hc,hg⟩,ho,hv,hs,hd=>by
  simp only[D.shape,Ty.off]at ho;split at ho
  ·rename_i hi;simp only[zGj]at ho;obtain⟨x,hx,ho⟩:=ho;cases ho;have hle:=Ty.off_le hx;simp only[D.setS,zGj]at hd;obtain⟨y,hy,rfl⟩:=hd;obtain⟨hs',hr⟩:=D.setS_rep (d:=f i) (r:=r) (hg i hi).2 (by rw[(hg i hi).1];exact hx) hv hs hy;have hk:∀j,j<n→(g j).length=t.size:=fun j hj=>by rw[(hg j hj).2.length,(hg j hj).1]
   refine⟨rfl,zaq g i (((g i).take x.1)++vs++(g i).drop (x.1+x.2.size)),by rw[hc,zkI hk hi hle],fun j hj=>?_⟩;unfold zaq;split
   ·rename_i hj;subst hj;exact⟨by rw[hs',(hg j hi).1],hr⟩
   ·exact hg j hj
  ·cases ho
 | .z ..,_::_,_,_,_,_,_,_,_,_,_,_,hd| .bo ..,_::_,_,_,_,_,_,_,_,_,_,_,hd| .st ..,_::_,_,_,_,_,_,_,_,_,_,_,hd| .np,_::_,_,_,_,_,_,_,_,_,_,_,hd
 | .nf,_::_,_,_,_,_,_,_,_,_,_,_,hd| .ni,_::_,_,_,_,_,_,_,_,_,_,_,hd| .nm,_::_,_,_,_,_,_,_,_,_,_,_,hd| .ic ..,_::_,_,_,_,_,_,_,_,_,_,_,hd| .sl ..,_::_,_,_,_,_,_,_,_,_,_,_,hd| .un,_::_,_,_,_,_,_,_,_,_,_,_,hd=>by simp[D.setS]at hd
theorem SV.set_rep{ro:Ro}{bl:Bl}:∀{w:SV} {r:List Nat} {cs:List Value} {o:Nat} {t':Ty} {v w':SV} {vs:List Value},zb5 ro bl w cs→w.shape.off r=some (o,t')→zb5 ro bl v vs→v.shape=t'→
 w.set r v=some w'→w'.shape=w.shape∧zb5 ro bl w' (cs.take o++vs++cs.drop (o+t'.size))
 |w,[],cs,o,t',v,w',vs,h,ho,hv,hs,hd=>by
  have hl:=h.length;have e:w'=v:=by unfold SV.set at hd;simpa using hd.symm
  subst e;obtain⟨rfl,rfl⟩:=zln ho;refine⟨hs,?_⟩;rw[zG2,zGi (by omega)];simpa using hv
 | .d x,k::r,cs,o,t',v,w',vs,h,ho,hv,hs,hd=>by
  cases v with
  |d y=>simp only[SV.set,zGh]at hd;subst hd;exact D.set_rep h ho hv hs
  |pt _ _|el _|fn _ _|ow _ _ _ _ _|pr _ _|tu _|ob _|ar _ _ _|fb _ _=>exact D.setS_rep h ho hv hs hd
 | .pr a b,0::r,cs,o,t',v,w',vs,⟨c1,c2,hc,h1,h2⟩,ho,hv,hs,hd=>by simp only[SV.shape,Ty.off]at ho;have hle:=Ty.off_le ho;simp only[SV.set,zGj]at hd;obtain⟨y,hy,rfl⟩:=hd;obtain⟨hs',hr⟩:=SV.set_rep (w:=a) (r:=r) h1 ho hv hs hy;have hl:=h1.length;refine⟨by simp only[SV.shape,hs'],_,c2,?_,hr,h2⟩;rw[hc,zwi (by omega)]
 | .pr a b,(k+1)::r,cs,o,t',v,w',vs,⟨c1,c2,hc,h1,h2⟩,ho,hv,hs,hd=>by simp only[SV.shape,Ty.off,zGj]at ho;obtain⟨x,hx,ho⟩:=ho;cases ho;simp only[SV.set,zGj]at hd;obtain⟨y,hy,rfl⟩:=hd;obtain⟨hs',hr⟩:=SV.set_rep (w:=b) (r:=k::r) h2 hx hv hs hy;have hl:=h1.length;refine⟨by simp only[SV.shape,hs'],c1,_,?_,h1,hr⟩;rw[hc,zwj hl]
 | .ar n t f,i::r,cs,o,t',v,w',vs,⟨g,hc,hg⟩,ho,hv,hs,hd=>by
  simp only[SV.shape,Ty.off]at ho;split at ho
  ·rename_i hi;simp only[zGj]at ho;obtain⟨x,hx,ho⟩:=ho;cases ho;have hle:=Ty.off_le hx;simp only[SV.set,zGj]at hd;obtain⟨y,hy,rfl⟩:=hd;obtain⟨hs',hr⟩:=SV.set_rep (w:=f i) (r:=r) (hg i hi).2 (by rw[(hg i hi).1];exact hx) hv hs hy;have hk:∀j,j<n→(g j).length=t.size:=fun j hj=>by rw[(hg j hj).2.length,(hg j hj).1]
   refine⟨rfl,zaq g i (((g i).take x.1)++vs++(g i).drop (x.1+x.2.size)),by rw[hc,zkI hk hi hle],fun j hj=>?_⟩;unfold zaq;split
   ·rename_i hj;subst hj;exact⟨by rw[hs',(hg j hi).1],hr⟩
   ·exact hg j hj
  ·cases ho
 | .ob _,_::_,_,_,_,_,_,_,_,_,_,_,hd| .fb _ _,_::_,_,_,_,_,_,_,_,_,_,_,hd| .pt _ _,_::_,_,_,_,_,_,_,_,_,_,_,hd| .el _,_::_,_,_,_,_,_,_,_,_,_,_,hd| .ow _ _ _ _ _,_::_,_,_,_,_,_,_,_,_,_,_,hd| .fn _ _,_::_,_,_,_,_,_,_,_,_,_,_,hd| .tu _,_::_,_,_,_,_,_,_,_,_,_,_,hd=>by simp[SV.set]at hd
inductive Ent where
 |put (t:Nat) (v:SV)|kill (l:List Nat)
def look:List Ent→Nat→Option SV
 |[],_=>none
 | .put t v::r,n=>match Nat.beq t n with
  |true=>some v
  |false=>look r n
 | .kill l::r,n=>match l.any (Nat.beq n)with
  |true=>none
  |false=>look r n
inductive LSt where
 |ready|busy|done (j:Code)|over
def LSt.state:LSt→LoopState
 | .ready=>.ready| .busy=>.busy| .done _=>.done| .over=>.exhausted
def LSt.pend:LSt→Option Code→Prop
 | .ready,p=>p=none| .done j,p=>p=some j|_,_=>True
inductive Ob where
 |row (ver n:Nat) (t:Ty) (f:Nat→D)|loop (ps:List Nat) (as body:Code) (N:Nat) (fr:List Ent) (st:LSt)|map (k:IntKind) (l:List (Int×SV))|dead
structure MS where
 c:List SV
 t:List Nat
 o:List Ob
def Bl.hb(bl:Bl)(b:Nat):Prop:=(∃(id:Nat) (x:Nat×Ty),bl.b[id]?=some x∧x.1=b)∨(∃(id:Nat) (e:Option Nat×Nat×Nat),bl.t[id]?=some e∧e.1=some b)∨(∃(id:Nat) (x:BO),bl.o[id]?=some x∧x.blk=some b)
def Bl.has(bl:Bl)(b:Nat):Prop:=bl.hb b∨b∈bl.k
theorem Bl.hb_b{bl:Bl}{id blk:Nat}{t:Ty}(h:bl.b[id]?=some (blk,t)):bl.hb blk:=.inl ⟨id,_,h,rfl⟩
theorem Bl.hb_t{bl:Bl}{id blk:Nat}{e:Option Nat×Nat×Nat}(h:bl.t[id]?=some e)(he:e.1=some blk):bl.hb blk:=.inr (.inl ⟨id,e,h,he⟩)
theorem Bl.hb_o{bl:Bl}{id blk:Nat}{x:BO}(h:bl.o[id]?=some x)(he:x.blk=some blk):bl.hb blk:=.inr (.inr ⟨id,x,h,he⟩)
structure Gr (ro:Ro) (bl:Bl) (w:World) (ro':Ro) (bl':Bl) (w':World):Prop where
 os:w'.os=w.os
 tape:w'.tape=w.tape
 output:w'.output=w.output
 size:w.heap.size≤w'.heap.size
 old:∀b,b<w.heap.size→¬bl.hb b→w'.heap[b]?=w.heap[b]?∧ro' b=ro b
 le:Le ro bl ro' bl'
 new:∀b,bl'.hb b→bl.hb b∨w.heap.size≤b
 k:bl'.k=bl.k
theorem Gr.refl(ro:Ro)(bl:Bl)(w:World):Gr ro bl w ro bl w:=⟨rfl,rfl,rfl,zF5 _,fun _ _ _=>⟨rfl,rfl⟩,Le.refl _ _,fun _ h=>.inl h,rfl⟩
theorem Gr.trans{ro ro1 ro2:Ro}{bl bl1 bl2:Bl}{w w1 w2:World}(h:Gr ro bl w ro1 bl1 w1)(k:Gr ro1 bl1 w1 ro2 bl2 w2):Gr ro bl w ro2 bl2 w2 where
 os:=k.os.trans h.os
 tape:=k.tape.trans h.tape
 output:=k.output.trans h.output
 size:=zFU h.size k.size
 old b hb hn:=by
  obtain⟨h1,h2⟩:=h.old b hb hn;obtain⟨k1,k2⟩:=k.old b (zIB hb h.size) (fun h3=>by
   rcases h.new b h3 with h4|h4
   ·exact hn h4
   ·omega)
  exact⟨k1.trans h1,k2.trans h2⟩
 le:=h.le.trans k.le
 new b hx:=by
  rcases k.new b hx with h1|h1
  ·exact h.new b h1
  ·exact .inr (zFU h.size h1)
 k:=k.k.trans h.k
def Bl.take(bl:Bl)(n k j:Nat):Bl:=⟨bl.b.take n,bl.t.take k,bl.o.take j,bl.k,bl.g⟩
def Kn(ro:Ro)(w:World):Prop:=∀b row,ro b=some row→∃cells e fz,w.heap[b]?=some (.cells cells e fz)∧row<+:cells.toList
structure GrS (ro:Ro) (S:Nat→Prop) (w:World) (ro':Ro) (S':Nat→Prop) (w':World):Prop where
 os:w'.os=w.os
 tape:w'.tape=w.tape
 output:w'.output=w.output
 size:w.heap.size≤w'.heap.size
 old:∀b,b<w.heap.size→¬S b→w'.heap[b]?=w.heap[b]?∧ro' b=ro b
 r:ro.le ro'
 new:∀b,S' b→S b∨w.heap.size≤b
theorem Gr.s{ro ro':Ro}{bl bl':Bl}{w w':World}(h:Gr ro bl w ro' bl' w'):GrS ro bl.has w ro' bl'.has w' where
 os:=h.os
 tape:=h.tape
 output:=h.output
 size:=h.size
 old b hb hn:=h.old b hb (fun h1=>hn (.inl h1))
 r:=h.le.r
 new b hb:=by
  rcases hb with hb|hb
  ·rcases h.new b hb with h1|h1
   ·exact .inl (.inl h1)
   ·exact .inr h1
  ·exact .inl (.inr (h.k▸hb))
theorem GrS.sub{ro:Ro}{S S':Nat→Prop}{w:World}(h:∀b,S' b→S b):GrS ro S w ro S' w:=⟨rfl,rfl,rfl,zF5 _,fun _ _ _=>⟨rfl,rfl⟩,Ro.le_refl _,fun b hb=>.inl (h b hb)⟩
structure Gh where
 Y:Ro→(Nat→Prop)→World→Prop
 on:∀{ro S w ro' S' w'},Y ro S w→GrS ro S w ro' S' w'→Kn ro' w'→Y ro' S' w'
def zy5(ro:Ro)(bl:Bl)(fr:List Ent)(tmps:Array Value):Prop:=∀t v,look fr t=some v→zaX ro bl v (tmps.getD t undef)
def zeS(ro:Ro)(bl:Bl)(k:IntKind):List (Int×SV)→List MapEntry→Prop
 |[],[]=>True
 |p::r,e::es=>(e.key=.int k p.1∧zaX ro bl p.2 e.val)∧zeS ro bl k r es
 |_,_=>False
theorem zeS.mono{ro ro':Ro}{bl bl':Bl}(hl:Le ro bl ro' bl'){k:IntKind}:∀{l:List (Int×SV)} {es:List MapEntry},zeS ro bl k l es→zeS ro' bl' k l es
 |[],[],_=>trivial
 |_::_,_::_,h=>⟨⟨h.1.1,h.1.2.mono hl⟩,h.2.mono hl⟩
 |[],_::_,h=>h.elim
 |_::_,[],h=>h.elim
def zqz(ro:Ro)(bl:Bl)(w:World):Ob→BO→Prop
 | .row ver n t f,.row v b n' c s=>ver=v∧n=n'∧s=t.size∧n≤c∧(b=none→c=0)∧∀k,b=some k→ro k=none∧∃cells ty,w.heap[k]?=some (.cells cells ty (0,0))∧cells.size=c*s∧
  ∀i,i<n→(f i).shape=t∧zbg ro (f i) ((cells.toList.drop (i*s)).take s)
 | .loop ps as body N fr st,.loop l=>∃fn tmps df pend,w.heap[l]?=some (.loop {state:=st.state,pending:=pend,fn:=fn,tmps:=tmps,params:=ps.toArray,assign:=as,body:=body,defers:=df})∧st.pend pend∧tmps.size=N∧(st≠.over→zy5 ro bl fr tmps)
 | .map k l,.map r=>∃es clock,w.heap[r]?=some (.map es clock)∧zeS ro bl k l es.toList
 | .dead,.dead=>True
 |_,_=>False
theorem zqz.to{ro ro':Ro}{bl bl':Bl}{w w':World}{x:Ob}{y:BO}(h:zqz ro bl w x y)(hl:Le ro bl ro' bl')(hw:∀b,y.blk=some b→w'.heap[b]?=w.heap[b]?∧ro' b=ro b):zqz ro' bl' w' x y:=by
 cases x<;>cases y<;>first|exact h.elim|skip
 ·obtain⟨h1,h2,h3,h4,h5,h6⟩:=h;refine⟨h1,h2,h3,h4,h5,fun k hk=>?_⟩;obtain⟨g1,cells,ty,g2,g3,g4⟩:=h6 k hk;obtain⟨e1,e2⟩:=hw k hk;exact⟨e2.trans g1,cells,ty,e1.trans g2,g3,fun i hi=>⟨(g4 i hi).1,(g4 i hi).2.mono hl.r⟩⟩
 ·obtain⟨fn,tmps,df,pend,h1,h2,h3,h4⟩:=h;exact⟨fn,tmps,df,pend,(hw _ rfl).1.trans h1,h2,h3,fun hst t v hv=>(h4 hst t v hv).mono hl⟩
 ·obtain⟨es,clock,h1,h2⟩:=h;exact⟨es,clock,(hw _ rfl).1.trans h1,h2.mono hl⟩
 ·trivial
theorem zqz.blk{ro:Ro}{bl:Bl}{w:World}{x:Ob}{y:BO}(h:zqz ro bl w x y){b:Nat}(hb:y.blk=some b):b<w.heap.size:=by
 have key:∀{o:Obj},w.heap[b]?=some o→b<w.heap.size:=fun h=>(zIq.1 h).1;cases x<;>cases y<;>first|exact h.elim|skip
 ·obtain⟨_,_,_,_,_,h6⟩:=h;obtain⟨_,_,_,h,_⟩:=h6 b hb;exact key h
 ·obtain⟨_,_,_,_,h,_⟩:=h;cases hb;exact key h
 ·obtain⟨_,_,h,_⟩:=h;cases hb;exact key h
 ·cases hb
structure MemC (ro:Ro) (bl:Bl) (m:MS) (w:World):Prop where
 len:bl.b.length=m.c.length
 ver:bl.t.map (·.2.1)=m.t
 box:∀(id blk:Nat) t v,bl.b[id]?=some (blk,t)→m.c[id]?=some v→∃cells e,w.heap[blk]?=some (.cells cells e (0,0))∧zb5 ro bl v cells.toList∧v.shape=t∧ro blk=none
 inj:∀(i j:Nat) x y,bl.b[i]?=some x→bl.b[j]?=some y→x.1=y.1→i=j
 tail:∀(id:Nat) e blk,bl.t[id]?=some e→e.1=some blk→∃row cells ty,ro blk=some row∧w.heap[blk]?=some (.cells cells ty (0,0))∧cells.size=e.2.2
 tinj:∀(i j:Nat) e e' blk,bl.t[i]?=some e→bl.t[j]?=some e'→e.1=some blk→e'.1=some blk→i=j
 known:Kn ro w
 olen:bl.o.length=m.o.length
 obj:∀(id:Nat) y x,bl.o[id]?=some y→m.o[id]?=some x→zqz ro bl w x y
 oinj:∀(i j:Nat) x y b,bl.o[i]?=some x→bl.o[j]?=some y→x.blk=some b→y.blk=some b→i=j
 bo:∀(i j:Nat) x y,bl.b[i]?=some x→bl.o[j]?=some y→y.blk≠some x.1
def zeH:List (Int×FuncId):=[(1,291),(2,292),(3,293),(4,294),(5,295),(6,296),
 (7,297),(8,298),(9,299),(10,300),(11,301),(12,302),
 (13,303),(14,304),(15,305),(16,305),(17,306),
 (18,307),(19,308),(20,309),(21,310),(22,311)]
def ziS:List (Int×FuncId)→Int→Option FuncId
 |[],_=>none
 |(k,f)::r,n=>if k=n then some f else ziS r n
structure GlobOk (g:Nat) (w:World):Prop where
 var:∃cells ty fz,w.heap[0]?=some (.cells cells ty fz)∧cells[0]?=some (.map (some g))
 map:∃es clock,w.heap[g]?=some (.map es clock)∧∀n:Int,(Instr.findNow (.int .u8) (.int .u8 n) es.toList 0=some none∧ziS zeH n=none)∨∃i f,Instr.findNow (.int .u8) (.int .u8 n) es.toList 0=some (some (i,.func (.func f) #[] #[]))∧ziS zeH n=some f
structure Mem (E:Gh) (ro:Ro) (bl:Bl) (m:MS) (w:World):Prop extends MemC ro bl m w where
 gh:E.Y ro bl.has w
 glob:GlobOk bl.g w
 gno:¬bl.hb 0∧¬bl.hb bl.g
 marks:∀D∈bl.k,w.heap[D]?=some (.deferred (some []))
section
variable {ro:Ro} {bl:Bl} {m:MS} {w:World}
theorem MemC.get_b(h:MemC ro bl m w){id:Nat}{x:Nat×Ty}(hb:bl.b[id]?=some x):∃v,m.c[id]?=some v:=⟨_,zHa (by rw[←h.len];exact(zGf.1 hb).1)⟩
theorem MemC.get_o(h:MemC ro bl m w){id:Nat}{x:BO}(hb:bl.o[id]?=some x):∃v,m.o[id]?=some v:=⟨_,zHa (by rw[←h.olen];exact(zGf.1 hb).1)⟩
theorem MemC.box_none(h:MemC ro bl m w){id blk:Nat}{t:Ty}(hb:bl.b[id]?=some (blk,t)):ro blk=none:=by obtain⟨v,hv⟩:=h.get_b hb;obtain⟨_,_,_,_,_,h4⟩:=h.box id blk t _ hb hv;exact h4
theorem MemC.known_lt(h:MemC ro bl m w){b:Nat}{row:List Value}(hb:ro b=some row):b<w.heap.size:=by obtain⟨_,_,_,h1,_⟩:=h.known b row hb;exact(zIq.1 h1).1
theorem MemC.obj_none(h:MemC ro bl m w){id b:Nat}{y:BO}(hy:bl.o[id]?=some y)(hb:y.blk=some b):ro b=none:=by
 obtain⟨x,hx⟩:=h.get_o hy;have hO:=h.obj id y x hy hx;cases hr:ro b with
 |none=>rfl
 |some row=>
  obtain⟨_,_,_,h1,_⟩:=h.known b row hr;cases x<;>cases y<;>first|exact hO.elim|skip
  ·obtain⟨_,_,_,_,_,h6⟩:=hO;rw[(h6 b hb).1]at hr;cases hr
  ·obtain⟨_,_,_,_,h2,_⟩:=hO;cases hb;rw[h2]at h1;cases h1
  ·obtain⟨_,_,h2,_⟩:=hO;cases hb;rw[h2]at h1;cases h1
  ·cases hb
theorem MemC.hb_lt(h:MemC ro bl m w){b:Nat}(hb:bl.hb b):b<w.heap.size:=by
 rcases hb with⟨id,x,hx,rfl⟩|⟨id,e,he,hb⟩|⟨id,y,hy,hb⟩
 ·obtain⟨v,hv⟩:=h.get_b hx;obtain⟨cells,e,hc,_⟩:=h.box id x.1 x.2 v hx hv;exact(zIq.1 hc).1
 ·obtain⟨_,_,_,_,h2,_⟩:=h.tail id e b he hb;exact(zIq.1 h2).1
 ·obtain⟨x,hx⟩:=h.get_o hy;exact(h.obj id y x hy hx).blk hb
theorem MemC.mark_ne(h:MemC ro bl m w){D:Nat}(hD:w.heap[D]?=some (.deferred (some []))):¬bl.hb D:=by
 rintro(⟨id,x,hx,rfl⟩|⟨id,e,he,hb⟩|⟨id,y,hy,hb⟩)
 ·obtain⟨v,hv⟩:=h.get_b hx;obtain⟨cells,e',hc,_⟩:=h.box id x.1 x.2 v hx hv;rw[hD]at hc;cases hc
 ·obtain⟨_,_,_,_,h2,_⟩:=h.tail id e D he hb;rw[hD]at h2;cases h2
 ·obtain⟨x,hx⟩:=h.get_o hy;have hO:=h.obj id y x hy hx;cases x<;>cases y<;>first|exact hO.elim|skip
  ·obtain⟨_,_,_,_,_,h6⟩:=hO;obtain⟨_,_,_,h6,_⟩:=h6 D hb;rw[hD]at h6;cases h6
  ·obtain⟨_,_,_,_,h2,_⟩:=hO;cases hb;rw[hD]at h2;cases h2
  ·obtain⟨_,_,h2,_⟩:=hO;cases hb;rw[hD]at h2;cases h2
  ·cases hb
end
variable {E:Gh}
theorem GlobOk.lt{g:Nat}{w:World}(h:GlobOk g w):0<w.heap.size∧g<w.heap.size:=by obtain⟨⟨_,_,_,h1,_⟩,⟨_,_,h2,_⟩⟩:=h;exact⟨(zIq.1 h1).1,(zIq.1 h2).1⟩
theorem GlobOk.to{g:Nat}{w w':World}(h:GlobOk g w)(h0:w'.heap[0]?=w.heap[0]?)(h1:w'.heap[g]?=w.heap[g]?):GlobOk g w':=⟨by rw[h0];exact h.var,by rw[h1];exact h.map⟩
theorem Mem.to{ro ro':Ro}{bl bl':Bl}{m m':MS}{w w':World}(h:Mem E ro bl m w)(hG:Gr ro bl w ro' bl' w')(hC:MemC ro' bl' m' w'):Mem E ro' bl' m' w':=⟨hC,E.on h.gh hG.s hC.known,by
 rw[hG.le.g];exact h.glob.to (hG.old 0 h.glob.lt.1 h.gno.1).1 (hG.old bl.g h.glob.lt.2 h.gno.2).1,by
 rw[hG.le.g];have hl:=h.glob.lt;exact⟨fun hb=>(hG.new 0 hb).elim h.gno.1 (by omega),fun hb=>(hG.new bl.g hb).elim h.gno.2 (by omega)⟩,fun D hD=>by
 rw[hG.k]at hD;have hd:=h.marks D hD;rw[(hG.old D (zIq.1 hd).1 (h.mark_ne hd)).1];exact hd⟩
theorem Mem.gno_to{ro ro':Ro}{bl bl':Bl}{m:MS}{w w':World}(h:Mem E ro bl m w)(hG:Gr ro bl w ro' bl' w'):¬bl'.hb 0∧¬bl'.hb bl.g:=by have hl:=h.glob.lt;exact⟨fun hb=>(hG.new 0 hb).elim h.gno.1 (by omega),fun hb=>(hG.new bl.g hb).elim h.gno.2 (by omega)⟩
theorem Mem.both{ro ro':Ro}{bl bl':Bl}{m m':MS}{w w':World}(h:Mem E ro bl m w)(hC:MemC ro' bl' m' w')(hG:Gr ro bl w ro' bl' w'):Mem E ro' bl' m' w'∧Gr ro bl w ro' bl' w':=⟨h.to hG hC,hG⟩
theorem Mem.lt{ro:Ro}{bl:Bl}{m:MS}{w:World}(h:Mem E ro bl m w){id:Nat}{x:Nat×Ty}(hb:bl.b[id]?=some x):x.1<w.heap.size:=h.hb_lt (.inl ⟨id,x,hb,rfl⟩)
theorem Gr.drew(ro:Ro)(bl:Bl)(w:World):Gr ro bl w ro bl w.drew:=⟨rfl,rfl,rfl,zF5 _,fun _ _ _=>⟨rfl,rfl⟩,Le.refl _ _,fun _ h=>.inl h,rfl⟩
theorem MemC.heap{ro:Ro}{bl:Bl}{m:MS}{w w':World}(h:MemC ro bl m w)(hw:w'.heap=w.heap):MemC ro bl m w':=
 ⟨h.len,h.ver,fun id blk t v hb hc=>by rw[hw];exact h.box id blk t v hb hc,h.inj,fun id e blk he hb=>by rw[hw];exact h.tail id e blk he hb,h.tinj,fun b row hr=>by rw[hw];exact h.known b row hr,h.olen,
  fun id y x hy hx=>(h.obj id y x hy hx).to (Le.refl _ _) fun b _=>⟨by rw[hw],rfl⟩,h.oinj,h.bo⟩
theorem Mem.drew{ro:Ro}{bl:Bl}{m:MS}{w:World}(h:Mem E ro bl m w):Mem E ro bl m w.drew:=h.to (Gr.drew ro bl w) (h.toMemC.heap rfl)
def Bl.add(bl:Bl)(x:Nat×Ty):Bl:=⟨bl.b++[x],bl.t,bl.o,bl.k,bl.g⟩
theorem zbB{α:Type}{l:List α}{i:Nat}{x y:α}(h:(l++[x])[i]?=some y):(i=l.length∧y=x)∨l[i]?=some y:=by
 rcases zGc i l.length with hi|hi
 ·rw[zH2 hi]at h;exact .inr h
 ·rw[zHY hi]at h;obtain⟨h1,h2⟩:=zGf.1 h;simp at h1;have h0:i - l.length=0:=by omega
  simp[h0]at h2;exact .inl ⟨by omega,h2.symm⟩
theorem zhk{α:Type}{l:List α}{i:Nat}{x y:α}(h:l[i]?=some y):(l++[x])[i]?=some y:=by rw[zH2 (zGf.1 h).1];exact h
theorem zbl{α:Type}{l:List α}{x:α}:(l++[x])[l.length]?=some x:=by rw[zHY (zF5 _)];simp
theorem zb1{α:Type}{l:List α}{k i:Nat}{x y:α}(h:(l.set k x)[i]?=some y):(i=k∧y=x)∨(i≠k∧l[i]?=some y):=by
 rw[zIw]at h;split at h
 ·rename_i hk;split at h
  ·cases h;exact .inl ⟨hk.symm,rfl⟩
  ·cases h
 ·rename_i hk;exact .inr ⟨fun e=>hk e.symm,h⟩
theorem zec{α:Type}{l:List α}{k:Nat}{x y:α}(h:l[k]?=some y):(l.set k x)[k]?=some x:=zIv (zGf.1 h).1
theorem zj8{α:Type}{l:List α}{k i:Nat}{x y:α}(h:l[i]?=some y)(hi:i≠k):(l.set k x)[i]?=some y:=by rw[zIC (zIj hi)];exact h
theorem Mem.alloc{ro:Ro}{bl:Bl}{m:MS}{w:World}(h:Mem E ro bl m w){v:SV}{cells:List Value}(hv:zb5 ro bl v cells)(e:TypeId):
 Mem E ro (bl.add (w.heap.size,v.shape)) ⟨m.c++[v],m.t,m.o⟩ (w.alloc (.cells cells.toArray e))∧Gr ro bl w ro (bl.add (w.heap.size,v.shape)) (w.alloc (.cells cells.toArray e)):=by
 have hle:Le ro bl ro (bl.add (w.heap.size,v.shape)):=⟨Ro.le_refl _,fun id x hx=>zhk hx,(Le.refl ro bl).t,(Le.refl ro bl).o,rfl⟩;have hG:Gr ro bl w ro (bl.add (w.heap.size,v.shape)) (w.alloc (.cells cells.toArray e)):=⟨rfl,rfl,rfl,by simp,fun b hb _=>⟨Below.heap_alloc _ _ _ hb,rfl⟩,hle,fun b hx=>by
  rcases hx with⟨id,x,hx,rfl⟩|hx
  ·rcases zbB hx with⟨_,rfl⟩|h1
   ·exact .inr (zF5 _)
   ·exact .inl (.inl ⟨id,x,h1,rfl⟩)
  ·exact .inl (.inr hx),rfl⟩
 refine h.both ⟨by simp[Bl.add,h.len],h.ver,fun id blk t u hb hc=>?_,fun i j x y hx hy he=>?_,fun id e' blk hi he=>?_,h.tinj,fun b row hr=>?_,h.olen,fun id y x hy hx=>?_,h.oinj,fun i j x y hx hy he=>?_⟩ hG
 ·rcases zbB hb with⟨rfl,he⟩|hb
  ·cases he;rw[h.len,zHY (zF5 _)]at hc;simp at hc;subst hc;refine⟨cells.toArray,e,(by show(w.heap.push _)[w.heap.size]?=_;simp),by simpa using hv.mono hle,rfl,?_⟩;cases hr:ro w.heap.size with
   |none=>rfl
   |some row=>exact absurd (h.known_lt hr) (zH0 _)
  ·rw[zH2 (by rw[←h.len];exact(zGf.1 hb).1)]at hc;obtain⟨cl,e',h1,h2,h3⟩:=h.box id blk t u hb hc;exact⟨cl,e',(Below.heap_alloc _ _ _ (zIq.1 h1).1).trans h1,h2.mono hle,h3⟩
 ·rcases zbB hx with⟨rfl,rfl⟩|hx
  ·rcases zbB hy with⟨rfl,rfl⟩|hy
   ·rfl
   ·have:=h.lt hy;simp at he;omega
  ·rcases zbB hy with⟨rfl,rfl⟩|hy
   ·have:=h.lt hx;simp at he;omega
   ·exact h.inj i j x y hx hy he
 ·obtain⟨row,cl,ty,h1,h2,h3⟩:=h.tail id e' blk hi he;exact⟨row,cl,ty,h1,(Below.heap_alloc _ _ _ (zIq.1 h2).1).trans h2,h3⟩
 ·obtain⟨cl,e',fz,h1,h2⟩:=h.known b row hr;exact⟨cl,e',fz,(Below.heap_alloc _ _ _ (zIq.1 h1).1).trans h1,h2⟩
 ·exact(h.obj id y x hy hx).to hle fun b hb=>⟨Below.heap_alloc _ _ _ ((h.obj id y x hy hx).blk hb),rfl⟩
 ·rcases zbB hx with⟨rfl,rfl⟩|hx
  ·have:=h.hb_lt (Bl.hb_o hy he);simp at this
  ·exact h.bo i j x y hx hy he
theorem Mem.box_none{ro:Ro}{bl:Bl}{m:MS}{w:World}(h:Mem E ro bl m w){id blk:Nat}{t:Ty}(hb:bl.b[id]?=some (blk,t)):ro blk=none:=h.toMemC.box_none hb
theorem Mem.fill{ro:Ro}{bl:Bl}{m:MS}{w:World}(h:Mem E ro bl m w){id blk:Nat}{t:Ty}(hb:bl.b[id]?=some (blk,t)){v:SV}{cells:List Value}(hv:zb5 ro bl v cells)(hs:v.shape=t):
 Mem E ro bl ⟨m.c.set id v,m.t,m.o⟩ (w.setRow blk cells.toArray)∧Gr ro bl w ro bl (w.setRow blk cells.toArray):=by
 have hne:∀b row,ro b=some row→b≠blk:=fun b row hr e=>by subst e;rw[h.box_none hb]at hr;cases hr
 refine h.both ⟨by simp[h.len],h.ver,fun i b t' u hb' hc=>?_,h.inj,fun i e b hi he=>?_,h.tinj,fun b row hr=>?_,h.olen,fun i y x hy hx=>?_,h.oinj,h.bo⟩ ⟨rfl,rfl,rfl,by simp,fun b hb' hn=>⟨setRow_other _ _ _ _ (fun e=>hn (e▸Bl.hb_b hb)),rfl⟩,Le.refl _ _,fun _ h=>.inl h,rfl⟩
 ·have hlen:id<m.c.length:=by rw[←h.len];exact(zGf.1 hb).1
  by_cases hi:i=id
  ·subst hi;obtain⟨old,e,h1,_,_,h4⟩:=h.box i blk t _ hb (zHa hlen);rw[hb']at hb;cases hb;simp only[zIv hlen]at hc;cases hc;exact⟨cells.toArray,e,setRow_heap _ _ _ _ _ _ h1,by simpa using hv,hs,h4⟩
  ·simp only[zIC (zIj hi)]at hc;obtain⟨old,e,h1,h2⟩:=h.box i b t' u hb' hc;exact⟨old,e,(setRow_other _ _ _ _ (fun e=>hi (h.inj _ _ _ _ hb' hb e))).trans h1,h2⟩
 ·obtain⟨row,cl,ty,h1,h2,h3⟩:=h.tail i e b hi he;exact⟨row,cl,ty,h1,(setRow_other _ _ _ _ (hne b row h1)).trans h2,h3⟩
 ·obtain⟨cl,e',fz,h1,h2⟩:=h.known b row hr;exact⟨cl,e',fz,(setRow_other _ _ _ _ (hne b row hr)).trans h1,h2⟩
 ·exact(h.obj i y x hy hx).to (Le.refl _ _) fun b hb'=>⟨setRow_other _ _ _ _ (fun e=>h.bo _ _ _ _ hb hy (e▸hb')),rfl⟩
end Sx
namespace Sx
variable {E:Gh}
variable {P:Program}
def TF(P:Program)(T:TypeId)(n:Nat)(ag:Bool):Prop:=
 (P.info? T).map (·.size)=some n∧∃d,P.underlying T=some d∧(match d with| .struct _| .array _ _=>true|_=>false)=ag
theorem TF.isAgg{T n ag}(h:TF P T n ag)(w:World):(isAgg T).run P w=.ok ag w:=by obtain⟨_,d,hu,hd⟩:=h;unfold Go.isAgg;rw[Sem.run_bind,run_underlying hu w];cases d<;>simp_all
theorem TF.sizeOf{T n ag}(h:TF P T n ag)(w:World):(sizeOf T).run P w=.ok n w:=by
 obtain⟨hi,_⟩:=h;cases hq:P.info? T with
 |none=>simp[hq]at hi
 |some i=>
  have:i.size=n:=by simpa[hq]using hi
  simp[Go.sizeOf,typeInfo,hq,this]
theorem zbA(b o i:Nat):(⟨b,o,none⟩:Addr).add i=⟨b,o+i,none⟩:=by unfold Addr.add;split<;>simp_all
theorem zcL{w:World}{T blk o n:Nat}{ag:Bool}{cells:Array Value}{e:TypeId}{fz:Nat×Nat}(hT:TF P T n ag)(hg:w.heap[blk]?=some (.cells cells e fz))(hn:o+n≤cells.size)(h1:ag=false→n=1):
 (loadVar T ⟨blk,o,none⟩).run P w=.ok (if ag then .agg ((cells.toList.drop o).take n).toArray else((cells.toList.drop o).take n).headD undef) w:=by
 have hc:∀j v,((cells.toList.drop o).take n)[j]?=some v→w.cell? ((⟨blk,o,none⟩:Addr).add j)=some v:=by
  intro j v hj;rw[zbA,cell_of_row w blk _ cells e fz hg];have hlt:j<n:=by
   rcases zGc j n with h|h
   ·exact h
   ·rw[zIg,if_neg (by omega)]at hj;cases hj
  rw[zIb hlt,zHy]at hj;simpa using hj
 have hl:=run_loadCells_list (P:=P) w ⟨blk,o,none⟩ ((cells.toList.drop o).take n) hc;have hlen:((cells.toList.drop o).take n).length=n:=by simp;omega
 rw[hlen]at hl;cases ag with
 |true=>simp[loadVar,Sem.run_bind,hT.isAgg,hT.sizeOf,hl]
 |false=>
  have:=h1 rfl;subst this;have h0:∃x,(cells.toList.drop o).take 1=[x]:=by
   match h:(cells.toList.drop o).take 1,hlen with
   |[x],_=>exact⟨x,rfl⟩
  obtain⟨x,hx⟩:=h0;have:=hc 0 x (by rw[hx];rfl);rw[zbA,zHZ]at this;simp[loadVar,Sem.run_bind,hT.isAgg,hx,this]
theorem zsl{ro:Ro}{bl:Bl}{m:MS}{w:World}(hM:Mem E ro bl m w){id blk:Nat}{t:Ty}(hb:bl.b[id]?=some (blk,t)){v v':SV}(hc:m.c[id]?=some v){path:List Nat}{o:Nat}{t':Ty}
 (ho:t.off path=some (o,t'))(hn:v.nav path=some v'){T:TypeId}(hT:TF P T v'.shape.size v'.agg):
 ∃x,(loadVar T ⟨blk,o,none⟩).run P w=.ok x w∧zcD ro bl v' x:=by
 obtain⟨cells,e,hg,hr,hs,_⟩:=hM.box id blk t v hb hc;subst hs;obtain⟨hs',hr'⟩:=SV.nav_rep hr ho hn;subst hs';have hle:=Ty.off_le ho;have hl:=hr.length;refine⟨_,zcL hT hg (by simp at hl;omega) (fun h=>by rw[SV.shape_c h];rfl),zcD.of_cells hr'⟩
theorem zvn{ro:Ro}{bl:Bl}{m:MS}{w:World}(hM:Mem E ro bl m w){id blk:Nat}{t:Ty}(hb:bl.b[id]?=some (blk,t)){v u v':SV}(hc:m.c[id]?=some v){path:List Nat}{o:Nat}{t':Ty}
 (ho:t.off path=some (o,t'))(hs:u.shape=t')(hn:v.set path u=some v'){T:TypeId}(hT:(P.info? T).map (·.size)=some u.shape.size){x:Value}(hx:zcD ro bl u x):
 ∃w',(storeVar T ⟨blk,o,none⟩ x).run P w=.ok () w'∧Mem E ro bl ⟨m.c.set id v',m.t,m.o⟩ w'∧Gr ro bl w ro bl w':=by
 obtain⟨cells,e,hg,hr,hst,_⟩:=hM.box id blk t v hb hc;subst hst;have hxc:=hx.cells;have hle:=Ty.off_le ho;have hl:=hr.length;have hxl:=hxc.length;subst hs;obtain⟨hs',hr'⟩:=SV.set_rep hr ho hxc rfl hn;have hst:=run_storeCells_at P blk o e x.cells.toList 0 cells w hg (by simp at hl hxl ⊢;omega) hxc.one;have hsz:x.cells.size=u.shape.size:=by simpa using hxl
 obtain⟨h1,h2⟩:=hM.fill hb hr' hs';refine⟨_,?_,h1,h2⟩;cases hq:P.info? T with
 |none=>simp[hq]at hT
 |some i=>
  have hi:i.size=u.shape.size:=by simpa[hq]using hT
  simp only[storeVar,Sem.run_bind,Go.sizeOf,typeInfo,run_program,Result.andThen_ok,hq,Sem.run_pure,hi,hsz,ne_eq,zH5,if_false];simpa[hsz]using hst
theorem zvS{ro:Ro}{bl:Bl}{m:MS}{w:World}(hM:Mem E ro bl m w){v:SV}{x:Value}(hx:zcD ro bl v x)(T:TypeId):
 ∃w',(newVar T x).run P w=.ok ⟨w.heap.size,0,none⟩ w'∧Mem E ro (bl.add (w.heap.size,v.shape)) ⟨m.c++[v],m.t,m.o⟩ w'∧Gr ro bl w ro (bl.add (w.heap.size,v.shape)) w':=by
 obtain⟨h1,h2⟩:=hM.alloc hx.cells T;simp only[zIf]at h1 h2;exact⟨_,rfl,h1,h2⟩
end Sx
end Go.Proofs.YtfbhkfhbnkncoaaGreatDoor
