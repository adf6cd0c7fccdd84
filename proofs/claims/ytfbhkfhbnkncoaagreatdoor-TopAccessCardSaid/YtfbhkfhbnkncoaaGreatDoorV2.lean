import Derived.Test.YtfbhkfhbnkncoaaGreatDoorV1
set_option linter.all false
namespace Go.Proofs.YtfbhkfhbnkncoaaGreatDoor
open Go.RowKit
namespace Sx
variable{y:BO}{C a vs:List Value}{b f g i k n o:Nat}{j u:Ro}{t t':Ty}{α:Type}{T:TypeId}{x:Value}{M:World}
def EE(h:t.off []=some (o,t')):o=0/\t'=t:=by unfold Ty.off at h;simp at h;exact⟨h.1.symm,h.2.symm⟩
def SV.O{O:Ro}{J:Bl}:∀{w:SV} {r:List Nat} {F:List Value} {o:Nat} {t':Ty} {C:SV},eX O J w F->w.shape.off r=some (o,t')->w.B0 r=some C->C.shape=t'/\eX O J C ((F.drop o).take t'.size)
 |w,[],F,o,t',C,h,u,A=>by
  have S:=h.length;have:C=w:=by(unfold SV.B0 at A;simpa using A.symm)
  subst this;obtain⟨rfl,rfl⟩:=EE u;refine⟨rfl,?_⟩;rw[vM,pX a3];exact h
 | .d x,k::r,F,o,t',C,h,u,A=>by simp only[SV.B0,fB]at A;obtain⟨y,hy,rfl⟩:=A;exact D.O h u hy
 | .H a b,0::r,F,o,t',C,⟨V,W,K,N,T⟩,u,A=>by simp only[SV.shape,Ty.off]at u;have L:=Ty.T u;obtain⟨M,G⟩:=SV.O (w:=a) (r:=r) N u A;refine⟨M,?_⟩;have S:=N.length;rw[K,r8 a3,qp (by rw[oS];omega)];exact G
 | .H a b,(k+1)::r,F,o,t',C,⟨V,W,K,N,T⟩,u,A=>by simp only[SV.shape,Ty.off,fB]at u;obtain⟨x,Q,u⟩:=u;cases u;obtain⟨M,G⟩:=SV.O (w:=b) (r:=k::r) T Q A;refine⟨M,?_⟩;have S:=N.length;rw[K,pR,oQ a3];simpa[S]using G
 | .ar n t f,i::r,F,o,t',C,⟨g,K,P⟩,u,A=>by
  simp only[SV.shape,Ty.off]at u;split at u
  .rename_i R;simp only[fB]at u;obtain⟨x,Q,u⟩:=u;cases u;have L:=Ty.T Q;obtain⟨M,G⟩:=SV.O (w:=f i) (r:=r) (P i R).2 (by rw[(P i R).1];exact Q) A;refine⟨M,?_⟩;have Z:=xp (k:=t.size) (λj U=>by rw[(P j U).2.length,(P j U).1]) R;rw[<-Z,<-K,qn L]at G;exact G
  .cases u
 | .B _ _,_::_,_,_,_,_,_,_,A| .el _,_::_,_,_,_,_,_,_,A| .fn _ _,_::_,_,_,_,_,_,_,A| .ow _ _ _ _ _,_::_,_,_,_,_,_,_,A| .tu _,_::_,_,_,_,_,_,_,A| .ob _,_::_,_,_,_,_,_,_,A| .fb _ _,_::_,_,_,_,_,_,_,A=>by simp[SV.B0]at A
def QW{b:List Value}(h:o+k<=a.length):(a++b).take o++vs++(a++b).drop (o+k)=(a.take o++vs++a.drop (o+k))++b:=by rw[qp a3,r8 a3];simp
def QX{b:List Value}(h:a.length=n):(a++b).take (n+o)++vs++(a++b).drop (n+o+k)=a++(b.take o++vs++b.drop (o+k)):=by subst h;rw[GA,pX a3,pR,oQ a3];simp[sa]
def D.D1{O:Ro}{J:Bl}:∀{d:D} {r:List Nat} {G:List Value} {o:Nat} {t':Ty} {v F:SV} {vs:List Value},dM O d G->d.shape.off r=some (o,t')->eX O J v vs->v.shape=t'->
 d.D3 r v=some F->F.shape=d.shape/\eX O J F (G.take o++vs++G.drop (o+t'.size))
 |d,[],G,o,t',v,F,vs,h,A,L,K,u=>by
  have Z:=h.length;have e:F=v:=by unfold D.D3 at u;simpa using u.symm
  subst e;obtain⟨rfl,rfl⟩:=EE A;refine⟨K,?_⟩;rw[yp,oQ a3];simpa using L
 | .H a b,0::r,G,o,t',v,F,vs,⟨c1,c2,Q,P,W⟩,A,L,K,u=>by simp only[D.shape,Ty.off]at A;have R:=Ty.T A;simp only[D.D3,fB]at u;obtain⟨y,T,rfl⟩:=u;obtain⟨C,S⟩:=D.D1 (d:=a) (r:=r) P A L K T;have Z:=P.length;refine⟨by simp only[SV.shape,D.shape,C],_,c2,?_,S,W⟩;rw[Q,QW a3]
 | .H a b,(k+1)::r,G,o,t',v,F,vs,⟨c1,c2,Q,P,W⟩,A,L,K,u=>by simp only[D.shape,Ty.off,fB]at A;obtain⟨x,V,A⟩:=A;cases A;simp only[D.D3,fB]at u;obtain⟨y,T,rfl⟩:=u;obtain⟨C,S⟩:=D.D1 (d:=b) (r:=k::r) W V L K T;have Z:=P.length;refine⟨by simp only[SV.shape,D.shape,C],c1,_,?_,P,S⟩;rw[Q,QX Z]
 | .ar n t f,i::r,G,o,t',v,F,vs,⟨g,Q,M⟩,A,L,K,u=>by
  simp only[D.shape,Ty.off]at A;split at A
  .rename_i U;simp only[fB]at A;obtain⟨x,V,A⟩:=A;cases A;have R:=Ty.T V;simp only[D.D3,fB]at u;obtain⟨y,T,rfl⟩:=u;obtain⟨C,S⟩:=D.D1 (d:=f i) (r:=r) (M i U).2 (by rw[(M i U).1];exact V) L K T;have hk:∀j,j<n->(g j).length=t.size:=λj N=>by rw[(M j N).2.length,(M j N).1]
   refine⟨rfl,a7 g i (((g i).take x.1)++vs++(g i).drop (x.1+x.2.size)),by rw[Q,Hg hk U R],λj N=>?_⟩;unfold a7;split
   .rename_i N;subst N;exact⟨by rw[C,(M j U).1],S⟩
   .exact M j N
  .cases A
 | .z ..,_::_,_,_,_,_,_,_,_,_,_,_,u| .I ..,_::_,_,_,_,_,_,_,_,_,_,_,u| .st ..,_::_,_,_,_,_,_,_,_,_,_,_,u| .np,_::_,_,_,_,_,_,_,_,_,_,_,u
 | .nf,_::_,_,_,_,_,_,_,_,_,_,_,u| .ni,_::_,_,_,_,_,_,_,_,_,_,_,u| .nm,_::_,_,_,_,_,_,_,_,_,_,_,u| .ic ..,_::_,_,_,_,_,_,_,_,_,_,_,u| .X ..,_::_,_,_,_,_,_,_,_,_,_,_,u| .un,_::_,_,_,_,_,_,_,_,_,_,_,u=>by simp[D.D3]at u
def SV.A4{O:Ro}{J:Bl}:∀{w:SV} {r:List Nat} {K:List Value} {o:Nat} {t':Ty} {v M:SV} {vs:List Value},eX O J w K->w.shape.off r=some (o,t')->eX O J v vs->v.shape=t'->
 w.set r v=some M->M.shape=w.shape/\eX O J M (K.take o++vs++K.drop (o+t'.size))
 |w,[],K,o,t',v,M,vs,h,A,G,F,u=>by
  have Z:=h.length;have e:M=v:=by unfold SV.set at u;simpa using u.symm
  subst e;obtain⟨rfl,rfl⟩:=EE A;refine⟨F,?_⟩;rw[yp,oQ a3];simpa using G
 | .d x,k::r,K,o,t',v,M,vs,h,A,G,F,u=>by
  cases v with
  |d y=>simp only[SV.set,fW]at u;subst u;exact D.A4 h A G F
  |B _ _|el _|fn _ _|ow _ _ _ _ _|H _ _|tu _|ob _|ar _ _ _|fb _ _=>exact D.D1 h A G F u
 | .H a b,0::r,K,o,t',v,M,vs,⟨c1,c2,Q,P,W⟩,A,G,F,u=>by simp only[SV.shape,Ty.off]at A;have R:=Ty.T A;simp only[SV.set,fB]at u;obtain⟨y,T,rfl⟩:=u;obtain⟨C,S⟩:=SV.A4 (w:=a) (r:=r) P A G F T;have Z:=P.length;refine⟨by simp only[SV.shape,C],_,c2,?_,S,W⟩;rw[Q,QW a3]
 | .H a b,(k+1)::r,K,o,t',v,M,vs,⟨c1,c2,Q,P,W⟩,A,G,F,u=>by simp only[SV.shape,Ty.off,fB]at A;obtain⟨x,V,A⟩:=A;cases A;simp only[SV.set,fB]at u;obtain⟨y,T,rfl⟩:=u;obtain⟨C,S⟩:=SV.A4 (w:=b) (r:=k::r) W V G F T;have Z:=P.length;refine⟨by simp only[SV.shape,C],c1,_,?_,P,S⟩;rw[Q,QX Z]
 | .ar n t f,i::r,K,o,t',v,M,vs,⟨g,Q,L⟩,A,G,F,u=>by
  simp only[SV.shape,Ty.off]at A;split at A
  .rename_i U;simp only[fB]at A;obtain⟨x,V,A⟩:=A;cases A;have R:=Ty.T V;simp only[SV.set,fB]at u;obtain⟨y,T,rfl⟩:=u;obtain⟨C,S⟩:=SV.A4 (w:=f i) (r:=r) (L i U).2 (by rw[(L i U).1];exact V) G F T;have hk:∀j,j<n->(g j).length=t.size:=λj N=>by rw[(L j N).2.length,(L j N).1]
   refine⟨rfl,a7 g i (((g i).take x.1)++vs++(g i).drop (x.1+x.2.size)),by rw[Q,Hg hk U R],λj N=>?_⟩;unfold a7;split
   .rename_i N;subst N;exact⟨by rw[C,(L j U).1],S⟩
   .exact L j N
  .cases A
 | .ob _,_::_,_,_,_,_,_,_,_,_,_,_,u| .fb _ _,_::_,_,_,_,_,_,_,_,_,_,_,u| .B _ _,_::_,_,_,_,_,_,_,_,_,_,_,u| .el _,_::_,_,_,_,_,_,_,_,_,_,_,u| .ow _ _ _ _ _,_::_,_,_,_,_,_,_,_,_,_,_,u| .fn _ _,_::_,_,_,_,_,_,_,_,_,_,_,u| .tu _,_::_,_,_,_,_,_,_,_,_,_,_,u=>by simp[SV.set]at u
inductive Ent where
 |put (t:Nat) (v:SV)|kill (l:List Nat)
def look:List Ent->Nat->Option SV
 |[],_=>none
 | .put t v::r,n=>match Nat.beq t n with
  |true=>some v
  |false=>look r n
 | .kill l::r,n=>match l.any (Nat.beq n)with
  |true=>none
  |false=>look r n
inductive LSt where
 |ready|busy|done (j:Code)|over
def LSt.state:LSt->LoopState
 | .ready=>.ready| .busy=>.busy| .done _=>.done| .over=>.exhausted
def LSt.H0:LSt->Option Code->Prop
 | .ready,p=>p=none| .done j,p=>p=some j|_,_=>True
inductive Ob where
 |row (A6 n:Nat) (t:Ty) (f:Nat->D)|loop (ps:List Nat) (as body:Code) (N:Nat) (K:List Ent) (st:LSt)|map (k:IntKind) (l:List (Int×SV))|dead
structure MS where
 c:List SV
 t:List Nat
 o:List Ob
def Bl.hb(J:Bl)(b:Nat):Prop:=(∃(id:Nat) (x:Nat×Ty),J.b[id]?=some x/\x.1=b)\/(∃(id:Nat) (e:Option Nat×Nat×Nat),J.t[id]?=some e/\e.1=some b)\/(∃(id:Nat) (x:BO),J.o[id]?=some x/\x.N=some b)
def Bl.has(J:Bl)(b:Nat):Prop:=J.hb b\/b∈J.k
def Bl.G5{J:Bl}{id:Nat}(h:J.b[id]?=some (f,t)):J.hb f:=.inl ⟨id,_,h,rfl⟩
def Bl.D9{J:Bl}{id:Nat}{e:Option Nat×Nat×Nat}(h:J.t[id]?=some e)(j:e.1=some f):J.hb f:=.inr (.inl ⟨id,e,h,j⟩)
def Bl.B8{J:Bl}{id:Nat}{x:BO}(h:J.o[id]?=some x)(j:x.N=some f):J.hb f:=.inr (.inr ⟨id,x,h,j⟩)
structure Gr (ro:Ro) (bl:Bl) (w:World) (ro':Ro) (bl':Bl) (w':World):Prop where
 os:w'.os=w.os
 tape:w'.tape=w.tape
 output:w'.output=w.output
 size:w.heap.size<=w'.heap.size
 old:∀b,b<w.heap.size->¬bl.hb b->w'.heap[b]?=w.heap[b]?/\ro' b=ro b
 le:Le ro bl ro' bl'
 new:∀b,bl'.hb b->bl.hb b\/w.heap.size<=b
 k:bl'.k=bl.k
def Gr.refl(O:Ro)(J:Bl)(w:World):Gr O J w O J w:=⟨rfl,rfl,rfl,a9 _,λ_ _ _=>⟨rfl,rfl⟩,Le.refl _ _,λ_ h=>.inl h,rfl⟩
def Gr.trans{O A:Ro}{J Z f:Bl}{w F G:World}(h:Gr O J w u Z F)(k:Gr u Z F A f G):Gr O J w A f G where
 os:=k.os.trans h.os
 tape:=k.tape.trans h.tape
 output:=k.output.trans h.output
 size:=eY h.size k.size
 old b hb hn:=by
  obtain⟨j,K⟩:=h.old b hb hn;obtain⟨M,N⟩:=k.old b (CF hb h.size) (λL=>by
   rcases h.new b L with C|C
   .exact hn C
   .omega)
  exact⟨M.trans j,N.trans K⟩
 le:=h.le.trans k.le
 new b hx:=by
  rcases k.new b hx with j|j
  .exact h.new b j
  .exact .inr (eY h.size j)
 k:=k.k.trans h.k
def Bl.take(J:Bl)(n k j:Nat):Bl:=⟨J.b.take n,J.t.take k,J.o.take j,J.k,J.g⟩
def Kn(O:Ro)(w:World):Prop:=∀b Y,O b=some Y->∃C e a,w.heap[b]?=some (.cells C e a)/\Y<+:C.toList
structure GrS (ro:Ro) (S:Nat->Prop) (w:World) (ro':Ro) (S':Nat->Prop) (w':World):Prop where
 os:w'.os=w.os
 tape:w'.tape=w.tape
 output:w'.output=w.output
 size:w.heap.size<=w'.heap.size
 old:∀b,b<w.heap.size->¬S b->w'.heap[b]?=w.heap[b]?/\ro' b=ro b
 r:ro.le ro'
 new:∀b,S' b->S b\/w.heap.size<=b
def Gr.s{O A:Ro}{J j:Bl}{w:World}(h:Gr O J w A j M):GrS O J.has w A j.has M where
 os:=h.os
 tape:=h.tape
 output:=h.output
 size:=h.size
 old b f hn:=h.old b f λu=>hn (.inl u)
 r:=h.le.r
 new b f:=by
  rcases f with f|f
  .rcases h.new b f with u|u
   .exact .inl (.inl u)
   .exact .inr u
  .exact .inl (.inr (h.k▸f))
def GrS.sub{O:Ro}{S f:Nat->Prop}{w:World}(h:∀b,f b->S b):GrS O S w O f w:=⟨rfl,rfl,rfl,a9 _,λ_ _ _=>⟨rfl,rfl⟩,Ro.le_refl _,λb j=>.inl (h b j)⟩
structure Gh where
 Y:Ro->(Nat->Prop)->World->Prop
 on:∀{ro S w ro' S' w'},Y ro S w->GrS ro S w ro' S' w'->Kn ro' w'->Y ro' S' w'
def yh(O:Ro)(J:Bl)(V:List Ent)(tmps:Array Value):Prop:=∀t v,look V t=some v->du O J v (tmps.getD t undef)
def nY(O:Ro)(J:Bl)(k:IntKind):List (Int×SV)->List MapEntry->Prop
 |[],[]=>True
 |p::r,e::a=>(e.key=.int k p.1/\du O J p.2 e.val)/\nY O J k r a
 |_,_=>False
def nY.mono{O:Ro}{J f:Bl}(u:Le O J j f){k:IntKind}:∀{l:List (Int×SV)} {es:List MapEntry},nY O J k l es->nY j f k l es
 |[],[],_=>trivial
 |_::_,_::_,h=>⟨⟨h.1.1,h.1.2.mono u⟩,h.2.mono u⟩
 |[],_::_,h=>h.elim
 |_::_,[],h=>h.elim
def sc(O:Ro)(J:Bl)(w:World):Ob->BO->Prop
 | .row j n t f,.row v b x c s=>j=v/\n=x/\s=t.size/\n<=c/\(b=none->c=0)/\∀k,b=some k->O k=none/\∃C z,w.heap[k]?=some (.cells C z (0,0))/\C.size=c*s/\
  ∀i,i<n->(f i).shape=t/\dM O (f i) ((C.toList.drop (i*s)).take s)
 | .loop y p g N V h,.loop l=>∃u a q d,w.heap[l]?=some (.loop {state:=h.state,pending:=d,fn:=u,tmps:=a,params:=y.toArray,assign:=p,body:=g,defers:=q})/\h.H0 d/\a.size=N/\(h≠.over->yh O J V a)
 | .map k l,.map r=>∃o e,w.heap[r]?=some (.map o e)/\nY O J k l o.toList
 | .dead,.dead=>True
 |_,_=>False
def sc.to{O:Ro}{J u:Bl}{w:World}{x:Ob}(h:sc O J w x y)(P:Le O J j u)(R:∀b,y.N=some b->M.heap[b]?=w.heap[b]?/\j b=O b):sc j u M x y:=by
 cases x<;>cases y<;>first|exact h.elim|skip
 .obtain⟨A,F,L,N,h5,h6⟩:=h;refine⟨A,F,L,N,h5,λk U=>?_⟩;obtain⟨g1,C,ty,g2,g3,S⟩:=h6 k U;obtain⟨W,Z⟩:=R k U;exact⟨Z.trans g1,C,ty,W.trans g2,g3,λi T=>⟨(S i T).1,(S i T).2.mono P.r⟩⟩
 .obtain⟨fn,K,V,G,A,F,L,N⟩:=h;exact⟨fn,K,V,G,(R _ rfl).1.trans A,F,L,λQ t v hv=>(N Q t v hv).mono P⟩
 .obtain⟨es,f,A,F⟩:=h;exact⟨es,f,(R _ rfl).1.trans A,F.mono P⟩
 .trivial
def sc.N{O:Ro}{J:Bl}{w:World}{x:Ob}(h:sc O J w x y)(j:y.N=some b):b<w.heap.size:=by
 have f:∀{o:Obj},w.heap[b]?=some o->b<w.heap.size:=λh=>(nX.1 h).1;cases x<;>cases y<;>first|exact h.elim|skip
 .obtain⟨_,_,_,_,_,u⟩:=h;obtain⟨_,_,_,h,_⟩:=u b j;exact f h
 .obtain⟨_,_,_,_,h,_⟩:=h;cases j;exact f h
 .obtain⟨_,_,h,_⟩:=h;cases j;exact f h
 .cases j
structure MemC (ro:Ro) (bl:Bl) (m:MS) (w:World):Prop where
 len:bl.b.length=m.c.length
 A6:bl.t.map (·.2.1)=m.t
 box:∀(id N:Nat) t v,bl.b[id]?=some (N,t)->m.c[id]?=some v->∃cells e,w.heap[N]?=some (.cells cells e (0,0))/\eX ro bl v cells.toList/\v.shape=t/\ro N=none
 inj:∀(i j:Nat) x y,bl.b[i]?=some x->bl.b[j]?=some y->x.1=y.1->i=j
 tail:∀(id:Nat) e N,bl.t[id]?=some e->e.1=some N->∃row cells ty,ro N=some row/\w.heap[N]?=some (.cells cells ty (0,0))/\cells.size=e.2.2
 A3:∀(i j:Nat) e e' N,bl.t[i]?=some e->bl.t[j]?=some e'->e.1=some N->e'.1=some N->i=j
 known:Kn ro w
 R:bl.o.length=m.o.length
 obj:∀(id:Nat) y x,bl.o[id]?=some y->m.o[id]?=some x->sc ro bl w x y
 A2:∀(i j:Nat) x y b,bl.o[i]?=some x->bl.o[j]?=some y->x.N=some b->y.N=some b->i=j
 I:∀(i j:Nat) x y,bl.b[i]?=some x->bl.o[j]?=some y->y.N≠some x.1
def nI:List (Int×FuncId):=[(1,291),(2,292),(3,293),(4,294),(5,295),(6,296),
 (7,297),(8,298),(9,299),(10,300),(11,301),(12,302),
 (13,303),(14,304),(15,305),(16,305),(17,306),
 (18,307),(19,308),(20,309),(21,310),(22,311)]
def mF:List (Int×FuncId)->Int->Option FuncId
 |[],_=>none
 |(k,f)::r,n=>if k=n then some f else mF r n
structure GlobOk (g:Nat) (w:World):Prop where
 var:∃cells ty fz,w.heap[0]?=some (.cells cells ty fz)/\cells[0]?=some (.map (some g))
 map:∃es clock,w.heap[g]?=some (.map es clock)/\∀n:Int,(Instr.findNow (.int .u8) (.int .u8 n) es.toList 0=some none/\mF nI n=none)\/∃i f,Instr.findNow (.int .u8) (.int .u8 n) es.toList 0=some (some (i,.func (.func f) #[] #[]))/\mF nI n=some f
structure Mem (E:Gh) (ro:Ro) (bl:Bl) (m:MS) (w:World):Prop extends MemC ro bl m w where
 gh:E.Y ro bl.has w
 B1:GlobOk bl.g w
 C3:¬bl.hb 0/\¬bl.hb bl.g
 marks:∀D∈bl.k,w.heap[D]?=some (.deferred (some []))
section
variable {O:Ro} {J:Bl} {m:MS} {w:World}
def MemC.G3(h:MemC O J m w){id:Nat}{x:Nat×Ty}(f:J.b[id]?=some x):∃v,m.c[id]?=some v:=⟨_,ed (by rw[<-h.len];exact(iA.1 f).1)⟩
def MemC.G4(h:MemC O J m w){id:Nat}{x:BO}(f:J.o[id]?=some x):∃v,m.o[id]?=some v:=⟨_,ed (by rw[<-h.R];exact(iA.1 f).1)⟩
def MemC.C0(h:MemC O J m w){id:Nat}(j:J.b[id]?=some (f,t)):O f=none:=by obtain⟨v,A⟩:=h.G3 j;obtain⟨_,_,_,_,_,u⟩:=h.box id f t _ j A;exact u
def MemC.A9(h:MemC O J m w){Y:List Value}(j:O b=some Y):b<w.heap.size:=by obtain⟨_,_,_,f,_⟩:=h.known b Y j;exact(nX.1 f).1
def MemC.C6(h:MemC O J m w){id:Nat}(F:J.o[id]?=some y)(u:y.N=some b):O b=none:=by
 obtain⟨x,K⟩:=h.G4 F;have j:=h.obj id y x F K;cases C:O b with
 |none=>rfl
 |some Y=>
  obtain⟨_,_,_,f,_⟩:=h.known b Y C;cases x<;>cases y<;>first|exact j.elim|skip
  .obtain⟨_,_,_,_,_,G⟩:=j;rw[(G b u).1]at C;cases C
  .obtain⟨_,_,_,_,A,_⟩:=j;cases u;rw[A]at f;cases f
  .obtain⟨_,_,A,_⟩:=j;cases u;rw[A]at f;cases f
  .cases u
def MemC.D4(h:MemC O J m w)(f:J.hb b):b<w.heap.size:=by
 rcases f with⟨id,x,j,rfl⟩|⟨id,e,G,f⟩|⟨id,y,u,f⟩
 .obtain⟨v,K⟩:=h.G3 j;obtain⟨C,e,F,_⟩:=h.box id x.1 x.2 v j K;exact(nX.1 F).1
 .obtain⟨_,_,_,_,A,_⟩:=h.tail id e b G f;exact(nX.1 A).1
 .obtain⟨x,j⟩:=h.G4 u;exact(h.obj id y x u j).N f
def MemC.E2(h:MemC O J m w){D:Nat}(hD:w.heap[D]?=some (.deferred (some []))):¬J.hb D:=by
 rintro(⟨id,x,F,rfl⟩|⟨id,e,L,j⟩|⟨id,y,K,j⟩)
 .obtain⟨v,M⟩:=h.G3 F;obtain⟨C,N,G,_⟩:=h.box id x.1 x.2 v F M;rw[hD]at G;cases G
 .obtain⟨_,_,_,_,f,_⟩:=h.tail id e D L j;rw[hD]at f;cases f
 .obtain⟨x,F⟩:=h.G4 K;have A:=h.obj id y x K F;cases x<;>cases y<;>first|exact A.elim|skip
  .obtain⟨_,_,_,_,_,u⟩:=A;obtain⟨_,_,_,u,_⟩:=u D j;rw[hD]at u;cases u
  .obtain⟨_,_,_,_,f,_⟩:=A;cases j;rw[hD]at f;cases f
  .obtain⟨_,_,f,_⟩:=A;cases j;rw[hD]at f;cases f
  .cases j
end
variable {E:Gh}
def GlobOk.lt{w:World}(h:GlobOk g w):0<w.heap.size/\g<w.heap.size:=by obtain⟨⟨_,_,_,f,_⟩,⟨_,_,j,_⟩⟩:=h;exact⟨(nX.1 f).1,(nX.1 j).1⟩
def GlobOk.to{w:World}(h:GlobOk g w)(f:M.heap[0]?=w.heap[0]?)(j:M.heap[g]?=w.heap[g]?):GlobOk g M:=⟨by rw[f];exact h.var,by rw[j];exact h.map⟩
def Mem.to{O:Ro}{J j:Bl}{m U:MS}{w:World}(h:Mem E O J m w)(f:Gr O J w u j M)(F:MemC u j U M):Mem E u j U M:=⟨F,E.on h.gh f.s F.known,by
 rw[f.le.g];exact h.B1.to (f.old 0 h.B1.lt.1 h.C3.1).1 (f.old J.g h.B1.lt.2 h.C3.2).1,by
 rw[f.le.g];have G:=h.B1.lt;exact⟨λA=>(f.new 0 A).elim h.C3.1 a3,λA=>(f.new J.g A).elim h.C3.2 a3⟩,λD hD=>by
 rw[f.k]at hD;have C:=h.marks D hD;rw[(f.old D (nX.1 C).1 (h.E2 C)).1];exact C⟩
def Mem.E7{O:Ro}{J f:Bl}{m:MS}{w:World}(h:Mem E O J m w)(A:Gr O J w u f M):¬f.hb 0/\¬f.hb J.g:=by have C:=h.B1.lt;exact⟨λj=>(A.new 0 j).elim h.C3.1 a3,λj=>(A.new J.g j).elim h.C3.2 a3⟩
def Mem.both{O:Ro}{J f:Bl}{m U:MS}{w:World}(h:Mem E O J m w)(A:MemC j f U M)(u:Gr O J w j f M):Mem E j f U M/\Gr O J w j f M:=⟨h.to u A,u⟩
def Mem.lt{O:Ro}{J:Bl}{m:MS}{w:World}(h:Mem E O J m w){id:Nat}{x:Nat×Ty}(f:J.b[id]?=some x):x.1<w.heap.size:=h.D4 (.inl ⟨id,x,f,rfl⟩)
def Gr.drew(O:Ro)(J:Bl)(w:World):Gr O J w O J w.drew:=⟨rfl,rfl,rfl,a9 _,λ_ _ _=>⟨rfl,rfl⟩,Le.refl _ _,λ_ h=>.inl h,rfl⟩
def MemC.heap{O:Ro}{J:Bl}{m:MS}{w:World}(h:MemC O J m w)(j:M.heap=w.heap):MemC O J m M:=
 ⟨h.len,h.A6,λid f t v u A=>by rw[j];exact h.box id f t v u A,h.inj,λid e f C u=>by rw[j];exact h.tail id e f C u,h.A3,λb Y F=>by rw[j];exact h.known b Y F,h.R,
  λid y x K G=>(h.obj id y x K G).to (Le.refl _ _) λb _=>⟨by rw[j],rfl⟩,h.A2,h.I⟩
def Mem.drew{O:Ro}{J:Bl}{m:MS}{w:World}(h:Mem E O J m w):Mem E O J m w.drew:=h.to (Gr.drew O J w) (h.toMemC.heap rfl)
def Bl.add(J:Bl)(x:Nat×Ty):Bl:=⟨J.b++[x],J.t,J.o,J.k,J.g⟩
def lV{l:List α}{x y:α}(h:(l++[x])[i]?=some y):(i=l.length/\y=x)\/l[i]?=some y:=by
 rcases jB i l.length with a|a
 .rw[pV a]at h;exact .inr h
 .rw[oh a]at h;obtain⟨d,b⟩:=iA.1 h;simp at d;have c:i - l.length=0:=a3
  simp[c]at b;exact .inl ⟨a3,b.symm⟩
def It{l:List α}{x y:α}(h:l[i]?=some y):(l++[x])[i]?=some y:=by rw[pV (iA.1 h).1];exact h
def rE{l:List α}{x:α}:(l++[x])[l.length]?=some x:=by rw[oh (a9 _)];simp
def mS{l:List α}{x y:α}(h:(l.set k x)[i]?=some y):(i=k/\y=x)\/(i≠k/\l[i]?=some y):=by
 rw[Cx]at h;split at h
 .rename_i a;split at h
  .cases h;exact .inl ⟨a.symm,rfl⟩
  .cases h
 .rename_i a;exact .inr ⟨λe=>a e.symm,h⟩
def DZ{l:List α}{x y:α}(h:l[k]?=some y):(l.set k x)[k]?=some x:=Cy (iA.1 h).1
def Pb{l:List α}{x y:α}(h:l[i]?=some y)(a:i≠k):(l.set k x)[i]?=some y:=by rw[Vm (sZ a)];exact h
def Mem.alloc{O:Ro}{J:Bl}{m:MS}{w:World}(h:Mem E O J m w){v:SV}(Z:eX O J v C)(e:TypeId):
 Mem E O (J.add (w.heap.size,v.shape)) ⟨m.c++[v],m.t,m.o⟩ (w.alloc (.cells C.toArray e))/\Gr O J w O (J.add (w.heap.size,v.shape)) (w.alloc (.cells C.toArray e)):=by
 have K:Le O J O (J.add (w.heap.size,v.shape)):=⟨Ro.le_refl _,λid x f=>It f,(Le.refl O J).t,(Le.refl O J).o,rfl⟩;have V:Gr O J w O (J.add (w.heap.size,v.shape)) (w.alloc (.cells C.toArray e)):=⟨rfl,rfl,rfl,eA,λb L _=>⟨Below.heap_alloc _ _ _ L,rfl⟩,K,λb f=>by
  rcases f with⟨id,x,f,rfl⟩|f
  .rcases lV f with⟨_,rfl⟩|G
   .exact .inr (a9 _)
   .exact .inl (.inl ⟨id,x,G,rfl⟩)
  .exact .inl (.inr f),rfl⟩
 refine h.both ⟨by simp[Bl.add,h.len],h.A6,λid M t u L R=>?_,λi j x y f A F=>?_,λid Q M W F=>?_,h.A3,λb Y T=>?_,h.R,λid y x A f=>?_,h.A2,λi j x y f A F=>?_⟩ V
 .rcases lV L with⟨rfl,F⟩|L
  .cases F;rw[h.len,oh (a9 _)]at R;simp at R;subst R;refine⟨C.toArray,e,(by show(w.heap.push _)[w.heap.size]?=_;simp),by simpa using Z.mono K,rfl,?_⟩;cases T:O w.heap.size with
   |none=>rfl
   |some Y=>exact b3 (h.A9 T) (ri _)
  .rw[pV (by rw[<-h.len];exact(iA.1 L).1)]at R;obtain⟨P,Q,G,N,S⟩:=h.box id M t u L R;exact⟨P,Q,(Below.heap_alloc _ _ _ (nX.1 G).1).trans G,N.mono K,S⟩
 .rcases lV f with⟨rfl,rfl⟩|f
  .rcases lV A with⟨rfl,rfl⟩|A
   .rfl
   .have:=h.lt A;simp at F;omega
  .rcases lV A with⟨rfl,rfl⟩|A
   .have:=h.lt f;simp at F;omega
   .exact h.inj i j x y f A F
 .obtain⟨Y,P,ty,G,N,S⟩:=h.tail id Q M W F;exact⟨Y,P,ty,G,(Below.heap_alloc _ _ _ (nX.1 N).1).trans N,S⟩
 .obtain⟨P,Q,U,G,N⟩:=h.known b Y T;exact⟨P,Q,U,(Below.heap_alloc _ _ _ (nX.1 G).1).trans G,N⟩
 .exact(h.obj id y x A f).to K λb L=>⟨Below.heap_alloc _ _ _ ((h.obj id y x A f).N L),rfl⟩
 .rcases lV f with⟨rfl,rfl⟩|f
  .have:=h.D4 (Bl.B8 A F);simp at this
  .exact h.I i j x y f A F
def Mem.C0{O:Ro}{J:Bl}{m:MS}{w:World}(h:Mem E O J m w){id:Nat}(j:J.b[id]?=some (f,t)):O f=none:=h.toMemC.C0 j
def Mem.fill{O:Ro}{J:Bl}{m:MS}{w:World}(h:Mem E O J m w){id j:Nat}(F:J.b[id]?=some (j,t)){v:SV}(hv:eX O J v C)(hs:v.shape=t):
 Mem E O J ⟨m.c.set id v,m.t,m.o⟩ (w.setRow j C.toArray)/\Gr O J w O J (w.setRow j C.toArray):=by
 have M:∀b Y,O b=some Y->b≠j:=λb Y N e=>by subst e;rw[h.C0 F]at N;cases N
 refine h.both ⟨by simp[h.len],h.A6,λi b t' u f Q=>?_,h.inj,λi e b L Z=>?_,h.A3,λb Y N=>?_,h.R,λi y x S hx=>?_,h.A2,h.I⟩ ⟨rfl,rfl,rfl,eA,λb f hn=>⟨setRow_other _ _ _ _ λe=>hn (e▸Bl.G5 F),rfl⟩,Le.refl _ _,λ_ h=>.inl h,rfl⟩
 .have G:id<m.c.length:=by rw[<-h.len];exact(iA.1 F).1
  by_cases L:i=id
  .subst L;obtain⟨P,e,A,_,_,W⟩:=h.box i j t _ F (ed G);rw[f]at F;cases F;simp only[Cy G]at Q;cases Q;exact⟨C.toArray,e,setRow_heap _ _ _ _ _ _ A,b8 hv,hs,W⟩
  .simp only[Vm (sZ L)]at Q;obtain⟨P,e,A,K⟩:=h.box i b t' u f Q;exact⟨P,e,(setRow_other _ _ _ _ λe=>L (h.inj _ _ _ _ f F e)).trans A,K⟩
 .obtain⟨Y,R,ty,A,K,V⟩:=h.tail i e b L Z;exact⟨Y,R,ty,A,(setRow_other _ _ _ _ (M b Y A)).trans K,V⟩
 .obtain⟨R,T,U,A,K⟩:=h.known b Y N;exact⟨R,T,U,(setRow_other _ _ _ _ (M b Y N)).trans A,K⟩
 .exact(h.obj i y x S hx).to (Le.refl _ _) λb f=>⟨setRow_other _ _ _ _ λe=>h.I _ _ _ _ F S (e▸f),rfl⟩
variable {P:Program}
def TF(P:Program)(T:TypeId)(n:Nat)(a:Bool):Prop:=
 (P.info? T).map (·.size)=some n/\∃d,P.underlying T=some d/\(match d with| .struct _| .array _ _=>true|_=>false)=a
def TF.isAgg{T n ag}(h:TF P T n ag)(w:World):(isAgg T).run P w=.ok ag w:=by obtain⟨_,d,hu,hd⟩:=h;unfold Go.isAgg;rw[jt,run_underlying hu w];cases d<;>simp_all
def TF.sizeOf{T n ag}(h:TF P T n ag)(w:World):(sizeOf T).run P w=.ok n w:=by
 obtain⟨hi,_⟩:=h;cases hq:P.info? T with
 |none=>simp[hq]at hi
 |some i=>
  have:i.size=n:=by simpa[hq]using hi
  simp[Go.sizeOf,typeInfo,hq,this]
def na(b o i:Nat):(⟨b,o,none⟩:Addr).add i=⟨b,o+i,none⟩:=by unfold Addr.add;split<;>simp_all
def Fo{w:World}{T a:Nat}{c:Bool}{C:Array Value}{e:TypeId}{i:Nat×Nat}(f:TF P T n c)(r:w.heap[a]?=some (.cells C e i))(s:o+n<=C.size)(q:c=false->n=1):
 (loadVar T ⟨a,o,none⟩).run P w=.ok (if c then .agg ((C.toList.drop o).take n).toArray else((C.toList.drop o).take n).headD undef) w:=by
 have k:∀j v,((C.toList.drop o).take n)[j]?=some v->w.cell? ((⟨a,o,none⟩:Addr).add j)=some v:=by
  intro j v d;rw[na,cell_of_row w a _ C e i r];have g:j<n:=by
   rcases jB j n with h|h
   .exact h
   .rw[Cz,if_neg a3]at d;cases d
  rw[tI g,sT]at d;simpa using d
 have l:=run_loadCells_list (P:=P) w ⟨a,o,none⟩ ((C.toList.drop o).take n) k;have b:((C.toList.drop o).take n).length=n:=by simp;omega
 rw[b]at l;cases c with
 |true=>simp[loadVar,jt,f.isAgg,f.sizeOf,l]
 |false=>
  have:=q rfl;subst this;have p:∃x,(C.toList.drop o).take 1=[x]:=by
   match h:(C.toList.drop o).take 1,b with
   |[x],_=>exact⟨x,rfl⟩
  obtain⟨x,m⟩:=p;have:=k 0 x (by rw[m];rfl);rw[na,wZ]at this;simp[loadVar,jt,f.isAgg,m,this]
def P6{O:Ro}{J:Bl}{m:MS}{w:World}(i:Mem E O J m w){id:Nat}(k:J.b[id]?=some (b,t)){v v':SV}(l:m.c[id]?=some v){a:List Nat}(f:t.off a=some (o,t'))(r:v.B0 a=some v')(j:TF P T v'.shape.size v'.agg):
 ∃x,(loadVar T ⟨b,o,none⟩).run P w=.ok x w/\fJ O J v' x:=by
 obtain⟨C,e,n,g,s,_⟩:=i.box id b t v k l;subst s;obtain⟨d,c⟩:=SV.O g f r;subst d;have q:=Ty.T f;have p:=g.length;refine⟨_,Fo j n (by simp at p;omega) λh=>by rw[SV.C1 h];rfl,fJ.Z c⟩
def zd8{O:Ro}{J:Bl}{m:MS}{w:World}(l:Mem E O J m w){id a:Nat}(p:J.b[id]?=some (a,t)){v u v':SV}(z:m.c[id]?=some v){b:List Nat}(q:t.off b=some (o,t'))(N:u.shape=t')(L:v.set b u=some v')(n:(P.info? T).map (·.size)=some u.shape.size)(Q:fJ O J u x):
 ∃M,(storeVar T ⟨a,o,none⟩ x).run P w=.ok () M/\Mem E O J ⟨m.c.set id v',m.t,m.o⟩ M/\Gr O J w O J M:=by
 obtain⟨C,e,A,r,c,_⟩:=l.box id a t v p z;subst c;have d:=Q.cells;have K:=Ty.T q;have G:=r.length;have g:=d.length;subst N;obtain⟨k,j⟩:=SV.A4 r q d rfl L;have c:=run_storeCells_at P a o e x.cells.toList 0 C w A (by simp at G g ⊢;omega) d.one;have f:x.cells.size=u.shape.size:=b8 g
 obtain⟨s,y⟩:=l.fill p j k;refine⟨_,?_,s,y⟩;cases h:P.info? T with
 |none=>simp[h]at n
 |some i=>
  have F:i.size=u.shape.size:=by simpa[h]using n
  simp only[storeVar,jt,Go.sizeOf,typeInfo,run_program,lQ,h,m9,F,f,ne_eq,Qw,if_false];simpa[f]using c
def Np{O:Ro}{J:Bl}{m:MS}{w:World}(c:Mem E O J m w){v:SV}(d:fJ O J v x)(T:TypeId):
 ∃M,(newVar T x).run P w=.ok ⟨w.heap.size,0,none⟩ M/\Mem E O (J.add (w.heap.size,v.shape)) ⟨m.c++[v],m.t,m.o⟩ M/\Gr O J w O (J.add (w.heap.size,v.shape)) M:=by
 obtain⟨a,b⟩:=c.alloc d.cells T;simp only[Gd]at a b;exact⟨_,rfl,a,b⟩
end Sx
end Go.Proofs.YtfbhkfhbnkncoaaGreatDoor
