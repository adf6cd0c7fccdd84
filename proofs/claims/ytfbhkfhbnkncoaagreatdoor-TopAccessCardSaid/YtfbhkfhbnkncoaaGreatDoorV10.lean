import Derived.Test.YtfbhkfhbnkncoaaGreatDoorV9
set_option linter.all false
namespace Go.Proofs.YtfbhkfhbnkncoaaGreatDoor
open Go.RowKit
namespace Sx
variable {E:Gh} {r:Option Nat} {nn:Nat}
variable {P:Program} {tb:TT}
variable{a:Act}{tmps:Array Value}{J:Bl}{F:Bool}{c:Code}{fn:Func}{f:FuncId}{V:List Ent}{G:List Value}{N i j k n:Nat}{O:Ro}{α ι:Type}{w:World}
def yw(p:Nat->Bool):Nat->Bool
 |0=>true
 |n+1=>yw p n&&p n
def GS{p:Nat->Bool}:∀{n i:Nat},yw p n=true->i<n->p i=true
 |n+1,i,h,a=>by
  simp only[yw,dH]at h;by_cases e:i=n
  .subst e;exact h.2
  .exact GS h.1 a3
def Hd.ids(n j:Nat):Hd->Bool
 | .mr id _| .mq id _ _| .mp id _ _| .yl id| .mo id=>Nat.blt id j
 | .sb id .. =>Nat.blt id n
 | .gl _| .gm=>true
def SV.ids(n k j:Nat):SV->Bool
 | .d _| .el _=>true
 | .B id _=>Nat.blt id n
 | .fn _ c=>c.ids n k j
 | .ow id .. =>Nat.ble id k
 | .H a b=>a.ids n k j&&b.ids n k j
 | .tu a=>a.ids n k j
 | .ob h=>h.ids n j
 | .fb _ a=>a.ids n k j
 | .ar m _ f=>yw (λi=>(f i).ids n k j) m
def eV(n k j:Nat):List SV->Bool
 |[]=>true
 |v::r=>v.ids n k j&&eV n k j r
def zf(n k j:Nat):List Ent->Bool
 |[]=>true
 | .put _ v::r=>v.ids n k j&&zf n k j r
 | .kill _::r=>zf n k j r
def ui(n k j:Nat):List (Int×SV)->Bool
 |[]=>true
 |(_,v)::r=>v.ids n k j&&ui n k j r
def Ob.ids(n k j:Nat):Ob->Bool
 | .row .. | .dead=>true
 | .loop _ _ _ _ V f=>match f with
  | .over=>true
  |_=>zf n k j V
 | .map _ l=>ui n k j l
def gV(n k j:Nat):List Ob->Bool
 |[]=>true
 |x::r=>x.ids n k j&&gV n k j r
def MS.take(m:MS)(n k j:Nat):MS:=⟨m.c.take n,m.t.take k,m.o.take j⟩
def qJ{l:List α}{x:α}(h:l[i]?=some x)(a:i<n):(l.take n)[i]?=some x:=by rw[tI a];exact h
def ka.drop:∀{h:Hd} {x:Value},ka J h x->h.ids n j=true->ka (J.take n k j) h x
 | .mr ..,_,⟨C,v,b,m,c,s,f,u⟩,A=>⟨C,v,b,m,c,s,qJ f (dF A),u⟩
 | .mq ..,_,⟨C,v,b,m,c,s,f,u⟩,A=>⟨C,v,b,m,c,s,qJ f (dF A),u⟩
 | .mp ..,_,⟨C,v,b,m,c,s,f,u⟩,A=>⟨C,v,b,m,c,s,qJ f (dF A),u⟩
 | .yl _,_,⟨l,f,u⟩,A=>⟨l,qJ f (dF A),u⟩
 | .mo _,_,⟨l,f,u⟩,A=>⟨l,qJ f (dF A),u⟩
 | .sb ..,_,⟨F,t,o,c,G,f,u⟩,A=>⟨F,t,o,c,G,qJ f (dF A),u⟩
 | .gl _,_,h,_=>h
 | .gm,_,h,_=>h
def eX.drop:∀{v:SV} {cs:List Value},eX O J v cs->v.ids n k j=true->eX O (J.take n k j) v cs
 | .d _,_,h,_=>h
 | .el _,_,h,_=>h
 | .B id _,_,⟨G,t,o,Q,h,A⟩,u=>⟨G,t,o,Q,qJ h (dF u),A⟩
 | .fn _ c,_,⟨R,h,A⟩,u=>⟨R,eX.drop (v:=c) h u,A⟩
 | .ow id ..,_,⟨x,e,C,A,N⟩,u=>⟨x,e,C,(by cases id with|zero=>exact A|succ id=>exact qJ A (dF u)),N⟩
 | .H a b,_,⟨L,M,h,C,A⟩,u=>by simp only[SV.ids,dH]at u;exact⟨L,M,h,eX.drop (v:=a) C u.1,eX.drop (v:=b) A u.2⟩
 | .ob _,_,⟨x,h,C⟩,u=>⟨x,h,C.drop u⟩
 | .fb _ a,_,⟨x,h,C⟩,u=>⟨x,⟨eX.drop (v:=a) h.1 u,h.2⟩,C⟩
 | .ar m t f,_,⟨g,h,K⟩,u=>⟨g,h,λi F=>⟨(K i F).1,eX.drop (v:=f i) (K i F).2 (GS u F)⟩⟩
def fJ.drop{v:SV}{x:Value}(h:fJ O J v x)(u:v.ids n k j=true):fJ O (J.take n k j) v x:=
 ⟨λf=>let⟨A,C,F⟩:=h.1 f;⟨A,C.drop u,F⟩,λf=>(h.2 f).drop u⟩
def n4.drop:∀{v:SV} {vs:List Value},n4 O J v vs->v.ids n k j=true->n4 O (J.take n k j) v vs
 | .d _,_,h,_| .B _ _,_,h,_| .el _,_,h,_| .fn _ _,_,h,_| .ow _ _ _ _ _,_,h,_| .tu _,_,h,_| .ob _,_,h,_| .fb ..,_,h,_| .ar ..,_,h,_=>h
 | .H a b,_,⟨x,r,h,u,A⟩,f=>by simp only[SV.ids,dH]at f;exact⟨x,r,h,u.drop f.1,n4.drop (v:=b) A f.2⟩
def du.drop:∀{v:SV} {x:Value},du O J v x->v.ids n k j=true->du O (J.take n k j) v x
 | .tu a,_,⟨A,h,u⟩,f=>⟨A,n4.drop (v:=a) h f,u⟩
 | .d _,_,h,f| .B _ _,_,h,f| .el _,_,h,f| .fn _ _,_,h,f| .ow _ _ _ _ _,_,h,f| .H _ _,_,h,f| .ob _,_,h,f| .fb ..,_,h,f| .ar ..,_,h,f=>fJ.drop h f
def PC{n k j:Nat}:∀{l:List SV} {i:Nat} {v:SV},eV n k j l=true->l[i]?=some v->v.ids n k j=true
 |v::r,0,u,h,a=>by simp only[eV,dH]at h;cases a;exact h.1
 |v::r,i+1,u,h,a=>by simp only[eV,dH]at h;exact PC h.2 (b8 a)
 |[],_,_,_,a=>by cases a
def PE{n k j:Nat}:∀{l:List Ob} {i:Nat} {v:Ob},gV n k j l=true->l[i]?=some v->v.ids n k j=true
 |v::r,0,u,h,a=>by simp only[gV,dH]at h;cases a;exact h.1
 |v::r,i+1,u,h,a=>by simp only[gV,dH]at h;exact PE h.2 (b8 a)
 |[],_,_,_,a=>by cases a
def IM{n k j:Nat}:∀{V:List Ent} {t:Nat} {v:SV},zf n k j V=true->look V t=some v->v.ids n k j=true
 | .put b u::r,t,v,h,a=>by
  simp only[zf,dH]at h;simp only[look]at a;split at a
  .cases a;exact h.1
  .exact IM h.2 a
 | .kill l::r,t,v,h,a=>by
  simp only[look]at a;split at a
  .cases a
  .exact IM (by simpa[zf]using h) a
 |[],_,_,_,a=>by cases a
def nY.drop{A:IntKind}:∀{l:List (Int×SV)} {f:List MapEntry},nY O J A l f->ui n k j l=true->nY O (J.take n k j) A l f
 |[],[],_,_=>trivial
 |(a,b)::r,e::f,h,u=>by simp only[ui,dH]at u;exact⟨⟨h.1.1,h.1.2.drop u.1⟩,h.2.drop u.2⟩
 |[],_::_,h,_=>h.elim
 |_::_,[],h,_=>h.elim
def sc.drop{x:Ob}{y:BO}(h:sc O J w x y)(L:x.ids n k j=true):sc O (J.take n k j) w x y:=by
 cases x<;>cases y<;>first|exact h.elim|skip
 .exact h
 .rename_i Z as K N V W l;obtain⟨S,C,Q,A,F,G,T,U⟩:=h;refine⟨S,C,Q,A,F,G,T,λu t v M=>(U u t v M).drop (IM ?_ M)⟩;cases W<;>first|exact L|exact b3 rfl u
 .obtain⟨R,f,F,G⟩:=h;exact⟨R,f,F,G.drop L⟩
 .trivial
def pL{l:List α}{x:α}(h:(l.take n)[i]?=some x):l[i]?=some x:=by
 rw[Cz]at h;split at h
 .exact h
 .cases h
def sy{b:Nat}(h:(J.take n k j).hb b):J.hb b:=by
 rcases h with⟨id,x,a,e⟩|⟨id,e,d,c⟩|⟨id,x,a,e⟩
 .exact .inl ⟨id,x,pL a,e⟩
 .exact .inr (.inl ⟨id,e,pL d,c⟩)
 .exact .inr (.inr ⟨id,x,pL a,e⟩)
def MemC.drop{m:MS}(h:MemC O J m w)(f:eV n k j (m.c.take n)=true)(G:gV n k j (m.o.take j)=true):MemC O (J.take n k j) (m.take n k j) w where
 len:=by simp[Bl.take,MS.take,h.len]
 A6:=by simp[Bl.take,MS.take,<-h.A6]
 box id N t v hb hc:=by obtain⟨C,e,u,A,F⟩:=h.box id N t v (pL hb) (pL hc);exact⟨C,e,u,A.drop (PC f hc),F⟩
 inj i j x y hx hy:=h.inj i j x y (pL hx) (pL hy)
 tail id e N he:=h.tail id e N (pL he)
 A3 i j e e' N f hj:=h.A3 i j e e' N (pL f) (pL hj)
 known:=h.known
 R:=by simp[Bl.take,MS.take,h.R]
 obj id y x hy hx:=(h.obj id y x (pL hy) (pL hx)).drop (PE G hx)
 A2 i j x y b hx hy:=h.A2 i j x y b (pL hx) (pL hy)
 I i j x y hx hy:=h.I i j x y (pL hx) (pL hy)
def Mem.drop{m:MS}(h:Mem E O J m w)(u:eV n k j (m.c.take n)=true)(A:gV n k j (m.o.take j)=true):Mem E O (J.take n k j) (m.take n k j) w:=
 ⟨h.toMemC.drop u A,E.on h.gh (GrS.sub λb f=>f.elim (λf=>.inl (sy f)) .inr) h.known,h.B1,⟨λf=>h.C3.1 (sy f),λf=>h.C3.2 (sy f)⟩,h.marks⟩
def Gr.drop{A:Ro}{f:Bl}{M:World}(h:Gr O J w A f M)(Q:J.b.length<=n)(N:J.t.length<=k)(L:J.o.length<=j):Gr O J w A (f.take n k j) M where
 os:=h.os
 tape:=h.tape
 output:=h.output
 size:=h.size
 old:=h.old
 le:=⟨h.le.r,λid x u=>qJ (h.le.b id x u) (CF (iA.1 u).1 Q),λid e G=>by
  obtain⟨K,C,F⟩:=h.le.t id e G;exact⟨K,qJ C (CF (iA.1 G).1 N),F⟩,λid x u=>by
  obtain⟨R,C,F⟩:=h.le.o id x u;exact⟨R,qJ C (CF (iA.1 u).1 L),F⟩,h.le.g⟩
 new b hb:=h.new b (sy hb)
 k:=h.k
def Mem.lens{m:MS}(h:Mem E O J m w):J.b.length=m.c.length/\J.t.length=m.t.length/\J.o.length=m.o.length:=⟨h.len,by have:=dE List.length h.A6;simpa using this,h.R⟩
def GP{m:MS}(h:Mem E O J m w):Mem E O (J.A1 (none,0,0)) ⟨m.c,m.t++[0],m.o⟩ w/\Gr O J w O (J.A1 (none,0,0)) w/\Le O J O (J.A1 (none,0,0))/\∀{c ty:Ty} {k f:Nat->D} {g:List Value},eX O J (.ow 0 0 0 c k) g->eX O (J.A1 (none,0,0)) (.ow (m.t.length+1) 0 0 ty f) g:=by
 have j:Gr O J w O (J.A1 (none,0,0)) w:=(Gr.refl O J w).H2 (Le.A1 O J _) rfl λid e d he l=>by
  rcases lV he with⟨rfl,rfl⟩|he
  .cases l
  .exact .inl ⟨e,he,l⟩
 obtain⟨s,t⟩:=h.A1 (b:=none) (W:=0) (λd h=>by cases h) (λ_ _ _ _ _ h=>by cases h) (E.on h.gh j.s h.known) (h.E7 j);have a:J.t.length=m.t.length:=h.lens.2.1;refine⟨s,j,t,λ{c ty k f g} u=>?_⟩;obtain⟨y,e,n,o,_,i,p⟩:=u;cases o;refine⟨y,(none,0,0),n.C8,?_,a9 _,λ_=>.inl ?_,p⟩
 .show(J.t++[_])[m.t.length]?=_;rw[<-a];exact rE
 .rcases i rfl with i|⟨_,_,_,_,q,_⟩
  .exact i
  .cases q
def zbd{m:MS}{K:X->List Ent->MS->Prop}(t:Nat)(ty:Ty)(f:Nat->D){j:Ty}{n:Nat->D}(A:look V t=some (.ow 0 0 0 j n))(h:Ok P N F c (.put t (.ow (m.t.length+1) 0 0 ty f)::V) ⟨m.c,m.t++[0],m.o⟩ K):Ok P N F c V m K:=by
 intro E r nn O J a w G k;obtain⟨o,y,x,g⟩:=GP k.m;have M:du O J (.ow 0 0 0 j n) (a.tmps.getD t undef):=k.l.yes t [] _ (by simp[fP,A]) (λp d=>by cases d);have Q:du O (J.A1 (none,0,0)) (.ow (m.t.length+1) 0 0 ty f) (a.tmps.getD t undef):=⟨ef,λ_=>g (M.2 rfl)⟩;have l:Sim E O (J.A1 (none,0,0)) (.put t (.ow (m.t.length+1) 0 0 ty f)::V) ⟨m.c,m.t++[0],m.o⟩ N a w:=by
  refine⟨⟨k.l.size,λq s v b _=>?_,λq s v b z=>?_⟩,o⟩
  .simp only[fP,fB]at b;obtain⟨u,i,b⟩:=b;cases b;simp only[look]at i;split at i
   .rename_i L;have:=fp L;subst this;cases i;exact Q
   .exact(k.l.yes q [] v (by simp[fP,i]) λp d=>by cases d).mono x
  .simp only[fP,fB]at b;obtain⟨u,i,b⟩:=b;cases b;exact b3 (λ_ d=>by cases d) z
 exact wpIn_mono (h E r nn O _ a w G l) λe R S C=>C.same o y rfl (gN.refl _ _) (λ_ h=>h) λ_ _ _ h=>h
def oA{m:MS}{K:X->List Ent->MS->Prop}(t:Nat)(ty:Ty)(f:Nat->D){a:Ty}{b:Nat->D}(d:look V t=some (.ow 0 0 0 a b))(h:ez P N F c (.put t (.ow (m.t.length+1) 0 0 ty f)::V) ⟨m.c,m.t++[0],m.o⟩ K):ez P N F c V m K:=zbd t ty f d h
def Bm{m:MS}{K:X->List Ent->MS->Prop}(id:Nat)(d:List Nat)(ty:Ty)(f:Nat->D){n:Ty}{Q:Nat->D}{v v':SV}(A:kI m.c id=some v)(S:v.B0 d=some (.ow 0 0 0 n Q))(hv:v.set d (.ow (m.t.length+1) 0 0 ty f)=some v')(k:∃o t',v.shape.off d=some (o,t'))(h:Ok P N F c V ⟨oJ m.c id v',m.t++[0],m.o⟩ K):Ok P N F c V m K:=by
 intro E r nn O J a w hr x;obtain⟨b,hG,Z,l⟩:=GP x.m;rw[qH]at A;rw[vy]at h;have j:Mem E O (J.A1 (none,0,0)) ⟨m.c.set id v',m.t++[0],m.o⟩ w:=by
  refine⟨⟨by show(J.A1 _).b.length=(m.c.set id v').length;rw[wU];exact b.len,b.A6,λi g t u z L=>?_,b.inj,b.tail,b.A3,b.known,b.R,b.obj,b.A2,b.I⟩,b.gh,b.B1,b.C3,b.marks⟩;rcases mS L with⟨rfl,rfl⟩|⟨_,L⟩
  .obtain⟨C,e,R,s,W,Y⟩:=b.box i g t v z A;refine⟨C,e,R,?_⟩;subst W;obtain⟨o,t',q⟩:=k;obtain⟨hs,ab⟩:=SV.O s q S;cases hs;obtain⟨p,e0,U,q2,q3,q4⟩:=x.m.box i g _ v z A;rw[R]at U;cases U;obtain⟨_,G⟩:=SV.O q2 q S;obtain⟨k1,M⟩:=SV.A4 s q (l (ty:=ty) (f:=f) G) rfl hv;have aa:=Ty.T q;have T:=s.length;have:(C.toList.take o++(C.toList.drop o).take (Ty.size .c)++C.toList.drop (o+Ty.size .c))=C.toList:=by rw[iJ,<-pS,nF,nF]
   rw[show(SV.ow 0 0 0 n Q).shape.size=Ty.size .c from rfl]at M;rw[this]at M;exact⟨M,k1,Y⟩
  .exact b.box i g t u z L
 have y:Sim E O (J.A1 (none,0,0)) V ⟨m.c.set id v',m.t++[0],m.o⟩ N a w:=⟨x.l.le Z,j⟩;exact wpIn_mono (h E r nn O _ a w hr y) λe a2 w2 hq=>hq.same j hG rfl (gN.refl _ _) (λ_ h=>h) λ_ _ _ h=>h
def ze3{F:Fence}{Q:Exit->Act->World->Prop}(I:Nat->Act->World->Prop)(b:Nat)(i:I b a w)(f:∀n a w,I n a w->c.wpIn F k P (Exit.then (λT M=>∃h,h<n/\I h T M) Q) a w):(Code.loop c).wpIn F k P Q a w:=by
 refine wpIn_loop (λa w=>∃n,I n a w) (λa w=>leastOf λn=>I n a w) ⟨b,i⟩ ?_;intro a w m;refine wpIn_mono (f _ a w (leastOf_spec m).1) ?_;intro e T M g;cases e with
 |normal=>
  obtain⟨h,j,d⟩:=g;exact show(∃n,I n T M)/\leastOf (λn=>I n T M)<leastOf (λn=>I n a w) from⟨⟨h,d⟩,Nat.lt_of_le_of_lt ((leastOf_spec ⟨h,d⟩).2 h d) j⟩
 |exit id=>exact g
 |goto l=>exact g
 |ret=>exact g
 |panic o=>exact g
 |outgrown=>exact g
def gy:List (Nat×SV)->List Ent->List Ent
 |[],V=>V
 |(t,v)::r,V=>.put t v::gy r V
def tC(V:List Ent):List (Nat×SV)->Prop
 |[]=>True
 |(t,v)::r=>look V t=some v/\tC V r
def Cn(U m:MS):Prop:=U.take m.c.length m.t.length m.o.length=m/\(eV m.c.length m.t.length m.o.length m.c&&gV m.c.length m.t.length m.o.length m.o)=true
def Ab{V:List Ent}:∀{l:List (Nat×SV)},tC V l->∀e∈l,look V e.1=some e.2
 |[],_,_,a=>by cases a
 |(t,v)::r,h,e,a=>by
  rcases iB.1 a with rfl|a
  .exact h.1
  .exact Ab h.2 e a
def Jf:∀{l:List (Nat×SV)} {V:List Ent} {t:Nat} {v:SV},look (gy l V) t=some v->(t,v)∈l\/look V t=some v
 |[],_,_,_,h=>.inr h
 |(b,u)::r,V,t,v,h=>by
  simp only[gy,look]at h;split at h
  .rename_i a;have:=fp a;subst this;cases h;exact .inl (fQ ..)
  .rcases Jf h with h|h
   .exact .inl (fA _ h)
   .exact .inr h
def PD{n k j:Nat}:∀{l:List (Nat×SV)},eV n k j (l.map (·.2))=true->∀e∈l,e.2.ids n k j=true
 |[],_,_,a=>by cases a
 |x::r,h,e,a=>by
  simp only[oT,eV,dH]at h;rcases iB.1 a with rfl|a
  .exact h.1
  .exact PD h.2 e a
def Qb{m:MS}{K:X->List Ent->MS->Prop}(q:ι->Prop)(μ:ι->Nat)(C:ι->List (Nat×SV))(b:ι->MS)(i0:ι)(ah:q i0)(h0:tC V (C i0))(hm:m=b i0)(hn:∀i,m.c.length<=(b i).c.length/\m.t.length<=(b i).t.length/\m.o.length<=(b i).o.length)(hr:∀i,q i->Ok P N F c (gy (C i) (.kill (jK c)::V)) (b i) λx A U=>match x with
  | .U=>∃j,q j/\μ j<μ i/\tC A (C j)/\(U=b j\/(Cn U (b j)/\eV (b j).c.length (b j).t.length (b j).o.length ((C j).map (·.2))=true))
  |x=>K x A U):ez P N F c V m K:=by
 intro E r nn O J a0 w0 al hS;have ve:∀t v,look V t=some v->du O J v (a0.tmps.getD t undef):=λt v h=>hS.l.yes t [] v (by simp[fP,h]) (λp S=>by cases S);refine ze3 (λn a w=>∃i f d L,q i/\μ i=n/\Gr O J w0 f (d.A5 J.k) w/\(d.k=L++J.k/\Mks L w0/\(F=true->L=[]))/\Mem E f d (b i) w/\(∀e∈C i,du f d e.2 (a.tmps.getD e.1 undef))/\a.tmps.size=N/\a.defers=L.map ur++a0.defers/\gN (jK c) a0 a) (μ i0)
  ⟨i0,O,J,[],ah,rfl,Gr.refl _ _ _,⟨rfl,Jo w0,λ_=>rfl⟩,hm▸hS.m,λe W=>ve _ _ (Ab h0 e W),hS.l.size,rfl,gN.refl _ _⟩ ?_
 rintro n a w ⟨i,f,d,L,ab,rfl,s,hL,hM,aj,am,y,hU⟩;have ai:Le O J f d:=⟨s.le.r,s.le.b,s.le.t,s.le.o,s.le.g⟩;have aa:Sim E f d (gy (C i) (.kill (jK c)::V)) (b i) N a w:=by
  refine⟨⟨am,λt cc v o _=>?_,λt cc v o hc=>?_⟩,hM⟩
  .simp only[fP,fB]at o;obtain⟨u,z,o⟩:=o;cases o;rcases Jf z with z|z
   .exact aj _ z
   .simp only[look]at z;split at z
    .cases z
    .rename_i hk;have ad:t∉jK c:=λht=>by have:(jK c).any (Nat.beq t)=true:=qo.2 ⟨t,ht,uO t⟩;rw[this]at hk;cases hk
     rw[hU t ad];exact(ve _ _ z).mono ai
  .simp only[fP,fB]at o;obtain⟨u,z,o⟩:=o;cases o;exact b3 (λ_ S=>by cases S) hc
 refine wpIn_mono (hr i ab E r nn f d a w al aa) ?_;rintro e T M Y;cases e with
 |normal=>
  obtain⟨x,A,U,ae,Z,L2,G,g,h3,h4,h5,h6,h7,h8,h9⟩:=Y.next (K:=λx A U=>match x with
   | .U=>∃j,q j/\μ j<μ i/\tC A (C j)/\(U=b j\/(Cn U (b j)/\eV (b j).c.length (b j).t.length (b j).o.length ((C j).map (·.2))=true))
   |x=>K x A U) hM s hL y hU (λ_ h=>h) (λ_ _ _ h=>h)
  cases vn g;obtain⟨j,ac,hj,o,rfl|⟨⟨Q,R⟩,ag⟩⟩:=G
  .exact⟨μ j,hj,j,ae,Z,L2,ac,rfl,h6,h7,h3,λe W=>(h4 (by simp)).yes e.1 [] e.2 (by simp[fP,Ab o e W]) (λp S=>by cases S),h5,h8,h9⟩
  simp only[dH]at R;have af:U.c.take (b j).c.length=(b j).c:=by have:=dE MS.c Q;simpa only[MS.take]using this
  have ak:U.o.take (b j).o.length=(b j).o:=by have:=dE MS.o Q;simpa only[MS.take]using this
  obtain⟨l1,l2,l3⟩:=hS.m.lens;obtain⟨n1,n2,n3⟩:=hn j;refine⟨μ j,hj,j,ae,Z.take (b j).c.length (b j).t.length (b j).o.length,L2,ac,rfl,h6.drop (by omega) (by omega) (by omega),h7,?_,λe W=>?_,h5,h8,h9⟩
  .have:=h3.drop (n:=(b j).c.length) (k:=(b j).t.length) (j:=(b j).o.length) (by rw[af];exact R.1) (by rw[ak];exact R.2);rw[Q]at this;exact this
  .have hy:=(h4 (by simp)).yes e.1 [] e.2 (by simp[fP,Ab o e W]) (λp S=>by cases S);exact hy.drop (PD ag e W)
 |exit id=>
  refine(Y.next hM s hL y hU (λ_ h=>h) (λ_ _ _ h=>h)).of (λ_ h=>h) λx V m f d g G=>?_;cases ud g;exact⟨_,G,g,λh=>h⟩
 |ret=>
  refine(Y.next hM s hL y hU (λ_ h=>h) (λ_ _ _ h=>h)).of (λ_ h=>h) λx V m f d g G=>?_;cases x<;>first|exact g.elim|exact⟨_,G,g,λh=>h⟩
 |goto l=>obtain⟨x,_,_,_,_,_,_,g,_⟩:=Y;cases x<;>exact g.elim
 |panic ch=>
  refine(Y.next hM s hL y hU (λ_ h=>h) (λ_ _ _ h=>h)).of (λ_ h=>h) λx V m f d g G=>?_;cases x<;>first|exact g.elim|exact⟨_,G,g,λh=>h⟩
 |outgrown=>obtain⟨x,_,_,_,_,_,_,g,_⟩:=Y;cases x<;>exact g.elim
def wu(h:tb.ok P){m:MS}{K:X->List Ent->MS->Prop}(b:ι->Prop)(μ:ι->Nat)(d:ι->List (Nat×SV))(a:ι->MS)(e:ι)(f:b e)(g:tC V (d e))(l:m=a e)(n:∀i,m.c.length<=(a i).c.length/\m.t.length<=(a i).t.length/\m.o.length<=(a i).o.length)(o:∀i,b i->ji P tb N F c (gy (d i) (.kill (jK c)::V)) (a i) λx A U=>match x with
  | .U=>∃j,b j/\μ j<μ i/\tC A (d j)/\(U=a j\/(Cn U (a j)/\eV (a j).c.length (a j).t.length (a j).o.length ((d j).map (·.2))=true))
  |x=>K x A U):ez P N F c V m K:=Qb b μ d a e f g l n λi k=>eJ h (o i k)
def dX(u:tb.ok P){m:MS}{K:X->List Ent->MS->Prop}(d:ι->Prop)(μ:ι->Nat)(f:ι->List (Nat×SV))(b:ι->MS)(g:ι)(n:d g)(p:tC V (f g))(y:m=b g)(z:∀i,m.c.length<=(b i).c.length/\m.t.length<=(b i).t.length/\m.o.length<=(b i).o.length)(G:∀i,d i->ji P tb N F c (gy (f i) (.kill (jK c)::V)) (b i) λx A U=>match x with
  | .U=>∃j,d j/\μ j<μ i/\tC A (f j)/\Cn U (b j)/\eV (b j).c.length (b j).t.length (b j).o.length ((f j).map (·.2))=true
  |x=>K x A U):ez P N F c V m K:=
 Qb d μ f b g n p y z λi v E r nn O J a w k l=>wpIn_mono (eJ u (G i v) E r nn O J a w k l) λe T M C=>C.of (λ_ h=>h) λx V m Q o L h=>⟨x,(by
  cases x with
  |U=>
   obtain⟨j,k,l,q,s,t⟩:=h;exact⟨j,k,l,q,.inr ⟨s,t⟩⟩
  |_=>exact h),L,λh=>h⟩
def BC(tb:TT)(V:List Ent)(m:MS):ResultVar->Option SV
 | .tmp t=>match look V t with
  |some v=>match v.nt with
   |true=>some v.res
   |false=>none
  |none=>none
 | .cell a T=>match look V a with
  |some (.B id b)=>match kI m.c id with
   |some v=>match v.B0 b with
    |some c=>match tb.get T with
     |some i=>match od c.shape c.agg i&&c.nt with
      |true=>some c.res
      |false=>none
     |none=>none
    |none=>none
   |none=>none
  |_=>none
def BB(tb:TT)(V:List Ent)(m:MS):List ResultVar->Option SV
 |[]=>some (.d .un)
 |r::l=>match BC tb V m r,BB tb V m l with
  |some v,some c=>some (.H v c)
  |_,_=>none
def Ff(tb:TT)(V:List Ent)(m:MS):List ResultVar->Option SV
 |[r]=>BC tb V m r
 |l=>(BB tb V m l).map .tu
def kc:Nat->List SV->List Ent
 |_,[]=>[]
 |n,v::r=>.put n v::kc (n+1) r
def ux(tb:TT)(V:List Ent)(m:MS):ResultVar->Option SV
 | .tmp t=>match look V t with
  |some v=>match v.nt with
   |true=>some v
   |false=>none
  |none=>none
 | .cell a T=>match look V a with
  |some (.B id b)=>match kI m.c id with
   |some v=>match v.B0 b with
    |some c=>match tb.get T with
     |some i=>match od c.shape c.agg i&&c.nt with
      |true=>some c
      |false=>none
     |none=>none
    |none=>none
   |none=>none
  |_=>none
def xV(tb:TT)(V:List Ent)(m:MS):List ResultVar->Option SV
 |[]=>some (.d .un)
 |r::l=>match ux tb V m r,xV tb V m l with
  |some v,some c=>some (.H v c)
  |_,_=>none
def rT(tb:TT)(V:List Ent)(m:MS):List ResultVar->Option SV
 |[r]=>ux tb V m r
 |l=>(xV tb V m l).map .tu
def xn(tb:TT)(A:List ResultVar)(K:Out->MS->Prop)(x:X)(V:List Ent)(m:MS):Prop:=
 match x with
 | .exit _=>False
 | .P d=>K (.P d) m
 |_=>match rT tb V m A with
  |some v=>K (.ret v) m
  |none=>False
def gS(tb:TT)(n k j:Nat)(A:List ResultVar)(K:Out->MS->Prop)(x:X)(V:List Ent)(m:MS):Prop:=
 match x with
 | .exit _=>False
 | .P d=>(eV n k j (m.c.take n)&&gV n k j (m.o.take j))=true/\K (.P d) (m.take n k j)
 |_=>match Ff tb V m A with
  |some v=>(v.ids n k j&&(eV n k j (m.c.take n)&&gV n k j (m.o.take j)))=true/\K (.ret v) (m.take n k j)
  |none=>False
def zA(tmps:Array Value):ResultVar->Sem Value
 | .tmp t=>pure (tmps.getD t undef)
 | .cell p t=>do loadVar t (<-asAddr (tmps.getD p undef))
def Sb{m:MS}{r:ResultVar}{v:SV}(h:BC tb V m r=some v):∃u,ux tb V m r=some u/\v=u.res:=by
 cases r with
 |tmp t=>
  simp only[BC,ux]at h ⊢;split at h
  .split at h
   .cases h;exact⟨_,rfl,rfl⟩
   .cases h
  .cases h
 |cell p T=>
  simp only[BC,ux]at h ⊢
  repeat' split at h
  all_goals first|(cases h;done)|(cases h;exact⟨_,rfl,rfl⟩)
def RV(k:tb.ok P){m:MS}(l:SimL O J [] V N a)(j:Mem E O J m w){r:ResultVar}{v:SV}(h:ux tb V m r=some v):
 ∃x,(zA a.tmps r).run P w=.ok x w/\fJ O J v x:=by
 have ve:∀t v,look V t=some v->du O J v (a.tmps.getD t undef):=λt v h=>l.yes t [] v (by simp[fP,h]) (λp A=>by cases A);cases r with
 |tmp t=>
  simp only[ux]at h;split at h
  .rename_i u b;split at h
   .rename_i c;cases h;exact⟨_,rfl,(ve _ _ b).a (SV.D6 c)⟩
   .cases h
  .cases h
 |cell p T=>
  simp only[ux]at h;split at h
  .rename_i id f F;obtain⟨g,t,o,K,n,z,e⟩:=(ve _ _ F).B;split at h
   .rename_i u b;rw[qH]at b;split at h
    .rename_i L s;split at h
     .rename_i i q;split at h
      .rename_i d;cases h;simp only[od,dH,gG]at d;obtain⟨y,G,C⟩:=P6 (P:=P) j n b z s (T:=T) (by rw[fp d.1.1,d.1.2];exact(k _ _ q).1);refine⟨y,?_,C⟩;unfold zA;simp only[e];simp[asAddr,G]
      .cases h
     .cases h
    .cases h
   .cases h
  .cases h
def uy(tmps:Array Value):List ResultVar->Sem (List Value)
 |[]=>pure []
 |r::l=>do
  let x<-zA tmps r
  let G<-uy tmps l
  pure (x::G)
def RU(g:tb.ok P){O:Ro}{J:Bl}{V:List Ent}{m:MS}{N:Nat}{a:Act}{w:World}(i:SimL O J [] V N a)(f:Mem E O J m w):∀{l:List ResultVar} {v:SV},xV tb V m l=some v->
 ∃G:List Value,(uy a.tmps l).run P w=.ok G w/\n4 O J v G/\G.length=l.length
 |[],v,h=>by simp only[xV,fW]at h;subst h;exact⟨[],rfl,rfl,rfl⟩
 |r::l,v,h=>by
  simp only[xV]at h;split at h
  .rename_i u c n j;cases h;obtain⟨x,o,d⟩:=RV g i f n;obtain⟨G,e,b,k⟩:=RU g i f j;exact⟨x::G,by unfold uy;simp[jt,o,e],⟨x,G,rfl,d,b⟩,by simp[k]⟩
  .cases h
def wD:List Value->Value
 |[x]=>x
 |G=>.tuple G.toArray
def GZ{β γ:Type}(A:Result α)(f:α->World->Result β)(g:β->World->Result γ):(A.andThen f).andThen g=A.andThen λa w=>(f a w).andThen g:=by cases A<;>rfl
def Wa(A:Result α):(A.andThen λa w=>.ok a w)=A:=by cases A<;>rfl
def Sc(c:fn.results.toList.length<=3)(h:(uy tmps fn.results.toList).run P w=.ok G w):(results fn tmps).run P w=.ok (wD G) w:=by
 have e:∀l,fn.results.toList=l->fn.results=l.toArray:=λl c=>nW (b8 c);have b:∀{R:Result (List Value)},R=.ok G w->R.andThen (λG w=>.ok (wD G) w)=.ok (wD G) w:=λh=>by rw[h];rfl
 rw[<-b h]
 match a:fn.results.toList,c with
 |[],_=>unfold results;rw[e _ a];simp[wD,uy]
 |[r],_=>unfold results;rw[e _ a];cases r<;>simp[wD,uy,zA,jt,GZ,Wa]
 |[r,s],_=>unfold results;rw[e _ a];cases r<;>cases s<;>simp[wD,uy,zA,jt,GZ]
 |[r,s,t],_=>unfold results;rw[e _ a];cases r<;>cases s<;>cases t<;>simp[wD,uy,zA,jt,GZ]
 |_::_::_::_::_,d=>simp at d
def RW(j:tb.ok P){m:MS}(k:SimL O J [] V N a)(i:Mem E O J m w)(l:fn.results.toList.length<=3){v:SV}(h:rT tb V m fn.results.toList=some v):
 ∃x,(results fn a.tmps).run P w=.ok x w/\du O J v x:=by
 unfold rT at h;split at h
 .rename_i r e;obtain⟨x,p,o⟩:=RV j k i h;have:=Sc (P:=P) (fn:=fn) (tmps:=a.tmps) (w:=w) l (G:=[x]) (by rw[e];unfold uy uy;simp[jt,p]);exact⟨x,this,o.v⟩
 .rename_i d;obtain⟨c,n,rfl⟩:=fB.1 h;obtain⟨G,g,f,b⟩:=RU j k i n;have:=Sc (P:=P) l g;refine⟨_,this,G,f,?_⟩;unfold wD;split
  .rename_i x;have:fn.results.toList.length=1:=by rw[<-b];rfl
   match e:fn.results.toList,this with
   |[r],_=>exact b3 e (d r)
  .rfl
def Ng{O:Ro}{J:Bl}:∀{args:List SV} {G:List Value} {n t:Nat} {v:SV},jf O J args G->look (kc n args) t=some v->n<=t/\∃x,G[t - n]?=some x/\du O J v x
 |[],_,_,_,_,_,h=>by simp[kc,look]at h
 |u::r,x::G,n,t,v,⟨a,b⟩,h=>by
  simp only[kc,look]at h;split at h
  .rename_i e;have:=fp e;subst this;cases h;exact⟨a9 _,x,eA,a⟩
  .obtain⟨c,y,f,d⟩:=Ng b h;refine⟨a3,y,?_,d⟩;rw[show t - n=(t -(n+1))+1 by omega];simpa using f
 |_::_,[],_,_,_,h,_=>h.elim
structure Shut (L:List Nat) (w wf:World):Prop where
 os:wf.os=w.os
 tape:wf.tape=w.tape
 output:wf.output=w.output
 size:wf.heap.size=w.heap.size
 same:∀b,b∉L->wf.heap[b]?=w.heap[b]?
def Jb{F:Fence}{n:Nat}{fn:Func}{tmps:Array Value}{R:Ending->World->Prop}{u:FrameMode}(j:u≠.run):∀{L:List Nat} {w:World},L.Nodup->(∀D∈L,w.heap[D]?=some (.deferred (some [])))->(∀f,Shut L w f->LeavesIn F n P fn tmps R [] u f)->LeavesInM F n P fn tmps R (L.map ur) u w
 |[],w,_,_,h=>h w ⟨rfl,rfl,rfl,rfl,λ_ _=>rfl⟩
 |D::L,w,d,i,h=>by
  have d:=pW.1 d;have hD:=i D (fQ ..);refine⟨j,.inl ⟨D,w.putObj D (.deferred none),rfl,run_takeDeferred hD,Jb j d.2 (λk a=>?_) λf c=>h f ⟨c.os,c.tape,c.output,by rw[c.size];simp,λb g=>?_⟩⟩⟩
  .rw[World.putObj_heap_other λe=>d.1 (by subst e;exact a)];exact i k (fA _ a)
  .rw[c.same b λh=>g (fA _ h),World.putObj_heap_other λe=>g (by subst e;exact fQ ..)]
def Mem.shut{m:MS}{N:World}(h:Mem E O J m w){L k:List Nat}(R:J.k=L++k)(u:Shut L w N)(hd:∀D∈k,D∉L):Mem E O (J.A5 k) m N:=by
 have S:∀D∈L,w.heap[D]?=some (.deferred (some [])):=λD hD=>h.marks D (by rw[R];exact eP.2 (.inl hD));have Q:∀b,J.hb b->N.heap[b]?=w.heap[b]?:=λb Q=>u.same b λhL=>h.E2 (S b hL) Q;have K:∀b Y,O b=some Y->N.heap[b]?=w.heap[b]?:=λb Y T=>u.same b λhL=>by obtain⟨_,_,_,f,_⟩:=h.known b Y T;rw[S b hL]at f;cases f
 have M:Le O J O (J.A5 k):=⟨Ro.le_refl _,λ_ _ h=>h,(Le.refl O J).t,(Le.refl O J).o,rfl⟩;have W:MemC O (J.A5 k) m N:=⟨h.len,h.A6,λid A t v j hc=>by
  obtain⟨C,U,f,F,G⟩:=h.box id A t v j hc;exact⟨C,U,(Q A (Bl.G5 j)).trans f,F.mono M,G⟩,h.inj,λid e A he j=>by
  obtain⟨Y,C,ty,f,F,G⟩:=h.tail id e A he j;exact⟨Y,C,ty,f,(K _ _ f).trans F,G⟩,h.A3,λb Y T=>by
  obtain⟨C,U,V,f,F⟩:=h.known b Y T;exact⟨C,U,V,(K _ _ T).trans f,F⟩,h.R,λid y x Z j=>(h.obj id y x Z j).to M λb j=>⟨Q b (Bl.B8 Z j),rfl⟩,h.A2,h.I⟩
 refine⟨W,E.on h.gh ⟨u.os,u.tape,u.output,sX u.size.symm,λb _ hn=>⟨u.same b λhL=>hn (.inr (by rw[R];exact eP.2 (.inl hL))),rfl⟩,Ro.le_refl _,λb j=>.inl (j.elim .inl λj=>.inr (by rw[R];exact eP.2 (.inr j)))⟩ W.known,?_,h.C3,λD hD=>?_⟩
 .obtain⟨⟨C,ty,V,f,F⟩,⟨es,aa,G,h4⟩⟩:=h.B1;exact h.B1.to (u.same 0 λhL=>by rw[S 0 hL]at f;cases f) (u.same J.g λhL=>by rw[S J.g hL]at G;cases G)
 .rw[u.same D (hd D hD)];exact h.marks D (by rw[R];exact eP.2 (.inr hD))
def Hh{m:MS}(j:Mem E O J m w){args:List SV}(f:jf O J args G)(o:args.length<=N):Sim E O J (kc 0 args) m N {tmps:=G.toArray++Array.replicate (N - G.toArray.size) undef,defers:=[]} w:=by
 have g:=f.len;have d:(G.toArray++Array.replicate (N - G.toArray.size) undef).size=N:=by simp;omega
 refine⟨⟨d,λt i v a _=>?_,λt i v a k=>?_⟩,j⟩
 .simp only[fP,fB]at a;obtain⟨u,h,a⟩:=a;cases a;obtain⟨_,x,e,n⟩:=Ng f h;have c:t<G.length:=by have:=(iA.1 e).1;omega
  have b:(G.toArray++Array.replicate (N - G.toArray.size) undef).getD t undef=x:=by simp only[oO];rw[Array.getElem?_append_left (b8 c)];simp at e ⊢;rw[e];rfl
  show du O J _ ((G.toArray++Array.replicate (N - G.toArray.size) undef).getD t undef);rw[b];exact n
 .simp only[fP,fB]at a;obtain⟨u,h,a⟩:=a;cases a;exact b3 (λ_ l=>by cases l) k
def QH{m:MS}{K C:X->List Ent->MS->Prop}(h:Ok P N F c V m K)(g:∀x V m,K x V m->C x V m):Ok P N F c V m C:=λE r nn O J a w j i=>
 wpIn_mono (h E r nn O J a w j i) λ_ _ _ ⟨x,A,U,d,b,L,e,f⟩=>⟨x,A,U,d,b,L,g _ _ _ e,f⟩
def DA(hP:tb.ok P)(hf:P.funcs[f]?=some fn)(V:fn.body=some c)(hE:uJ P f)(hl:fn.results.toList.length<=3){args:List SV}(ha:args.length<=fn.ntmps){m:MS}{K:Out->MS->Prop}(h:Ok P fn.ntmps false c (kc 0 args) m (xn tb fn.results.toList K)):b6 P f args m K:=by
 refine⟨hE,λE O J w G hM hA=>callsIn_wide (n:=0) |>.1 (callsIn_of_wp_marks hf V trivial ?_)⟩;refine wpIn_mono (h E none 0 O J _ w (λ_=>rfl) (Hh hM hA ha)) ?_;rintro e T M ⟨x,A,U,g,a,L,Q,p,R,h4,h5,q,⟨S,N,_⟩,h9,_⟩;have hd:T.defers=L.map ur:=by rw[h9];simp
 have C:∀D∈L,M.heap[D]?=some (.deferred (some [])):=λD hD=>R.marks D (by rw[S];exact eP.2 (.inl hD));have k:∀D∈J.k,D∉L:=λD hD hL=>by have:=N.ge D hL;have:=(nX.1 (hM.marks D hD)).1;omega
 have u:∀s,Shut L M s->Gr O J w g (a.A5 J.k) s:=λs j=>⟨j.os.trans q.os,j.tape.trans q.tape,j.output.trans q.output,by rw[j.size];exact q.size,λb V hn=>by
  obtain⟨g1,g2⟩:=q.old b V hn;exact⟨(j.same b λhL=>by have:=N.ge b hL;omega).trans g1,g2⟩,q.le,q.new,rfl⟩
 have t:∀(Y:x=.U\/x=.ret),LeavesInM Fence.wide 0 P fn T.tmps (λe M=>∃g a U F,Mem E g a U M/\Gr O J w g a M/\CL g a F e/\K F U) T.defers .returning M:=λY=>by
  rw[hd];refine Jb eA N.nd C λs j=>?_;have o:match rT tb A U fn.results.toList with
   |some v=>K (.ret v) U
   |none=>False:=by rcases Y with rfl|rfl<;>exact Q
  split at o
  .rename_i v hv;have z:=R.shut S j k;have W:Le g a g (a.A5 J.k):=⟨Ro.le_refl _,λ_ _ h=>h,(Le.refl g a).t,(Le.refl g a).o,rfl⟩;obtain⟨y,Z,hr⟩:=RW hP ((h4 λd=>by rcases Y with rfl|rfl<;>simp).le W) z hl hv;exact⟨y,Z,g,a.A5 J.k,U,.ret v,z,u s j,⟨y,rfl,hr⟩,o⟩
  .exact o.elim
 cases e with
 |normal=>cases vn p;exact t (.inl rfl)
 |ret=>cases x<;>first|exact p.elim|exact t (.inr rfl)
 |exit i=>cases ud p;cases Q
 |goto l=>cases x<;>cases p
 |panic ch=>
  cases x with
  |P d=>
   obtain⟨y,rfl,Z⟩:=p;show LeavesInM Fence.wide 0 P fn T.tmps _ T.defers (.panicking _) M;rw[hd];refine Jb eA N.nd C λs j=>?_;exact⟨g,a.A5 J.k,U,.P d,R.shut S j k,u s j,⟨y,rfl,Z.mono ⟨Ro.le_refl _,λ_ _ h=>h,(Le.refl g a).t,(Le.refl g a).o,rfl⟩⟩,Q⟩
  |_=>cases p
 |outgrown=>cases x<;>cases p
def XG(a:tb.ok P)(g:P.funcs[f]?=some fn)(e:fn.body=some c)(b:uJ P f)(i:fn.results.toList.length<=3){args:List SV}(d:args.length<=fn.ntmps){m:MS}{K:Out->MS->Prop}(h:ji P tb fn.ntmps false c (kc 0 args) m (xn tb fn.results.toList K)):b6 P f args m K:=DA a g e b i d (eJ a h)
def Dz{args:List SV}{m:MS}{K:Out->MS->Prop}(h:b6 P f args m λo U=>match o with
  | .P d=>(eV m.c.length m.t.length m.o.length (U.c.take m.c.length)&&gV m.c.length m.t.length m.o.length (U.o.take m.o.length))=true/\K (.P d) (U.take m.c.length m.t.length m.o.length)
  | .ret v=>∃u,(∀O J x,du O J v x->du O J u x)/\(u.ids m.c.length m.t.length m.o.length&&(eV m.c.length m.t.length m.o.length (U.c.take m.c.length)&&gV m.c.length m.t.length m.o.length (U.o.take m.o.length)))=true/\K (.ret u) (U.take m.c.length m.t.length m.o.length)):b6 P f args m K:=by
 refine⟨h.1,λE O J w G q s=>(h.2 E O J w G q s).mono ?_⟩;rintro e M ⟨c,b,U,j,k,l,n,p⟩;obtain⟨y,z,A⟩:=q.lens;cases j with
 |P d=>
  obtain⟨a,g⟩:=p;simp only[dH]at a;obtain⟨x,rfl,i⟩:=n;exact⟨c,b.take m.c.length m.t.length m.o.length,_,.P d,k.drop a.1 a.2,l.drop a3 a3 a3,⟨x,rfl,i.drop rfl⟩,g⟩
 |ret v=>
  obtain⟨u,t,a,g⟩:=p;simp only[dH]at a;obtain⟨x,rfl,i⟩:=n;exact⟨c,b.take m.c.length m.t.length m.o.length,_,.ret u,k.drop a.2.1 a.2.2,l.drop a3 a3 a3,⟨x,rfl,(t _ _ _ i).drop a.1⟩,g⟩
def Sa{V:List Ent}{m:MS}:∀{l:List ResultVar} {v:SV},BB tb V m l=some v->∃u,xV tb V m l=some u/\∀O J G,n4 O J u G->n4 O J v G
 |[],v,h=>by simp only[BB,fW]at h;subst h;exact⟨_,rfl,λ_ _ _ h=>h⟩
 |r::l,v,h=>by
  simp only[BB]at h;split at h
  .rename_i a b j k;cases h;obtain⟨T,c,rfl⟩:=Sb j;obtain⟨f,d,n⟩:=Sa k;refine⟨.H T f,by simp only[xV,c,d],λO J G o=>?_⟩;obtain⟨x,s,e,g,i⟩:=o;exact⟨x,s,e,g.res,n _ _ _ i⟩
  .cases h
def zcE{m:MS}{r:ResultVar}{u:SV}(h:ux tb V m r=some u):u.nt=true:=by
 cases r<;>simp only[ux]at h<;>repeat' split at h
 all_goals first|(cases h;done)|skip
 .rename_i hn;cases h;exact hn
 .rename_i hn;cases h;simp only[dH]at hn;exact hn.2
def Kt{m:MS}{l:List ResultVar}{v:SV}(h:Ff tb V m l=some v):∃u,rT tb V m l=some u/\∀O J x,du O J u x->du O J v x:=by
 unfold Ff at h;unfold rT;split at h
 .obtain⟨u,a,rfl⟩:=Sb h;exact⟨u,a,λO J x i=>(i.a (SV.D6 (zcE a))).res.v⟩
 .rename_i f;obtain⟨c,e,rfl⟩:=fB.1 h;obtain⟨u,a,g⟩:=Sa e;refine⟨.tu u,?_,λO J x ⟨G,b,d⟩=>⟨G,g _ _ _ b,d⟩⟩;rw[a];rfl
def HF(g:tb.ok P)(n:P.funcs[f]?=some fn)(l:fn.body=some c)(j:uJ P f)(o:fn.results.toList.length<=3){args:List SV}(k:args.length<=fn.ntmps){m:MS}{K:Out->MS->Prop}(h:ji P tb fn.ntmps false c (kc 0 args) m (gS tb m.c.length m.t.length m.o.length fn.results.toList K)):b6 P f args m K:=by
 refine Dz (DA g n l j o k (QH (eJ g h) λx A U h=>?_));cases x with
 |exit i=>cases h
 |P d=>exact h
 |U=>
  simp only[gS]at h;split at h
  .rename_i v e;obtain⟨u,b,a⟩:=Kt e;simp only[xn,b];exact⟨v,a,h⟩
  .cases h
 |ret=>
  simp only[gS]at h;split at h
  .rename_i v e;obtain⟨u,b,a⟩:=Kt e;simp only[xn,b];exact⟨v,a,h⟩
  .cases h
end Sx
end Go.Proofs.YtfbhkfhbnkncoaaGreatDoor
