import Derived.Test.YtfbhkfhbnkncoaaGreatDoorV4
import Derived.Laws.Append
import Derived.Deep.Upon
set_option linter.all false
namespace Go.Proofs.YtfbhkfhbnkncoaaGreatDoor
open Go.RowKit
namespace Sx
variable {E:Gh}
variable {P:Program}
variable{Y:List Value}{W k n:Nat}{f:Nat->D}{b:Option Nat}
def y6{k:Nat}{g:Nat->List Value}{l:List Value}:∀(n:Nat),(∀i,i<n->(l.drop (i*k)).take k=g i)->l.take (n*k)=(List.range n).flatMap g
 |0,_=>eA
 |n+1,h=>by rw[mC,mA,<-y6 n λi a=>h i a3,iO,Mp,h n a3];simp
def SI{O:Ro}{J:Bl}{m:MS}{w:World}(R:Mem E O J m w){t:Ty}{y:Value}(h:dM O (.X n t f) [y]):
 ∃A c L,y=.slice A n c/\n<=c/\L.length=n*t.size/\(∀i,i<n->(f i).shape=t/\dM O (f i) ((L.drop (i*t.size)).take t.size))/\(∀v∈L,v.oneCell'=true)/\
  (∀M,M.heap=w.heap->(Builtin.firstCells t.size n y).run P M=.ok L.toArray M)/\(0<n->∃b off Y,A=some ⟨b,off,none⟩/\O b=some Y/\off+n*t.size<=Y.length/\L=(Y.drop off).take (n*t.size)):=by
 obtain⟨A,c,Z,K,U⟩:=h;cases Z;rcases pt n with rfl|V
 .refine⟨A,c,[],rfl,K,eA,λi d=>a3,λv p=>by simp at p,λM _=>?_,λh=>b3 h (ri _)⟩;cases A with
  |none=>simp[Builtin.firstCells,loadCells,loadCellsFrom]
  |some a=>exact run_firstCells_some (P:=P) M t.size 0 a 0 c [] eA λj v o=>by simp at o
 .obtain⟨b,off,Y,g,rfl,N,T,u⟩:=U V;obtain⟨C,e,G,S,s⟩:=R.known _ _ N;have k:((Y.drop off).take (n*t.size)).length=n*t.size:=by simp;omega
  have l:∀i,i<n->((((Y.drop off).take (n*t.size)).drop (i*t.size)).take t.size)=g i:=λi d=>by
   have:i*t.size+t.size<=n*t.size:=by rw[<-iO];exact gF _ d
   rw[qn this];exact(u i d).2.2
  have q:∀v∈(Y.drop off).take (n*t.size),v.oneCell'=true:=by
   have e:(Y.drop off).take (n*t.size)=(List.range n).flatMap g:=y6 n λi d=>by
    have Q:=l i d
    rwa [qn (by rw[<-iO];exact gF _ d),<-pS]at Q
   intro v p;rw[e]at p;obtain⟨i,d,p⟩:=om.1 p;exact(u i (gZ.1 d)).2.1.one v p
  refine⟨_,c,(Y.drop off).take (n*t.size),rfl,K,k,λi d=>⟨(u i d).1,by rw[l i d];exact(u i d).2.1⟩,q,λM W=>?_,λ_=>⟨b,off,Y,rfl,N,T,rfl⟩⟩;refine run_firstCells_some (P:=P) M t.size n _ n c _ k λj v o=>?_;rw[na];have x:M.heap[b]?=some (.cells C e G):=by rw[W];exact S
  rw[cell_of_row M b _ C e G x];have z:j<n*t.size:=by rw[<-k];exact(iA.1 o).1
  rw[tI z,sT]at o;obtain⟨r,F⟩:=s;have:C.toList[off+j]?=some v:=by rw[<-F,pV (iA.1 o).1];exact o
  simpa using this
def Kr{O:Ro}{t:Ty}{a off c:Nat}{b:List Value}(h:O a=some Y)(hd:Y.drop off=b)(j:b.length=n*t.size)(k:off<=Y.length)(g:n<=c)(d:∀i,i<n->(f i).shape=t/\dM O (f i) ((b.drop (i*t.size)).take t.size)):dM O (.X n t f) [.slice (some ⟨a,off,none⟩) n c]:=by
 refine⟨_,c,rfl,g,λ_=>⟨a,off,Y,λi=>(b.drop (i*t.size)).take t.size,rfl,h,?_,λi e=>⟨(d i e).1,(d i e).2,?_⟩⟩⟩
 .have:=dE List.length hd;simp at this;omega
 .show(Y.drop (off+i*t.size)).take t.size=(b.drop (i*t.size)).take t.size;rw[<-hd,pS]
def Mem.row{O:Ro}{J:Bl}{m:MS}{w:World}(h:Mem E O J m w){C:List Value}(hp:Y<+:C)(e:TypeId):
 Mem E (a7 O w.heap.size (some Y)) J m (w.alloc (.cells C.toArray e))/\Gr O J w (a7 O w.heap.size (some Y)) J (w.alloc (.cells C.toArray e)):=by
 have Q:∀b Y,O b=some Y->b<w.heap.size:=λb Y K=>by obtain⟨M,G,W,F,_⟩:=h.known b Y K;exact(nX.1 F).1
 have A:∀b,b<w.heap.size->(a7 O w.heap.size (some Y)) b=O b:=λb j=>by unfold a7;rw[if_neg a3]
 have L:Le O J (a7 O w.heap.size (some Y)) J:=⟨λb r K=>⟨r,by rw[A b (Q b r K)];exact K,wX _⟩,λ_ _ h=>h,λid G S=>⟨G,S,a9 _,λ_=>⟨rfl,λf j=>by
  obtain⟨r,_,_,F,_⟩:=h.tail id G f S j;exact A f (Q f r F)⟩⟩,λ_ x h=>⟨x,h,x.le_refl⟩,rfl⟩
 refine h.both ⟨h.len,h.A6,λid f t u j hc=>?_,h.inj,λid G f hi S=>?_,h.A3,λb r K=>?_,h.R,λid y x V U=>?_,h.A2,h.I⟩ ⟨rfl,rfl,rfl,eA,λb j _=>⟨Below.heap_alloc _ _ _ j,A b j⟩,L,λ_ h=>.inl h,rfl⟩
 .obtain⟨M,G,F,N,T,Z⟩:=h.box id f t u j hc;exact⟨M,G,(Below.heap_alloc _ _ _ (h.lt j)).trans F,N.mono L,T,by rw[A f (h.lt j)];exact Z⟩
 .obtain⟨r,M,ty,F,N,T⟩:=h.tail id G f hi S;exact⟨r,M,ty,by rw[A f (Q _ _ F)];exact F,(Below.heap_alloc _ _ _ (Q _ _ F)).trans N,T⟩
 .by_cases j:b=w.heap.size
  .subst j;have:r=Y:=by unfold a7 at K;simpa using K.symm
   subst this;exact⟨C.toArray,e,(0,0),(by show(w.heap.push _)[w.heap.size]?=_;simp),b8 hp⟩
  .have R:O b=some r:=by unfold a7 at K;rwa [if_neg j]at K
   obtain⟨M,G,W,F,N⟩:=h.known b r R;exact⟨M,G,W,(Below.heap_alloc _ _ _ (Q _ _ R)).trans F,N⟩
 .exact(h.obj id y x V U).to L λb j=>⟨Below.heap_alloc _ _ _ ((h.obj id y x V U).N j),A b ((h.obj id y x V U).N j)⟩
def Bl.B3(J:Bl)(k:Nat)(e:Option Nat×Nat×Nat):Bl:=⟨J.b,J.t.set k e,J.o,J.k,J.g⟩
def Bl.A1(J:Bl)(e:Option Nat×Nat×Nat):Bl:=⟨J.b,J.t++[e],J.o,J.k,J.g⟩
section
variable {O:Ro} {J:Bl} {m:MS} {w:World}
def Le.H8(O:Ro){J:Bl}{e:Option Nat×Nat×Nat}(G:J.t[k]?=some e)(C:Option Nat×Nat×Nat)(u:e.2.1<C.2.1){f:Ro}(L:O.le f)(M:∀(i:Nat) j b,i≠k->J.t[i]?=some j->j.1=some b->f b=O b):Le O J f (J.B3 k C):=⟨L,λ_ _ h=>h,λid j A=>by
 by_cases F:id=k
 .subst F;rw[G]at A;cases A;exact⟨C,DZ G,uP u,λh=>b3 h (GD u)⟩
 .exact⟨j,Pb A F,a9 _,λ_=>⟨rfl,λb K=>M id j b F A K⟩⟩,λ_ x h=>⟨x,h,x.le_refl⟩,rfl⟩
def Le.B3(O:Ro){J:Bl}{e:Option Nat×Nat×Nat}(u:J.t[k]?=some e)(f:Option Nat×Nat×Nat)(j:e.2.1<f.2.1):Le O J O (J.B3 k f):=Le.H8 O u f j (Ro.le_refl _) λ_ _ _ _ _ _=>rfl
def Le.A1(O:Ro)(J:Bl)(e:Option Nat×Nat×Nat):Le O J O (J.A1 e):=⟨Ro.le_refl _,λ_ _ h=>h,λid f j=>⟨f,It j,a9 _,λ_=>⟨rfl,λ_ _=>rfl⟩⟩,λ_ x h=>⟨x,h,x.le_refl⟩,rfl⟩
def Mem.B3(h:Mem E O J m w){e:Option Nat×Nat×Nat}(hk:J.t[k]?=some e)(hb:∀f,b=some f->∃Y C ty,O f=some Y/\w.heap[f]?=some (.cells C ty (0,0))/\C.size=W)(Z:∀i e f,J.t[i]?=some e->e.1=some f->b=some f->i=k)(Q:E.Y O (J.B3 k (b,e.2.1+1,W)).has w)(R:¬(J.B3 k (b,e.2.1+1,W)).hb 0/\¬(J.B3 k (b,e.2.1+1,W)).hb J.g):Mem E O (J.B3 k (b,e.2.1+1,W)) ⟨m.c,m.t.set k (e.2.1+1),m.o⟩ w/\Le O J O (J.B3 k (b,e.2.1+1,W)):=by
 have A:Le O J O (J.B3 k (b,e.2.1+1,W)):=Le.B3 O hk _ (mL _);refine⟨⟨⟨h.len,by show(J.t.set k _).map _=_;rw[List.map_set,h.A6],λid f t u N hc=>?_,h.inj,λid G f S V=>?_,λi j e1 e2 f K L F M=>?_,h.known,h.R,λid y x hy hx=>(h.obj id y x hy hx).to A λ_ _=>⟨rfl,rfl⟩,h.A2,h.I⟩,Q,h.B1,R,h.marks⟩,A⟩
 .obtain⟨cl,G,K,L,F⟩:=h.box id f t u N hc;exact⟨cl,G,K,L.mono A,F⟩
 .rcases mS S with⟨rfl,rfl⟩|⟨_,S⟩
  .exact hb f V
  .exact h.tail id G f S V
 .rcases mS K with⟨rfl,rfl⟩|⟨n1,T⟩<;>rcases mS L with⟨rfl,rfl⟩|⟨n2,U⟩
  .rfl
  .exact b3 (Z _ _ _ U M F) n2
  .exact b3 (Z _ _ _ T F M) n1
  .exact h.A3 i j e1 e2 f T U F M
def Mem.A1(h:Mem E O J m w)(hb:∀f,b=some f->∃Y C ty,O f=some Y/\w.heap[f]?=some (.cells C ty (0,0))/\C.size=W)(Z:∀(i:Nat) e f,J.t[i]?=some e->e.1=some f->b≠some f)(Q:E.Y O (J.A1 (b,0,W)).has w)(R:¬(J.A1 (b,0,W)).hb 0/\¬(J.A1 (b,0,W)).hb J.g):Mem E O (J.A1 (b,0,W)) ⟨m.c,m.t++[0],m.o⟩ w/\Le O J O (J.A1 (b,0,W)):=by
 have A:Le O J O (J.A1 (b,0,W)):=Le.A1 O J _;refine⟨⟨⟨h.len,by show(J.t++_).map _=_;rw[je,h.A6];rfl,λid f t u N hc=>?_,h.inj,λid G f S V=>?_,λi j e1 e2 f K L F M=>?_,h.known,h.R,λid y x hy hx=>(h.obj id y x hy hx).to A λ_ _=>⟨rfl,rfl⟩,h.A2,h.I⟩,Q,h.B1,R,h.marks⟩,A⟩
 .obtain⟨cl,G,K,L,F⟩:=h.box id f t u N hc;exact⟨cl,G,K,L.mono A,F⟩
 .rcases lV S with⟨rfl,rfl⟩|S
  .exact hb f V
  .exact h.tail id G f S V
 .rcases lV K with⟨rfl,rfl⟩|T<;>rcases lV L with⟨rfl,rfl⟩|U
  .rfl
  .exact b3 F (Z _ _ _ U M)
  .exact b3 M (Z _ _ _ T F)
  .exact h.A3 i j e1 e2 f T U F M
def Gr.H2{j:Ro}{f:Bl}{M:World}(g:Gr O J w j J M)(F:Le j J j f)(K:f.b=J.b)(N:∀(id:Nat) e N,f.t[id]?=some e->e.1=some N->(∃A,J.t[id]?=some A/\A.1=some N)\/w.heap.size<=N)(L:f.k=J.k:=by rfl)(Q:f.o=J.o:=by rfl):Gr O J w j f M:=
 ⟨g.os,g.tape,g.output,g.size,g.old,g.le.trans F,λb u=>by
  rcases u with⟨id,x,u,e⟩|⟨id,x,u,e⟩|⟨id,x,u,e⟩
  .exact .inl (.inl ⟨id,x,by rw[<-K];exact u,e⟩)
  .rcases N id x b u e with⟨A,C,G⟩|C
   .exact .inl (.inr (.inl ⟨id,A,C,G⟩))
   .exact .inr C
  .exact .inl (.inr (.inr ⟨id,x,by rw[<-Q];exact u,e⟩)),L⟩
def Mem.more(h:Mem E O J m w){f:Nat}{R:Nat}(hk:J.t[k]?=some (some f,R,W)){L:List Value}(hr:O f=some Y){C F:Array Value}{ty:TypeId}(hc:w.heap[f]?=some (.cells C ty (0,0)))(hs:F.size=W)(hp:Y++L<+:F.toList):
 Mem E (a7 O f (some (Y++L))) (J.B3 k (some f,R+1,W)) ⟨m.c,m.t.set k (R+1),m.o⟩ (w.setRow f F)/\Gr O J w (a7 O f (some (Y++L))) (J.B3 k (some f,R+1,W)) (w.setRow f F):=by
 have K:∀b,b≠f->(a7 O f (some (Y++L))) b=O b:=λb G=>by unfold a7;rw[if_neg G]
 have M:(a7 O f (some (Y++L))) f=some (Y++L):=by unfold a7;rw[if_pos rfl]
 have A:∀(i:Nat) e b,i≠k->J.t[i]?=some e->e.1=some b->b≠f:=λi e b U he G S=>U (by subst S;exact h.A3 _ _ _ _ _ he hk G rfl);have ab:Le O J (a7 O f (some (Y++L))) (J.B3 k (some f,R+1,W)):=Le.H8 O hk _ (mL _) (λb r G=>by
  by_cases e:b=f
  .subst e;rw[hr]at G;cases G;exact⟨_,M,Gz _ _⟩
  .exact⟨r,by rw[K b e];exact G,wX _⟩) λi e b U he G=>K b (A i e b U he G)
 have T:∀(id b:Nat) t,J.b[id]?=some (b,t)->b≠f:=λid b t G e=>by subst e;rw[h.C0 G]at hr;cases hr
 have V:∀(id b:Nat) y,J.o[id]?=some y->y.N=some b->b≠f:=λid b y hy G e=>by subst e;rw[h.C6 hy G]at hr;cases hr
 refine h.both ⟨h.len,by show(J.t.set k _).map _=_;rw[List.map_set,h.A6],λid b t u aa ac=>?_,h.inj,λid S b U he=>?_,λi j e1 e2 b Z h2 h3 h4=>?_,λb r G=>?_,h.R,λid y x hy Q=>(h.obj id y x hy Q).to ab λb G=>⟨setRow_other _ _ _ _ (V id b y hy G),K b (V id b y hy G)⟩,h.A2,h.I⟩ ⟨rfl,rfl,rfl,eA,λb _ ht=>?_,ab,λb Q=>?_,rfl⟩
 .obtain⟨cl,S,Z,h2,h3,h4⟩:=h.box id b t u aa ac;exact⟨cl,S,(setRow_other _ _ _ _ (T _ _ _ aa)).trans Z,h2.mono ab,h3,by rw[K b (T _ _ _ aa)];exact h4⟩
 .rcases mS U with⟨rfl,rfl⟩|⟨n1,U⟩
  .cases he;exact⟨_,F,ty,M,setRow_heap _ _ _ _ _ _ hc,hs⟩
  .obtain⟨r,cl,ad,Z,h2,h3⟩:=h.tail id S b U he;have N:=A id S b n1 U he;exact⟨r,cl,ad,by rw[K b N];exact Z,(setRow_other _ _ _ _ N).trans h2,h3⟩
 .rcases mS Z with⟨rfl,rfl⟩|⟨n1,g1⟩<;>rcases mS h2 with⟨rfl,rfl⟩|⟨n2,g2⟩
  .rfl
  .exact b3 (z8 (h3.symm)) (A _ _ _ n2 g2 h4)
  .exact b3 (z8 (h4.symm)) (A _ _ _ n1 g1 h3)
  .exact h.A3 i j e1 e2 b g1 g2 h3 h4
 .by_cases e:b=f
  .subst e;rw[M]at G;cases G;exact⟨F,ty,(0,0),setRow_heap _ _ _ _ _ _ hc,hp⟩
  .rw[K b e]at G;obtain⟨cl,S,fz,Z,h2⟩:=h.known b r G;exact⟨cl,S,fz,(setRow_other _ _ _ _ e).trans Z,h2⟩
 .have N:b≠f:=λe=>ht (Bl.D9 hk (by rw[e]));exact⟨setRow_other _ _ _ _ N,K b N⟩
 .rcases Q with Q|⟨id,x,Q,e⟩|Q
  .exact .inl (.inl Q)
  .rcases mS Q with⟨rfl,rfl⟩|⟨_,Q⟩
   .exact .inl (Bl.D9 hk e)
   .exact .inl (Bl.D9 Q e)
  .exact .inl (.inr (.inr Q))
end
end Sx
namespace Sx
variable {E:Gh}
variable {P:Program} {tb:TT}
variable{J:Bl}{l:List D}{m:MS}{c n:Nat}{f f':Nat->D}{ρ:Operand->Option SV}{A:Option Addr}{O:Ro}{t:Ty}{T e:TypeId}{x y:Value}{w:World}
def Nc{a L:List Value}(l:a.length=n*t.size)(k:L.length=c*t.size)(d:∀i,i<n->(f i).shape=t/\dM O (f i) ((a.drop (i*t.size)).take t.size))(g:∀i,i<c->(f' i).shape=t/\dM O (f' i) ((L.drop (i*t.size)).take t.size)):∀i,i<n+c->(fE n f f' i).shape=t/\dM O (fE n f f' i) (((a++L).drop (i*t.size)).take t.size):=λi j=>by
 unfold fE;rcases jB i n with h|h
 .rw[show Nat.blt i n=true from qq h];have:i*t.size+t.size<=n*t.size:=by rw[<-iO];exact gF _ h
  rw[r8 a3,qp (by rw[oS];omega)];exact d i h
 .have b:Nat.blt i n=false:=by
   cases b:Nat.blt i n with
   |false=>rfl
   |true=>have:=dF b;omega
  rw[b];have e:i*t.size=n*t.size+(i - n)*t.size:=by rw[<-nG,show n+(i - n)=i by omega]
  rw[pR,oQ a3,lE,show i*t.size - a.length=(i - n)*t.size by omega];exact g (i - n) a3
def KL(g:Mem E O J m w)(j:P.underlying T=some (.slice e))(h:dM O (.X n t f) [y]):
 ∃L,Src P t.size T y n L w/\L.length=n*t.size/\(∀i,i<n->(f i).shape=t/\dM O (f i) ((L.drop (i*t.size)).take t.size)):=by
 obtain⟨A,c,L,rfl,_,b,k,d,a,_⟩:=SI (P:=P) g h;exact⟨L,⟨.inl ⟨e,j⟩,λ_=>rfl,a _ rfl,a _ rfl,b,d⟩,b,k⟩
def JP{a:Ro}(b:O.le a){g:Nat->List Value}(h:∀i,i<n->(f i).shape=t/\dM O (f i) (g i)):∀i,i<n->(f i).shape=t/\dM a (f i) (g i):=λi c=>⟨(h i c).1,(h i c).2.mono b⟩
def dM.congr{g:Nat->D}{F:List Value}(h:dM O (.X n t f) F)(u:∀i,i<n->g i=f i):dM O (.X n t g) F:=by obtain⟨A,c,J,K,L⟩:=h;refine⟨A,c,J,K,λM=>?_⟩;obtain⟨j,C,Y,q,N,Q,R,S⟩:=L M;exact⟨j,C,Y,q,N,Q,R,λi G=>by rw[u i G];exact S i G⟩
def dM.C8{t':Ty}{j:List Value}(h:dM O (.X 0 t f) j):dM O (.X 0 t' f') j:=by obtain⟨A,c,u,C,_⟩:=h;exact⟨A,c,u,C,λh=>b3 h (ri _)⟩
def Sn{w ro' M}(n:Mem E O J m w)(g:Mem E ro' J m M)(y:Gr O J w ro' J M){id q:Nat}(G:AB m.t id=some q){N:Nat}{F:Nat->D}{v:Value}(A:dM ro' (.X N t F) [v]){b:Option Nat}{W:Nat}(r:∀a,b=some a->w.heap.size<=a/\∃Y C ty,ro' a=some Y/\M.heap[a]?=some (.cells C ty (0,0))/\C.size=W)(z:∀k,CQ ro' N t (b,k,W) v):
 ∃j,du ro' j (.ow (Dg m id) (Di id q) N t F) v/\Mem E ro' j ⟨m.c,Dh m id q,m.o⟩ M/\Gr O J w ro' j M:=by
 have x:∀(i:Nat) e a,J.t[i]?=some e->e.1=some a->a<w.heap.size:=λi e a f l=>by obtain⟨_,_,_,_,s,_⟩:=n.tail i e a f l;exact(nX.1 s).1
 have u:J.t.length=m.t.length:=by have:=dE List.length n.A6;simpa using this
 cases id with
 |zero=>
  have L:∀(i:Nat) e a,J.t[i]?=some e->e.1=some a->b≠some a:=λi e a f l s=>by have:=x i e a f l;have:=(r a s).1;omega
  have c:Gr O J w ro' (J.A1 (b,0,W)) M:=y.H2 (Le.A1 ro' J _) rfl λid e a o d=>by
   rcases lV o with⟨rfl,rfl⟩|o
   .exact .inr (r a d).1
   .exact .inl ⟨e,o,d⟩
  obtain⟨f,l⟩:=g.A1 (b:=b) (W:=W) (λa h=>(r a h).2) L (E.on n.gh c.s g.known) (n.E7 c);refine⟨_,⟨ef,λ_=>⟨v,(b,0,W),A,?_,a9 _,λ_=>z 0,rfl⟩⟩,f,c⟩;show(J.t++[_])[m.t.length]?=_;rw[<-u,oh (a9 _)];simp
 |succ k=>
  rw[O9,<-n.A6,pr,fB]at G;obtain⟨e,o,rfl⟩:=G;have c:Gr O J w ro' (J.B3 k (b,e.2.1+1,W)) M:=y.H2 (Le.B3 ro' o _ (mL _)) rfl λid K a p d=>by
   rcases mS p with⟨rfl,rfl⟩|⟨_,p⟩
   .exact .inr (r a d).1
   .exact .inl ⟨K,p,d⟩
  obtain⟨f,l⟩:=g.B3 o (b:=b) (W:=W) (λa h=>(r a h).2) (λi e a f l s=>by have:=x i e a f l;have:=(r a s).1;omega) (E.on n.gh c.s g.known) (n.E7 c);refine⟨_,⟨ef,λ_=>⟨v,(b,e.2.1+1,W),A,?_,a9 _,λ_=>z _,rfl⟩⟩,by show Mem E _ _ ⟨m.c,x3 m.t k _,m.o⟩ _;rw[Fs];exact f,c⟩;show(J.t.set k _)[k]?=_;rw[Cy (iA.1 o).1]
def Nd(hP:tb.ok P)(F:Mem E O J m w){ty:TypeId}(hT:P.underlying T=some (.slice e)){N:TI}(aH:tb.get e=some N)(hs:t.size=N.size)(aS:N.zero.d.shape.size=N.size){id S:Nat}(hx:du O J (.ow id S n t f) x)(hv:AB m.t id=some S){s:Nat}(hy:dM O (.X s t f') [y])(hb:n+s<=2147483648):
 ∃R p M v',(Builtin.append_ #[T,T] ty #[x,y]).run P w=.ok v' M/\du R p (.ow (Dg m id) (Di id S) (n+s) t (fE n f f')) v'/\Mem E R p ⟨m.c,Dh m id S,m.o⟩ M/\Gr O J w R p M:=by
 obtain⟨x',q,aC,g,_,aP,aQ⟩:=hx.2 rfl;cases aQ;have ag:S=q.2.1:=by
  cases id with
  |zero=>cases g;cases hv;rfl
  |succ k=>
   rw[O9,<-F.A6,pr]at hv
   change J.t[k]?=_ at g
   rw[g]at hv;cases hv;rfl
 have K:=aP ag;obtain⟨A,c,d,rfl,aI,as,aM,aY,aK,aL⟩:=SI (P:=P) F aC;obtain⟨L,z,ae,aJ⟩:=KL F hT hy;obtain⟨aO,⟨hk,hz,aE,ah⟩⟩:=hP _ _ aH;obtain⟨i,hi,aN⟩:=fB.1 aO.1;simp only[hi,qs,fW]at hz ah;have ah:=dF ah;have U:i.size=t.size:=by rw[hs,aN]
 have ai:(n+s)*i.bytes<=140737488355328:=eY (z7 hb ah) a8;have W:=Nc as ae aM aJ;have V:(d++L).length=(n+s)*t.size:=by rw[ew,as,ae,nG]
 have ak:c<n+s->∃R p M v',(Builtin.append_ #[T,T] ty #[.slice A n c,y]).run P w=.ok v' M/\du R p (.ow (Dg m id) (Di id S) (n+s) t (fE n f f')) v'/\Mem E R p ⟨m.c,Dh m id S,m.o⟩ M/\Gr O J w R p M:=λhg=>by
  have al:=grownCap_ge w (n+s) c e;have hr:=run_append_grow_src (P:=P) w T T ty e i _ hT hi hz A n c d (by rw[U];exact aK _ rfl) y s L (by rw[U];exact z) hg a3 (growslice_fits a3 ai);generalize grownCap w (n+s) c e=gc at hr al;have aR:(if N.ag then Value.agg N.zero.cells.toArray else N.zero.cells.headD undef).cells.size=t.size:=by
   have hc:=(fJ.Z (O:=O) (J:=J) (v:=.d N.zero.d) (N.zero.rep O)).cells.length;rw[show(SV.d N.zero.d).agg=N.ag from aE]at hc;have:(SV.d N.zero.d).shape.size=t.size:=by rw[hs];exact aS
   rw[<-this,<-hc];simp
  have af:d++L<+:((d++L).toArray++Builtin.zeroCells (if N.ag then Value.agg N.zero.cells.toArray else N.zero.cells.headD undef).cells (gc -(n+s))).toList:=by simp only[Ge];exact Gz _ _
  obtain⟨aa,an⟩:=F.drew.row af e;simp only[Gd]at aa an;have ac:=(Gr.drew O J w).trans an;have az:∀r:Ro,r w.heap.size=some (d++L)->(∀i,i<n+s->(fE n f f' i).shape=t/\dM r (fE n f f' i) (((d++L).drop (i*t.size)).take t.size))->dM r (.X (n+s) t (fE n f f')) [.slice (some ⟨w.heap.size,0,none⟩) (n+s) gc]:=λr h1 h2=>Kr (off:=0) h1 rfl V (dG _) al h2;have j:(a7 O w.drew.heap.size (some (d++L))) w.heap.size=some (d++L):=by unfold a7;exact if_pos rfl
  have u:=az _ j (JP an.le.r W);obtain⟨p,g1,g2,g3⟩:=Sn F aa ac hv u (b:=some w.heap.size) (W:=gc*t.size) (λa ab=>by
   cases ab;refine⟨a9 _,d++L,_,e,j,heap_alloc_new w.drew _,?_⟩;rw[LO,Mo,size_zeroCells,aR,V,<-nG,show n+s+(gc -(n+s))=gc by omega])
   (λk=>.inr ⟨w.heap.size,0,d++L,gc,rfl,rfl,j,by rw[V];omega,by show 0+gc*t.size=gc*t.size;omega⟩)
  exact⟨_,p,_,_,hr,g1,g2,g3⟩
 rcases pt s with rfl|hp
 .have ar:L=[]:=vN (by rw[ae];omega);subst ar;have hr:=run_append_nothing (P:=P) w T T ty e i hT hi A n c aI y (by rw[U];exact z);have u:dM O (.X (n+0) t (fE n f f')) [.slice A n c]:=aC.congr λi hi=>by unfold fE;rw[show Nat.blt i n=true from qq hi];rfl
  cases id with
  |zero=>
   cases g;have aq:∃A',Value.slice A n c=.slice A' n n:=by
    rcases K with h|⟨a,o,Y,Z,ad,_⟩
    .exact h
    .cases ad
   obtain⟨p,g1,g2,g3⟩:=Sn F F (Gr.refl _ _ _) hv u (b:=none) (W:=0) (λa ab=>by cases ab) λk=>.inl aq;exact⟨_,p,_,_,hr,g1,g2,g3⟩
  |succ k=>
   change J.t[k]?=_ at g
   have ac:Gr O J w O (J.B3 k (q.1,q.2.1+1,q.2.2)) w:=(Gr.refl O J w).H2 (Le.B3 O g _ (mL _)) rfl λaZ e' a ap ab=>by
    rcases mS ap with⟨rfl,rfl⟩|⟨_,ap⟩
    .exact .inl ⟨q,g,ab⟩
    .exact .inl ⟨e',ap,ab⟩
   obtain⟨h1,h2⟩:=F.B3 g (b:=q.1) (W:=q.2.2) (λa h=>F.tail k q a g h) (λi' e' a h1 h2 h3=>F.A3 _ _ _ _ _ h1 g h2 h3) (E.on F.gh ac.s F.known) (F.E7 ac);subst ag;refine⟨O,J.B3 k (q.1,q.2.1+1,q.2.2),w,_,hr,⟨ef,λ_=>⟨_,(q.1,q.2.1+1,q.2.2),u,?_,a9 _,λ_=>K,rfl⟩⟩,by show Mem E _ _ ⟨m.c,x3 m.t k _,m.o⟩ _;rw[Fs];exact h1,ac⟩;show(J.t.set k _)[k]?=_;rw[Cy (iA.1 g).1]
 .rcases K with⟨A',hA⟩|⟨a,o,Y,Z,ad,hA,hr,hl,av⟩
  .cases hA;exact ak a3
  .cases hA;rcases jB c (n+s)with hg|G
   .exact ak hg
   .cases id with
    |zero=>cases g;cases ad
    |succ k=>
     change J.t[k]?=_ at g
     obtain⟨aU,C,aT,ay,hc,aF⟩:=F.tail k q a g ad;rw[hr]at ay;cases ay;obtain⟨aV,e2,aW,aw,af⟩:=F.known _ _ hr;rw[hc]at aw;cases aw;have aG:(some a,q.2.1,q.2.2)=q:=by rw[<-ad]
     have ax:J.t[k]?=some (some a,q.2.1,q.2.2):=by rw[aG];exact g
     have aX:n*t.size+s*t.size<=c*t.size:=by rw[<-nG];exact gF _ G
     have am:o+n*t.size+L.length<=C.size:=by rw[aF,<-av,ae];omega
     have aB:=run_storeCells_at (P:=P) a (o+n*t.size) aT L 0 C w hc (b8 am) z.one;simp only[wZ]at aB;have ao:=z.cells;have aA:(Builtin.append_ #[T,T] ty #[.slice (some ⟨a,o,none⟩) n c,y]).run P w=.ok (.slice (some ⟨a,o,none⟩) (n+s) c) (w.setRow a (C.toList.take (o+n*t.size)++L++C.toList.drop (o+n*t.size+L.length)).toArray):=by simp[Builtin.append_,run_underlying hT,sizeOf,typeInfo,hi,z.len,G,U,ao,na,aB]
     have au:C.toList.take (o+n*t.size)=Y:=by obtain⟨r,aj⟩:=af;rw[<-aj,<-hl,z6]
     have aa:=F.more ax hr hc (L:=L) (F:=(C.toList.take (o+n*t.size)++L++C.toList.drop (o+n*t.size+L.length)).toArray) (by simp at am ⊢;omega) (by rw[au];exact Gz _ _);have holds:d=Y.drop o:=by
      rcases pt n with rfl|ar
      .rw[vN (l:=d) (by rw[as];omega),oQ a3]
      .obtain⟨Q,o2,r2,aD,aj,_,ho⟩:=aL ar;cases aD;rw[hr]at aj;cases aj;rw[ho,pX (by simp;omega)]
     have j:(a7 O a (some (Y++L))) a=some (Y++L):=by unfold a7;exact if_pos rfl
     have u:dM (a7 O a (some (Y++L))) (.X (n+s) t (fE n f f')) [.slice (some ⟨a,o,none⟩) (n+s) c]:=
      Kr j (by rw[r8 a3,<-holds]) V (by simp;omega) G (JP aa.2.le.r W)
     subst ag;refine⟨_,_,_,_,aA,⟨ef,λ_=>⟨_,(some a,q.2.1+1,q.2.2),u,?_,a9 _,λ_=>.inr ⟨a,o,Y++L,c,rfl,rfl,j,by rw[ew,hl,ae,nG];omega,av⟩,rfl⟩⟩,by show Mem E _ _ ⟨m.c,x3 m.t k _,m.o⟩ _;rw[Fs];exact aa.1,aa.2⟩;show(J.t.set k _)[k]?=_;rw[Cy (iA.1 g).1]
def du.B9{v:SV}{d:D}(h:du O J v x)(hd:v.B9=.d d):du O J (.d d) x:=by
 cases v with
 |ow id A n t f=>
  cases hd;obtain⟨y,e,j,_,_,_,u⟩:=h.2 rfl;cases u;exact⟨ef,λ_=>j⟩
 |d y=>cases hd;exact h
 |_=>cases hd
def OO{O:Ro}{J:Bl}{ρ:Operand->Option SV}{f:Operand->Value}(o:∀x v,ρ x=some v->du O J v (f x)){t:Ty}:
 ∀{ps:List (Nat×Operand)} {i:Nat} {l:List D} {Q C:List Value},qk ρ t ps i=some l->Q.length=i*t.size->C.length=l.length*t.size->
  ∃g,Instr.fill (λi=>some (i*t.size,t.size)) (Q++C).toArray (ps.map λx=>(x.1,f x.2))=some (Q++g).toArray/\g.length=l.length*t.size/\∀j,j<l.length->(c7 l j).shape=t/\dM O (c7 l j) ((g.drop (j*t.size)).take t.size)
 |[],i,l,Q,C,h,_,r=>by simp only[qk,fW]at h;subst h;exact⟨C,rfl,r,λj p=>by simp at p⟩
 |(k,x)::ps,i,l,Q,C,h,s,r=>by
  unfold qk at h;split at h
  .rename_i K;have:=fp K;subst this;split at h
   .rename_i v M;split at h
    .rename_i d n;split at h
     .rename_i b;have b:=gM b;split at h
      .rename_i u q;cases h;have N:=(o _ _ M).B9 n;have m:=(N.a λa e=>by cases e).cells;have c:(f x).cells.toList.length=t.size:=by rw[m.length];show d.shape.size=_;rw[b]
       have L:C.length=t.size+u.length*t.size:=by rw[r,jV,iO];omega
       obtain⟨g,z,A,F⟩:=OO o (ps:=ps) (i:=k+1) (l:=u) (Q:=Q++(f x).cells.toList) (C:=C.drop t.size) q (by rw[ew,c,s,iO]) (by simp;omega);refine⟨(f x).cells.toList++g,?_,by rw[ew,c,A,jV,iO];omega,λj p=>?_⟩
       .simp only[oT];rw[Ib (off:=k*t.size) (F:=t.size) rfl (b8 c) (by simp;omega)];have w:(Q++C).take (k*t.size)=Q:=by rw[<-s,z6]
        have y:(Q++C).drop (k*t.size+t.size)=C.drop t.size:=by rw[pR,oQ a3,lE,show k*t.size+t.size - Q.length=t.size by omega]
        rw[w,y,z,iJ]
       .cases j with
        |zero=>
         rw[Nat.zero_mul,vM,qp a3,pX a3];exact⟨b,m⟩
        |succ j=>
         have G:=F j (b8 p);rw[iO,pR,oQ a3,lE,show j*t.size+t.size -(f x).cells.toList.length=j*t.size by omega];exact G
      .cases h
     .cases h
    .cases h
   .cases h
  .cases h
def Nt(K:tb.ok P)(A:P.underlying T=some (.slice e)){a:TI}(y:tb.get e=some a)(r:t.size=a.size)(U:n*a.size<=16777216){s:Operand->Value}(z:∀x v,ρ x=some v->du O J v (s x)){ps:Array (Nat×Operand)}(N:qk ρ t ps.toList 0=some l)(m:l.length=n):
 ∃c:List Value,(Instr.buildSlice T n (ps.map λx=>(x.1,s x.2))).run P w=.ok (.slice (some ⟨w.heap.size,0,none⟩) n n) (w.alloc (.cells c.toArray e))/\c.length=n*t.size/\∀j,j<n->(c7 l j).shape=t/\dM O (c7 l j) ((c.drop (j*t.size)).take t.size):=by
 obtain⟨p,⟨S,F,L,M⟩⟩:=K _ _ y;obtain⟨i,C,Q⟩:=fB.1 p.1;simp only[C,qs,fW]at F;have G:∀b:Array Value,b.size=n*t.size->∃c:List Value,Instr.fill (λi=>some (i*t.size,t.size)) b (ps.map λx=>(x.1,s x.2)).toList=some c.toArray/\c.length=n*t.size/\∀j,j<n->(c7 l j).shape=t/\dM O (c7 l j) ((c.drop (j*t.size)).take t.size):=λb g=>by obtain⟨c,f,h,k⟩:=OO z (Q:=[]) (C:=b.toList) N eA (by rw[m];simpa using g);refine⟨c,?_,by rw[h,m],λj R=>k j a3⟩;rw[Gf];simpa using f
 have o:¬(n*a.size>2 ^ 24):=a3
 have d:(sizeOf e).run P w=.ok a.size w:=p.sizeOf w;have q:(zeroValue e).run P w=.ok (if a.ag then Value.agg a.zero.cells.toArray else a.zero.cells.headD undef) w:=by simp[zeroValue,typeInfo,C,F]
 generalize(if a.ag then Value.agg a.zero.cells.toArray else a.zero.cells.headD undef)=zv at q;by_cases u:n*a.size=0
 .obtain⟨c,f,h,k⟩:=G ((Array.range (n*a.size)).map λx=>(#[]:Array Value)[x %(#[]:Array Value).size]!) (by simp[r]);rw[r]at f;refine⟨c,?_,h,k⟩;unfold Instr.buildSlice;simp only[jt,run_underlying A,lQ,d,u,if_neg (a8:¬((0:Nat)>2 ^ 24)),xw,m9];rw[u]at f;rw[f];simp[newRow]
 .obtain⟨c,f,h,k⟩:=G ((Array.range (n*a.size)).map λx=>zv.cells[x % zv.cells.size]!) (by simp[r]);rw[r]at f;refine⟨c,?_,h,k⟩;unfold Instr.buildSlice;simp only[jt,run_underlying A,lQ,d,if_neg o,u,if_false,m9,q];rw[f];simp[newRow]
def Ns(q:tb.ok P)(p:Mem E O J m w)(r:P.underlying T=some (.slice e)){h:TI}(d:tb.get e=some h)(z:t.size=h.size)(u:n*h.size<=16777216){j:Operand->Value}(g:∀x v,ρ x=some v->du O J v (j x)){ps:Array (Nat×Operand)}(s:qk ρ t ps.toList 0=some l)(f:l.length=n):
 ∃a M x,(Instr.buildSlice T n (ps.map λx=>(x.1,j x.2))).run P w=.ok x M/\du a J (.ow 0 0 n t (c7 l)) x/\Mem E a J m M/\Gr O J w a J M:=by
 obtain⟨i,y,k,o⟩:=Nt (w:=w) (J:=J) q r d z u g s f;obtain⟨c,b⟩:=p.row (wX i) e;exact⟨_,_,_,y,⟨ef,λ_=>⟨_,(none,0,0),Kr (Y:=i) (off:=0) (by unfold a7;exact if_pos rfl) rfl k (dG _) (a9 _) (JP b.le.r o),rfl,a9 _,λ_=>.inl ⟨_,rfl⟩,rfl⟩⟩,c,b⟩
def KJ{l h d:Nat}(q:dM O (.X n t f) [.slice A n c])(y:l<=h)(w:h<=n)(z:h<=d):dM O (.X (h - l) t (jT f l)) [sliced A l h d t.size]:=by
 obtain⟨u,Z,m,v,o⟩:=q;cases m;refine⟨_,_,rfl,a3,λC=>?_⟩;obtain⟨b,a,Y,g,rfl,r,F,s⟩:=o a3;have p:l*t.size+(h - l)*t.size<=n*t.size:=by rw[<-nG];exact gF _ a3
 refine⟨b,a+l*t.size,Y,λi=>g (l+i),?_,r,a3,λi x=>?_⟩
 .rw[if_neg a3];simp[na]
 .obtain⟨e,j,k⟩:=s (l+i) a3;refine⟨e,j,?_⟩;show(Y.drop (a+l*t.size+i*t.size)).take t.size=g (l+i);rw[<-k,nG,sa]
def zdI{e:Option Nat×Nat×Nat}{l:Nat}(m:CQ O n t e (.slice A n c))(q:l<=n)(p:n<=c):CQ O (n - l) t e (sliced A l n c t.size):=by
 rcases m with⟨o,h⟩|⟨b,d,Y,Z,f,g,i,j,k⟩
 .cases h;exact .inl ⟨_,rfl⟩
 .cases g;by_cases a:c=l
  .subst a;have:n=c:=a3
   subst this;exact .inl ⟨_,rfl⟩
  .refine .inr ⟨b,d+l*t.size,Y,c - l,f,?_,i,?_,?_⟩
   .unfold sliced;rw[if_neg a];simp[na]
   .rw[j,sa,<-nG,show l+(n - l)=n by omega]
   .rw[sa,<-nG,show l+(c - l)=c by omega];exact k
end Sx
end Go.Proofs.YtfbhkfhbnkncoaaGreatDoor
