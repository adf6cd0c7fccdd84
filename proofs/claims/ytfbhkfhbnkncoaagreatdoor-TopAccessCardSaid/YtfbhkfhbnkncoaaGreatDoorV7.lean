import Derived.Test.YtfbhkfhbnkncoaaGreatDoorV6
import Derived.Lib.ConvBytes
import Derived.MapKept
set_option linter.all false
namespace Go.Proofs.YtfbhkfhbnkncoaaGreatDoor
open Go.RowKit
namespace Sx
variable {E:Gh} {r:Option Nat} {nn:Nat}
variable {P:Program} {tb:TT} {O:Ro} {J:Bl} {m:MS} {w:World}
variable{s:ByteArray}{k:IntKind}{a:List Nat}{l vs:List Value}{b i lo n o v:Nat}{f g:Nat->D}{u:SV}{t:Ty}{T e:TypeId}{x y:Value}
def ox(b:tb.ok P){a:TI}(h:n7 tb T=some a):∃e,P.underlying T=some (.slice e)/\tb.get e=some a:=by
 unfold n7 at h;split at h
 .rename_i s d e z c;exact⟨e,(b T _ c).2.1,h⟩
 .cases h
def Wg{id:Nat}(h:tR m id a=some (n,t,f)):∃c,m.c[id]?=some c/\c.B0 a=some (.d (.ar n t f)):=by
 unfold tR at h;rw[qH]at h;split at h
 .rename_i c b;split at h
  .rename_i d;cases h;exact⟨c,b,d⟩
  .cases h
 .cases h
def Dl(p:Mem E O J m w){id:Nat}(h:tR m id a=some (n,t,f)){d t':Ty}(q:J.b[id]?=some (b,d))(k:d.off a=some (o,t')):
 t'=.ar n t/\∃C e,w.heap[b]?=some (.cells C e (0,0))/\dM O (.ar n t f) ((C.toList.drop o).take (n*t.size))/\o+n*t.size<=C.size:=by
 obtain⟨c,s,x⟩:=Wg h;obtain⟨C,e,u,l,j,_⟩:=p.box id b _ c q s;subst j;obtain⟨y,i⟩:=SV.O l k x;have g:=Ty.T k;have v:=l.length;subst y;refine⟨rfl,C,e,u,i,?_⟩;simp only[SV.shape,D.shape,Ty.size]at g;simp at v;omega
def zc9(q:Mem E O J m w){id:Nat}(F:lz m id=some (v,n,t,f))(K:du O J (.ob (.mp id v i)) x)(s:TF P T t.size t.agg):
 ∃A y,x=.pointer (some A)/\(loadVar T A).run P w=.ok y w/\du O J (.d (f i)) y:=by
 obtain⟨b,c,d⟩:=q.A8 F;obtain⟨g,k,rfl,rfl⟩:=d.mp K;obtain⟨_,C,M,l,L,p⟩:=d.N k rfl;obtain⟨G,u⟩:=p i g;have z:i*t.size+t.size<=n*t.size:=by rw[<-iO];exact gF _ g
 have j:n*t.size<=c*t.size:=gF _ d.nc;have e:t.agg=false->t.size=1:=λh=>by cases t<;>first|rfl|cases h
 have a:=Fo (P:=P) s l (o:=i*t.size) a3 e;refine⟨_,_,rfl,a,?_⟩;have:=fJ.Z (J:=J) (v:=.d (f i)) u;rw[show(SV.d (f i)).agg=t.agg from by rw[<-G];exact D.B4]at this;exact this.v
def zdb(L:Mem E O J m w){id:Nat}(hr:lz m id=some (v,n,t,f))(hx:du O J (.ob (.mp id v i)) x)(N:(P.info? T).map (·.size)=some t.size){d:D}(hy:du O J (.d d) y)(hd:d.shape=t):
 ∃A o M,x=.pointer (some A)/\(storeVar T A y).run P w=.ok () M/\Mem E O o ⟨m.c,m.t,m.o.set id (.row v n t (a7 f i d))⟩ M/\Gr O J w O o M:=by
 obtain⟨b,c,p⟩:=L.A8 hr;obtain⟨u,k,rfl,rfl⟩:=p.mp hx;obtain⟨V,C,U,K,h2,W⟩:=p.N k rfl;have h:=(hy.a (λa e=>by cases e)).cells;have g:y.cells.toList.length=t.size:=by rw[h.length];show d.shape.size=_;rw[hd]
 have Z:i*t.size+t.size<=n*t.size:=by rw[<-iO];exact gF _ u
 have S:n*t.size<=c*t.size:=gF _ p.nc;have q:=run_storeCells_at P k (i*t.size) U y.cells.toList 0 C w K (by omega) (eX.one h);simp only[wZ]at q;have s:y.cells.size=t.size:=by simpa using g
 obtain⟨F,z⟩:=L.B6 (x':=.row v n t (a7 f i d)) (M:=w.setRow k (C.toList.take (i*t.size)++y.cells.toList++C.toList.drop (i*t.size+y.cells.toList.length)).toArray) p.I (BO.le_refl _) (λb Q=>.inl Q) rfl rfl rfl (by simp) (λb Q hn=>setRow_other _ _ _ _ (λe=>hn (by rw[e];rfl)))
  (λhl=>qf p.nc (λe=>by cases e) λk' Y=>by
   cases Y;refine⟨V,_,U,setRow_heap _ _ _ _ _ _ K,by simp at g;simp[g];omega,λj R=>?_⟩;have:=zbw (l:=C.toList) (vs:=y.cells.toList) (k:=t.size) (n:=n) (i:=i) (j:=j) (by simp;omega) g u R;rw[g,CD,this];unfold a7;split
   .exact⟨hd,h⟩
   .exact W j R)
 refine⟨_,_,_,rfl,?_,F,z⟩;cases G:P.info? T with
 |none=>simp[G]at N
 |some i=>
  have u:i.size=t.size:=by simpa[G]using N
  simp only[storeVar,jt,Go.sizeOf,typeInfo,run_program,lQ,G,m9,u,s,ne_eq,Qw,if_false];simpa[s]using q
def zc7(l:Mem E O J m w){id:Nat}(z:lz m id=some (v,n,t,f))(A:du O J (.ob (.mr id v)) x){h:Nat}(G:h<=n):
 ∃b c a,x=.slice (kC b) n c/\n<=c/\du O a (.ob (.mr id (v+1))) (.slice (kC b) h c)/\Mem E O a ⟨m.c,m.t,m.o.set id (.row (v+1) h t f)⟩ w/\Gr O J w O a w:=by
 obtain⟨b,c,d⟩:=l.A8 z;have j:=d.nc;obtain⟨g,e⟩:=l.B6 (y':=.row (v+1) b h c t.size) (x':=.row (v+1) h t f) (M:=w) d.I (.inr ⟨_,_,_,_,_,_,_,_,_,_,rfl,rfl,mL _⟩) (λb u=>.inl u) rfl rfl rfl (a9 _) (λ_ _ _=>rfl)
  (λL=>qf (by omega) d.nil λk y=>by
   obtain⟨o,C,F,p,q,s⟩:=d.N k y;exact⟨o,C,F,p,q,λi K=>s i (by omega)⟩)
 exact⟨b,c,_,d.mr A,j,ka.v ⟨rfl,_,_,_,_,_,DZ d.I,a9 _,λ_=>rfl⟩,g,e⟩
def Sm(hP:tb.ok P)(hM:Mem E O J m w){ty:TypeId}(hT:P.underlying T=some (.slice e)){l:TI}(al:tb.get e=some l){id:Nat}(hr:lz m id=some (v,n,t,f))(hs:t.size=l.size)(as:l.zero.d.shape.size=l.size)(hx:du O J (.ob (.mr id v)) x){a:Nat}{f':Nat->D}{L:List Value}(d:Src P t.size T y a L w)(ad:L.length=a*t.size)(ao:∀i,i<a->(f' i).shape=t/\dM O (f' i) ((L.drop (i*t.size)).take t.size))(Q:n+a<=2147483648):
 ∃W M v',(Builtin.append_ #[T,T] ty #[x,y]).run P w=.ok v' M/\du O W (.ob (.mr id (v+1))) v'/\Mem E O W ⟨m.c,m.t,m.o.set id (.row (v+1) (n+a) t (fE n f f'))⟩ M/\Gr O J w O W M:=by
 obtain⟨b,c,s⟩:=hM.A8 hr;have af:=s.nc;cases s.mr hx;obtain⟨g,K,ap,au,V⟩:=s.cells;obtain⟨ar,⟨hk,hz,ak,R⟩⟩:=hP _ _ al;obtain⟨i,hi,aq⟩:=fB.1 ar.1;simp only[hi,qs,fW]at hz R;have R:=dF R;have o:i.size=t.size:=by rw[hs,aq]
 have S:(n+a)*i.bytes<=140737488355328:=eY (z7 Q R) a8;have p:=Nc K ad ap ao;have ae:(g++L).length=(n+a)*t.size:=by rw[ew,K,ad,nG]
 have ag:∀M,M.heap=w.heap->(Builtin.firstCells t.size n (.slice (kC b) n c)).run P M=.ok g.toArray M:=λM hw=>by
  cases b with
  |none=>
   have:c=0:=s.nil rfl;have h0:n=0:=a3
   subst h0;have:g=[]:=vN (by rw[K];omega);subst this;simp[kC,Builtin.firstCells]
  |some k=>
   obtain⟨C,q,h1,h2,h3⟩:=V k rfl;refine run_firstCells_some (P:=P) M t.size n _ n c _ K λj u z=>?_;rw[na,ld,cell_of_row M k _ C q (0,0) (by rw[hw];exact h1)];have am:j<n*t.size:=by rw[<-K];exact(iA.1 z).1
   rw[<-h3,tI am]at z;simpa using z
 have ac:∀{b':Option Nat} {Z:Nat},(BO.row v b n c t.size).le (.row (v+1) b' (n+a) Z t.size):=.inr ⟨_,_,_,_,_,_,_,_,_,_,rfl,rfl,mL _⟩;have aa:∀{b':Option Nat} {Z:Nat},du O (J.oset id (.row (v+1) b' (n+a) Z t.size)) (.ob (.mr id (v+1))) (.slice (kC b') (n+a) Z):=ka.v ⟨rfl,_,_,_,_,_,DZ s.I,a9 _,λ_=>rfl⟩;rcases jB c (n+a)with hg|h
 .have U:=grownCap_ge w (n+a) c e;have N:=run_append_grow_src (P:=P) w T T ty e i _ hT hi hz (kC b) n c g (by rw[o];exact ag _ rfl) y a L (by rw[o];exact d) hg a3 (growslice_fits a3 S);generalize grownCap w (n+a) c e=gc at N U;have aj:(if l.ag then Value.agg l.zero.cells.toArray else l.zero.cells.headD undef).cells.size=t.size:=by
   have hc:=(fJ.Z (O:=O) (J:=J) (v:=.d l.zero.d) (l.zero.rep O)).cells.length;rw[show(SV.d l.zero.d).agg=l.ag from ak]at hc;have:(SV.d l.zero.d).shape.size=t.size:=by rw[hs];exact as
   rw[<-this,<-hc];simp
  generalize(if l.ag then Value.agg l.zero.cells.toArray else l.zero.cells.headD undef)=zv at N aj;obtain⟨G,A⟩:=hM.B6 (y':=.row (v+1) (some w.heap.size) (n+a) gc t.size) (x':=.row (v+1) (n+a) t (fE n f f')) (M:=w.drew.alloc (.cells ((g++L).toArray++Builtin.zeroCells zv.cells (gc -(n+a))) e))
   s.I ac (λb Q=>.inr (by cases Q;exact a9 _)) rfl rfl rfl eA (λb Q _=>Below.heap_alloc w.drew _ _ Q) (λhl=>qf U ef λk hk=>by
    cases hk;refine⟨?_,_,e,heap_alloc_new w.drew _,?_,λj z=>?_⟩
    .cases hq:O w.heap.size with
     |none=>rfl
     |some Y=>exact b3 (hM.A9 hq) (ri _)
    .rw[LO,Mo,size_zeroCells,aj,ae,<-nG,show n+a+(gc -(n+a))=gc by omega]
    .rw[Ge,CD];have:j*t.size+t.size<=(n+a)*t.size:=by rw[<-iO];exact gF _ z
     rw[r8 a3,qp (by rw[oS];omega)];exact p j z)
  exact⟨_,_,_,N,aa,G,A⟩
 .rcases pt a with rfl|hp
  .have an:L=[]:=vN (by rw[ad];omega);subst an;have N:=run_append_nothing (P:=P) w T T ty e i hT hi (kC b) n c af y (by rw[o];exact d);obtain⟨G,A⟩:=hM.B6 (y':=.row (v+1) b (n+0) c t.size) (x':=.row (v+1) (n+0) t (fE n f f')) (M:=w) s.I ac (λb Q=>.inl Q) rfl rfl rfl (a9 _) (λ_ _ _=>rfl) (λhl=>qf af s.nil λk hk=>by
    obtain⟨h0,C,q,h1,h2,h3⟩:=s.N k hk;refine⟨h0,C,q,h1,h2,λj z=>?_⟩;have e:fE n f f' j=f j:=by unfold fE;rw[show Nat.blt j n=true from qq z];rfl
    rw[e];exact h3 j z)
   exact⟨_,_,_,N,aa,G,A⟩
  .obtain⟨k,rfl⟩:∃k,b=some k:=by
    cases b with
    |some k=>exact⟨k,rfl⟩
    |none=>have:=s.nil rfl;omega
   obtain⟨h0,C,q,h1,h2,h3⟩:=s.N k rfl;obtain⟨F,aw,g1,_,g3⟩:=V k rfl;rw[h1]at g1;cases g1;have av:n*t.size+a*t.size<=c*t.size:=by rw[<-nG];exact gF _ h
   have ai:=run_storeCells_at (P:=P) k (n*t.size) q L 0 C w h1 a3 d.one;simp only[wZ]at ai;have ab:=d.cells;have ah:(Builtin.append_ #[T,T] ty #[.slice (kC (some k)) n c,y]).run P w=.ok (.slice (kC (some k)) (n+a) c) (w.setRow k (C.toList.take (n*t.size)++L++C.toList.drop (n*t.size+L.length)).toArray):=by simp[kC,Builtin.append_,run_underlying hT,sizeOf,typeInfo,hi,d.len,h,o,ab,na,ai]
   obtain⟨G,A⟩:=hM.B6 (y':=.row (v+1) (some k) (n+a) c t.size) (x':=.row (v+1) (n+a) t (fE n f f')) (M:=w.setRow k (C.toList.take (n*t.size)++L++C.toList.drop (n*t.size+L.length)).toArray) s.I ac (λb Q=>.inl Q) rfl rfl rfl eA
    (λb Q hn=>setRow_other _ _ _ _ λe=>hn (by rw[e];rfl)) (λhl=>qf h ef λk' hk=>by
     cases hk;refine⟨h0,_,q,setRow_heap _ _ _ _ _ _ h1,by simp;omega,λj z=>?_⟩;rw[CD,g3];have:j*t.size+t.size<=(n+a)*t.size:=by rw[<-iO];exact gF _ z
     rw[r8 a3,qp (by rw[oS];omega)];exact p j z)
   exact⟨_,_,_,ah,aa,G,A⟩
def zda(G:Mem E O J m w)(K:P.underlying T=some (.slice e)){id:Nat}(Q:lz m id=some (v,n,t,f))(S:du O J (.ob (.mr id v)) y):
 ∃L,Src P t.size T y n L w/\L.length=n*t.size/\∀i,i<n->(f i).shape=t/\dM O (f i) ((L.drop (i*t.size)).take t.size):=by
 obtain⟨b,c,o⟩:=G.A8 Q;have N:=o.nc;cases o.mr S;obtain⟨d,a,s,l,h⟩:=o.cells;have g:∀M,M.heap=w.heap->(Builtin.firstCells t.size n (.slice (kC b) n c)).run P M=.ok d.toArray M:=λM R=>by
  cases b with
  |none=>
   have:c=0:=o.nil rfl;have z:n=0:=a3
   subst z;have:d=[]:=vN (by rw[a];omega);subst this;simp[kC,Builtin.firstCells]
  |some k=>
   obtain⟨C,x,A,U,F⟩:=h k rfl;refine run_firstCells_some (P:=P) M t.size n _ n c _ a λj u p=>?_;rw[na,ld,cell_of_row M k _ C x (0,0) (by rw[R];exact A)];have q:j<n*t.size:=by rw[<-a];exact(iA.1 p).1
   rw[<-F,tI q]at p;simpa using p
 exact⟨d,⟨.inl ⟨e,K⟩,λ_=>rfl,g _ rfl,g _ rfl,a,l⟩,a,s⟩
def JO{s k:Nat}(q:n*s<=l.length)(o:vs.length=k*s)(g:lo+k<=n)(d:i<n):
 ((l.take (lo*s)++vs++l.drop (lo*s+vs.length)).drop (i*s)).take s=if lo<=i/\i<lo+k then(vs.drop ((i - lo)*s)).take s else(l.drop (i*s)).take s:=by
 have f:i*s+s<=n*s:=by rw[<-iO];exact gF _ d
 have j:lo*s+k*s<=n*s:=by rw[<-nG];exact gF _ g
 have b:(l.take (lo*s)).length=lo*s:=by rw[kO];omega
 split
 .rename_i h;have e:i*s=lo*s+(i - lo)*s:=by rw[<-nG];congr 1;omega
  have p:(i - lo)*s+s<=k*s:=by rw[<-iO];exact gF _ a3
  rw[iJ,pR,oQ a3,lE,b,show i*s - lo*s=(i - lo)*s by omega,r8 a3,qp (by rw[oS];omega)]
 .rename_i h;rcases jB i lo with a|c
  .have:i*s+s<=lo*s:=by rw[<-iO];exact gF _ a
   rw[iJ,r8 a3,qp (by rw[oS];omega),Cu,yo,sY a3]
  .have:(lo+k)*s<=i*s:=gF _ a3;rw[nG]at this;rw[pR,oQ (by rw[ew];omega),lE,ew,b,o,pS,show lo*s+k*s+(i*s -(lo*s+k*s))=i*s by omega]
def zbM{a z:Nat}(h:o+z<=l.length)(d:a+vs.length<=z):l.take (o+a)++vs++l.drop (o+a+vs.length)=l.take o++(((l.drop o).take z).take a++vs++((l.drop o).take z).drop (a+vs.length))++l.drop (o+z):=by
 have b:l.take (o+a)=l.take o++((l.drop o).take z).take a:=by rw[Mp,yo,sY a3]
 have c:l.drop (o+a+vs.length)=((l.drop o).take z).drop (a+vs.length)++l.drop (o+z):=by
  rw[Cu,pS,<-sa];conv=>lhs;rw[<-nF (z -(a+vs.length)) (l.drop (o+a+vs.length))]
  rw[pS,show o+a+vs.length+(z -(a+vs.length))=o+z by omega]
 rw[b,c];simp
def Ar{k:Nat}:mQ lo k g f i=if lo<=i/\i<lo+k then g (i - lo)else f i:=by
 unfold mQ;by_cases a:lo<=i
 .by_cases b:i<lo+k
  .rw[if_pos ⟨a,b⟩,show Nat.ble lo i=true from qq a,show Nat.blt i (lo+k)=true from qq b];rfl
  .have:Nat.blt i (lo+k)=false:=by
    cases c:Nat.blt i (lo+k)with
    |false=>rfl
    |true=>exact b3 (dF c) b
   rw[if_neg λh=>b h.2,this,lO];rfl
 .have:Nat.ble lo i=false:=by
   cases c:Nat.ble lo i with
   |false=>rfl
   |true=>exact b3 (dF c) a
  rw[if_neg λh=>a h.1,this,Bool.false_and];rfl
def Sy(W:Mem E O J m w){id:Nat}{b:List Nat}{c:Nat}(h:tR m id b=some (c,t,f)){A:Option Addr}{n0 cap:Nat}(hx:du O J (.ob (.sb id b lo n)) (.slice A n0 cap)){k:Nat}(hk:k<=n)(T:vs.length=k*t.size)(N:∀v∈vs,v.oneCell'=true)(hg:∀i,i<k->(g i).shape=t/\dM O (g i) ((vs.drop (i*t.size)).take t.size)){U c2:SV}(hc:kI m.c id=some U)(aa:U.set b (.d (.ar c t (mQ lo k g f)))=some c2):
 ∃M,(∀a,A=some a->(storeCells a vs).run P w=.ok () M)/\(A=none->M=w)/\Mem E O J ⟨oJ m.c id c2,m.t,m.o⟩ M/\Gr O J w O J M:=by
 obtain⟨d,ai,o,Z,t',hb,ho,ah,A',ae,he,af,hA⟩:=hx.hd;cases he;obtain⟨ht,C,e,p,hr,K⟩:=Dl W h hb ho;cases ht;rw[qH]at hc;obtain⟨F,e',q,ac,x,_⟩:=W.box id d _ U hb hc;rw[p]at q;cases q;subst x;obtain⟨V,z,u⟩:=hr;have G:∀j,j<c->(V j).length=t.size:=λj hj=>by rw[(u j hj).2.length,(u j hj).1]
 have Q:((C.toList.drop o).take (c*t.size)).length=c*t.size:=by rw[z];exact u5 G
 have ag:lo*t.size+k*t.size<=c*t.size:=by rw[<-nG];exact gF _ a3
 have L:dM O (.ar c t (mQ lo k g f)) (((C.toList.drop o).take (c*t.size)).take (lo*t.size)++vs++((C.toList.drop o).take (c*t.size)).drop (lo*t.size+vs.length)):=by
  refine⟨λi=>if lo<=i/\i<lo+k then(vs.drop ((i - lo)*t.size)).take t.size else V i,?_,λi S=>?_⟩
  .have ab:(((C.toList.drop o).take (c*t.size)).take (lo*t.size)++vs++((C.toList.drop o).take (c*t.size)).drop (lo*t.size+vs.length)).length=c*t.size:=by rw[ew,ew,kO,oS,Q,T];omega
   have hf:=y6 (l:=((C.toList.drop o).take (c*t.size)).take (lo*t.size)++vs++((C.toList.drop o).take (c*t.size)).drop (lo*t.size+vs.length)) (k:=t.size) (g:=λi=>if lo<=i/\i<lo+k then(vs.drop ((i - lo)*t.size)).take t.size else V i) c (λi S=>by
    rw[JO (n:=c) (by rw[Q];exact a9 _) T a3 S];split
    .rfl
    .rw[z];exact xp G S)
   exact(pX (sX ab)).symm.trans hf
  .rw[Ar]
   dsimp only
   split
   .exact hg (i - lo) a3
   .exact u i S
 have R:=SV.A4 (v:=.d (.ar c t (mQ lo k g f))) (t':=.ar c t) ac ho L rfl aa;obtain⟨ad,s⟩:=R;rw[show(Ty.ar c t).size=c*t.size from rfl,<-zbM (b8 K) a3]at s;obtain⟨h1,h2⟩:=W.fill hb s ad;rw[vy];refine⟨_,λa Y=>?_,λY=>?_,h1,h2⟩
 .rcases pt k with y|hp
  .have:vs=[]:=vN (by rw[T,y];omega);subst this;simp only[storeCells,gk,yn,wZ,nF,Gd];rw[setRow_self w d C e (0,0) p];rfl
  .have:=hA a3;rw[Y]at this;cases this;have x:=run_storeCells_at P d (o+lo*t.size) e vs 0 C w p a3 N;simpa using x
 .have y:k=0:=by
   rcases pt k with y|hp
   .exact y
   .have:=hA a3;rw[Y]at this;cases this
  have:vs=[]:=vN (by rw[T,y];omega);subst this;simp only[gk,yn,wZ,nF,Gd];exact setRow_self w d C e (0,0) p
def Nx{i:Int}:ja .u8 (fF s i)=true:=by unfold fF;have:=(s.data.toList.getD i.toNat 0).toNat_lt;exact iL (by simp only[eU];omega) (λ_=>a3) (by simp only[eU];omega)
def Nz(c:i<s.size):(((s.data.toList.map λb=>Value.int .u8 b.toNat).drop (i*1)).take 1)=[.int .u8 (fF s i)]:=by
 have a:i<s.data.toList.length:=b8 c
 rw[Ms,<-List.map_drop,yk a];unfold fF;rw[eu,show((i:Int).toNat)=i by omega,ed a];rfl
def zdO(W:Mem E O J m w)(hx:du O J (.d (.X b t g)) x):
 ∃L:List Value,(Builtin.lenOf x).run P w=.ok b w/\L.length=b*t.size/\(∀v∈L,v.oneCell'=true)/\(∀i,i<b->(g i).shape=t/\dM O (g i) ((L.drop (i*t.size)).take t.size))/\
  ∀k,k<=b->(Builtin.firstCells t.size k x).run P w=.ok (L.take (k*t.size)).toArray w:=by
 obtain⟨A,n,K,M,V⟩:=hx.X;cases K;rcases pt b with T|hp
 .subst T;exact⟨[],rfl,eA,(λv l=>by cases l),(λi d=>b3 d (jm i)),λk N=>by
   have:k=0:=a3
   subst this;cases A with
   |none=>simp[Builtin.firstCells]
   |some a=>simpa using run_firstCells_some (P:=P) w t.size 0 a 0 n [] eA λj v f=>by simp at f⟩
 obtain⟨s,c,Y,S,rfl,G,Z,o⟩:=V hp;obtain⟨C,e,R,u,q⟩:=W.known _ _ G;have p:((Y.drop c).take (b*t.size)).length=b*t.size:=by rw[kO,oS];omega
 have Q:(Y.drop c).take (b*t.size)=(List.range b).flatMap S:=y6 b λi d=>by rw[pS];exact(o i d).2.2
 refine⟨(Y.drop c).take (b*t.size),rfl,p,λv l=>?_,λi d=>?_,λk N=>?_⟩
 .rw[Q]at l;obtain⟨i,d,l⟩:=om.1 l;exact(o i (gZ.1 d)).2.1.one v l
 .have U:i*t.size+t.size<=b*t.size:=by rw[<-iO];exact gF _ d
  rw[qn U,(o i d).2.2];exact⟨(o i d).1,(o i d).2.1⟩
 .have y:k*t.size<=b*t.size:=gF _ N;rw[yo,sY y];refine run_firstCells_some (P:=P) w t.size k _ b n _ (by rw[kO,oS];omega) λj v f=>?_;have F:j<k*t.size:=by
   rcases jB j (k*t.size)with h|h
   .exact h
   .rw[Cz,if_neg a3]at f;cases f
  rw[na,cell_of_row w s _ C e R u];rw[tI F,sT]at f;obtain⟨z,hz⟩:=q;have:C.toList[c+j]?=some v:=by rw[<-hz,pV (by rcases jB (c+j) Y.length with h|h;exact h;rw[wT h]at f;cases f)];exact f
  simpa using this
def SO(hM:Mem E O J m w){y:SV}{G:Nat}(h:Fv m y=some (G,t,g))(hx:du O J y x):
 ∃L:List Value,(Builtin.lenOf x).run P w=.ok G w/\L.length=G*t.size/\(∀v∈L,v.oneCell'=true)/\(∀i,i<G->(g i).shape=t/\dM O (g i) ((L.drop (i*t.size)).take t.size))/\
  ∀k,k<=G->(Builtin.firstCells t.size k x).run P w=.ok (L.take (k*t.size)).toArray w:=by
 unfold Fv at h;split at h
 .rename_i id Q p n;obtain⟨c,f,W,e1,e2⟩:∃c f,tR m id Q=some (c,t,f)/\n=G/\g=jT f p:=by
   unfold tR;split at h
   .rename_i c hc;split at h
    .rename_i Z t' f hn;cases h;exact⟨Z,f,rfl,rfl,rfl⟩
    .cases h
   .cases h
  subst e1;subst e2;obtain⟨R,ak,o,Z,t',hb,ho,ac,A,S,rfl,ag,hA⟩:=hx.hd;obtain⟨ht,C,e,Y,⟨T,M,q⟩,ah⟩:=Dl hM W hb ho;cases ht;have N:∀j,j<c->(T j).length=t.size:=λj u=>by rw[(q j u).2.length,(q j u).1]
  have ai:p*t.size+n*t.size<=c*t.size:=by rw[<-nG];exact gF _ ac
  have aj:((C.toList.drop o).take (c*t.size)).length=c*t.size:=by rw[M];exact u5 N
  have d:∀i,i<n->(((C.toList.drop (o+p*t.size)).take (n*t.size)).drop (i*t.size)).take t.size=T (p+i):=λi l=>by
   have V:i*t.size+t.size<=n*t.size:=by rw[<-iO];exact gF _ l
   have K:=xp N (i:=p+i) a3;rw[<-M,qn (by rw[<-iO];exact gF _ a3)]at K;rw[qn V,<-K,nG,sa]
  refine⟨(C.toList.drop (o+p*t.size)).take (n*t.size),rfl,by rw[kO,oS,pO];omega,λv F=>?_,λi l=>?_,λk hk=>?_⟩
  .have e:(C.toList.drop (o+p*t.size)).take (n*t.size)=(List.range n).flatMap λi=>T (p+i):=y6 n λi l=>by
    have V:i*t.size+t.size<=n*t.size:=by rw[<-iO];exact gF _ l
    have K:=d i l;rw[qn V]at K;rw[pS];exact K
   rw[e]at F;obtain⟨i,l,F⟩:=om.1 F;exact(q (p+i) (by have:=gZ.1 l;omega)).2.one v F
  .rw[d i l];exact q (p+i) a3
  .have ab:k*t.size<=n*t.size:=gF _ hk;rw[yo,sY ab];cases A with
   |none=>
    have:n=0:=by
     rcases pt n with U|hp
     .exact U
     .have:=hA hp;cases this
    have aa:k=0:=a3
    subst aa;simp[Builtin.firstCells]
   |some a=>
    refine run_firstCells_some (P:=P) w t.size k a n S _ (by rw[kO,oS,pO];omega) λj v u=>?_;have ad:j<k*t.size:=by
     rcases jB j (k*t.size)with h|h
     .exact h
     .rw[Cz,if_neg a3]at u;cases u
    have ae:0<n:=by
     rcases pt n with U|hp
     .subst U;omega
     .exact hp
    cases hA ae;rw[na,cell_of_row w R _ C e (0,0) Y];rw[tI ad,sT]at u;simpa using u
 .rename_i s;cases h;have af:x=.string s:=by have:=hx.2 rfl;simpa[eX,dM]using this
  subst af;have z:Ty.size .c=1:=rfl;refine⟨s.data.toList.map λb=>.int .u8 b.toNat,rfl,by simp[z],λv F=>?_,λi l=>⟨rfl,?_⟩,λk hk=>?_⟩
  .obtain⟨b,_,rfl⟩:=l6.1 F;rfl
  .rw[z,Nz l];exact⟨rfl,Nx⟩
  .simp only[Builtin.firstCells,m9,z,Ms]
   congr 1
   apply nW;simp[Us,Mj,List.map_take]
 .cases h;exact zdO hM hx
 .cases h
def pY:∀{a b:Int},ng a b=true↔a=b
 | .ofNat a,.ofNat b=>⟨λh=>by rw[fp h],λh=>by cases h;exact uO a⟩
 | .negSucc a,.negSucc b=>⟨λh=>by rw[fp h],λh=>by cases h;exact uO a⟩
 | .ofNat _,.negSucc _=>⟨ef,ef⟩
 | .negSucc _,.ofNat _=>⟨ef,ef⟩
def nY.find{n:Int}:∀{l:List (Int×SV)} {f:List MapEntry} {i:Nat},nY O J k l f->
 (iy l n=none/\Instr.findNow (.int k) (.int k n) f i=some none)\/∃j v e,iy l n=some v/\Instr.findNow (.int k) (.int k n) f i=some (some (i+j,e.val))/\du O J v e.val/\f[j]?=some e/\e.key=.int k n
 |[],[],i,_=>.inl ⟨rfl,rfl⟩
 |p::r,e::f,i,⟨⟨A,Q⟩,R⟩=>by
  have C:Instr.sameNow (.int k) (.int k n) e.key=some (n==p.1):=by rw[A];simp[Instr.sameNow]
  by_cases u:n=p.1
  .refine .inr ⟨0,p.2,e,?_,?_,Q,rfl,by rw[A,u]⟩
   .obtain⟨a,b⟩:=p;unfold iy;rw[show ng a n=true from pY.2 u.symm]
   .unfold Instr.findNow;rw[C,show(n==p.1)=true by simp[u]];rfl
  .have S:ng p.1 n=false:=by
    cases V:ng p.1 n with
    |false=>rfl
    |true=>exact b3 (pY.1 V).symm u
   have U:iy (p::r) n=iy r n:=by
    obtain⟨a,b⟩:=p;conv=>lhs;unfold iy
    rw[show ng a n=false from S]
   have T:Instr.findNow (.int k) (.int k n) (e::f) i=Instr.findNow (.int k) (.int k n) f (i+1):=by
    conv=>lhs;unfold Instr.findNow
    rw[C,show(n==p.1)=false by simp[u]]
   rw[U,T];rcases R.find (i:=i+1)with h|⟨j,v,F,G,K,L,M,N⟩
   .exact .inl h
   .exact .inr ⟨j+1,v,F,G,by rw[K,sa,Nat.add_comm 1 j],L,b8 M,N⟩
 |[],_::_,_,h=>h.elim
 |_::_,[],_,h=>h.elim
def nY.F9{n:Int}(C:du O J u x){f:Nat}:∀{l:List (Int×SV)} {A:List MapEntry},nY O J k l A->iy l n=none->nY O J k (pH l n u) (A++[{key:=.int k n,val:=x,born:=f}])
 |[],[],_,_=>⟨⟨rfl,C⟩,trivial⟩
 |(a,b)::r,e::A,⟨F,G⟩,j=>by
  unfold iy at j;split at j
  .cases j
  .rename_i K;unfold pH;rw[K];exact⟨F,G.F9 C j⟩
 |[],_::_,h,_=>h.elim
 |_::_,[],h,_=>h.elim
def nY.G0{n:Int}(U:du O J u x):∀{l:List (Int×SV)} {A:List MapEntry} {i j:Nat} {y:Value},nY O J k l A->Instr.findNow (.int k) (.int k n) A i=some (some (i+j,y))->∀{C:List MapEntry},(∀q,C[q]?=if q=j then(A[q]?).map (λe=>{e with key:=.int k n,val:=x})else A[q]?)->nY O J k (pH l n u) C
 |[],[],i,j,y,_,F,_,_=>by simp[Instr.findNow]at F
 |(a,b)::r,e::A,i,j,y,⟨⟨S,W⟩,T⟩,F,C,f=>by
  have hs:Instr.sameNow (.int k) (.int k n) e.key=some (n==a):=by rw[S];simp[Instr.sameNow]
  unfold Instr.findNow at F;rw[hs]at F;by_cases L:n=a
  .rw[show(n==a)=true by simp[L]]at F;simp at F;obtain⟨N,_⟩:=F;subst N;unfold pH;rw[show ng a n=true from pY.2 L.symm]
   match C,f with
   |[],f=>have:=f 0;simp at this
   |V::K,f=>
    have G:=f 0;simp at G;have Q:K=A:=z4 λq=>by have:=f (q+1);simpa using this
    subst Q;subst G;exact⟨⟨by rw[L],U⟩,T⟩
  .rw[show(n==a)=false by simp[L]]at F;have Z:ng a n=false:=by
    cases f:ng a n with
    |false=>rfl
    |true=>exact b3 (pY.1 f).symm L
   unfold pH;rw[Z];simp only at F;have N:0<j:=by
    rcases pt j with G|hp
    .subst G;exfalso;have R:∀(A:List MapEntry) (p:Nat) (q:Nat) (z:Value),Instr.findNow (.int k) (.int k n) A p=some (some (q,z))->p<=q:=λA=>by
      induction A with
      |nil=>intro p q z h;simp[Instr.findNow]at h
      |cons e A ih=>
       intro p q z h;unfold Instr.findNow at h;split at h
       .simp at h;omega
       .have:=ih _ _ _ h;omega
       .cases h
     have:=R _ _ _ _ F;omega
    .exact hp
   match C,f with
   |[],f=>have:=f 0;simp[GD N]at this
   |V::K,f=>
    have G:=f 0;simp[GD N]at G;subst G;refine⟨⟨S,W⟩,T.G0 U (i:=i+1) (j:=j - 1) (y:=y) (by rw[F];congr 3;omega) λq=>?_⟩;have:=f (q+1);simp only[Cw]at this;rw[this];by_cases M:q+1=j
    .rw[if_pos M,if_pos a3]
    .rw[if_neg M,if_neg a3]
 |[],_::_,_,_,_,h,_,_,_=>h.elim
 |_::_,[],_,_,_,h,_,_,_=>h.elim
def Je{n:Int}{K:Option SV->Prop}:∀{l:List (Int×SV)},xA n K l->K (iy l n)
 |[],h=>h
 |(a,b)::r,h=>by
  unfold iy;by_cases c:n=a
  .rw[show ng a n=true from pY.2 c.symm];exact h.1 c
  .have d:ng a n=false:=by
    cases e:ng a n with
    |false=>rfl
    |true=>exact b3 (pY.1 e).symm c
   rw[d];exact Je (h.2 c)
def MP{n:Int}{v:SV}:∀{l:List (Int×SV)},s7 l->iy l n=some v->∃b,v=.d (.I b)
 |(a,b)::r,h,c=>by
  unfold iy at c;split at c
  .cases c;exact h.1
  .exact MP h.2 c
 |[],_,c=>by cases c
def Mem.G8(h:Mem E O J m w){id:Nat}{l:List (Int×SV)}(G:xC m id=some (k,l))(K:du O J (.ob (.mo id)) x):∃q j f,J.o[id]?=some (.map q)/\x=.map (some q)/\w.heap[q]?=some (.map j f)/\nY O J k l j.toList:=by obtain⟨q,u,A⟩:=K.hd;obtain⟨j,f,C,F⟩:=h.obj id _ _ u (zaz G);exact⟨q,j,f,u,A,C,F⟩
def Qg(R:Mem E O J m w){id:Nat}{l:List (Int×SV)}(hr:xC m id=some (k,l))(hx:du O J (.ob (.mo id)) x){Z W:TypeId}(V:P.underlying T=some (.map Z W))(G:P.underlying Z=some (.int k)){n:Int}(C:du O J u y):
 ∃c M,(Instr.mapUpdate T x (.int k n) y).run P w=.ok () M/\Mem E O c ⟨m.c,m.t,m.o.set id (.map k (pH l n u))⟩ M/\Gr O J w O c M:=by
 obtain⟨q,F,d,L,rfl,A,t⟩:=R.G8 hr hx;have g:MapKept.IsKey (.int k) (.int k n):=rfl;have o:∀f a,(∀O J,nY O J k l F.toList->du O J u y->nY O J k (pH l n u) f.toList)->∃c,Mem E O c ⟨m.c,m.t,m.o.set id (.map k (pH l n u))⟩ {w with heap:=w.heap.setIfInBounds q (.map f a)}/\Gr O J w O c {w with heap:=w.heap.setIfInBounds q (.map f a)}:=λf a h=>by obtain⟨p,s⟩:=MapKept.heap_set (o':=.map f a) A;exact⟨_,R.B6 (x':=.map k (pH l n u)) L (BO.le_refl _) (λb L=>.inl L) rfl rfl rfl eA (λb _ hn=>s b λe=>hn (by rw[e];rfl)) λS=>⟨f,a,p,h _ _ (t.mono S) (C.mono S)⟩⟩
 rcases t.find (n:=n) (i:=0)with⟨U,z⟩|⟨j,v,e,U,z,hv,Y,Q⟩
 .obtain⟨c,p,s⟩:=o (F.push {key:=.int k n,val:=y,born:=d}) (d+1) λO J h C=>by rw[Array.toList_push];exact h.F9 C U
  refine⟨c,_,?_,p,s⟩;simp only[Instr.mapUpdate,jt,run_underlying V,MapKept.run_getObj_map A,MapKept.run_checkKey G g,MapKept.run_findKey G z,MapKept.run_setObj_map _ A,Result.andThen]
 .rw[ld]at z;have N:F[j]?=some e:=b8 Y
  obtain⟨c,p,s⟩:=o (F.modify j λe=>{e with key:=.int k n,val:=y}) d λO J h C=>by
   refine h.G0 C (i:=0) (j:=j) (y:=e.val) (by rw[ld];exact z) λq=>?_;rw[pN,Array.getElem?_modify,pN];by_cases K:j=q
   .rw[if_pos K,if_pos K.symm]
   .rw[if_neg K,if_neg (sZ K)]
  refine⟨c,_,?_,p,s⟩;simp[Instr.mapUpdate,run_underlying V,MapKept.run_getObj_map A,MapKept.run_checkKey G g,MapKept.run_findKey G z,N,Q,MapKept.run_keyThatStays g,MapKept.run_setObj_map _ A,Result.andThen]
end Sx
end Go.Proofs.YtfbhkfhbnkncoaaGreatDoor
