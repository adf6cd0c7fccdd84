import Derived.Test.YtfbhkfhbnkncoaaGreatDoorV33
set_option linter.all false
set_option maxRecDepth 100000
set_option maxHeartbeats 8000000
namespace Go.Proofs.YtfbhkfhbnkncoaaGreatDoor
open Go.RowKit Tryz
open Tryz renaming prog→a6
namespace Sx
variable {E:Gh} {O:Ro} {J:Bl} {m:MS} {w:World}
variable{F:Bool}{c:Code}{fn:Func}{f:FuncId}{V:List Ent}{args:List SV}{N n v:Nat}{Q:SV->Prop}{t:Ty}{K:X->List Ent->MS->Prop}
def MemC.G7(h:MemC O J m w){k:Nat}{Y:List Value}(Z:¬J.hb k)(T:O k=none)(L:Kn (a7 O k (some Y)) w):Le O J (a7 O k (some Y)) J/\MemC (a7 O k (some Y)) J m w:=by
 have C:∀q,q≠k->(a7 O k (some Y)) q=O q:=λq hq=>by unfold a7;rw[if_neg hq]
 have u:∀b,J.hb b->(a7 O k (some Y)) b=O b:=λb j=>C b λe=>Z (e▸j);have M:Le O J (a7 O k (some Y)) J:=⟨λq r N=>⟨r,by rw[C q λe=>by rw[e,T]at N;cases N];exact N,wX _⟩,λ_ _ h=>h,λ_ e A=>⟨e,A,a9 _,λ_=>⟨rfl,λb j=>u b (Bl.D9 A j)⟩⟩,λ_ x Q=>⟨x,Q,x.le_refl⟩,rfl⟩;refine⟨M,h.len,h.A6,λid f t v j W=>?_,h.inj,λid e f A j=>?_,h.A3,L,h.R,λid y x R Q=>(h.obj id y x R Q).to M λb j=>⟨rfl,u b (Bl.B8 R j)⟩,h.A2,h.I⟩
 .obtain⟨F,S,G,K,U,V⟩:=h.box id f t v j W;exact⟨F,S,G,K.mono M,U,(u f (Bl.G5 j)).trans V⟩
 .obtain⟨r,F,ty,G,K⟩:=h.tail id e f A j;exact⟨r,F,ty,(u f (Bl.D9 A j)).trans G,K⟩
def Mem.G7(h:Mem E O J m w){id:Nat}{f:Nat->D}(G:lz m id=some (v,n,t,f)):
 ∃K F,Mem E K F ⟨m.c,m.t,m5 m.o id (.row (v+1) 0 t f)⟩ w/\Gr O J w K F w/\∀x,du O J (.ob (.mr id v)) x->du K F (.d (.X n t f)) x:=by
 rw[sJ];obtain⟨b,c,j⟩:=h.A8 G;obtain⟨hM,Q⟩:=h.B6 (M:=w) (x':=.row (v+1) 0 t f) (y':=.row (v+1) none 0 0 t.size) j.I (.inr ⟨_,_,_,_,_,_,_,_,_,_,rfl,rfl,mL _⟩) (λ_ h=>by cases h) rfl rfl rfl (a9 _) (λ_ _ _=>rfl) λ_=>⟨rfl,rfl,rfl,dG _,λ_=>rfl,λ_ h=>by cases h⟩;cases b with
 |none=>
  have hc:=j.nil rfl;have hn:=j.nc;have U:n=0:=a3
  subst U;exact⟨_,_,hM,Q,λx A=>by
   rw[j.mr A];exact⟨ef,λ_=>⟨none,c,rfl,hn,λh=>b3 h (ri _)⟩⟩⟩
 |some k=>
  obtain⟨N,C,ty,h1,h2,Z⟩:=j.N k rfl;have R:J.hb k:=Bl.B8 j.I rfl;have V:¬(J.oset id (.row (v+1) none 0 0 t.size)).hb k:=λW=>by
   rcases W with⟨i,x,A,e⟩|⟨i,e,he,e'⟩|⟨i,x,A,e⟩
   .subst e;exact h.I _ _ _ _ A j.I rfl
   .obtain⟨Y,_,_,g,_⟩:=h.tail i e k he e';rw[N]at g;cases g
   .rcases mS A with⟨_,rfl⟩|⟨M,A⟩
    .cases e
    .exact M (h.A2 _ _ _ _ _ A j.I e rfl)
  have u:(a7 O k (some (C.toList.take (n*t.size)))) k=some (C.toList.take (n*t.size)):=by unfold a7;exact if_pos rfl
  have T:Kn (a7 O k (some (C.toList.take (n*t.size)))) w:=λq Y G=>by
   by_cases e:q=k
   .subst e;rw[u]at G;cases G;exact⟨C,ty,(0,0),h1,List.take_prefix _ _⟩
   .unfold a7 at G;rw[if_neg e]at G;exact h.known q Y G
  obtain⟨hl,hC⟩:=hM.toMemC.G7 V N T;have L:Gr O J w (a7 O k (some (C.toList.take (n*t.size)))) (J.oset id (.row (v+1) none 0 0 t.size)) w:=⟨rfl,rfl,rfl,a9 _,λq _ W=>⟨rfl,if_neg λe=>W (by rw[e];exact R)⟩,Q.le.trans hl,Q.new,Q.k⟩;refine⟨_,_,h.to L hC,L,λx A=>?_⟩;rw[j.mr A];have aa:n*t.size<=c*t.size:=gF _ j.nc;refine⟨ef,λ_=>⟨_,c,rfl,j.nc,λ_=>⟨k,0,_,λi=>(C.toList.drop (i*t.size)).take t.size,rfl,u,by rw[kO,pO];omega,λi M=>⟨(Z i M).1,(Z i M).2.mono hl.r,?_⟩⟩⟩⟩;have S:i*t.size+t.size<=n*t.size:=by rw[<-iO];exact gF _ M
  have:=qn (l:=C.toList) (a:=0) (b:=n*t.size) (o:=i*t.size) (k:=t.size) S;simpa using this
variable {P:Program}
def JG{s id:Nat}{f:Nat->D}(y:look V s=some (.ob (.mr id v)))(z:lz m id=some (v,n,t,f))(h:Ok P N F c (.put s (.d (.X n t f))::V) ⟨m.c,m.t,m5 m.o id (.row (v+1) 0 t f)⟩ K):Ok P N F c V m K:=by
 intro E r L O J a w C i;obtain⟨l,k,p,o,g⟩:=i.m.G7 z;refine wpIn_mono (h E r L l k a w C ⟨⟨i.l.size,λx Z u b q=>?_,λx Z u b q=>?_⟩,p⟩) λe M Q A=>A.same p o rfl (gN.refl _ _) (λ_ h=>h) λ_ _ _ h=>h
 .simp only[fP,fB]at b;obtain⟨Y,j,e⟩:=b;cases e;simp only[look]at j;split at j
  .rename_i G;have:=fp G;subst this;cases j;exact g _ (i.l.yes _ [] _ (by simp[fP,y]) λ_ d=>by cases d)
  .exact(i.l.yes x [] _ (by simp[fP,j]) λ_ d=>by cases d).mono o.le
 .simp only[fP,fB]at b;obtain⟨Y,_,e⟩:=b;cases e;exact b3 (λ_ d=>by cases d) q
def zbb(b:Nat)(g:List Nat){id:Nat}{f:Nat->D}{u Y:SV}(S:kI m.c b=some u)(hl:u.B0 g=some (.ob (.mr id v)))(hv:u.set g (.d (.X n t f))=some Y)(G:∃o t',u.shape.off g=some (o,t'))(h2:lz m id=some (v,n,t,f))(h:Ok P N F c V ⟨oJ m.c b Y,m.t,m5 m.o id (.row (v+1) 0 t f)⟩ K):Ok P N F c V m K:=by
 intro E r nn O J a w hr R;obtain⟨s,j,d,W,L⟩:=R.m.G7 h2;rw[qH]at S;rw[vy (l:=m.c)]at h;have y:Mem E s j ⟨m.c.set b Y,m.t,m5 m.o id (.row (v+1) 0 t f)⟩ w:=by
  refine⟨⟨by show j.b.length=(m.c.set b Y).length;rw[wU];exact d.len,d.A6,λi p t2 q Z hu=>?_,d.inj,d.tail,d.A3,d.known,d.R,d.obj,d.A2,d.I⟩,d.gh,d.B1,d.C3,d.marks⟩;rcases mS hu with⟨rfl,rfl⟩|⟨_,hu⟩
  .obtain⟨C,e,g1,U,g3,g4⟩:=d.box i p t2 u Z S;refine⟨C,e,g1,?_⟩;subst g3;obtain⟨o,t',T⟩:=G;obtain⟨hs,_⟩:=SV.O U T hl;cases hs;obtain⟨k,t0,z⟩:∃k t0,J.b[i]?=some (k,t0):=⟨_,_,ed (by rw[R.m.len];exact(iA.1 S).1)⟩;have A:=W.le.b _ _ z;rw[Z]at A;cases A;obtain⟨Q,e0,q1,q2,q3,q4⟩:=R.m.box i p _ u z S;rw[g1]at q1;cases q1;obtain⟨_,x,M,ab⟩:=SV.O q2 T hl;have hR:=(L x (ka.v ab)).2 rfl;have aa:eX s j (.d (.X n t f)) ((C.toList.drop o).take (Ty.size .c)):=by rw[show(SV.ob (.mr id v)).shape.size=Ty.size .c from rfl]at M;rw[M];exact hR
   obtain⟨k1,k2⟩:=SV.A4 U T aa rfl hv;have ad:=Ty.T T;have ac:=U.length;have:(C.toList.take o++(C.toList.drop o).take (Ty.size .c)++C.toList.drop (o+Ty.size .c))=C.toList:=by rw[iJ,<-pS,nF,nF]
   rw[show(SV.ob (.mr id v)).shape.size=Ty.size .c from rfl]at k2;rw[this]at k2;exact⟨k2,k1,g4⟩
  .exact d.box i p t2 q Z hu
 exact wpIn_mono (h E r nn s j a w hr ⟨R.l.le W.le,y⟩) λe a2 w2 hq=>hq.same y W rfl (gN.refl _ _) (λ_ h=>h) λ_ _ _ h=>h
def QF{c:Operand}{x y:Code}{b:Bool}(s:iQ [] V [] c=some (.d (.I b)))(f:b=true->Ok P N F x V m K)(i:b=false->Ok P N F y V m K):Ok P N F (.cond c x y) V m K:=by
 intro E r n O J a w l j;have q:=(v9 j.l (g:=[]) (λp u=>by cases u) s).I;refine wpIn_cond_split q (λd=>wpIn_mono (f d E r n O J a w l j) λe o v k=>?_) λd=>wpIn_mono (i d E r n O J a w l j) λe o v k=>?_
 .exact k.of (λt d=>eP.2 (.inl d)) λx _ _ _ _ i f=>⟨x,f,i,λh=>h⟩
 .exact k.of (λt d=>eP.2 (.inr d)) λx _ _ _ _ i f=>⟨x,f,i,λh=>h⟩
def jN(P:Program)(f:FuncId)(args:List SV)(Q:SV->Prop):Prop:=∀m,b6 P f args m λo U=>(∃v,Q v/\o=.ret v)/\U=m
def Rc(p:eV 0 0 0 args=true)(h:b6 P f args ⟨[],[],[]⟩ λo m=>(∃u v,o=.ret u/\u.le v/\Q v)/\m=⟨[],[],[]⟩):jN P f args Q:=λm=>by
 have b:b6 P f args ⟨[],[],[]⟩ λo m=>(∃v,Q v/\o=.ret v)/\m=⟨[],[],[]⟩:=⟨h.1,λE O J w G n l=>(h.2 E O J w G n l).mono (by
  rintro e M ⟨c,a,U,z,b,i,j,⟨u,v,rfl,s,t⟩,k⟩;obtain⟨x,q,y⟩:=j;exact⟨c,a,U,.ret v,b,i,⟨x,q,s _ _ _ y⟩,⟨v,t,rfl⟩,k⟩)⟩
 exact fa (ry m.c m.t m.o b p rfl λo U r=>by rw[r.2];exact⟨rfl,rfl,rfl⟩) λo U ⟨A,d,g⟩=>⟨d.1,by rw[g,d.2];rfl⟩
def zbH(b:a6.funcs[f]?=some fn)(a:fn.body=some c)(i:(fn.name== "runtime.NumGoroutine")=false)(g:Nat.ble fn.results.toList.length 3=true)(d:Nat.ble args.length fn.ntmps=true)(e:eV 0 0 0 args=true)(h:ji a6 ff fn.ntmps false c (kc 0 args) ⟨[],[],[]⟩ (gS ff 0 0 0 fn.results.toList λo m=>(∃u v,o=.ret u/\u.le v/\Q v)/\m=⟨[],[],[]⟩)):jN a6 f args Q:=
 Rc e (HF c6 b a (v8 b i (by rw[a];rfl)) (dF g) (dF d) (m:=⟨[],[],[]⟩) h)
def ER(d:a6.funcs[f]?=some fn)(b:fn.body=some c)(i:(fn.name== "runtime.NumGoroutine")=false)(g:Nat.ble fn.results.toList.length 3=true)(a:Nat.ble args.length fn.ntmps=true)(e:eV 0 0 0 args=true)(h:Ok a6 fn.ntmps false c (kc 0 args) ⟨[],[],[]⟩ (gS ff 0 0 0 fn.results.toList λo m=>(∃u v,o=.ret u/\u.le v/\Q v)/\m=⟨[],[],[]⟩)):jN a6 f args Q:=
 Rc e (HG d b i g a (m:=⟨[],[],[]⟩) h)
def kQ{m:MS}{K:Out->MS->Prop}(h:jN P f args Q)(k:∀v,Q v->K (.ret v) m):b6 P f args m K:=
 fa (h m) λ_ _ ⟨⟨v,b,e⟩,a⟩=>by subst e;subst a;exact k v b
def eC{v:SV}{m:MS}(h:Q v):(∃u v',Out.ret v=.ret u/\u.le v'/\Q v')/\m=m:=⟨⟨v,v,rfl,v.le_refl,h⟩,rfl⟩
def c5.x{v:SV}(h:c5 P f args v):jN P f args (·=v):=λm=>fa (h m) λ_ _ ⟨j,u⟩=>⟨⟨v,rfl,j⟩,u⟩
def nx(d:a6.funcs[f]?=some fn)(h:ji a6 ff fn.ntmps false c (kc 0 args) ⟨[],[],[]⟩ (gS ff 0 0 0 fn.results.toList λo m=>(∃u v,o=.ret u/\u.le v/\Q v)/\m=⟨[],[],[]⟩))(b:fn.body=some c:=by rfl)(i:(fn.name== "runtime.NumGoroutine")=false:=by kernel_rfl)(g:Nat.ble fn.results.toList.length 3=true:=by rfl)(a:Nat.ble args.length fn.ntmps=true:=by rfl)(e:eV 0 0 0 args=true:=by rfl):jN a6 f args Q:=zbH d b i g a e h
end Sx
namespace Sx
attribute [local irreducible] b6 eF ez eH eB eM dC ec dU dx
variable{h:Int}{d:Int->Nat}{K:X->List Ent->MS->Prop}
def ql:Ty:=.p .c (.p .c (.p (.ar 8 .c) .u))
def iV(x:Int)(i:Nat):Bool:=Nat.blt i 8&&kf x i
def lH(x:Ow):D:=.H (.z .i64 x.kind) (.H (.z .i64 x.task) (.H (.ar 8 .c λi=>.I (iV x.hold i)) .un))
def wC:Int×Ow:=(0,xN)
def mc(l:List (Int×Ow)):D:=.H (fq .c (qL (l.map (·.1)))) (.H (fq ql (l.map λp=>lH p.2)) .un)
def yX(l:List (Int×Ow)):D:=.H (.X l.length .c λi=>.z .i64 (l.getD i wC).1) (.H (.X l.length ql λi=>lH (l.getD i wC).2) .un)
def Si(l:List (Int×Ow)):(SV.d (mc l)).le (.d (yX l)):=λO J x h=>by
 refine⟨λk=>?_,ef⟩;obtain⟨j,⟨b,i,rfl,a,⟨c,d,rfl,f,g⟩⟩,rfl⟩:=h.1 rfl;have e:qL (l.map (·.1))=l.map λp=>D.z .i64 p.1:=by unfold qL;rw[List.map_map];rfl
 rw[e]at a;exact⟨_,⟨b,_,rfl,KK wC a,⟨c,d,rfl,KK wC f,g⟩⟩,rfl⟩
def SK{α:Type}{t:Ty}{e:α->D}(x:α){l:List α}{O:Ro}{a:List Value}(h:dM O (.X l.length t λi=>e (l.getD i x)) a):dM O (fq t (l.map e)) a:=by obtain⟨A,c,rfl,h⟩:=h;have h:dM O (.X l.length t λi=>e (l.getD i x)) [.slice A l.length c]:=⟨A,c,rfl,h⟩;show dM O (.X (l.map e).length t (c7 (l.map e))) _;rw[dD];exact h.congr λi b=>qe e x b
def zc3(l:List (Int×Ow)):(SV.d (yX l)).le (.d (mc l)):=λO J x h=>by
 refine⟨λk=>?_,ef⟩;obtain⟨j,⟨a,i,rfl,d,⟨b,c,rfl,f,g⟩⟩,rfl⟩:=h.1 rfl;have e:qL (l.map (·.1))=l.map λp=>D.z .i64 p.1:=by unfold qL;rw[List.map_map];rfl
 refine⟨_,⟨a,_,rfl,?_,⟨b,c,rfl,?_,g⟩⟩,rfl⟩
 .rw[e];exact SK wC d
 .exact SK wC f
def tS(l:List (Int×Ow))(h:Int):Int:=match py l h with
 |some i=>(i:Nat)
 |none=> -1
def Ru{l:List (Int×Ow)}(j:l.length<=1000000)(h:Int):c5 a6 218 [.d (mc l),I h] (I (tS l h)):=by
 refine c5.le (b:=[.d (yX l),I h]) ?_ ⟨Si l,SV.le_refl _,trivial⟩;refine dq func218 ?_;refine dX c6 (λi:Nat=>i<=l.length/\py (l.take i) h=none) (λi=>l.length - i) (λi=>[(5,I i)]) (λ_=>⟨[.d (yX l)],[],[]⟩) 0 ⟨dG _,rfl⟩ ⟨rfl,trivial⟩ rfl (λi=>⟨a9 _,a9 _,a9 _⟩) ?_;rintro i ⟨g,c⟩;refine b2 (x:=(l.length:Int)) ?_;apply a4<;>intro e
 .have a:i<l.length:=eZ e
  have d:=Wn a c;rw[show l[i]=l.getD i wC by rw[eu,ed a];rfl]at d;refine fS (i:=i) (n:=l.length) ?_;apply a4<;>intro f
  .refine b7 ?_;rw[tS,d.1 f];rfl
  .refine b2 (x:=(i:Int)+1) ?_;conv=>whnf
   exact⟨i+1,⟨a,d.2 f⟩,a3,⟨rfl,trivial⟩,⟨rfl,rfl⟩,rfl⟩
 .have a:i=l.length:=e9 e
  subst a;rw[gv]at c;refine b7 ?_;rw[tS,c];rfl
def IE:(λi=>D.I (iV 0 i))=λ_=>D.I false:=by
 funext i
 unfold iV;cases h:Nat.blt i 8 with
 |false=>rfl
 |true=>
  rw[AF a8 a8 (b8 h)];simp
def zw{t:Tb}(f:TInv t d){o:Nat->Sd}{l:List (Int×Ow)}(u:OwS t o l)(s:l.length<=1000000)(k:di h):c5 a6 154 [.d (mc l),.d (gU t),I h] (.d (lH (dy o t h))):=by
 refine c5.le (b:=[.d (yX l),.d (gU t),I h]) ?_ ⟨Si l,SV.le_refl _,SV.le_refl _,trivial⟩;have r:=c5.le (a:=[.d (yX l),I (fl t h)]) (Ru s (fl t h)) ⟨zc3 l,SV.le_refl _,trivial⟩;refine dq func154 ?_;refine dL 6 (c9 (pe f.r f.rk k) (λ_ h=>h) (c9 r (λ_ h=>h) (c9 (ml f.r k) (λ_ h _=>h) ?_)));conv=>whnf
 cases q:bk t.b h with
 |false=>
  have e:(decide (tS l (fl t h)<0)||!false)=true:=eA
  refine⟨λ_=>?_,λc=>b3 (e.symm.trans c) a8⟩;refine b7 ?_;rw[QD q,lH,show xN.hold=0 from rfl,IE];rfl
 |true=>
  obtain⟨c,x,g⟩:=QS f u ⟨k,q⟩;cases j:py l (fl t h)with
  |none=>rw[(Hl (w:=xN) j).2]at g;cases g
  |some i=>
   obtain⟨_,v,m,p⟩:=Hn (w:=xN) j;rw[g]at p;cases p;have e:tS l (fl t h)=(i:Int):=by unfold tS;rw[j]
   rw[e];have y:=(iA.1 m).1;refine⟨λc=>?_,λ_=>?_⟩
   .have c:(decide ((i:Int)<0)||!true)=true:=c;simp at c;omega
   refine fS (i:=i) (n:=l.length) (b7 ?_);show SV.d (lH (l.getD i wC).2)=_;rw[eu,m];rfl
def zE(t:Tb)(h:Int):Int:=bif !bk t.b h then 4 else bif fl t h != h then 12 else 0
def RK{t:Tb}(c:TInv t d)(e:di h):c5 a6 209 [.d (gU t),I h] (I (zE t h)):=by
 refine dq func209 ?_;refine bo (ml c.r e) ?_;apply a4<;>intro a
 .have a:(!bk t.b h)=true:=a;refine b7 ?_;rw[zE,a];rfl
 have a:(!bk t.b h)=false:=a;refine bo (pe c.r c.rk e) ?_;apply a4<;>intro b
 .have b:(fl t h != h)=true:=b;refine b7 ?_;rw[zE,a,b];rfl
 .have b:(fl t h != h)=false:=b;refine b7 ?_;rw[zE,a,b];rfl
def AO:TI:={PA with zero:=.H (.ow (.z .i64)) (.H (.ow (FY)) .un)}
def tbW:TT:=.node 42 Pz (.node 41 Py (.node 3 i3 .leaf .leaf) .leaf) (.node 316 Px (.node 44 AO .leaf .leaf) .leaf)
def nT:tbW.ok a6:=QG ey ey ey
def qA(l:List (Int×Ow)):List D:=qL (l.map (·.1))
def qB(l:List (Int×Ow)):List D:=l.map λp=>lH p.2
abbrev WS(h:Int):List (Nat×SV):=[(1,I h),(3,.B 0 []),(5,.B 1 []),(6,.B 2 []),(7,.B 3 [])]
def zcC{l:List (Int×Ow)}(c:l.length<=1000000){w:Ow}(a:Ok a6 f210.ntmps false (gW 2 (gB f210)) (gy (WS h) []) ⟨[.d (mc l),.d (lH w),AO.zero.sv,.H (.ow 1 0 (qA l).length .c (c7 (qA l))) (.H (.ow 2 0 (qB l).length ql (c7 (qB l))) (.d .un))],[0,0],[]⟩ K):Ok a6 f210.ntmps false (gB f210) (kc 0 [.d (mc l),I h,.d (lH w)]) ⟨[],[],[]⟩ K:=by
 have b:(.H (.ow 1 0 (0+(qA l).length) .c (fE 0 (c7 []) (c7 (qA l)))) (.H (.ow 2 0 (0+(qB l).length) ql (fE 0 (c7 []) (c7 (qB l)))) (.d .un)):SV)=.H (.ow 1 0 (qA l).length .c (c7 (qA l))) (.H (.ow 2 0 (qB l).length ql (c7 (qB l))) (.d .un)):=by rw[ld,ld];rfl
 refine lL (eJ nT (lL (eJ nT (yU ey ?_))));refine sg 2 7 a8 (sg 5 7 a8 ?_ ?_) ?_
 .refine oq nT ey (λi=>[0,1,4,2,3,5,6,7,8].getD i 0) [0,1,3,4,2,5,6,7,8] [(2,24),(5,0),(7,64),(8,0)] (by repeat first|exact .refl|refine .add _ _ ?_ rfl) ey ?_;refine a4 (by rw[dD,dD];omega) (Or.inl (fy ?_))
  exact a4 (by rw[dD];omega) (Or.inl (dA (l:=WS h) ⟨rfl,rfl,rfl,rfl,rfl,trivial⟩ (g9 (ce rfl (ce rfl (ce rfl (ce b rfl)))) rfl rfl) a))
 .refine oq nT ey (λi=>[0,1,4,2,3,6,7,5,8].getD i 0) [0,1,3,4,2,7,5,6,8] [(2,24),(5,0),(7,27),(8,0)] (by repeat first|exact .refl|refine .add _ _ ?_ rfl) ey ?_;refine a4 (by rw[dD,dD];omega) (Or.inl (fy ?_))
  refine fy ?_
  exact a4 (by rw[dD];omega) (Or.inl (dA (l:=WS h) ⟨rfl,rfl,rfl,rfl,rfl,trivial⟩ (g9 (ce rfl (ce rfl (ce rfl (ce b rfl)))) rfl rfl) a))
 .refine oq nT ey (λi=>[0,1,5,2,3,6,7,4,8].getD i 0) [0,1,3,4,7,2,5,6,8] [(2,24),(5,0),(7,27),(8,0)] (by repeat first|exact .refl|refine .add _ _ ?_ rfl) ey ?_;refine fy ?_
  refine a4 (by rw[dD,dD];omega) (Or.inl (fy ?_))
  exact a4 (by rw[dD];omega) (Or.inl (dA (l:=WS h) ⟨rfl,rfl,rfl,rfl,rfl,trivial⟩ (g9 (ce rfl (ce rfl (ce rfl (ce b rfl)))) rfl rfl) a))
def zcD{l:List (Int×Ow)}(e:l.length<=1000000)(d:0<l.length){w:Ow}(a:Ok a6 f210.ntmps false (gW 2 (gB f210)) (gy (WS h) []) ⟨[.d (mc l),.d (lH w),AO.zero.sv,.H (.ow 1 0 (qA l).length .c (c7 (qA l))) (.H (.ob (.mr 0 1)) (.d .un))],[0],[.row 1 (qB l).length ql (c7 (qB l))]⟩ K):Ok a6 f210.ntmps false (gB f210) (kc 0 [.d (mc l),I h,.d (lH w)]) ⟨[],[],[]⟩ K:=by
 have b:(.H (.ow 1 0 (0+(qA l).length) .c (fE 0 (c7 []) (c7 (qA l)))) (.H (.ob (.mr 0 1)) (.d .un)):SV)=.H (.ow 1 0 (qA l).length .c (c7 (qA l))) (.H (.ob (.mr 0 1)) (.d .un)):=by rw[ld];rfl
 have c:[Ob.row 1 (0+(qB l).length) ql (fE 0 (c7 []) (c7 (qB l)))]=[Ob.row 1 (qB l).length ql (c7 (qB l))]:=by rw[ld];rfl
 refine lL (eJ nT (lL (eJ nT (yU ey ?_))));refine sg 2 7 a8 (sg 5 7 a8 ?_ ?_) ?_
 .refine oq nT ey (λi=>[0,1,4,2,3,5,6,7,8].getD i 0) [0,1,3,4,2,5,6,7,8] [(2,24),(5,0),(7,64),(8,0)] (by repeat first|exact .refl|refine .add _ _ ?_ rfl) ey ?_;refine a4 (by rw[dD,dD];omega) (Or.inl (fy ?_))
  refine a4 (by rw[dD];omega) (Or.inr ⟨by rw[dD];exact d,?_⟩);exact dA (l:=WS h) ⟨rfl,rfl,rfl,rfl,rfl,trivial⟩ (g9 (ce rfl (ce rfl (ce rfl (ce b rfl)))) rfl c) a
 .refine oq nT ey (λi=>[0,1,4,2,3,6,7,5,8].getD i 0) [0,1,3,4,2,7,5,6,8] [(2,24),(5,0),(7,27),(8,0)] (by repeat first|exact .refl|refine .add _ _ ?_ rfl) ey ?_;refine a4 (by rw[dD,dD];omega) (Or.inl (fy ?_))
  refine fy ?_
  refine a4 (by rw[dD];omega) (Or.inr ⟨by rw[dD];exact d,?_⟩);exact dA (l:=WS h) ⟨rfl,rfl,rfl,rfl,rfl,trivial⟩ (g9 (ce rfl (ce rfl (ce rfl (ce b rfl)))) rfl c) a
 .refine oq nT ey (λi=>[0,1,5,2,3,6,7,4,8].getD i 0) [0,1,3,4,7,2,5,6,8] [(2,24),(5,0),(7,27),(8,0)] (by repeat first|exact .refl|refine .add _ _ ?_ rfl) ey ?_;refine fy ?_
  refine a4 (by rw[dD,dD];omega) (Or.inl (fy ?_))
  refine a4 (by rw[dD];omega) (Or.inr ⟨by rw[dD];exact d,?_⟩);exact dA (l:=WS h) ⟨rfl,rfl,rfl,rfl,rfl,trivial⟩ (g9 (ce rfl (ce rfl (ce rfl (ce b rfl)))) rfl c) a
end Sx
namespace Sx
variable{e:Int}
def GN{a b c Z:SV}(h:∀O J x,fJ O J c x->fJ O J Z x):(T3 a b c).le (T3 a b Z):=λO J x ⟨p,i,j⟩=>by obtain⟨k,m,rfl,d,l,n,rfl,e,C,o,rfl,f,g⟩:=i;exact⟨_,⟨k,_,rfl,d,l,_,rfl,e,C,_,rfl,h _ _ _ f,g⟩,j⟩
def Z0(R:Ex):Prop:=∀y,R=.ok y->y.2.1.e=0
def fN{R:Ex}(h:Z0 R):Z0 (dV e R):=λy a=>h y (jd a).2
def lC{s:St}{r:Rs}{b:List Rn}(h:r.e=0):Z0 (.ok (s,r,b)):=λy a=>by cases a;exact h
def k6{b:Bool}{R Q:Ex}(h:Z0 R)(k:Z0 Q):Z0 (bif b then R else Q):=by cases b<;>assumption
def Ui(R:Except Int (St×List Rn)):Z0 (te R):=by
 cases R with
 |ok y=>exact lC rfl
 |error e=>exact λy a=>by cases a
def WE{s:St}{M:Int}{c:Call}{G:Rn}:Z0 (fr s M c G):=by refine fN ?_;refine k6 (fN (fN (k6 (fN (lC rfl)) (lC rfl)))) ?_;refine k6 (fN (fN (fN (k6 (fN (lC rfl)) (fN (fN (fN (lC rfl)))))))) ?_;refine k6 (fN (fN (fN (fN (lC rfl))))) ?_;refine k6 (fN (fN (fN (fN (lC rfl))))) ?_;refine k6 (fN (fN (fN (lC rfl)))) ?_;refine k6 (fN (lC rfl)) ?_;refine k6 (fN (fN (fN (fN (lC rfl))))) ?_;refine k6 (fN (fN (fN (lC rfl)))) ?_;refine k6 (fN (fN (fN (lC rfl)))) ?_;refine k6 (fN (fN (fN (lC rfl)))) ?_;refine k6 (fN (fN (lC rfl))) ?_;refine k6 (fN (fN (fN (fN (fN (lC rfl)))))) ?_;refine k6 (fN (fN (lC rfl))) ?_;refine k6 (fN (fN (k6 (fN (fN (lC rfl))) (k6 (fN (fN (fN (fN (lC rfl))))) (fN (lC rfl)))))) ?_;refine k6 (fN (k6 (fN (lC rfl)) (lC rfl))) ?_;refine k6 (fN (k6 (fN (lC rfl)) (lC rfl))) ?_;refine k6 (fN (lC rfl)) ?_;refine k6 (fN (fN (fN (lC rfl)))) ?_;refine k6 (fN (fN (lC rfl))) ?_;refine k6 (Ui _) ?_;refine k6 (fN (Ui _)) ?_;exact k6 (fN (lC rfl)) λy a=>by cases a
def Wl{s:St}{M:Int}{c:Call}(h:jX s M c=.error e):e≠0:=by
 have f:∀{α:Type} {e d:Int} {k:Except Int α},dV e k=.error d->(e≠0/\e=d)\/k=.error d:=λ{α e d k} h=>by
  by_cases c:e=0
  .rw[b9 c]at h;exact .inr h
  .rw[eR c]at h;cases h;exact .inl ⟨c,rfl⟩
 unfold jX at h;rcases f h with⟨a,b⟩|h
 .exact b▸a
 rcases f h with⟨a,b⟩|h
 .exact b▸a
 rcases f h with⟨a,b⟩|h
 .exact b▸a
 cases i:jv (b1 s.t c.r).rs (b1 s.t c.r).len (dn c.a 129) (dn c.b 9)with
 |true=>
  rw[i]at h;cases g:lu s c (b1 s.t c.r)with
  |ok y=>rw[g]at h;cases h
  |error d=>
   rw[g]at h;have h:(Except.error d:Except Int Int)=.error e:=h;cases h;rcases f g with⟨a,b⟩|g
   .exact b▸a
   .cases g
 |false=>
  rw[i]at h;rcases f (show dV _ _=_ from h)with⟨a,b⟩|h
  .exact b▸a
  .cases h
attribute [local irreducible] b6 eF fR ez eH eB eM fx dC ec dU dx
section
variable {s:St} {M:Int} {c:Call} {G:Rn}
def Gm(C:StD s)(q:wY s)(u:CallOk s M c)(z:dw G\/G.n=0)(t:NE (fr s M c G)):c5 a6 66 [.d (fw s),I M,.d (iC c),.d (dR G)] (T3 (.d (fw (dz s M c G).1)) (.d (fu (dz s M c G).2.1)) (.d (fq fi (fX (dz s M c G).2.2)))):=by
 refine dq func66 ?_;refine yK (U:=⟨[_,_,_,_,_,yF (dp s M c G 0 false) (.ow 0 0 0 _ _)],[],[]⟩) rfl ?_;refine NZ 5 [6] fi (c7 []) rfl rfl rfl ⟨_,_,rfl⟩ ?_;refine HH 0 5 (dF rfl) (dF rfl) ?_;refine HE (T:=[.B 0 []]) rfl (yK (U:=⟨eE (dp s M c G 0 false) 0::[_,_,_,_,.d (fw s)],[0],[]⟩) rfl ?_);refine yA (NH (n:=0) (a:=false) (v:=0) C q u z) rfl (zg _ _) (λo m ⟨L,k,r,_,i,_⟩=>⟨_,_,i⟩) λo N L ⟨P,k,r,w,i,d⟩=>?_;have l:=dE MS.c i;have p:=dE MS.t i;simp only[oP,px]at l p;subst l p w;have d:=d.1 rfl;have j:=WE (s:=s) (M:=M) (c:=c) (G:=G);refine⟨rfl,?_⟩;apply a4<;>intro f
 .have f:(r.e != 0)=true:=f;refine fg (List.range 5) [(2,2),(3,0)] (fy ?_)
  conv=>whnf
  have e:dz s M c G=(s,r,[]):=by
   unfold dz;cases g:fr s M c G with
   |ok y=>
    rw[g]at d;have:=j _ g;rw[d.1,this]at f;cases f
   |error e=>rw[g]at d;rw[d]
  rw[e];exact⟨rfl,ub (GN λO J x h=>pd _ _ _ _ O J x h)⟩
 .have f:(r.e != 0)=false:=f;refine fg (List.range 12) [(9,496),(10,480)] (fy ?_)
  refine fy ?_
  conv=>whnf
  have e:dz s M c G=(k.s,r,k.back):=by
   unfold dz;cases g:fr s M c G with
   |ok y=>
    obtain⟨W,A,b⟩:=y;rw[g]at d;obtain⟨E,F,K⟩:=d;rw[E,F,K]
   |error e=>
    rw[g]at d;rw[d]at f;have:e=0:=b8 f
    exact b3 (this▸g) t
  rw[e];exact b7
def CK(C:StD s)(y:wY s)(z:CallOk s M c)(x:s.alive M.toNat=true):c5 a6 16 [.d (fw s),I M,.d (iC c)] (I (dv s M c)):=by
 refine dq func16 ?_;refine a4 (λf=>?_) λf=>⟨.d (fu ⟨0,0,0⟩),?_⟩
 .have g:c.C=2:=by have f:((c.C != 2)==false&&true)=true:=f;simpa using f
  refine yK (U:=⟨[_,_,yF (dp s M c c4 0 true) (.ow 0 0 0 _ _)],[],[]⟩) rfl ?_;refine NZ 2 [6] fi (c7 []) rfl rfl rfl ⟨_,_,rfl⟩ ?_;refine HH 0 2 (dF rfl) (dF rfl) ?_;refine HE (T:=[.B 0 []]) rfl (yK (U:=⟨eE (dp s M c c4 0 true) 0::[_,.d (fw s)],[0],[]⟩) rfl ?_);refine yA (NH (n:=0) (a:=true) (v:=0) C y z (.inr rfl)) rfl (zg _ _) (λo m ⟨E,u,r,_,i,_⟩=>⟨_,_,i⟩) λo F E ⟨J,u,r,A,i,d⟩=>?_;have p:=dE MS.c i;have q:=dE MS.t i;simp only[oP,px]at p q;subst p q A;have d:=d.2 rfl x g;have t:dv s M c=(match jX s M c with
   | .ok n=>n
   | .error _=>0):=by unfold dv;rw[g];rfl
  refine⟨rfl,?_⟩;apply a4<;>intro b
  .have b:((c.C != 2)||(r.e != 0))=true:=b;have j:r.e≠0:=by rw[g]at b;simpa using b
   refine b7 ?_;cases h:jX s M c with
   |ok k=>rw[h]at d;exact b3 d.1 j
   |error e=>rw[t,h];rfl
  .have b:((c.C != 2)||(r.e != 0))=false:=b;have j:r.e=0:=by rw[g]at b;simpa using b
   refine b7 ?_;cases h:jX s M c with
   |ok k=>
    rw[h]at d;rw[t,h];show I u.C7=I k;rw[d.2];by_cases l:k=0
    .rw[l];rfl
    .rw[fc.2 l];rfl
   |error e=>
    rw[h]at d;have w:=Wl (h▸rfl:jX s M c=.error e);exact b3 (d.symm.trans j) w
 .have g:c.C≠2:=by have f:((c.C != 2)==false&&true)=false:=f;simpa using f
  apply a4<;>intro b
  .refine b7 ?_;have:dv s M c=0:=by unfold dv;rw[fc.2 g];rfl
   rw[this];rfl
  .have b:((c.C != 2)||_)=false:=b;rw[oX.2 g]at b;cases b
end
def SInv.F2{s:St}(h:SInv s):StD s:=⟨h.t,h.k.ok,h.k.t⟩
def SInv.E9{s:St}(h:SInv s):wY s:=λa f=>⟨(h.o.bx a f).1,λm j=>⟨((h.o.bx a f).2 m j).2,((h.o.bx a f).2 m j).1⟩⟩
section
variable {s:St} {M:Int} {c:Call}
def LQ(b:SInv s)(d:CallOk s M c)(e:s.alive M.toNat=true):c5 a6 223 [.d (fw s),I M,.d (iC c)] (I (nk s M c)):=by
 refine dq func223 ?_;refine bo (CK b.F2 b.E9 d e) ?_;apply a4<;>intro a
 .have a:decide (dv s M c>0)=true:=a;refine b7 ?_;rw[nk,a];rfl
 .have a:decide (dv s M c>0)=false:=a;refine bo (Gm (G:=c4) b.F2 b.E9 d (.inr rfl) (xb b d)) (b7 ?_);rw[nk,a];rfl
def VU(d:SInv s)(b:CallOk s M c)(a:s.alive M.toNat=true):c5 a6 177 [.d (fw s),I M,.d (iC c)] (B (vD s M c)):=by
 refine dq func177 ?_;exact c9 (LQ d b a) (λ_ h _=>h) b7
end
def VT{t:Tb}(f:TbOk t){k:Int->Nat}(d:Rk t k){h:Int}(j:di h)(b:bk t.b h=true):LZ a6 110 [.d (eN t),H h] (hL (dJ t h)).length .c (c7 (hL (dJ t h))):=by
 refine YA rfl (uT 0 1 0 ⟨a9 _,dG _,a9 _⟩ ?_);refine ev func110 ?_;refine bo (jA t.b h) ?_;apply a4<;>intro c
 .have c:(!bk t.b h)=true:=c;rw[b]at c;cases c
 .refine ev func184 ?_;refine ev func183 ?_;refine ev func224 ?_;refine Fa 3 [] .c (c7 []) rfl rfl rfl ⟨_,_,rfl⟩ (rS rfl rfl ?_);refine FM f d b j (σ:=List Int) (λo=>[.d (eN t),.d (eN t),H h,gx 1 (hL o).length .c (hL o)]) (λo=>[(hL o).length]) id (λ_=>True) 2 1 4 1 [] (λ_=>rfl) (λ_=>rfl) (λ_=>⟨rfl,rfl,rfl⟩) trivial rfl rfl ?_ ?_
  .intro s x r _ a i v u q;have n:s.length<=33:=by have g:=dE List.length a;have m:=ra f d (g8 b);simp only[ew,jV,id]at g;omega
   refine rX c6 rfl a8 ?_;refine Or.inl (a4 ⟨rfl,by simp;omega⟩ ?_);conv=>whnf
   refine⟨rfl,s++[x],⟨trivial,rfl⟩,?_⟩;show(⟨[.d (eN t),.d (eN t),H h,.ow 1 ((hL s).length+1) ((hL s).length+[hD x].length) .c (fE (hL s).length (c7 (hL s)) (c7 [hD x]))],[(hL s).length+1],_⟩:MS)=⟨[.d (eN t),.d (eN t),H h,gx 1 (hL (s++[x])).length .c (hL (s++[x]))],[(hL (s++[x])).length],_⟩;rw[kA,show hL s++[hD x]=hL (s++[x]) by simp,show(hL s).length+1=(hL (s++[x])).length by simp];rfl
  .intro s p _ a;have a:s=eT t h:=a;subst a;have e:dJ t h=eT t h:=by rw[dJ,b];rfl
   rw[e];generalize eT t h=l;conv=>whnf
   exact⟨_,SV.le_refl _,rfl,_,rfl,rfl⟩
end Sx
end Go.Proofs.YtfbhkfhbnkncoaaGreatDoor
