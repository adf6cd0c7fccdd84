import Derived.Test.YtfbhkfhbnkncoaaGreatDoorV39
set_option linter.all false
set_option maxRecDepth 100000
set_option maxHeartbeats 4000000
namespace Go.Proofs.YtfbhkfhbnkncoaaGreatDoor
open Go.RowKit Tryz
open Tryz renaming prog→a6
namespace Sx
def xd(x:Cr):SV:=.H (.d (fw x.s)) (.H (.B 1 []) (.H (.d (lG x.m)) (.H (.d (fq .c (zL x.q))) (.d .un))))
attribute [local irreducible] b6 eF fR ez eH eB eM fx dC ec dU dx
section
variable {m:Mc} {a b:Nat}
def tG(c:m.x.q.length<=1000000):b6 a6 14 [.B 0 []] (MM m a b) λo U=>o=.ret (xd m.x)/\U=MM m a b:=by
 refine ov func14 ?_;exact dB (eJ c6 (b0 (bo ((Ux (zL m.x.q).length (c7 (zL m.x.q)) (by rw[dD];omega)).le ⟨vq _ _ _ _ _,trivial⟩) (a4 (gw rfl (gK rfl m.x a)) (a4 rfl rfl)))))
end
section
variable {m:Mc} {a b:Nat}
def VW(d:m.x.q.length<=1000000)(c:m.x.p.K=[⟨0,m.x.p.n⟩]):b6 a6 21 [.B 0 []] (MM m a b) λo U=>o=.ret (B true)/\U=MM m a b:=by
 refine ov func21 ?_;refine dB (eJ c6 (b0 (fa (tG (m:=m) (a:=a) (b:=b) d) ?_)));rintro o U ⟨rfl,rfl⟩;refine fa (Mw (Z:=fH m b) (p:=m.x.p) (C:=eO m.x a) (rb (xF m b) m.x a)) ?_;rintro o U ⟨rfl,rfl⟩;rw[c];refine bo (MB [⟨0,m.x.p.n⟩] (dF rfl)) (dL 13 (b2 (x:=(1:Int)) (a4 (λ_=>⟨(a8:(0:Int)<=0),(a8:(0:Int)<1)⟩) (mI (v:=I m.x.p.n) (Mx (Z:=fH m b) (p:=m.x.p) (C:=eO m.x a) (a:=a) (b:=b) (rb (xF m b) m.x a)) (λ_ h _=>h) ?_))));refine DO (OG ⟨0,m.x.p.n⟩ ⟨0,m.x.p.n⟩) (λ_ h _=>h) ?_;refine a4 (gw rfl (gK rfl m.x a)) (a4 ?_ rfl);exact dE (λz=>Out.ret (B z)) (show((((fX [⟨0,m.x.p.n⟩]).length:Int)==1)&&(((0:Int)==0)&&(m.x.p.n==m.x.p.n)))=true by simp)
end
def Uv(n:Nat)(f:Nat->D)(g:n<=2147483648):c5 a6 34 [.d (.X n jj f)] (.d (.X n jj f)):=by
 refine dq func34 ?_;intro b e;apply a4<;>intro i
 .have c:n=0:=by
   rcases pt n with h|h
   .exact h
   .have d:=e h;subst d;cases i
  subst c;exact a4 rfl (a4 ⟨_,rfl,pd _ _ _ _⟩ rfl)
 .exact Or.inl (a4 g (.inl (a4 rfl (a4 ⟨_,rfl,Dk⟩ rfl))))
section
variable {m:Mc} {a b:Nat}
def Co(c:m.M.length<=1000000):b6 a6 10 [.B 0 []] (MM m a b) λo U=>o=.ret (.d (fq jj (lj m.M)))/\U=MM m a b:=by
 refine fm func10 ?_;exact b0 (bo ((Uv (lj m.M).length (c7 (lj m.M)) (by rw[dD];omega)).le ⟨vq _ _ _ _ _,trivial⟩) (a4 (gw rfl (gK rfl m.x a)) (a4 rfl rfl)))
end
def LP:c5 a6 118 [] (.d (fw jU)):=by
 refine dq func118 ?_;conv=>whnf
 refine⟨⟨(a8:(0:Int)<=0),(a8:(0:Int)<8)⟩,?_⟩;conv=>whnf
 refine⟨.d (fw {jU with born:=λ_=>false}),dE (λf=>SV.d (.H (uX jU) (.H (.ar 8 zK λi=>lT (jU.box i)) (.H (.ar 8 .c f) (.H (.ar 8 .c λ_=>.I false) .un))))) (iU D.I (λ_=>false) 0 true),?_⟩;conv=>whnf
 refine⟨⟨(a8:(0:Int)<=0),(a8:(0:Int)<8)⟩,?_⟩;conv=>whnf
 refine⟨.d (fw jU),dE (λf=>SV.d (.H (uX jU) (.H (.ar 8 zK λi=>lT (jU.box i)) (.H (.ar 8 .c λi=>.I (jU.alive i)) (.H (.ar 8 .c f) .un))))) (iU D.I (λ_=>false) 0 true),?_⟩;conv=>whnf
 exact b7
end Sx
namespace Sx
variable{t:Nat}{c:Rt}
def Q0{r:Rn}(h:ko r):(pg r).length<=64:=by
 have e:(pg r).length=r.n.toNat:=by simp[pg]
 rcases h with h|h
 .rw[e,h];decide
 .unfold dw at h;omega
def N6(x:Cr)(h:ko c.run):(jO x c).q.length<=x.q.length+64:=by have:=Q0 h;show(x.q++pg c.run).length<=_;rw[ew];omega
def NY{x:Cr}(d:SInv x.s)(e:CallOk x.s c.task c.c)(f:ko c.run)(b:dv x.s c.task c.c>0->c.run.n=dv x.s c.task c.c->dw c.run):(gO x c).x.q.length<=x.q.length+3100:=by
 obtain⟨_,_,a⟩:=DG (G:=c.run) d e b;unfold gO;generalize dz x.s c.task c.c c.run=D at a;cases g:(D.2.1.e != 0)with
 |true=>
  have:=N6 x f;show(jO x c).q.length<=_;omega
 |false=>
  show((D.2.2.foldl dS _).q++pg c4).length<=_;rw[ew,(rR D.2.2 _).1,ew];have:(pg c4).length=0:=rfl;have a:(dm D.2.2).length<=3000:=a;show x.q.length+(dm D.2.2).length+(pg c4).length<=_;omega
def zdW{x:Cr}(a:WOk x c t):(fh x c).x.q.length<=1000000:=by
 have j:=a.q;have g:=N6 x a.rn;have f:∀r,(rC x c r).x.q.length<=1000000:=λr=>by show(jO x c).q.length<=_;omega
 have b:x.q.length<=1000000:=a3
 unfold fh;cases c.E4 with
 |false=>
  show(ou x c).x.q.length<=_;unfold ou;cases vD x.s c.task c.c with
  |true=>exact b
  |false=>
   cases(nk x.s c.task c.c != 0)with
   |true=>exact f _
   |false=>exact b
 |true=>
  show(match c.G with
   |h::l=>wv x c h l
   |[]=>bif (dv x.s c.task c.c != 0)&&decide (c.run.n<=0)then lS x c (dv x.s c.task c.c)
    else bif decide (c.S<c.run.n)then sj x c else lg x c).x.q.length<=_
  cases c.G with
  |cons h l=>exact b
  |nil=>
   cases((dv x.s c.task c.c != 0)&&decide (c.run.n<=0))with
   |true=>
    show(lS x c (dv x.s c.task c.c)).x.q.length<=_;unfold lS;cases(kP x.p (dv x.s c.task c.c) != 0)with
    |true=>exact f _
    |false=>exact b
   |false=>
    cases decide (c.S<c.run.n)with
    |true=>exact b
    |false=>
     show(lg x c).x.q.length<=_;unfold lg;cases(decide (c.run.n>0)&&(dv x.s c.task c.c != c.run.n))with
     |true=>
      have i:=NY (x:=dS x c.run) (c:={c with run:=c4}) a.s a.call (.inl rfl) (λd e=>by have e:(0:Int)=dv x.s c.task c.c:=e;have d:dv x.s c.task c.c>0:=d;omega);have d:=Q0 a.rn;have e:(dS x c.run).q.length=x.q.length+(pg c.run).length:=ew;show(gO (dS x c.run) {c with run:=c4}).x.q.length<=_;omega
     |false=>
      have i:=NY (x:=x) (c:=c) a.s a.call a.rn (λd e=>by
       rcases a.rn with h|h
       .omega
       .exact h)
      show(gO x c).x.q.length<=_;omega
section
variable {N A B:Int} {m:Mc}
def MI.F1(h:MI N m):m.x.q.length<=64:=by
 have f:=h.pp.length_eq;have j:(mH N).length=N.toNat:=by simp[mH]
 have u:=h.hN;simp only[ew]at f;omega
def MI.J0(h:MI N m)(j:MX2 A B m)(f:t<8)(C:(m.ts t).busy=true)(u:m.x.s.alive t=true):WOk m.x (m.ts t).c t:=
 ⟨h.s,h.K,by rw[h.n];exact h.hN.2,eY h.F1 a8,j.C5,(h.rr t f).busy C,f,u,h.run t f,j.rt t f⟩
def MI.I9(h:MI N m)(E:MX2 A B m)(f:t<8)(C:(m.ts t).busy=false)(u:m.x.s.alive t=true):WOk m.x {iT with task:=t,c:=jI (m.ts t).t} t:=by have e:(qw m t).ts t={m.ts t with c:={iT with task:=t,c:=jI (m.ts t).t},busy:=true,J:=m.now}:=dN _ _ _;have j:=(Dr h f C).J0 (Hp E f) f (by rw[e]) u;rw[e]at j;exact j
def MI.S(h:MI N m)(f:MX2 A B m):ClrOk m:=⟨f.C5,h.run,eY h.F1 a8⟩
def GW(h:jW m t=true):m.x.s.alive t=true:=by unfold jW at h;simp only[dH]at h;exact h.2
def GK(h:MI N m)(f:MX2 A B m)(z:A<=900000)(C:B<=900000){p:Int}(u:0<=p/\p<256){a b:Nat}:b6 a6 9 [.B 0 [],.d (.z .u8 p)] (MM m a b) λo U=>o=.ret (I (lM m p))/\∃q Q,U=MM (jo m p) q Q:=by
 have i:=f.now;have r:=f.M;have s:=xq h.K;refine VF u ⟨i.1,a3⟩ a3 (eY h.F1 a8) h.K.ok a3 (by rw[h.n];exact h.hN.2) ?_ h.s f.ts (λt g d k=>h.J0 f g k (GW d)) (λt g d k _=>h.I9 f g k (GW d)) (λt c v=>zdW v) ?_ ?_ ?_
 .intro y w;have:=h.pp.mem_iff.1 (eP.2 (.inr (eP.2 (.inr (eP.2 (.inr w))))));have j:=vh.1 this;have x:=h.hN;omega
 .cases n:m.x.q with
  |nil=>
   have e:kM m.x=m.x:=by unfold kM;rw[n]
   rw[e];exact(sL h).S (ya f)
  |cons y l=>
   have j:=(Kl h n).1;refine⟨?_,(sL j).run,eY (sL j).F1 a8⟩;show gE (kM m.x).m;have e:(kM m.x).m=m.x.m:=by unfold kM;rw[n]
   rw[e];exact f.C5
 .intro t g d;exact((SL (sL h) g (GW d)).1).S (SM (ya f))
 .intro t g d;exact(SS (sL h) g).S (SU (sL h) (ya f) g)
end
def Yg(f g:Nat->Bool):zX a6 56 (.ar 8 .c λi=>.I (f i)) (.ar 8 .c λi=>.I (g i)) (f 0==g 0&&(f 1==g 1&&(f 2==g 2&&(f 3==g 3&&(f 4==g 4&&(f 5==g 5&&(f 6==g 6&&f 7==g 7))))))):=by
 intro O J x y X Y w E A C;obtain⟨F,t,rfl⟩:=A.1 rfl;obtain⟨G,u,rfl⟩:=C.1 rfl;obtain⟨a,rfl,h⟩:=t;obtain⟨b,rfl,j⟩:=u;have r:(List.range 8).flatMap a=[.bool (f 0),.bool (f 1),.bool (f 2),.bool (f 3),.bool (f 4),.bool (f 5),.bool (f 6),.bool (f 7)]:=by show a 0++(a 1++(a 2++(a 3++(a 4++(a 5++(a 6++(a 7++[])))))))=_;rw[show a 0=[.bool (f 0)] from(h 0 a8).2,show a 1=[.bool (f 1)] from(h 1 a8).2,show a 2=[.bool (f 2)] from(h 2 a8).2,show a 3=[.bool (f 3)] from(h 3 a8).2,show a 4=[.bool (f 4)] from(h 4 a8).2,show a 5=[.bool (f 5)] from(h 5 a8).2,show a 6=[.bool (f 6)] from(h 6 a8).2,show a 7=[.bool (f 7)] from(h 7 a8).2];rfl
 have s:(List.range 8).flatMap b=[.bool (g 0),.bool (g 1),.bool (g 2),.bool (g 3),.bool (g 4),.bool (g 5),.bool (g 6),.bool (g 7)]:=by show b 0++(b 1++(b 2++(b 3++(b 4++(b 5++(b 6++(b 7++[])))))))=_;rw[show b 0=[.bool (g 0)] from(j 0 a8).2,show b 1=[.bool (g 1)] from(j 1 a8).2,show b 2=[.bool (g 2)] from(j 2 a8).2,show b 3=[.bool (g 3)] from(j 3 a8).2,show b 4=[.bool (g 4)] from(j 4 a8).2,show b 5=[.bool (g 5)] from(j 5 a8).2,show b 6=[.bool (g 6)] from(j 6 a8).2,show b 7=[.bool (g 7)] from(j 7 a8).2];rfl
 rw[r,s];refine⟨?_,?_⟩
 .have v:a6.eqGuardType a6.depth 56=false:=ey
  unfold eqGuard;cases E<;>simp[v]
 .have c:∀w,(isAgg 4).run a6 w=.ok false w:=λw=>ey
  have z:∀w,(sizeOf 4).run a6 w=.ok 1 w:=λw=>ey
  unfold Op.equal Op.maxDepth Op.equalIn;simp only[jt,run_underlying underlying56,lQ,z];rw[Std.Legacy.Range.forIn_eq_forIn_range'];simp only[show(List.range' ([:8]:Std.Legacy.Range).start ([:8]:Std.Legacy.Range).size ([:8]:Std.Legacy.Range).step)=[0,1,2,3,4,5,6,7] from rfl,List.forIn_cons,List.forIn_nil];by_cases e:f 0=g 0;rotate_left
  .simp[part,c,uc (d:=9998) underlying4,e]
  by_cases k:f 1=g 1;rotate_left
  .simp[part,c,uc (d:=9998) underlying4,e,k]
  by_cases l:f 2=g 2;rotate_left
  .simp[part,c,uc (d:=9998) underlying4,e,k,l]
  by_cases m:f 3=g 3;rotate_left
  .simp[part,c,uc (d:=9998) underlying4,e,k,l,m]
  by_cases n:f 4=g 4;rotate_left
  .simp[part,c,uc (d:=9998) underlying4,e,k,l,m,n]
  by_cases o:f 5=g 5;rotate_left
  .simp[part,c,uc (d:=9998) underlying4,e,k,l,m,n,o]
  by_cases p:f 6=g 6;rotate_left
  .simp[part,c,uc (d:=9998) underlying4,e,k,l,m,n,o,p]
  by_cases q:f 7=g 7;rotate_left
  .simp[part,c,uc (d:=9998) underlying4,e,k,l,m,n,o,p,q]
  simp[part,c,uc (d:=9998) underlying4,e,k,l,m,n,o,p,q]
attribute [local irreducible] b6 eF fR ez eH eB eM fx dC ec dU dx
section
variable {m:Mc} {a b:Nat}
def VG(d:m.x.q=[])(c:∀i,i<8->m.x.s.alive i=false):b6 a6 20 [.B 0 []] (MM m a b) λo U=>o=.ret (B true)/\U=MM m a b:=by
 refine fm func20 ?_;refine mI (v:=xd m.x) (tG (m:=m) (a:=a) (b:=b) (by rw[d];exact dG _)) (λ_ h _=>h) ?_;refine DO (Yg m.x.s.alive λ_=>false) (λ_ h _=>h) ?_;refine mI (v:=xd m.x) (tG (m:=m) (a:=a) (b:=b) (by rw[d];exact dG _)) (λ_ h _=>h) ?_;refine a4 (λ_=>eD (x:=((zL m.x.q).length:Int)) a3 (by rw[d];decide)) (a4 (gw rfl (gK rfl m.x a)) (a4 ?_ rfl));rw[c 0 a8,c 1 a8,c 2 a8,c 3 a8,c 4 a8,c 5 a8,c 6 a8,c 7 a8,d];rfl
end
end Sx
namespace Sx
structure Lst where
 n:Int
 ps:List ByteArray
 pk:ByteArray
def ig(l:Lst):D:=.H (.z .i64 l.n) (.H (.X l.ps.length .c λi=>.st (l.ps.getD i ByteArray.empty)) (.H (.st l.pk) .un))
def zb(l:Lst):Bool:=(decide ((l.ps.length:Int)>20)||decide ((l.pk.size:Int)>6000))||l.ps.any λp=>decide ((p.size:Int)>1000)
attribute [local irreducible] b6 eF fR ez eH eB eM fx dC ec dU dx
def U4(l:Lst)(j:dx (l.ps.length:Int))(g:dx (l.pk.size:Int))(q:∀p∈l.ps,dx (p.size:Int)):c5 a6 54 [.d (ig l)] (B (zb l)):=by
 refine dq func54 ?_;refine a4 j (a4 (λ_=>g) ?_);apply a4<;>intro e
 .have e:(decide ((l.ps.length:Int)>20)||decide ((l.pk.size:Int)>6000))=true:=e;exact b7 (by unfold zb;rw[e];rfl)
 have e:(decide ((l.ps.length:Int)>20)||decide ((l.pk.size:Int)>6000))=false:=e;have m:l.ps.length<=20:=by simp only[gX,kq]at e;omega
 refine dX c6 (λi:Nat=>i<=l.ps.length/\∀p∈l.ps.take i,decide ((p.size:Int)>1000)=false) (λi=>l.ps.length - i) (λi=>[(3,I i)]) (λ_=>⟨[.d (ig l)],[],[]⟩) 0 ⟨dG _,λp c=>by cases c⟩ ⟨rfl,trivial⟩ rfl (λi=>⟨a9 _,a9 _,a9 _⟩) ?_;intro i ⟨r,b⟩;refine a4 j ?_;apply a4<;>intro o
 .have a:i<l.ps.length:=eZ o
  have k:l.ps.getD i ByteArray.empty=l.ps[i]'a:=by rw[eu,ed a];rfl
  have d:l.ps.getD i ByteArray.empty∈l.ps:=by rw[k];exact oi a
  refine fS (i:=i) (n:=l.ps.length) (a4 (q _ d) ?_);apply a4<;>intro f
  .have f:decide (((l.ps.getD i ByteArray.empty).size:Int)>1000)=true:=f;refine b7 ?_;have:(l.ps.any λp=>decide ((p.size:Int)>1000))=true:=qo.2 ⟨_,d,f⟩;unfold zb;rw[this,Gk];rfl
  .have f:decide (((l.ps.getD i ByteArray.empty).size:Int)>1000)=false:=f;refine b2 (x:=(i:Int)+1) ?_;conv=>whnf
   refine⟨i+1,⟨a,λp c=>?_⟩,a3,⟨rfl,trivial⟩,⟨rfl,rfl⟩,rfl⟩;rw[js,ed a]at c;rcases eP.1 c with c|c
   .exact b p c
   .have:p=l.ps[i]'a:=b8 c
    rw[this,<-k];exact f
 .have a:i=l.ps.length:=e9 o
  subst a;refine b7 ?_;rw[gv]at b;have:(l.ps.any λp=>decide ((p.size:Int)>1000))=false:=by rw[vF];intro h;obtain⟨p,c,g⟩:=qo.1 h;rw[b p c]at g;cases g
  unfold zb;rw[e,this];rfl
end Sx
namespace Sx
def zc(l:Lst):Bool:=zb l||decide ((l.pk.size:Int)>1500)
attribute [local irreducible] b6 eF fR ez eH eB eM fx dC ec dU dx
def U5(l:Lst)(b:dx (l.ps.length:Int))(a:dx (l.pk.size:Int))(c:∀p∈l.ps,dx (p.size:Int)):c5 a6 22 [.d (ig l)] (B (zc l)):=by
 refine dq func22 ?_;exact bo (U4 l b a c) (a4 (λ_=>a) b7)
end Sx
namespace Sx
variable{i:Nat}{α:Type}
def tW(s:ByteArray)(i:Int):0<=fF s i/\fF s i<256:=by unfold fF;have:=(s.data.toList.getD i.toNat 0).toNat_lt;omega
def fI(b:ByteArray)(k:Nat):ByteArray:=b.extract k b.size
def zG(b:ByteArray)(k:Nat):(fI b k).data.toList=b.data.toList.drop k:=by unfold fI;rw[Us,Uq,Mj,pX];rw[oS];show b.data.size - k<=b.size - k;exact a9 _
def SX(b:ByteArray)(k:Nat):(fI b k).size=b.size - k:=by have:=dE List.length (zG b k);rw[oS]at this;exact this
def sK(b:ByteArray)(k j:Nat):fF (fI b k) (j:Int)=fF b ((k+j:Nat):Int):=by unfold fF;rw[zG,nE,nE,eu,eu,sT]
def SW(b:ByteArray):fI b 0=b:=by have:=zG b 0;rw[vM]at this;exact ByteArray.ext (Array.toList_inj.1 this)
def SY(b:ByteArray)(k:Nat):(fI b k).extract 6 (fI b k).size=fI b (k+6):=by refine ByteArray.ext (Array.toList_inj.1 ?_);show(fI (fI b k) 6).data.toList=_;rw[zG,zG,zG,pS]
def xy(b:ByteArray)(i:Nat):Ins:=⟨fF b (6*i:Nat),fF b (6*i+1:Nat),fF b (6*i+2:Nat),fF b (6*i+3:Nat),fF b (6*i+4:Nat)+256*fF b (6*i+5:Nat)⟩
def ma(b:ByteArray)(n:Nat):List Ins:=(List.range n).map (xy b)
def oZ(b:ByteArray):List Ins:=ma b (b.size / 6)
def LE(b:ByteArray)(i:Nat):InsOk (xy b i):=by have:=tW b (6*i+4:Nat);have:=tW b (6*i+5:Nat);exact⟨tW _ _,tW _ _,tW _ _,tW _ _,by show 0<=fF b _+256*fF b _;omega,by show fF b _+256*fF b _<65536;omega⟩
def Oa(b:ByteArray)(n:Nat):ma b (n+1)=ma b n++[xy b n]:=by unfold ma;rw[mC,je];rfl
def As(b:ByteArray)(n:Nat):(ma b n).length=n:=by simp[ma]
def N9(b:ByteArray):∀x∈oZ b,InsOk x:=λx a=>by obtain⟨i,_,rfl⟩:=l6.1 a;exact LE b i
def zbl{a b:Int}(e:0<=a/\a<256)(f:0<=b/\b<256):dC .or .u16 a (ec .u16 b 8)=a+256*b:=by
 obtain⟨x,rfl⟩:=sS e.1;obtain⟨y,rfl⟩:=sS f.1;have c:ec .u16 (y:Int) 8=((256*y:Nat):Int):=by unfold ec;rw[show(2:Int) ^(min (8:Int).toNat IntKind.u16.bits)=256 from rfl,l5 (iL (by simp only[eU];omega) (λ_=>a3) (by simp only[eU];omega))];omega
 rw[c];unfold dC;have d:(BitVec.ofInt 16 (x:Int)|||BitVec.ofInt 16 ((256*y:Nat):Int)).toNat=x+256*y:=by rw[zV,zV,BitVec.toNat_or,BitVec.toNat_ofNat,BitVec.toNat_ofNat,CG a3,CG a3,Nat.or_comm,<-Nat.two_pow_add_eq_or_of_lt (i:=8) a3 y];omega
 show IntKind.u16.wrap ((BitVec.ofInt 16 (x:Int)|||BitVec.ofInt 16 ((256*y:Nat):Int)).toNat:Int)=_;rw[d,l5 (iL (by simp only[eU];omega) (λ_=>a3) (by simp only[eU];omega))];omega
def ta(x:Ins):D:=.H (.z .i64 x.op) (.H (.z .i64 x.a) (.H (.z .i64 x.b) (.H (.z .i64 x.c) (.H (.z .i64 x.n) .un))))
def x8:Ty:=(ta lW).shape
def xa(n:Nat)(x:Ins):Bool:=(((((decide (x.op>6)&&decide (x.op<17))||decide (x.op>38))||decide (x.a>7))||decide (x.b>7))||decide (x.c>7))||(((x.op==5)||(x.op==6))&&decide (x.n>=(n:Int)))
def uv(l:List Ins):Bool:=!decide ((l.length:Int)>64)&&!(l.any (xa l.length))
attribute [local irreducible] b6 eF fR ez eH eB eM fx dC ec dU dx
def Hb{p:α->Bool}{l:List α}(b:i<l.length){z:α}(h:∀x∈l.take i,p x=false)(d:p (l.getD i z)=false):∀x∈l.take (i+1),p x=false:=λx a=>by
 have c:l.getD i z=l[i]'b:=by rw[eu,ed b];rfl
 rw[js,ed b]at a;rcases eP.1 a with a|a
 .exact h x a
 .have:x=l[i]'b:=b8 a
  rw[this,<-c];exact d
def Ha{p:α->Bool}{l:List α}(h:∀x∈l.take l.length,p x=false):l.any p=false:=by rw[gv]at h;rw[vF];intro b;obtain⟨x,c,a⟩:=qo.1 b;rw[h x c]at a;cases a
def Hc{p:α->Bool}{l:List α}(a:i<l.length){z:α}(c:p (l.getD i z)=true):l.any p=true:=by
 have b:l.getD i z=l[i]'a:=by rw[eu,ed a];rfl
 exact qo.2 ⟨_,oi a,b▸c⟩
def Vs(l:List Ins)(h:dx (l.length:Int)):c5 a6 102 [.d (fq x8 (l.map ta))] (B (uv l)):=by
 refine c5.le (b:=[.d (.X l.length x8 λi=>ta (l.getD i lW))]) ?_ ⟨iE x8 ta lW l,trivial⟩;refine dq func102 ?_;refine a4 h ?_;apply a4<;>intro d
 .have d:decide ((l.length:Int)>64)=true:=d;exact b7 (by unfold uv;rw[d];rfl)
 have d:decide ((l.length:Int)>64)=false:=d;have f:l.length<=64:=by have:=lK d;omega
 refine dX c6 (λi:Nat=>i<=l.length/\∀p∈l.take i,xa l.length p=false) (λi=>l.length - i) (λi=>[(3,I i)]) (λ_=>⟨[],[],[]⟩) 0 ⟨dG _,λp j=>by cases j⟩ ⟨rfl,trivial⟩ rfl (λi=>⟨a9 _,a9 _,a9 _⟩) ?_;intro i ⟨k,c⟩;refine a4 h ?_;apply a4<;>intro g
 .have a:i<l.length:=eZ g
  refine fS (i:=i) (n:=l.length) (a4 (λ_ _=>h) ?_);apply a4<;>intro e
  .have e:xa l.length (l.getD i lW)=true:=e;refine b7 ?_;unfold uv;rw[Hc a e,Ck,lO];rfl
  .have e:xa l.length (l.getD i lW)=false:=e;refine b2 (x:=(i:Int)+1) ?_;conv=>whnf
   exact⟨i+1,⟨a,Hb a c e⟩,a3,⟨rfl,trivial⟩,⟨rfl,rfl⟩,rfl⟩
 .have a:i=l.length:=e9 g
  subst a;refine b7 ?_;unfold uv;rw[d,Ha c];rfl
def qN(b:ByteArray):Bool:=!(decide (((b.size % 6:Nat):Int)>0)||!uv (oZ b))
def UO(b:ByteArray)(h:b.size<=1000000):c5 a6 55 [.d (.st b)] (T2 (bif qN b then .d (fq x8 ((oZ b).map ta))else sD .c (c7 [])) (B (qN b))):=by
 refine dq func55 ?_;refine oA 4 x8 (c7 []) rfl ?_;refine dX c6 (λi:Nat=>6*i<=b.size) (λi=>b.size - 6*i) (λi=>[(0,.d (.st (fI b (6*i)))),(4,gx 1 i x8 ((ma b i).map ta))]) (λi=>⟨[],[i],[]⟩) 0 (dG _) ⟨by rw[Nat.mul_zero,SW];rfl,rfl,trivial⟩ rfl (λi=>⟨a9 _,a9 _,a9 _⟩) ?_;intro i t;have p:=SX b (6*i);refine b2 (x:=((fI b (6*i)).size:Int)) ?_;apply a4<;>intro l
 .have o:6*i+6<=b.size:=by
   have:((fI b (6*i)).size:Int)>=6:=b8 l
   omega
  have k:=λj=>tW (fI b (6*i)) j;refine fg (List.range 25) [(22,1),(23,0)] (a4 ⟨(a8:(0:Int)<=0),(a3:(0:Int)<((fI b (6*i)).size:Int))⟩ (a4 ⟨(a8:(0:Int)<=1),(a3:(1:Int)<((fI b (6*i)).size:Int))⟩ (a4 ⟨(a8:(0:Int)<=2),(a3:(2:Int)<((fI b (6*i)).size:Int))⟩ (a4 ⟨(a8:(0:Int)<=3),(a3:(3:Int)<((fI b (6*i)).size:Int))⟩ (a4 ⟨(a8:(0:Int)<=4),(a3:(4:Int)<((fI b (6*i)).size:Int))⟩ (a4 ⟨(a8:(0:Int)<=5),(a3:(5:Int)<((fI b (6*i)).size:Int))⟩ ?_))))));conv=>whnf
  have q:=k 4;have r:=k 5;refine b2 (x:=256*fF (fI b (6*i)) 5) (b2 (x:=fF (fI b (6*i)) 4+256*fF (fI b (6*i)) 5) (Or.inl ?_));conv=>whnf
  have c:((ma b i).map ta).length=i:=by rw[dD,As]
  refine⟨⟨rfl,by rw[c];omega⟩,?_⟩;refine a4 ⟨(a8:(0:Int)<=6),(a3:(6:Int)<=((fI b (6*i)).size:Int)),(a3:((fI b (6*i)).size:Int)<=((fI b (6*i)).size:Int))⟩ ?_;conv=>whnf
  refine⟨i+1,(a3:6*(i+1)<=b.size),a3,⟨?_,?_,trivial⟩,⟨rfl,rfl⟩,rfl⟩
  .exact dE (λs=>some (SV.d (.st s))) (SY b (6*i))
  .have e:ta ⟨fF (fI b (6*i)) 0,fF (fI b (6*i)) 1,fF (fI b (6*i)) 2,fF (fI b (6*i)) 3,fF (fI b (6*i)) 4+256*fF (fI b (6*i)) 5⟩=ta (xy b i):=by have m:fF (fI b (6*i)) 0=fF b (6*i:Nat):=sK b (6*i) 0;unfold xy;rw[m,<-sK b (6*i) 1,<-sK b (6*i) 2,<-sK b (6*i) 3,<-sK b (6*i) 4,<-sK b (6*i) 5];rfl
   rw[Oa,je,<-kA];show some (SV.ow 1 (i+1) _ x8 (fE _ (c7 ((ma b i).map ta)) (c7 [ta ⟨fF (fI b (6*i)) 0,fF (fI b (6*i)) 1,fF (fI b (6*i)) 2,fF (fI b (6*i)) 3,fF (fI b (6*i)) 4+256*fF (fI b (6*i)) 5⟩])))=_;rw[e];rfl
 .have n:b.size<6*i+6:=by
   have:¬((fI b (6*i)).size:Int)>=6:=b8 l
   omega
  have f:b.size / 6=i:=a3
  have a:b.size % 6=(fI b (6*i)).size:=a3
  have d:oZ b=ma b i:=by unfold oZ;rw[f]
  refine b2 (x:=((fI b (6*i)).size:Int)) (c9 ((Vs (ma b i) (by rw[As];exact eD a3 a3)).le ⟨vq _ _ _ _ _,trivial⟩) (λ_ h _=>h) ?_);apply a4<;>intro g
  .have g:(decide (((fI b (6*i)).size:Int)>0)||!uv (ma b i))=true:=g;refine a4 rfl ?_;have e:qN b=false:=by unfold qN;rw[a,d,g];rfl
   rw[e];exact uY rfl
  .have g:(decide (((fI b (6*i)).size:Int)>0)||!uv (ma b i))=false:=g;conv=>whnf
   have e:qN b=true:=by unfold qN;rw[a,d,g];rfl
   rw[e,d];exact b7
end Sx
namespace Sx
def uu(l:Lst):Bool:=(((decide (l.n<1)||decide (l.n>64))||decide ((l.ps.length:Int)<1))||decide ((l.ps.length:Int)>8))||decide ((l.pk.size:Int)>4000)
def zs(x:Int):Bool:=(decide (x>8)&&decide (x<16))||decide (x>23)
def qg(s:ByteArray):List Int:=(List.range s.size).map λi:Nat=>fF s i
def vg(l:Lst):Bool:=!uu l&&(!(l.ps.any λp=>!qN p)&&!((qg l.pk).any zs))
def EK(s:ByteArray):(qg s).length=s.size:=by simp[qg]
def JT(s:ByteArray){i:Nat}(h:i<s.size):(qg s).getD i 0=fF s i:=by unfold qg;rw[eu,pr,Gt h];rfl
attribute [local irreducible] b6 eF fR ez eH eB eM fx dC ec dU dx
def Vt(l:Lst)(s:l.ps.length<=20)(t:l.pk.size<=6000)(q:∀p∈l.ps,p.size<=1000):c5 a6 23 [.d (ig l)] (B (vg l)):=by
 have j:dx (l.ps.length:Int):=eD a3 a3;have k:dx (l.pk.size:Int):=eD a3 a3;refine dq func23 ?_;refine a4 (λ_=>j) (a4 (λ_=>j) (a4 (λ_=>k) ?_));apply a4<;>intro e
 .have e:uu l=true:=e;exact b7 (by unfold vg;rw[e];rfl)
 have e:uu l=false:=e;refine dX c6 (λi:Nat=>i<=l.ps.length/\∀p∈l.ps.take i,(!qN p)=false) (λi=>l.ps.length - i) (λi=>[(3,I i)]) (λ_=>⟨[.d (ig l)],[],[]⟩) 0 ⟨dG _,λp h=>by cases h⟩ ⟨rfl,trivial⟩ rfl (λi=>⟨a9 _,a9 _,a9 _⟩) ?_;intro i ⟨r,b⟩;refine a4 j ?_;apply a4<;>intro g
 .have a:i<l.ps.length:=eZ g
  have f:l.ps.getD i ByteArray.empty∈l.ps:=by rw[eu,ed a];exact oi a
  have u:=q _ f;refine fS (i:=i) (n:=l.ps.length) (bo (UO (l.ps.getD i ByteArray.empty) a3) ?_);apply a4<;>intro c
  .have c:(!qN (l.ps.getD i ByteArray.empty))=true:=c;refine b7 ?_;unfold vg;rw[Hc (p:=λp=>!qN p) a c,Ck,Bool.false_and,lO];rfl
  .have c:(!qN (l.ps.getD i ByteArray.empty))=false:=c;refine b2 (x:=(i:Int)+1) ?_;conv=>whnf
   exact⟨i+1,⟨a,Hb (p:=λp=>!qN p) a b c⟩,a3,⟨rfl,trivial⟩,⟨rfl,rfl⟩,rfl⟩
 .have a:i=l.ps.length:=e9 g
  subst a;have m:=Ha b;refine dX c6 (λi:Nat=>i<=l.pk.size/\∀p∈(qg l.pk).take i,zs p=false) (λi=>l.pk.size - i) (λi=>[(6,I i)]) (λ_=>⟨[.d (ig l)],[],[]⟩) 0 ⟨dG _,λp h=>by cases h⟩ ⟨rfl,trivial⟩ rfl (λi=>⟨a9 _,a9 _,a9 _⟩) ?_;intro i ⟨r,b⟩;refine a4 k ?_;apply a4<;>intro g
  .have a:i<l.pk.size:=eZ g
   have d:i<(qg l.pk).length:=by rw[EK];exact a
   refine fS (i:=i) (n:=l.pk.size) ?_;apply a4<;>intro c
   .have c:zs (fF l.pk i)=true:=c;rw[<-JT _ a]at c;refine b7 ?_;unfold vg;rw[Hc d c,Ck,lO,lO];rfl
   .have c:zs (fF l.pk i)=false:=c;rw[<-JT _ a]at c;refine b2 (x:=(i:Int)+1) ?_;conv=>whnf
    exact⟨i+1,⟨a,Hb d b c⟩,a3,⟨rfl,trivial⟩,⟨rfl,rfl⟩,rfl⟩
  .have a:i=l.pk.size:=e9 g
   subst a;rw[<-EK]at b;have o:=Ha b;refine b7 ?_;unfold vg;rw[e,m,o];rfl
def Ee(l:Lst):Bool:=zc l||!vg l
def Pm{l:Lst}(h:zc l=false):l.ps.length<=20/\l.pk.size<=1500/\∀p∈l.ps,p.size<=1000:=by unfold zc zb at h;simp only[gX,kq]at h;obtain⟨⟨⟨a,_⟩,c⟩,d⟩:=h;refine⟨a3,a3,λp b=>?_⟩;have:=vL.1 c p b;simp only[fY]at this;omega
def YT(l:Lst)(d:dx (l.ps.length:Int))(e:dx (l.pk.size:Int))(f:∀p∈l.ps,dx (p.size:Int)):c5 a6 5 [.d (ig l)] (B (Ee l)):=by
 refine dq func5 ?_;refine bo (U5 l d e f) (JY (B (vg l)) (λa=>?_) ?_)
 .have a:zc l=false:=a;obtain⟨b,g,c⟩:=Pm a;exact Vt l b a3 c
 exact b7
end Sx
namespace Sx
variable{p:ByteArray->Bool}{l:List ByteArray}{m:MS}{a k:Nat}{α:Type}
def pG{α:Type}(p:α->Bool):List α->Nat->Int
 |[],_=> -1
 |y::l,i=>bif p y then i else pG p l (i+1)
def Iu(p:α->Bool):∀(l:List α),decide (pG p l 0>=0)=l.any p:=by
 have a:∀(l:List α) (i:Nat),decide (pG p l i>=0)=l.any p:=λl=>by
  induction l with
  |nil=>intro i;rfl
  |cons y l b=>
   intro i;rw[z3];unfold pG;cases p y with
   |true=>exact eI (show(i:Int)>=0 by omega)
   |false=>exact b (i+1)
 exact λl=>a l 0
attribute [local irreducible] b6 eF fR ez eH eB eM fx dC ec dU dx
def Vb{l:List Ins}{p:Ins->Bool}(q:l.length<=2147483648)(h:∀y∈l,b6 a6 k (.d (iK y)::[.B a []]) m λo U=>o=.ret (B (p y))/\U=m):b6 a6 251 [.d (.X l.length qX λi=>iK (l.getD i lW)),.fn (.func k) (.H (.B a []) (.d .un))] m λo U=>o=.ret (I (pG p l 0))/\U=m:=by
 refine ev func251 ?_;refine b2 (x:=(l.length:Int)) (wu c6 (λi=>i<=l.length/\pG p l 0=pG p (l.drop i) i) (λi=>l.length - i) (λi=>[(8,I i)]) (λ_=>m) 0 ⟨dG _,rfl⟩ ⟨rfl,trivial⟩ rfl (λi=>⟨a9 _,a9 _,a9 _⟩) ?_);rintro i ⟨j,c⟩;apply a4<;>intro g
 .have b:i<l.length:=eZ g
  have f:l[i]?=some (l.getD i lW):=by rw[eu,ed b];rfl
  have e:l.getD i lW∈l:=oU f;rw[sl f]at c;simp only[pG]at c;refine fS (i:=i) (n:=l.length) (mD (h _ e) ?_);apply a4<;>intro d
  .have d:p (l.getD i lW)=true:=d;rw[d]at c;exact a4 (by rw[c];rfl) rfl
  .have d:p (l.getD i lW)=false:=d;rw[d]at c;refine b2 (x:=(i:Int)+1) ?_;conv=>whnf
   exact⟨i+1,⟨b,c⟩,a3,⟨rfl,trivial⟩,.inl rfl⟩
 .have b:i=l.length:=e9 g
  subst b;rw[pU]at c;exact a4 (by rw[c];rfl) rfl
def UD{l:List Ins}{p:Ins->Bool}(c:l.length<=2147483648)(b:∀y∈l,b6 a6 k (.d (iK y)::[.B a []]) m λo U=>o=.ret (B (p y))/\U=m):b6 a6 228 [.d (.X l.length qX λi=>iK (l.getD i lW)),.fn (.func k) (.H (.B a []) (.d .un))] m λo U=>o=.ret (B (l.any p))/\U=m:=by
 rw[<-Iu];refine ev func228 ?_;refine mD (Vb c b) ?_;exact a4 rfl rfl
def Vc(j:l.length<=2147483648)(g:∀y∈l,b6 a6 k (.d (.st y)::[]) m λo U=>o=.ret (B (p y))/\U=m):b6 a6 186 [.d (.X l.length .c λi=>.st (l.getD i ByteArray.empty)),.fn (.func k) (.d .un)] m λo U=>o=.ret (I (pG p l 0))/\U=m:=by
 refine ev func186 ?_;refine b2 (x:=(l.length:Int)) (wu c6 (λi=>i<=l.length/\pG p l 0=pG p (l.drop i) i) (λi=>l.length - i) (λi=>[(8,I i)]) (λ_=>m) 0 ⟨dG _,rfl⟩ ⟨rfl,trivial⟩ rfl (λi=>⟨a9 _,a9 _,a9 _⟩) ?_);rintro i ⟨h,b⟩;apply a4<;>intro f
 .have a:i<l.length:=eZ f
  have e:l[i]?=some (l.getD i ByteArray.empty):=by rw[eu,ed a];rfl
  have d:l.getD i ByteArray.empty∈l:=oU e;rw[sl e]at b;simp only[pG]at b;refine fS (i:=i) (n:=l.length) (mD (g _ d) ?_);apply a4<;>intro c
  .have c:p (l.getD i ByteArray.empty)=true:=c;rw[c]at b;exact a4 (by rw[b];rfl) rfl
  .have c:p (l.getD i ByteArray.empty)=false:=c;rw[c]at b;refine b2 (x:=(i:Int)+1) ?_;conv=>whnf
   exact⟨i+1,⟨a,b⟩,a3,⟨rfl,trivial⟩,.inl rfl⟩
 .have a:i=l.length:=e9 f
  subst a;rw[pU]at b;exact a4 (by rw[b];rfl) rfl
def UF(b:l.length<=2147483648)(a:∀y∈l,b6 a6 k (.d (.st y)::[]) m λo U=>o=.ret (B (p y))/\U=m):b6 a6 113 [.d (.X l.length .c λi=>.st (l.getD i ByteArray.empty)),.fn (.func k) (.d .un)] m λo U=>o=.ret (B (l.any p))/\U=m:=by
 rw[<-Iu];refine ev func113 ?_;refine mD (Vc b a) ?_;exact a4 rfl rfl
def U8{l:List Int}{p:Int->Bool}(j:l.length<=2147483648)(g:∀y∈l,b6 a6 k (.d (.z .u8 y)::[]) m λo U=>o=.ret (B (p y))/\U=m):b6 a6 187 [.d (.X l.length .c λi=>.z .u8 (l.getD i 0)),.fn (.func k) (.d .un)] m λo U=>o=.ret (I (pG p l 0))/\U=m:=by
 refine ev func187 ?_;refine b2 (x:=(l.length:Int)) (wu c6 (λi=>i<=l.length/\pG p l 0=pG p (l.drop i) i) (λi=>l.length - i) (λi=>[(8,I i)]) (λ_=>m) 0 ⟨dG _,rfl⟩ ⟨rfl,trivial⟩ rfl (λi=>⟨a9 _,a9 _,a9 _⟩) ?_);rintro i ⟨h,b⟩;apply a4<;>intro f
 .have a:i<l.length:=eZ f
  have e:l[i]?=some (l.getD i 0):=by rw[eu,ed a];rfl
  have d:l.getD i 0∈l:=oU e;rw[sl e]at b;simp only[pG]at b;refine fS (i:=i) (n:=l.length) (mD (g _ d) ?_);apply a4<;>intro c
  .have c:p (l.getD i 0)=true:=c;rw[c]at b;exact a4 (by rw[b];rfl) rfl
  .have c:p (l.getD i 0)=false:=c;rw[c]at b;refine b2 (x:=(i:Int)+1) ?_;conv=>whnf
   exact⟨i+1,⟨a,b⟩,a3,⟨rfl,trivial⟩,.inl rfl⟩
 .have a:i=l.length:=e9 f
  subst a;rw[pU]at b;exact a4 (by rw[b];rfl) rfl
def UA{l:List Int}{p:Int->Bool}(b:l.length<=2147483648)(a:∀y∈l,b6 a6 k (.d (.z .u8 y)::[]) m λo U=>o=.ret (B (p y))/\U=m):b6 a6 114 [.d (.X l.length .c λi=>.z .u8 (l.getD i 0)),.fn (.func k) (.d .un)] m λo U=>o=.ret (B (l.any p))/\U=m:=by
 rw[<-Iu];refine ev func114 ?_;refine mD (U8 b a) ?_;exact a4 rfl rfl
def Qj(x:Ins):Int:=qP (qP x.a x.b) x.c
def yD(n:Int)(x:Ins):Bool:=((decide (x.op<=6)||(decide (x.op>16)&&decide (x.op<=38)))&&decide (Qj x<8))&&(!((x.op==5)||(x.op==6))||decide (x.n<n))
def wx(l:List Ins):Bool:=decide ((l.length:Int)<=64)&&!(l.any λx=>!yD l.length x)
def Qk(a b c:Int):decide (qP a b<c)=(decide (a<c)&&decide (b<c)):=by
 unfold qP;by_cases h:b>a
 .rw[eI h,dZ,sQ];simp only[dH,fY];omega
 .rw[fe h,eQ,sQ];simp only[dH,fY];omega
def WO(n:Nat)(x:Ins):(!yD n x)=xa n x:=by unfold yD xa Qj;rw[Qk,Qk,sQ];simp only[jL,Gi,gX,pP,dH,fY,kq,gG,lD,oX,fc];omega
def zaI(l:List Ins):wx l=uv l:=by
 unfold wx uv;rw[show(λx=>!yD (l.length:Nat) x)=xa l.length from funext λx=>WO _ x]
 congr 1
 by_cases h:(l.length:Int)<=64
 .rw[eI h,fe a3];rfl
 .rw[fe h,eI a3];rfl
def zaK(x:Ins)(a:InsOk x)(n:Int):c5 a6 230 [.d (iK x),I n] (B (yD n x)):=by
 refine dq func230 ?_;exact a4 (λ_=>⟨iL (by simp only[eU];have:=a.a;omega) (λ_=>a.a.1) (by simp only[eU];have:=a.a;omega),iL (by simp only[eU];have:=a.b;omega) (λ_=>a.b.1) (by simp only[eU];have:=a.b;omega),iL (by simp only[eU];have:=a.c;omega) (λ_=>a.c.1) (by simp only[eU];have:=a.c;omega)⟩) b7
def Vu(l:List Ins)(a:∀x∈l,InsOk x)(c:l.length<=1000):c5 a6 185 [.d (.X l.length qX λi=>iK (l.getD i lW))] (B (wx l)):=by
 refine dq func185 ?_;refine b2 (x:=(l.length:Int)) (JX (B (l.any λx=>!yD l.length x)) (λd=>?_) ?_)
 .refine UD a3 λy b=>?_;refine fm func229 ?_;exact b2 (x:=(l.length:Int)) (bo (zaK y (a y b) l.length) (a4 rfl (a4 rfl rfl)))
 exact b7
end Sx
end Go.Proofs.YtfbhkfhbnkncoaaGreatDoor
