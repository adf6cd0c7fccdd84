import Derived.Test.YtfbhkfhbnkncoaaGreatDoorV38
set_option linter.all false
set_option maxRecDepth 100000
set_option maxHeartbeats 4000000
namespace Go.Proofs.YtfbhkfhbnkncoaaGreatDoor
open Go.RowKit Tryz
open Tryz renaming prog→a6
namespace Sx
attribute [local irreducible] b6 eF fR ez eH eB eM fx dC ec dU dx
variable{A:Int}{t:Nat}{K:Out->MS->Prop}
section
variable {m:Mc} {a b:Nat}
def Dq(n:t<8)(c:Rt)(G:Rn)(r:Rs)(k:TskOk (m.ts t).t)(f:m.M.length<=1000000){e:List SV}(j:∀d,K l0 ⟨fH (pC m t c G r) d::.d (dT m.x.p)::eO m.x a::e,[a,d],[]⟩):b6 a6 125 [.B 0 [],I t,.d (md c),.d (dR G),.d (fu r)] ⟨fH m b::.d (dT m.x.p)::eO m.x a::e,[a,b],[]⟩ K:=
 fa (ry e [] [] (Yf (m:=m) (a:=a) (b:=b) n c G r k f) rfl (by show(eV 3 2 0 [fH m b,.d (dT m.x.p),eO m.x a]&&gV 3 2 0 [])=true;rw[gK rfl m.x a];rfl) λo U l=>by
  obtain⟨_,d,rfl⟩:=l;exact⟨rfl,rfl,rfl⟩) λo U ⟨p,⟨g,d,i⟩,h⟩=>by
  subst i h g;exact j d
def WJ(k:t<8){G:Rn}{p:Sp}(j:TskOk (m.ts t).t)(g:m.M.length<=1000000)(q:0<=A/\A<=1000000)(r:p.x.q.length<=1000000):Ok a6 f68.ntmps false (gW 4 (gB f68)) (gy [(0,.B 0 []),(1,I t),(4,.B 0 [1,t]),(5,I A),(6,.B 3 []),(7,.B 4 []),(8,.B 5 []),(9,B p.e)] []) (M6 {m with x:=p.x} a b [.d (dR G),.d (md p.c),.d (fu p.r)]) (gS ff 3 2 0 f68.results.toList λo U=>o=l0/\∃n Q,U=MM (bif p.e then pC {m with x:=p.x,ts:=a7 m.ts t {m.ts t with c:=p.c}} t p.c (ky (bif (p.r.e != 0)||(p.c.c.C != 2)then c4 else G) A p.x.q.length) p.r else{m with x:=p.x,ts:=a7 m.ts t {m.ts t with c:=p.c}}) n Q):=by
 refine dB ?_;conv=>whnf
 refine⟨_,rM _ _ (BU m.ts t p.c),?_⟩;conv=>whnf
 refine dA (l:=[(0,.B 0 []),(1,I t),(5,I A),(6,.B 3 []),(7,.B 4 []),(8,.B 5 []),(9,B p.e)]) (U:=M6 {m with x:=p.x,ts:=a7 m.ts t {m.ts t with c:=p.c}} a b [.d (dR G),.d (md p.c),.d (fu p.r)]) ⟨rfl,rfl,rfl,rfl,rfl,rfl,rfl,trivial⟩ rfl ?_;refine eJ c6 ?_;conv=>whnf
 apply a4<;>intro e
 .have e:p.e=true:=e;rw[e];conv=>whnf
  have i:dx ((p.x.q.length:Int) - A):=eD a3 a3;apply a4<;>intro f
  .have f:((p.r.e != 0)||(p.c.c.C != 2))=true:=f;rw[f];conv=>whnf
   refine dL 15 ?_;conv=>whnf
   refine⟨eD (x:=((zL p.x.q).length:Int)) a3 (by rw[dD];omega),?_⟩;conv=>whnf
   refine c9 (Eh c4 A ((zL p.x.q).length:Int) (by rw[dD];exact i)) (λ_ h=>h) ?_;conv=>whnf
   refine Dq (m:={m with x:=p.x,ts:=a7 m.ts t {m.ts t with c:=p.c}}) k p.c (ky c4 A ((zL p.x.q).length:Int)) p.r (by show TskOk (a7 m.ts t {m.ts t with c:=p.c} t).t;rw[dN];exact j) g λd=>?_;conv=>whnf
   refine⟨gw rfl (gK rfl p.x a),rfl,a,d,?_⟩;show MM (pC ({m with x:=p.x,ts:=a7 m.ts t {m.ts t with c:=p.c}}) t p.c (ky c4 A ((zL p.x.q).length:Int)) p.r) a d=MM (pC ({m with x:=p.x,ts:=a7 m.ts t {m.ts t with c:=p.c}}) t p.c (ky c4 A (p.x.q.length:Int)) p.r) a d;rw[dD]
  .have f:((p.r.e != 0)||(p.c.c.C != 2))=false:=f;rw[f];conv=>whnf
   refine dL 15 ?_;conv=>whnf
   refine⟨eD (x:=((zL p.x.q).length:Int)) a3 (by rw[dD];omega),?_⟩;conv=>whnf
   refine c9 (Eh G A ((zL p.x.q).length:Int) (by rw[dD];exact i)) (λ_ h=>h) ?_;conv=>whnf
   refine Dq (m:={m with x:=p.x,ts:=a7 m.ts t {m.ts t with c:=p.c}}) k p.c (ky G A ((zL p.x.q).length:Int)) p.r (by show TskOk (a7 m.ts t {m.ts t with c:=p.c} t).t;rw[dN];exact j) g λd=>?_;conv=>whnf
   refine⟨gw rfl (gK rfl p.x a),rfl,a,d,?_⟩;show MM (pC ({m with x:=p.x,ts:=a7 m.ts t {m.ts t with c:=p.c}}) t p.c (ky G A ((zL p.x.q).length:Int)) p.r) a d=MM (pC ({m with x:=p.x,ts:=a7 m.ts t {m.ts t with c:=p.c}}) t p.c (ky G A (p.x.q.length:Int)) p.r) a d;rw[dD]
 .have e:p.e=false:=e;rw[e];conv=>whnf
  exact⟨gw rfl (gK rfl p.x a),rfl,a,b,rfl⟩
def WK(k:t<8){G:Rn}{p:Sp}(j:TskOk (m.ts t).t)(g:m.M.length<=1000000)(q:0<=A/\A<=1000000)(r:p.x.q.length<=1000000):Ok a6 f68.ntmps false (gW 4 (gB f68)) (gy [(0,.B 0 []),(1,I t),(4,.B 0 [1,t]),(5,I A),(6,.B 3 []),(7,.B 5 []),(8,.B 4 []),(9,B p.e)] []) (M6 {m with x:=p.x} a b [.d (dR G),.d (fu p.r),.d (md p.c)]) (gS ff 3 2 0 f68.results.toList λo U=>o=l0/\∃n Q,U=MM (bif p.e then pC {m with x:=p.x,ts:=a7 m.ts t {m.ts t with c:=p.c}} t p.c (ky (bif (p.r.e != 0)||(p.c.c.C != 2)then c4 else G) A p.x.q.length) p.r else{m with x:=p.x,ts:=a7 m.ts t {m.ts t with c:=p.c}}) n Q):=by
 refine dB ?_;conv=>whnf
 refine⟨_,rM _ _ (BU m.ts t p.c),?_⟩;conv=>whnf
 refine dA (l:=[(0,.B 0 []),(1,I t),(5,I A),(6,.B 3 []),(7,.B 5 []),(8,.B 4 []),(9,B p.e)]) (U:=M6 {m with x:=p.x,ts:=a7 m.ts t {m.ts t with c:=p.c}} a b [.d (dR G),.d (fu p.r),.d (md p.c)]) ⟨rfl,rfl,rfl,rfl,rfl,rfl,rfl,trivial⟩ rfl ?_;refine eJ c6 ?_;conv=>whnf
 apply a4<;>intro e
 .have e:p.e=true:=e;rw[e];conv=>whnf
  have i:dx ((p.x.q.length:Int) - A):=eD a3 a3;apply a4<;>intro f
  .have f:((p.r.e != 0)||(p.c.c.C != 2))=true:=f;rw[f];conv=>whnf
   refine dL 15 ?_;conv=>whnf
   refine⟨eD (x:=((zL p.x.q).length:Int)) a3 (by rw[dD];omega),?_⟩;conv=>whnf
   refine c9 (Eh c4 A ((zL p.x.q).length:Int) (by rw[dD];exact i)) (λ_ h=>h) ?_;conv=>whnf
   refine Dq (m:={m with x:=p.x,ts:=a7 m.ts t {m.ts t with c:=p.c}}) k p.c (ky c4 A ((zL p.x.q).length:Int)) p.r (by show TskOk (a7 m.ts t {m.ts t with c:=p.c} t).t;rw[dN];exact j) g λd=>?_;conv=>whnf
   refine⟨gw rfl (gK rfl p.x a),rfl,a,d,?_⟩;show MM (pC ({m with x:=p.x,ts:=a7 m.ts t {m.ts t with c:=p.c}}) t p.c (ky c4 A ((zL p.x.q).length:Int)) p.r) a d=MM (pC ({m with x:=p.x,ts:=a7 m.ts t {m.ts t with c:=p.c}}) t p.c (ky c4 A (p.x.q.length:Int)) p.r) a d;rw[dD]
  .have f:((p.r.e != 0)||(p.c.c.C != 2))=false:=f;rw[f];conv=>whnf
   refine dL 15 ?_;conv=>whnf
   refine⟨eD (x:=((zL p.x.q).length:Int)) a3 (by rw[dD];omega),?_⟩;conv=>whnf
   refine c9 (Eh G A ((zL p.x.q).length:Int) (by rw[dD];exact i)) (λ_ h=>h) ?_;conv=>whnf
   refine Dq (m:={m with x:=p.x,ts:=a7 m.ts t {m.ts t with c:=p.c}}) k p.c (ky G A ((zL p.x.q).length:Int)) p.r (by show TskOk (a7 m.ts t {m.ts t with c:=p.c} t).t;rw[dN];exact j) g λd=>?_;conv=>whnf
   refine⟨gw rfl (gK rfl p.x a),rfl,a,d,?_⟩;show MM (pC ({m with x:=p.x,ts:=a7 m.ts t {m.ts t with c:=p.c}}) t p.c (ky G A ((zL p.x.q).length:Int)) p.r) a d=MM (pC ({m with x:=p.x,ts:=a7 m.ts t {m.ts t with c:=p.c}}) t p.c (ky G A (p.x.q.length:Int)) p.r) a d;rw[dD]
 .have e:p.e=false:=e;rw[e];conv=>whnf
  exact⟨gw rfl (gK rfl p.x a),rfl,a,b,rfl⟩
def WL(ht:t<8)(hT:TskOk (m.ts t).t)(hev:m.M.length<=1000000)(hw:WOk m.x (m.ts t).c t)(hq:(fh m.x (m.ts t).c).x.q.length<=1000000):b6 a6 68 [.B 0 [],I t] (MM m a b) λo U=>o=l0/\∃a2 Q,U=MM (mO m t) a2 Q:=by
 have hq0:=hw.q;have hpost:mO m t=bif (fh m.x (m.ts t).c).e then pC {m with x:=(fh m.x (m.ts t).c).x,ts:=a7 m.ts t {m.ts t with c:=(fh m.x (m.ts t).c).c}} t (fh m.x (m.ts t).c).c (ky (bif ((fh m.x (m.ts t).c).r.e != 0)||((fh m.x (m.ts t).c).c.c.C != 2)then c4 else(m.ts t).c.run) m.x.q.length (fh m.x (m.ts t).c).x.q.length) (fh m.x (m.ts t).c).r else{m with x:=(fh m.x (m.ts t).c).x,ts:=a7 m.ts t {m.ts t with c:=(fh m.x (m.ts t).c).c}}:=rfl
 have hS:∀{c2:List SV} {K:Out->MS->Prop},(∀T,K (.ret (T3 (.d (md (fh m.x (m.ts t).c).c)) (.d (fu (fh m.x (m.ts t).c).r)) (B (fh m.x (m.ts t).c).e))) ⟨fH m b::.d (dT (fh m.x (m.ts t).c).x.p)::eO (fh m.x (m.ts t).c).x T::c2,[T,b],[]⟩)->b6 a6 124 [.B 2 [],.d (md (m.ts t).c)] ⟨fH m b::.d (dT m.x.p)::eO m.x a::c2,[a,b],[]⟩ K:=λhK=>
  Aj (a:=a) (b:=b) (xF m b) (VM (xF m b) hw) rfl (λo m ⟨_,T,h⟩=>⟨_,T,h⟩) λo x' T ⟨ho,a2,hm2⟩=>by have e1:=dE MS.c hm2;have e2:=dE MS.t hm2;simp only[oP,px,FJ]at e1 e2;obtain⟨e3,e1⟩:=e1;subst ho e2;rw[e3,e1];exact hK T
 have h0:=λa=>WJ (m:=m) (a:=a) (b:=b) ht (A:=(m.x.q.length:Int)) (G:=(m.ts t).c.run) (p:=fh m.x (m.ts t).c) hT hev ⟨by omega,by omega⟩ hq;have h1:=λa=>WK (m:=m) (a:=a) (b:=b) ht (A:=(m.x.q.length:Int)) (G:=(m.ts t).c.run) (p:=fh m.x (m.ts t).c) hT hev ⟨by omega,by omega⟩ hq;rw[<-hpost]at h0 h1;generalize fh m.x (m.ts t).c=p at hS h0 h1;refine ov func68 ?_;refine dB ?_;refine a4 ⟨(by omega:(0:Int)<=(t:Int)),(by omega:(t:Int)<8)⟩ ?_;refine dB ?_;refine a4 (eD (x:=((zL m.x.q).length:Int)) (by omega) (by rw[dD];omega)) ?_;refine dB ?_;conv=>whnf
 have el:(zL m.x.q).length=m.x.q.length:=by rw[dD]
 refine dA (l:=[(0,.B 0 []),(1,I t),(4,.B 0 [1,t]),(5,I m.x.q.length),(6,.B 3 [])]) (U:=M6 m a b [.d (dR (m.ts t).c.run)]) ⟨rfl,rfl,rfl,dE (λn:Nat=>some (I n)) el,rfl,trivial⟩ rfl ?_;refine dB ?_;refine yU (by kernel_rfl) ?_;refine sg 8 13 (by decide) (sg 13 14 (by decide) ?_ (sg 8 14 (by decide) ?_ ?_)) (sg 8 14 (by decide) ?_ (sg 13 14 (by decide) ?_ ?_))
 .refine oq c6 (by kernel_rfl) (λi=>[0,1,2,3,4,5,6,7,8,9,10,11,12,13,14,15,16,17].getD i 0) [0,1,2,3,4,5,6,7,8,9,10,11,12,13,14,15,16,17] [(8,0),(13,7935),(14,7935),(15,6144),(16,4096)] (by repeat first|exact .refl|refine .add _ _ ?_ rfl) (by kernel_rfl) ?_;refine hS λT=>?_;refine fy ?_
  refine fy ?_
  exact dA (l:=[(0,.B 0 []),(1,I t),(4,.B 0 [1,t]),(5,I m.x.q.length),(6,.B 3 []),(7,.B 4 []),(8,.B 5 []),(9,B p.e)]) ⟨rfl,rfl,rfl,rfl,rfl,rfl,rfl,rfl,trivial⟩ rfl (h0 T)
 .refine oq c6 (by kernel_rfl) (λi=>[0,1,2,3,4,5,6,7,8,9,10,11,12,14,13,15,16,17].getD i 0) [0,1,2,3,4,5,6,7,8,9,10,11,12,14,13,15,16,17] [(8,0),(13,7935),(14,7935),(15,6144),(16,4096)] (by repeat first|exact .refl|refine .add _ _ ?_ rfl) (by kernel_rfl) ?_;refine hS λT=>?_;refine fy ?_
  refine fy ?_
  exact dA (l:=[(0,.B 0 []),(1,I t),(4,.B 0 [1,t]),(5,I m.x.q.length),(6,.B 3 []),(7,.B 5 []),(8,.B 4 []),(9,B p.e)]) ⟨rfl,rfl,rfl,rfl,rfl,rfl,rfl,rfl,trivial⟩ rfl (h1 T)
 .refine oq c6 (by kernel_rfl) (λi=>[0,1,2,3,4,5,6,7,9,10,11,12,13,14,8,15,16,17].getD i 0) [0,1,2,3,4,5,6,7,14,8,9,10,11,12,13,15,16,17] [(8,0),(13,7935),(14,7935),(15,6144),(16,4096)] (by repeat first|exact .refl|refine .add _ _ ?_ rfl) (by kernel_rfl) ?_;refine fy ?_
  refine hS λT=>?_;refine fy ?_
  exact dA (l:=[(0,.B 0 []),(1,I t),(4,.B 0 [1,t]),(5,I m.x.q.length),(6,.B 3 []),(7,.B 5 []),(8,.B 4 []),(9,B p.e)]) ⟨rfl,rfl,rfl,rfl,rfl,rfl,rfl,rfl,trivial⟩ rfl (h1 T)
 .refine oq c6 (by kernel_rfl) (λi=>[0,1,2,3,4,5,6,7,9,10,11,12,13,8,14,15,16,17].getD i 0) [0,1,2,3,4,5,6,7,13,8,9,10,11,12,14,15,16,17] [(8,0),(13,7935),(14,7935),(15,6144),(16,4096)] (by repeat first|exact .refl|refine .add _ _ ?_ rfl) (by kernel_rfl) ?_;refine fy ?_
  refine hS λT=>?_;refine fy ?_
  exact dA (l:=[(0,.B 0 []),(1,I t),(4,.B 0 [1,t]),(5,I m.x.q.length),(6,.B 3 []),(7,.B 4 []),(8,.B 5 []),(9,B p.e)]) ⟨rfl,rfl,rfl,rfl,rfl,rfl,rfl,rfl,trivial⟩ rfl (h0 T)
 .refine oq c6 (by kernel_rfl) (λi=>[0,1,2,3,4,5,6,7,10,11,12,13,14,8,9,15,16,17].getD i 0) [0,1,2,3,4,5,6,7,13,14,8,9,10,11,12,15,16,17] [(8,0),(13,7935),(14,7935),(15,6144),(16,4096)] (by repeat first|exact .refl|refine .add _ _ ?_ rfl) (by kernel_rfl) ?_;refine fy ?_
  refine fy ?_
  refine hS λT=>?_;exact dA (l:=[(0,.B 0 []),(1,I t),(4,.B 0 [1,t]),(5,I m.x.q.length),(6,.B 3 []),(7,.B 4 []),(8,.B 5 []),(9,B p.e)]) ⟨rfl,rfl,rfl,rfl,rfl,rfl,rfl,rfl,trivial⟩ rfl (h0 T)
 .refine oq c6 (by kernel_rfl) (λi=>[0,1,2,3,4,5,6,7,10,11,12,13,14,9,8,15,16,17].getD i 0) [0,1,2,3,4,5,6,7,14,13,8,9,10,11,12,15,16,17] [(8,0),(13,7935),(14,7935),(15,6144),(16,4096)] (by repeat first|exact .refl|refine .add _ _ ?_ rfl) (by kernel_rfl) ?_;refine fy ?_
  refine fy ?_
  refine hS λT=>?_;exact dA (l:=[(0,.B 0 []),(1,I t),(4,.B 0 [1,t]),(5,I m.x.q.length),(6,.B 3 []),(7,.B 5 []),(8,.B 4 []),(9,B p.e)]) ⟨rfl,rfl,rfl,rfl,rfl,rfl,rfl,rfl,trivial⟩ rfl (h1 T)
end
section
variable {m:Mc} {a b:Nat}
def Ni(n:t<8)(j:TskOk (m.ts t).t)(e:m.M.length<=1000000)(p:WOk m.x (m.ts t).c t)(l:(fh m.x (m.ts t).c).x.q.length<=1000000){d:List SV}(i:∀c Q,K l0 ⟨fH (mO m t) Q::.d (dT (mO m t).x.p)::eO (mO m t).x c::d,[c,Q],[]⟩):b6 a6 68 [.B 0 [],I t] ⟨fH m b::.d (dT m.x.p)::eO m.x a::d,[a,b],[]⟩ K:=
 fa (ry d [] [] (WL (m:=m) (a:=a) (b:=b) n j e p l) rfl (by show(eV 3 2 0 [fH m b,.d (dT m.x.p),eO m.x a]&&gV 3 2 0 [])=true;rw[gK rfl m.x a];rfl) λo U k=>by
  obtain⟨_,c,Q,rfl⟩:=k;exact⟨rfl,rfl,rfl⟩) λo U ⟨q,⟨f,c,Q,h⟩,g⟩=>by
  subst h g f;exact i c Q
def zd5(n:t<8)(i:TskOk (m.ts t).t)(h:m.M.length<=1000000)(j:(m.ts t).busy=true->WOk m.x (m.ts t).c t)(p:(m.ts t).busy=false->kZ (m.ts t).t=true->WOk m.x {iT with task:=t,c:=jI (m.ts t).t} t)(k:∀c,WOk m.x c t->(fh m.x c).x.q.length<=1000000):b6 a6 32 [.B 0 [],I t] (MM m a b) λo U=>o=l0/\∃f Q,U=MM (mw m t) f Q:=by
 refine ov func32 ?_;refine dB ?_;conv=>whnf
 refine⟨⟨(a3:(0:Int)<=(t:Int)),(a3:(t:Int)<8)⟩,?_⟩;conv=>whnf
 refine dB ?_;conv=>whnf
 refine bo (GO i) ?_;conv=>whnf
 refine dA (l:=[(0,.B 0 []),(1,I t),(4,.B 0 [1,t]),(5,.B 3 []),(6,B (kZ (m.ts t).t))]) (U:=M6 m a b [.d (iC (jI (m.ts t).t))]) ⟨rfl,rfl,rfl,rfl,rfl,trivial⟩ rfl ?_;refine eJ c6 ?_;conv=>whnf
 apply a4<;>intro d
 .have d:(m.ts t).busy=true:=d;rw[show mw m t=mO m t by unfold mw;rw[d];rfl];conv=>whnf
  refine Ni (a:=a) (b:=b) n i h (j d) (k _ (j d)) λf Q=>?_;conv=>whnf
  exact⟨gw rfl (gK rfl (mO m t).x f),rfl,f,Q,rfl⟩
 .have d:(m.ts t).busy=false:=d;conv=>whnf
  apply a4<;>intro e
  .have e:kZ (m.ts t).t=true:=e;rw[show mw m t=mO (qw m t) t by unfold mw;rw[d,e];rfl];have g:((qw m t).ts t)={m.ts t with c:={iT with task:=t,c:=jI (m.ts t).t},busy:=true,J:=m.now}:=dN _ _ _;conv=>whnf
   refine fg (List.range 19) [(12,6),(15,4),(18,0)] ?_;conv=>whnf
   refine⟨fH {m with ts:=a7 m.ts t {m.ts t with c:={iT with task:=t,c:=jI (m.ts t).t}}} b,rM _ _ (BU m.ts t {iT with task:=t,c:=jI (m.ts t).t}),?_⟩;conv=>whnf
   refine⟨fH {m with ts:=a7 m.ts t {m.ts t with c:={iT with task:=t,c:=jI (m.ts t).t},busy:=true}} b,(rM _ _ ((Lj (a7 m.ts t {m.ts t with c:={iT with task:=t,c:=jI (m.ts t).t}}) t true).trans (dE nK (by rw[BX,dN])))),?_⟩;conv=>whnf
   refine⟨fH (qw m t) b,(rM _ _ ((zeE (a7 m.ts t {m.ts t with c:={iT with task:=t,c:=jI (m.ts t).t},busy:=true}) t m.now).trans (dE nK (by rw[BX,dN];rfl)))),?_⟩;conv=>whnf
   refine Ni (m:=qw m t) (a:=a) (b:=b) n (by rw[g];exact i) h (by rw[g];exact p d e) (by rw[g];exact k _ (p d e)) λf Q=>?_;conv=>whnf
   exact⟨gw rfl (gK rfl (mO (qw m t) t).x f),rfl,f,Q,rfl⟩
  .have e:kZ (m.ts t).t=false:=e;rw[show mw m t={m with ts:=a7 m.ts t {m.ts t with t:=rZ (m.ts t).t}} by unfold mw;rw[d,e];rfl];conv=>whnf
   refine bo (VN i) ?_;conv=>whnf
   refine⟨_,rM _ _ (Li m.ts t (rZ (m.ts t).t)),?_⟩;conv=>whnf
   exact⟨gw rfl (gK rfl m.x a),rfl,a,b,rfl⟩
end
section
variable {m:Mc} {a b:Nat} {x:Cr} {s2:St} {r:Rs} {C:List Rn}
def zdD(d:m.M.length<=1000000):Ok a6 f31.ntmps false (gW 4 (gB f31)) (gy [(0,.B 0 []),(1,I t),(4,.B 3 []),(6,.B 5 [])] []) (⟨fH m b::.d (dT (x).p)::eO (x) (a)::.d (iC (fO 20))::.d (fw s2)::.d (fu r)::[],[a,b],[]⟩) (gS ff 3 2 0 f31.results.toList λo U=>o=l0/\∃c Q,U=MM ({m with x:=x,M:=m.M++[⟨t,fO 20,c4,r,m.now,m.now⟩]}) c Q):=by
 refine eJ c6 (fg (List.range 23) [(18,31),(19,1),(22,0)] (Or.inl (fy ?_)))
 refine a4 ⟨rfl,(by rw[dD];omega:(lj m.M).length+1<=2147483648)⟩ ?_;conv=>whnf
 refine⟨gw rfl (gK rfl x a),rfl,a,b+1,?_⟩;have e:=kA 2 (b+1) jj (lj m.M) [mR ⟨t,fO 20,c4,r,m.now,m.now⟩];rw[<-z5,<-je]at e;exact g9 (ce (dE (λq=>SV.H (.B 2 []) (.H (.d (nK m.ts)) (.H (I m.now) (.H q (.d .un))))) e) rfl) rfl rfl
def zdB(g:m.M.length<=1000000)(S:x.q.length<=2000)(J:∀y∈C,rj y)(R:(dm C).length<=3000)(P:C.length<=1000000):Ok a6 f31.ntmps false (gW 3 (gB f31)) (gy [(0,.B 0 []),(1,I t),(4,.B 3 []),(6,.B 5 []),(7,.d (.X C.length fi λi=>dR (C.getD i c4)))] []) (⟨fH m b::.d (dT (x).p)::eO (x) (a)::.d (iC (fO 20))::.d (fw s2)::.d (fu r)::[],[a,b],[]⟩) (gS ff 3 2 0 f31.results.toList λo U=>o=l0/\∃A Q,U=MM ({m with x:=C.foldl dS x,M:=m.M++[⟨t,fO 20,c4,r,m.now,m.now⟩]}) A Q):=by
 have G:=λa=>zdD (m:=m) (a:=a) (b:=b) (x:=C.foldl dS x) (s2:=s2) (r:=r) (t:=t) g;refine lL (lL (eJ c6 ?_));conv=>whnf
 refine b2 (x:=(C.length:Int)) ?_;conv=>whnf
 refine eJ c6 ?_;conv=>whnf
 refine dX c6 (λj:Nat×Nat=>j.1<=C.length) (λj=>C.length - j.1) (λj=>[(36,I j.1)]) (λj=>⟨fH m b::.d (dT ((C.take j.1).foldl dS x).p)::eO ((C.take j.1).foldl dS x) (j.2)::.d (iC (fO 20))::.d (fw s2)::.d (fu r)::[],[j.2,b],[]⟩) (0,a) (dG _) ⟨rfl,trivial⟩ rfl (λj=>⟨a9 _,a9 _,a9 _⟩) ?_;intro j w;obtain⟨i,a⟩:=j;have w:i<=C.length:=w;conv=>whnf
 apply a4<;>intro z
 .have d:i<C.length:=by
   have:(i:Int)<(C.length:Int):=b8 z
   omega
  conv=>whnf
  refine fS (i:=i) (n:=C.length) ?_;conv=>whnf
  have N:=EV x C i;have e:C.getD i c4∈C:=by rw[eu,ed d];exact oi d
  have O:=J _ e;have s:dS ((C.take i).foldl dS x) (C.getD i c4)=(C.take (i+1)).foldl dS x:=EW d;have M:(C.getD i c4).n<=64/\((C.getD i c4).n<=0\/(0<=(C.getD i c4).at_/\(C.getD i c4).at_<=64)):=by
   rcases O with h|h
   .omega
   .unfold dw at h;omega
  have p:∀k,((pg (C.getD i c4)).take k).length<=64:=λk=>by
   refine eY (Mm _ _) ?_;have:(pg (C.getD i c4)).length=(C.getD i c4).n.toNat:=by simp[pg]
   omega
  refine dX c6 (λk=>k<=(C.getD i c4).n.toNat) (λk=>(C.getD i c4).n.toNat - k) (λk=>[(42,I k)]) (λk=>⟨fH m b::.d (dT (qI ((C.take i).foldl dS x) (C.getD i c4) k).p)::eO (qI ((C.take i).foldl dS x) (C.getD i c4) k) (a+k)::.d (iC (fO 20))::.d (fw s2)::.d (fu r)::.d (dR (C.getD i c4))::[],[a+k,b],[]⟩) 0 (dG _) ⟨rfl,trivial⟩ ?_ (λk=>⟨a9 _,a9 _,a9 _⟩) ?_
  .exact g9 (ce rfl (ce rfl (ce (dE (λq=>eO {(C.take i).foldl dS x with q:=q} a) (gk ((C.take i).foldl dS x).q).symm) rfl))) rfl rfl
  intro k K;conv=>whnf
  apply a4<;>intro f
  .have c:k<(C.getD i c4).n.toNat:=by
    have:(k:Int)<(C.getD i c4).n:=b8 f
    omega
   have L:=p k;conv=>whnf
   refine fg (List.range 20) [(15,2047),(16,15),(19,0)] ?_;conv=>whnf
   refine b2 (x:=(C.getD i c4).at_+(k:Int)) ?_;conv=>whnf
   refine Or.inl ?_;conv=>whnf
   refine⟨(show _/\_ from⟨rfl,rfl⟩),kT ?_ ?_⟩;rotate_left
   .repeat' (first|exact trivial|refine iF (show _/\_ from⟨rfl,rfl⟩) ?_)
   conv=>whnf
   refine⟨⟨rfl,(by rw[dD];show(((C.take i).foldl dS x).q++(pg (C.getD i c4)).take k).length+1<=_;rw[ew];omega:(zL (qI ((C.take i).foldl dS x) (C.getD i c4) k).q).length+1<=2147483648)⟩,?_⟩;conv=>whnf
   refine⟨(show _/\_ from⟨rfl,rfl⟩),kT ?_ ?_⟩;rotate_left
   .repeat' (first|exact trivial|refine iF (show _/\_ from⟨rfl,rfl⟩) ?_)
   conv=>whnf
   refine b2 (x:=(k:Int)+1) ?_;conv=>whnf
   have E:zL (qI ((C.take i).foldl dS x) (C.getD i c4) k).q++[D.z .i64 ((C.getD i c4).at_+(k:Int))]=zL (qI ((C.take i).foldl dS x) (C.getD i c4) (k+1)).q:=by show(((C.take i).foldl dS x).q++(pg (C.getD i c4)).take k).map _++_=(((C.take i).foldl dS x).q++(pg (C.getD i c4)).take (k+1)).map _;rw[zr c,<-iJ];simp only[je,oT,Gu]
   refine⟨k+1,c,a3,⟨rfl,trivial⟩,⟨?_,rfl⟩,rfl⟩;have u:=kA 1 (a+k+1) .c (zL (qI ((C.take i).foldl dS x) (C.getD i c4) k).q) [D.z .i64 ((C.getD i c4).at_+(k:Int))];rw[E]at u;exact g9 (ce rfl (ce rfl (ce (dE (λq=>SV.H (.d (fw ((C.take i).foldl dS x).s)) (.H (.B 1 []) (.H (.d (lG ((C.take i).foldl dS x).m)) (.H q (.d .un))))) u) rfl))) rfl rfl
  .have c:k=(C.getD i c4).n.toNat:=by
    have:¬((k:Int)<(C.getD i c4).n):=b8 f
    omega
   subst c;conv=>whnf
   refine b2 (x:=(i:Int)+1) ?_;conv=>whnf
   refine⟨(i+1,a+(C.getD i c4).n.toNat),d,by show C.length -(i+1)<C.length - i;omega,⟨rfl,trivial⟩,⟨?_,rfl⟩,rfl⟩;have F:(pg (C.getD i c4)).take (C.getD i c4).n.toNat=pg (C.getD i c4):=by
    have:(pg (C.getD i c4)).length=(C.getD i c4).n.toNat:=by simp[pg]
    rw[<-this,gv]
   have v:qI ((C.take i).foldl dS x) (C.getD i c4) (C.getD i c4).n.toNat=(C.take (i+1)).foldl dS x:=by rw[<-s];unfold qI dS;rw[F]
   exact g9 (ce rfl (ce (dE (λy=>SV.d (dT y.p)) v) (ce (dE (λy=>eO y (a+(C.getD i c4).n.toNat)) v) rfl))) rfl rfl
 .have d:i=C.length:=by
   have:¬(i:Int)<(C.length:Int):=b8 z
   omega
  subst d;conv=>whnf
  refine dA (l:=[(0,.B 0 []),(1,I t),(4,.B 3 []),(6,.B 5 [])]) ⟨rfl,rfl,rfl,rfl,trivial⟩ ?_ (G a);show(⟨_::.d (dT ((C.take C.length).foldl dS x).p)::eO ((C.take C.length).foldl dS x) a::_,_,_⟩:MS)=_;rw[gv]
def zdE(d:m.M.length<=1000000):Ok a6 f31.ntmps false (gW 4 (gB f31)) (gy [(0,.B 0 []),(1,I t),(4,.B 3 []),(6,.B 4 [])] []) (⟨fH m b::.d (dT (x).p)::eO (x) (a)::.d (iC (fO 20))::.d (fu r)::.d (fw s2)::[],[a,b],[]⟩) (gS ff 3 2 0 f31.results.toList λo U=>o=l0/\∃c Q,U=MM ({m with x:=x,M:=m.M++[⟨t,fO 20,c4,r,m.now,m.now⟩]}) c Q):=by
 refine eJ c6 (fg (List.range 23) [(18,31),(19,1),(22,0)] (Or.inl (fy ?_)))
 refine a4 ⟨rfl,(by rw[dD];omega:(lj m.M).length+1<=2147483648)⟩ ?_;conv=>whnf
 refine⟨gw rfl (gK rfl x a),rfl,a,b+1,?_⟩;have e:=kA 2 (b+1) jj (lj m.M) [mR ⟨t,fO 20,c4,r,m.now,m.now⟩];rw[<-z5,<-je]at e;exact g9 (ce (dE (λq=>SV.H (.B 2 []) (.H (.d (nK m.ts)) (.H (I m.now) (.H q (.d .un))))) e) rfl) rfl rfl
def zdC(g:m.M.length<=1000000)(S:x.q.length<=2000)(J:∀y∈C,rj y)(R:(dm C).length<=3000)(P:C.length<=1000000):Ok a6 f31.ntmps false (gW 3 (gB f31)) (gy [(0,.B 0 []),(1,I t),(4,.B 3 []),(6,.B 4 []),(7,.d (.X C.length fi λi=>dR (C.getD i c4)))] []) (⟨fH m b::.d (dT (x).p)::eO (x) (a)::.d (iC (fO 20))::.d (fu r)::.d (fw s2)::[],[a,b],[]⟩) (gS ff 3 2 0 f31.results.toList λo U=>o=l0/\∃A Q,U=MM ({m with x:=C.foldl dS x,M:=m.M++[⟨t,fO 20,c4,r,m.now,m.now⟩]}) A Q):=by
 have G:=λa=>zdE (m:=m) (a:=a) (b:=b) (x:=C.foldl dS x) (s2:=s2) (r:=r) (t:=t) g;refine lL (lL (eJ c6 ?_));conv=>whnf
 refine b2 (x:=(C.length:Int)) ?_;conv=>whnf
 refine eJ c6 ?_;conv=>whnf
 refine dX c6 (λj:Nat×Nat=>j.1<=C.length) (λj=>C.length - j.1) (λj=>[(36,I j.1)]) (λj=>⟨fH m b::.d (dT ((C.take j.1).foldl dS x).p)::eO ((C.take j.1).foldl dS x) (j.2)::.d (iC (fO 20))::.d (fu r)::.d (fw s2)::[],[j.2,b],[]⟩) (0,a) (dG _) ⟨rfl,trivial⟩ rfl (λj=>⟨a9 _,a9 _,a9 _⟩) ?_;intro j w;obtain⟨i,a⟩:=j;have w:i<=C.length:=w;conv=>whnf
 apply a4<;>intro z
 .have d:i<C.length:=by
   have:(i:Int)<(C.length:Int):=b8 z
   omega
  conv=>whnf
  refine fS (i:=i) (n:=C.length) ?_;conv=>whnf
  have N:=EV x C i;have e:C.getD i c4∈C:=by rw[eu,ed d];exact oi d
  have O:=J _ e;have s:dS ((C.take i).foldl dS x) (C.getD i c4)=(C.take (i+1)).foldl dS x:=EW d;have M:(C.getD i c4).n<=64/\((C.getD i c4).n<=0\/(0<=(C.getD i c4).at_/\(C.getD i c4).at_<=64)):=by
   rcases O with h|h
   .omega
   .unfold dw at h;omega
  have p:∀k,((pg (C.getD i c4)).take k).length<=64:=λk=>by
   refine eY (Mm _ _) ?_;have:(pg (C.getD i c4)).length=(C.getD i c4).n.toNat:=by simp[pg]
   omega
  refine dX c6 (λk=>k<=(C.getD i c4).n.toNat) (λk=>(C.getD i c4).n.toNat - k) (λk=>[(42,I k)]) (λk=>⟨fH m b::.d (dT (qI ((C.take i).foldl dS x) (C.getD i c4) k).p)::eO (qI ((C.take i).foldl dS x) (C.getD i c4) k) (a+k)::.d (iC (fO 20))::.d (fu r)::.d (fw s2)::.d (dR (C.getD i c4))::[],[a+k,b],[]⟩) 0 (dG _) ⟨rfl,trivial⟩ ?_ (λk=>⟨a9 _,a9 _,a9 _⟩) ?_
  .exact g9 (ce rfl (ce rfl (ce (dE (λq=>eO {(C.take i).foldl dS x with q:=q} a) (gk ((C.take i).foldl dS x).q).symm) rfl))) rfl rfl
  intro k K;conv=>whnf
  apply a4<;>intro f
  .have c:k<(C.getD i c4).n.toNat:=by
    have:(k:Int)<(C.getD i c4).n:=b8 f
    omega
   have L:=p k;conv=>whnf
   refine fg (List.range 20) [(15,2047),(16,15),(19,0)] ?_;conv=>whnf
   refine b2 (x:=(C.getD i c4).at_+(k:Int)) ?_;conv=>whnf
   refine Or.inl ?_;conv=>whnf
   refine⟨(show _/\_ from⟨rfl,rfl⟩),kT ?_ ?_⟩;rotate_left
   .repeat' (first|exact trivial|refine iF (show _/\_ from⟨rfl,rfl⟩) ?_)
   conv=>whnf
   refine⟨⟨rfl,(by rw[dD];show(((C.take i).foldl dS x).q++(pg (C.getD i c4)).take k).length+1<=_;rw[ew];omega:(zL (qI ((C.take i).foldl dS x) (C.getD i c4) k).q).length+1<=2147483648)⟩,?_⟩;conv=>whnf
   refine⟨(show _/\_ from⟨rfl,rfl⟩),kT ?_ ?_⟩;rotate_left
   .repeat' (first|exact trivial|refine iF (show _/\_ from⟨rfl,rfl⟩) ?_)
   conv=>whnf
   refine b2 (x:=(k:Int)+1) ?_;conv=>whnf
   have E:zL (qI ((C.take i).foldl dS x) (C.getD i c4) k).q++[D.z .i64 ((C.getD i c4).at_+(k:Int))]=zL (qI ((C.take i).foldl dS x) (C.getD i c4) (k+1)).q:=by show(((C.take i).foldl dS x).q++(pg (C.getD i c4)).take k).map _++_=(((C.take i).foldl dS x).q++(pg (C.getD i c4)).take (k+1)).map _;rw[zr c,<-iJ];simp only[je,oT,Gu]
   refine⟨k+1,c,a3,⟨rfl,trivial⟩,⟨?_,rfl⟩,rfl⟩;have u:=kA 1 (a+k+1) .c (zL (qI ((C.take i).foldl dS x) (C.getD i c4) k).q) [D.z .i64 ((C.getD i c4).at_+(k:Int))];rw[E]at u;exact g9 (ce rfl (ce rfl (ce (dE (λq=>SV.H (.d (fw ((C.take i).foldl dS x).s)) (.H (.B 1 []) (.H (.d (lG ((C.take i).foldl dS x).m)) (.H q (.d .un))))) u) rfl))) rfl rfl
  .have c:k=(C.getD i c4).n.toNat:=by
    have:¬((k:Int)<(C.getD i c4).n):=b8 f
    omega
   subst c;conv=>whnf
   refine b2 (x:=(i:Int)+1) ?_;conv=>whnf
   refine⟨(i+1,a+(C.getD i c4).n.toNat),d,by show C.length -(i+1)<C.length - i;omega,⟨rfl,trivial⟩,⟨?_,rfl⟩,rfl⟩;have F:(pg (C.getD i c4)).take (C.getD i c4).n.toNat=pg (C.getD i c4):=by
    have:(pg (C.getD i c4)).length=(C.getD i c4).n.toNat:=by simp[pg]
    rw[<-this,gv]
   have v:qI ((C.take i).foldl dS x) (C.getD i c4) (C.getD i c4).n.toNat=(C.take (i+1)).foldl dS x:=by rw[<-s];unfold qI dS;rw[F]
   exact g9 (ce rfl (ce (dE (λy=>SV.d (dT y.p)) v) (ce (dE (λy=>eO y (a+(C.getD i c4).n.toNat)) v) rfl))) rfl rfl
 .have d:i=C.length:=by
   have:¬(i:Int)<(C.length:Int):=b8 z
   omega
  subst d;conv=>whnf
  refine dA (l:=[(0,.B 0 []),(1,I t),(4,.B 3 []),(6,.B 4 [])]) ⟨rfl,rfl,rfl,rfl,trivial⟩ ?_ (G a);show(⟨_::.d (dT ((C.take C.length).foldl dS x).p)::eO ((C.take C.length).foldl dS x) a::_,_,_⟩:MS)=_;rw[gv]
def zdH(F:t<8)(g:SInv m.x.s)(E:m.x.s.alive t=true)(j:m.M.length<=1000000)(u:m.x.q.length<=2000):b6 a6 31 [.B 0 [],I t] (MM m a b) λo U=>o=l0/\∃v Q,U=MM (oK m t) v Q:=by
 have n:CallOk m.x.s t (fO 20):=⟨a3,a3,⟨a8,a8⟩,⟨a8,a8⟩,⟨a8,a8⟩,⟨a8,a8⟩⟩;obtain⟨y,d,e⟩:=DG (G:=c4) g n (λk _=>by have k:(0:Int)>0:=k;omega);obtain⟨A,p⟩:=g.t;have z:=Nl p (M:=t) (c:=fO 20) (G:=c4) n.s';have f:=(Gm (G:=c4) g.F2 g.E9 n (.inr rfl) (xb g n)).out (GN (a:=.d (fw (dz m.x.s t (fO 20) c4).1)) (b:=.d (fu (dz m.x.s t (fO 20) c4).2.1)) λO J q h=>iE fi dR c4 (dz m.x.s t (fO 20) c4).2.2 O J q h);have w:=zdB (m:=m) (a:=a) (b:=b) (x:={m.x with s:=(dz m.x.s t (fO 20) c4).1}) (s2:=(dz m.x.s t (fO 20) c4).1) (r:=(dz m.x.s t (fO 20) c4).2.1) (C:=(dz m.x.s t (fO 20) c4).2.2) (t:=t) j u d e a3;have k:=zdC (m:=m) (a:=a) (b:=b) (x:={m.x with s:=(dz m.x.s t (fO 20) c4).1}) (s2:=(dz m.x.s t (fO 20) c4).1) (r:=(dz m.x.s t (fO 20) c4).2.1) (C:=(dz m.x.s t (fO 20) c4).2.2) (t:=t) j u d e a3;refine ov func31 ?_;refine dB (dA (l:=[(0,.B 0 []),(1,I t),(4,.B 3 [])]) (U:=M6 m a b [.d (iC (fO 20))]) ⟨rfl,rfl,rfl,trivial⟩ rfl ?_);refine dB (HT c6 ey 15 16 a8 (List.range 20) [(15,32767),(16,32767),(17,24576),(18,16384)] [0,1,2,3,4,5,6,7,8,9,10,11,12,13,14,16,15,17,18,19] [(15,32767),(16,32767),(17,24576),(18,16384)] ey ey ?_ ?_)
 .refine c9 f (λ_ h=>h) (fy ?_)
  refine fy ?_
  refine dA (l:=[(0,.B 0 []),(1,I t),(4,.B 3 []),(5,.B 4 []),(6,.B 5 []),(7,.d (.X (dz m.x.s t (fO 20) c4).2.2.length fi λi=>dR ((dz m.x.s t (fO 20) c4).2.2.getD i c4)))]) (U:=M6 m a b (.d (iC (fO 20))::.d (fw (dz m.x.s t (fO 20) c4).1)::.d (fu (dz m.x.s t (fO 20) c4).2.1)::[])) ⟨rfl,rfl,rfl,rfl,rfl,rfl,trivial⟩ rfl ?_;exact dB (dL 7 (dA (l:=[(0,.B 0 []),(1,I t),(4,.B 3 []),(6,.B 5 []),(7,.d (.X (dz m.x.s t (fO 20) c4).2.2.length fi λi=>dR ((dz m.x.s t (fO 20) c4).2.2.getD i c4)))]) ⟨rfl,rfl,rfl,rfl,rfl,trivial⟩ rfl w))
 .refine c9 f (λ_ h=>h) (fy ?_)
  refine fy ?_
  refine dA (l:=[(0,.B 0 []),(1,I t),(4,.B 3 []),(5,.B 5 []),(6,.B 4 []),(7,.d (.X (dz m.x.s t (fO 20) c4).2.2.length fi λi=>dR ((dz m.x.s t (fO 20) c4).2.2.getD i c4)))]) (U:=M6 m a b (.d (iC (fO 20))::.d (fu (dz m.x.s t (fO 20) c4).2.1)::.d (fw (dz m.x.s t (fO 20) c4).1)::[])) ⟨rfl,rfl,rfl,rfl,rfl,rfl,trivial⟩ rfl ?_;exact dB (dL 7 (dA (l:=[(0,.B 0 []),(1,I t),(4,.B 3 []),(6,.B 4 []),(7,.d (.X (dz m.x.s t (fO 20) c4).2.2.length fi λi=>dR ((dz m.x.s t (fO 20) c4).2.2.getD i c4)))]) ⟨rfl,rfl,rfl,rfl,rfl,trivial⟩ rfl k))
end
end Sx
namespace Sx
structure ClrOk (m:Mc):Prop where
 C5:gE m.x.m
 rn:∀i,i<8->ko (m.ts i).c.run
 q:m.x.q.length<=2000
attribute [local irreducible] b6 eF fR ez eH eB eM fx dC ec dU dx
section
variable {m:Mc} {a b:Nat}
def VF{p:Int}(hp:0<=p/\p<256)(G:0<=m.now/\m.now<=1000000)(r:m.M.length<=1000000)(F:m.x.q.length<=2000)
 (hf:∀y∈m.x.p.K,dw y)(C:m.x.p.K.length<=400)(E:m.x.p.n<=64)(J:∀y∈m.x.q,0<=y/\y<64)
 (V:SInv m.x.s)(W:∀t:Nat,t<8->TskOk (m.ts t).t)
 (Y:∀t:Nat,t<8->jW m t=true->(m.ts t).busy=true->WOk m.x (m.ts t).c t)
 (hw:∀t:Nat,t<8->jW m t=true->(m.ts t).busy=false->kZ (m.ts t).t=true->WOk m.x {iT with task:=t,c:=jI (m.ts t).t} t)
 (hq:∀(t:Nat) c,WOk m.x c t->(fh m.x c).x.q.length<=1000000)
 (K:ClrOk (mJ {m with x:=kM m.x}))(L:∀t:Nat,t<8->jW m t=true->ClrOk (oK (mJ m) t))(M:∀t:Nat,t<8->jW m t=true->ClrOk (mw (mJ m) t)):
 b6 a6 9 [.B 0 [],.d (.z .u8 p)] (MM m a b) λo U=>o=.ret (I (lM m p))/\∃j Q,U=MM (jo m p) j Q:=by
 have O:0<=p.tmod 8:=z0 _ hp.1;have h1:p.tmod 8<8:=zZ _ a8;obtain⟨t,s⟩:∃t:Nat,p.tmod 8=t:=⟨(p.tmod 8).toNat,a3⟩;have g:t<8:=a3
 have w:∀q u S,ClrOk q->lM m p=0->jo m p=p4 q->Ok a6 f9.ntmps false (gW 2 (gB f9)) (gy [(0,.B 0 [])] []) (MM q u S) (gS ff 3 2 0 f9.results.toList λo U=>o=.ret (I (lM m p))/\∃j Q,U=MM (jo m p) j Q):=λq u S A R T=>by
  rw[R,T];refine dB (fa (W3 (m:=q) (a:=u) (b:=S) A.C5 A.rn A.q) ?_);rintro o U ⟨rfl,j,rfl⟩;refine eJ c6 ?_;conv=>whnf
  exact⟨gw rfl (gK rfl (p4 q).x j),rfl,j,S,rfl⟩
 have v:∀e:Int,e≠0->lM m p=e->jo m p=m:=λe he h=>by unfold jo;rw[h,oX.2 he];rfl
 refine ov func9 ?_;refine dB (lL (lL (eJ c6 (a4 ⟨a8,iL (by simp only[eU];omega) (λ_=>O) (by simp only[eU];omega)⟩ (dA (l:=[(0,.B 0 []),(1,.d (.z .u8 p)),(5,I t)]) (U:=MM m a b) ⟨rfl,rfl,dE (λz:Int=>some (I z)) s,trivial⟩ rfl ?_)))));refine eJ c6 (b0 ?_);apply a4<;>intro k
 .have k:((decide (p>8)&&decide (p<16))||decide (p>=24))=true:=k;have e:lM m p=2:=by unfold lM;rw[k];rfl
  rw[v 2 a8 e,e];conv=>whnf
  exact⟨gw rfl (gK rfl m.x a),rfl,a,b,rfl⟩
 have k:((decide (p>8)&&decide (p<16))||decide (p>=24))=false:=k;apply a4<;>intro i
 .have i:p=8:=gG.1 (show(p==8)=true from i);refine fa (VI (Z:=fH m b) (x:=m.x) (a:=a) (b:=b) rfl hf (eY C a8) E (eY F a8)) ?_;rintro o U ⟨rfl,rfl⟩;apply a4<;>intro d
  .have d:(!(!(m.x.q.length==0)))=true:=d;rw[Cj]at d;have e:lM m p=10:=by unfold lM;rw[k,i,d];rfl
   have N:kM m.x=m.x:=by have:m.x.q=[]:=ym.1 (gG.1 d);unfold kM;rw[this]
   rw[v 10 a8 e,e,N];conv=>whnf
   exact⟨gw rfl (gK rfl m.x a),rfl,a,b,rfl⟩
  .have d:(!(!(m.x.q.length==0)))=false:=d;rw[Cj]at d;have e:lM m p=0:=by unfold lM;rw[k,i,d];rfl
   exact b2 (x:=m.now+1) (dA (l:=[(0,.B 0 [])]) ⟨rfl,trivial⟩ rfl (w (mJ {m with x:=kM m.x}) a b K e (by unfold jo;rw[e,i];rfl)))
 have i:p≠8:=λh=>by rw[show(p==8)=true from gG.2 h]at i;cases i
 refine fa (Da (m:=m) (a:=a) (b:=b) t) ?_;rintro o U ⟨rfl,rfl⟩;apply a4<;>intro d
 .have d:(!jW m t)=true:=d;have e:lM m p=12:=by unfold lM;rw[k,nH i,s,d];rfl
  rw[v 12 a8 e,e];conv=>whnf
  exact⟨gw rfl (gK rfl m.x a),rfl,a,b,rfl⟩
 have d:(!jW m t)=false:=d;have e:lM m p=0:=by unfold lM;rw[k,nH i,s,d];rfl
 have f:jW m t=true:=b8 d
 have P:m.x.s.alive t=true:=by unfold jW at f;simp only[dH]at f;exact f.2
 apply a4<;>intro n
 .have n:decide (p>=16)=true:=n;refine b2 (x:=m.now+1) (fa (zdH (m:=mJ m) (a:=a) (b:=b) g V P r F) ?_);rintro o U ⟨rfl,j,Q,rfl⟩;exact dA (l:=[(0,.B 0 [])]) ⟨rfl,trivial⟩ rfl (w (oK (mJ m) t) j Q (L t g f) e (by unfold jo;rw[e,nH i,n,s];rfl))
 .have n:decide (p>=16)=false:=n;refine b2 (x:=m.now+1) (fa (zd5 (m:=mJ m) (a:=a) (b:=b) g (W t g) r (Y t g f) (hw t g f) (hq t)) ?_);rintro o U ⟨rfl,j,Q,rfl⟩;exact dA (l:=[(0,.B 0 [])]) ⟨rfl,trivial⟩ rfl (w (mw (mJ m) t) j Q (M t g f) e (by unfold jo;rw[e,nH i,n,s];rfl))
end
def Uw(n:Nat)(f:Nat->D)(g:n<=2147483648):c5 a6 174 [.d (.X n .c f)] (.d (.X n .c f)):=by
 refine dq func174 ?_;intro b e;apply a4<;>intro i
 .have c:n=0:=by
   rcases pt n with h|h
   .exact h
   .have d:=e h;subst d;cases i
  subst c;exact a4 rfl (a4 ⟨_,rfl,pd _ _ _ _⟩ rfl)
 .exact Or.inl (a4 g (.inl (a4 rfl (a4 ⟨_,rfl,Dk⟩ rfl))))
section
variable {m:Mc} {a b:Nat}
def VA:b6 a6 57 [.B 0 []] (MM m a b) λo U=>o=.ret (I m.now)/\U=MM m a b:=by
 refine fm func57 ?_;exact b0 (a4 (gw rfl (gK rfl m.x a)) (a4 rfl rfl))
def qM(t:Int):Bool:=decide (t>=0)&&decide (t<8)
def Pp(t:Int):b6 a6 173 [.B 0 [],I t] (MM m a b) λo U=>o=.ret (B (qM t))/\U=MM m a b:=by
 refine fm func173 ?_;exact a4 (gw rfl (gK rfl m.x a)) (a4 rfl rfl)
def sN(m:Mc)(t:Int):Rt:=bif qM t&&(m.ts t.toNat).busy then(m.ts t.toNat).c else iT
def FK(m:Mc)(t:Int):Bool:=qM t&&(m.ts t.toNat).busy
def MK(t:Int)(r:∀i,i<8->(m.ts i).c.G.length<=64):b6 a6 96 [.B 0 [],I t] (MM m a b) λo U=>o=.ret (T2 (.d (md (sN m t))) (B (FK m t)))/\U=MM m a b:=by
 refine ov func96 ?_;refine dB (eJ c6 (fa (ry [_] [] [] (Pp (m:=m) (a:=a) (b:=b) t) rfl (by show(eV 3 2 0 [fH m b,.d (dT m.x.p),eO m.x a]&&gV 3 2 0 [])=true;rw[gK rfl m.x a];rfl) λo U k=>⟨k.2▸rfl,k.2▸rfl,k.2▸rfl⟩) ?_));rintro o U ⟨y,⟨rfl,rfl⟩,rfl⟩;conv=>whnf
 have g:qM t=true->0<=t/\t<8:=λh=>by unfold qM at h;simpa using h
 refine⟨λl=>g (by have l:(!qM t)=false:=l;simpa using l),?_⟩;apply a4<;>intro f
 .have f:(!qM t||!(m.ts t.toNat).busy)=true:=f;have e:(qM t&&(m.ts t.toNat).busy)=false:=by cases n:qM t<;>cases p:(m.ts t.toNat).busy<;>first|rfl|(rw[n,p]at f;cases f)
  refine a4 (gw rfl (gK rfl m.x a)) (a4 ?_ rfl);rw[show sN m t=iT by unfold sN;rw[e];rfl,show FK m t=false from e];rfl
 .have f:(!qM t||!(m.ts t.toNat).busy)=false:=f;have e:(qM t&&(m.ts t.toNat).busy)=true:=by cases n:qM t<;>cases p:(m.ts t.toNat).busy<;>first|rfl|(rw[n,p]at f;cases f)
  have q:=g (iZ.1 e).1;have j:=r t.toNat a3;rw[show sN m t=(m.ts t.toNat).c by unfold sN;rw[e];rfl,show FK m t=true from e];refine a4 q ?_;conv=>whnf
  generalize(m.ts t.toNat).c=c at j;obtain⟨s,u,v,d,w,x⟩:=c;exact bo (Uw (hL d).length (c7 (hL d)) (by rw[dD];have j:d.length<=64:=j;omega)) (a4 (gw rfl (gK rfl m.x a)) (a4 rfl rfl))
end
end Sx
end Go.Proofs.YtfbhkfhbnkncoaaGreatDoor
