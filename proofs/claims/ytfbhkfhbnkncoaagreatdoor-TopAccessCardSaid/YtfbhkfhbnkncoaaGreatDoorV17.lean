import Derived.Test.YtfbhkfhbnkncoaaGreatDoorV16
set_option linter.all false
namespace Go.Proofs.YtfbhkfhbnkncoaaGreatDoor
open Go.RowKit Tryz
open Tryz renaming prog→a6
namespace Sx
attribute [local irreducible] b6 eF fR ez eH eB eM fx dC ec dU dx
variable{s:ByteArray}{m:Int->Nat}{n:Nat}
def gf(M:Int)(x:Ow):Bool:=(x.kind==1)&&(x.task==M)
def gA(M:Int)(x:Ow):Bool:=(((x.kind==3)&&decide (M>=0))&&decide (M<8))&&(dC .and .u8 x.hold (jC M) != 0)
def fj(o:Nat->Sd)(t:Tb)(p:Ow->Bool)(l:List Int):List Int:=l.filter λh=>(fl t h==h)&&p (dy o t h)
abbrev zp(o:Nat->Sd)(t:Tb)(M:Int)(n:Nat):MS:=⟨[.d (ns o),.d (eN t),I M,.d (ns o),.d (eN t)],[n],[]⟩
def zbq(o:Nat->Sd)(t:Tb)(M:Int)(x:Ow)(n:Nat):b6 a6 182 [.d (Ax x),.B 2 []] (zp o t M n) λout U=>out=.ret (B (gf M x))/\U=zp o t M n:=by
 refine fm func182 ?_;exact a4 rfl (a4 rfl rfl)
def Y3(o:Nat->Sd)(t:Tb)(M:Int)(x:Ow)(n:Nat):b6 a6 179 [.d (Ax x),.B 2 []] (zp o t M n) λout U=>out=.ret (B (gA M x))/\U=zp o t M n:=by
 refine fm func179 ?_;exact dL 20 (c9 (Ds M) (λ_ h _=>h) (a4 rfl (a4 rfl rfl)))
def x9(o:Nat->Sd)(t:Tb)(p:Ow->Bool)(l:List Int):(fj o t p l).length<=l.length:=sU _ _
def K7(o:Nat->Sd)(t:Tb)(p:Ow->Bool){l:List Int}{i:Nat}(a:i<l.length):fj o t p (l.take (i+1))=fj o t p (l.take i)++(if((fl t (l.getD i 0)==l.getD i 0)&&p (dy o t (l.getD i 0)))=true then[l.getD i 0]else[]):=by unfold fj;rw[js,r9,ed a,eu,ed a];simp only[GG,tO,oR,Cv]
def ME(o:Nat->Sd)(t:Tb)(M:Int)(j:Rk t m):c5 a6 109 [.d (ns o),.d (eN t),I M] (HS (fj o t (gf M) (dW t.b))):=by
 have d:=(Cg t.b).out (iE .c hD 0 (dW t.b));have k:=oV t.b;generalize dW t.b=l at d k ⊢;refine dq func109 ?_;refine ev func178 ?_;refine bo (d) (b2 (x:=(l.length:Int)) (oA 7 .c (c7 []) rfl ?_));refine dX c6 (λi=>i<=l.length) (λi=>l.length - i) (λi=>[(14,I i),(7,gx 1 (hL (fj o t (gf M) (l.take i))).length .c (hL (fj o t (gf M) (l.take i))))]) (λi=>zp o t M (hL (fj o t (gf M) (l.take i))).length) 0 (dG _) ⟨rfl,rfl,trivial⟩ rfl (λi=>⟨a9 _,a9 _,a9 _⟩) ?_;intro i r;have b:(hL (fj o t (gf M) (l.take i))).length<=32:=by
  have p:=x9 o t (gf M) (l.take i);have q:(l.take i).length<=l.length:=by simp;omega
  rw[dD];omega
 apply a4<;>intro g
 .have a:i<l.length:=eZ g
  have c:=K7 o t (gf M) a;refine fS (i:=i) (n:=l.length) (bo (vP t (l.getD i 0) j) (c9 (tN o t (l.getD i 0) j) (λ_ h _=>h) (mI (zbq o t M (dy o t (l.getD i 0)) _) (λ_ h _=>h) ?_)));apply a4<;>intro f
  .rw[if_pos (show((fl t (l.getD i 0)==l.getD i 0)&&gf M (dy o t (l.getD i 0)))=true from f)]at c;have e:hL (fj o t (gf M) (l.take (i+1)))=hL (fj o t (gf M) (l.take i))++[hD (l.getD i 0)]:=by rw[c];simp
   generalize hL (fj o t (gf M) (l.take i))=L at e b ⊢;refine Or.inl (a4 ⟨rfl,(a3:L.length+1<=2147483648)⟩ (b2 (x:=(i:Int)+1) ?_));conv=>whnf
   refine⟨i+1,a,a3,⟨rfl,?_,trivial⟩,⟨?_,?_⟩,?_⟩<;>rw[e]
   .show some (SV.ow 1 (L.length+1) (L.length+[hD (l.getD i 0)].length) .c (fE L.length (c7 L) (c7 [hD (l.getD i 0)])))=_;rw[kA,ew];rfl
   .rw[ew];rfl
   .rfl
   .rfl
  .rw[if_neg (show¬((fl t (l.getD i 0)==l.getD i 0)&&gf M (dy o t (l.getD i 0)))=true by rw[show((fl t (l.getD i 0)==l.getD i 0)&&gf M (dy o t (l.getD i 0)))=false from f];simp),gk]at c;refine b2 (x:=(i:Int)+1) ?_;conv=>whnf
   refine⟨i+1,a,a3,⟨rfl,?_,trivial⟩,⟨?_,?_⟩,?_⟩<;>rw[c]<;>rfl
 .have a:i=l.length:=e9 g
  subst a;rw[gv];exact b7
def L7(o:Nat->Sd)(t:Tb)(M:Int)(j:Rk t m):c5 a6 107 [.d (ns o),.d (eN t),I M] (HS (fj o t (gA M) (dW t.b))):=by
 have d:=(Cg t.b).out (iE .c hD 0 (dW t.b));have k:=oV t.b;generalize dW t.b=l at d k ⊢;refine dq func107 ?_;refine ev func178 ?_;refine bo (d) (b2 (x:=(l.length:Int)) (oA 7 .c (c7 []) rfl ?_));refine dX c6 (λi=>i<=l.length) (λi=>l.length - i) (λi=>[(14,I i),(7,gx 1 (hL (fj o t (gA M) (l.take i))).length .c (hL (fj o t (gA M) (l.take i))))]) (λi=>zp o t M (hL (fj o t (gA M) (l.take i))).length) 0 (dG _) ⟨rfl,rfl,trivial⟩ rfl (λi=>⟨a9 _,a9 _,a9 _⟩) ?_;intro i r;have b:(hL (fj o t (gA M) (l.take i))).length<=32:=by
  have p:=x9 o t (gA M) (l.take i);have q:(l.take i).length<=l.length:=by simp;omega
  rw[dD];omega
 apply a4<;>intro g
 .have a:i<l.length:=eZ g
  have c:=K7 o t (gA M) a;refine fS (i:=i) (n:=l.length) (bo (vP t (l.getD i 0) j) (c9 (tN o t (l.getD i 0) j) (λ_ h _=>h) (mI (Y3 o t M (dy o t (l.getD i 0)) _) (λ_ h _=>h) ?_)));apply a4<;>intro f
  .rw[if_pos (show((fl t (l.getD i 0)==l.getD i 0)&&gA M (dy o t (l.getD i 0)))=true from f)]at c;have e:hL (fj o t (gA M) (l.take (i+1)))=hL (fj o t (gA M) (l.take i))++[hD (l.getD i 0)]:=by rw[c];simp
   generalize hL (fj o t (gA M) (l.take i))=L at e b ⊢;refine Or.inl (a4 ⟨rfl,(a3:L.length+1<=2147483648)⟩ (b2 (x:=(i:Int)+1) ?_));conv=>whnf
   refine⟨i+1,a,a3,⟨rfl,?_,trivial⟩,⟨?_,?_⟩,?_⟩<;>rw[e]
   .show some (SV.ow 1 (L.length+1) (L.length+[hD (l.getD i 0)].length) .c (fE L.length (c7 L) (c7 [hD (l.getD i 0)])))=_;rw[kA,ew];rfl
   .rw[ew];rfl
   .rfl
   .rfl
  .rw[if_neg (show¬((fl t (l.getD i 0)==l.getD i 0)&&gA M (dy o t (l.getD i 0)))=true by rw[show((fl t (l.getD i 0)==l.getD i 0)&&gA M (dy o t (l.getD i 0)))=false from f];simp),gk]at c;refine b2 (x:=(i:Int)+1) ?_;conv=>whnf
   refine⟨i+1,a,a3,⟨rfl,?_,trivial⟩,⟨?_,?_⟩,?_⟩<;>rw[c]<;>rfl
 .have a:i=l.length:=e9 g
  subst a;rw[gv];exact b7
def kY(n:Nat):Nat:=(List.range 8).countP λi=>n.testBit i
def zbE(b:(List.range 256).map (λi:Nat=>fF s (i:Int))=(List.range 256).map λi=>(kY i:Int))(a:n<256):fF s (n:Int)=kY n:=by have:=dE (λl=>l[n]?) b;simpa[a]using this
def zaw(h:s.size=256)(a:n<256):(n:Int)<(s.size:Int):=by rw[h];omega
def VC{h:Int}(b:0<=h/\h<256):c5 a6 373 [.d (.z .u8 h)] (I (kY h.toNat)):=by
 obtain⟨n,rfl⟩:∃n:Nat,h=n:=⟨h.toNat,a3⟩;have a:n<256:=a3
 refine dq func373 ?_;exact a4 ⟨a3,zaw ey a⟩ (b7 (dE (λx=>SV.d (D.z .i64 x)) (zbE ey a)))
def Wu(d:BinOp)(a b:Int):0<=dC d .u8 a b/\dC d .u8 a b<256:=by
 have c:∀x:Int,0<=IntKind.u8.wrap x/\IntKind.u8.wrap x<256:=λx=>by obtain⟨_,e,f⟩:=xx (rJ .u8 x);refine⟨e rfl,?_⟩;simp[eU]at f;omega
 unfold dC;split<;>first|exact c _|exact⟨a3,a3⟩
def Y2(o:Nat->Sd)(t:Tb)(b M:Int)(a:Bool):0<=jH o t b M a/\jH o t b M a<256:=by
 unfold jH jQ;cases(iw o t b M a==0)with
 |true=>exact Wu _ _ _
 |false=>exact⟨i6 0,(a8:(0:Int)<256)⟩
def VB(o:Nat->Sd)(t:Tb)(a M:Int){c:Int->Nat}(b:Rk t c):c5 a6 357 [.d (ns o),.d (eN t),H a,I M] (T3 (.d (ns (gL o t a M false))) (I (kY (jH o t a M false).toNat)) (I (iw o t a M false))):=by
 refine dq func357 ?_;refine bo (Ps o t a M false b) (fg (List.range 7) [(4,8)] (c9 (VC (Y2 o t a M false)) (λ_ h=>h) ?_));conv=>whnf
 repeat' (first|(refine⟨(show _/\_ from⟨rfl,rfl⟩),?_⟩;conv=>whnf))
 exact b7
def c8:Rn:=⟨0,0⟩
abbrev rF(l:List Rn):Nat->D:=λi=>dR (l.getD i c8)
abbrev RS(l:List Rn):D:=.X l.length fi (rF l)
def S1{α:Type}{l:List α}{x:α}(h:l.length=n):(l++[x]).take n=l:=by subst h;rw[z6]
def DY(l:List SV)(x:SV):kI (l++[x]) l.length=some x:=by rw[qH,oh (a9 _),tM];rfl
def KF(l:List SV)(x y:SV):oJ (l++[x]) l.length y=l++[y]:=by rw[vy,Vp _ _ (a9 _),tM];rfl
def O8(l:List SV)(x y:SV):kI (oJ (l++[x]) l.length y) l.length=some y:=by rw[KF,DY]
def MU{l:List Rn}(Q:l.length<=2147483648){ps:List Nat}{e c:Code}{N:Nat}{V:List Ent}{σ:Type}(d:σ->List SV)(C:σ->List Nat)(b:σ->Nat)(f:σ->Prop)(a t u:Nat)(g:σ)(J:∀s,kI (d s) a=some (.d (RS l)))(k:∀s,(d s).length=t/\(C s).length=u/\eV t u 1 (d s)=true)(o:f g)(q:b g=0){K:Out->MS->Prop}(m:gV t u 1 [.loop ps e c N V .ready]=true)(h:∀s,f s->b s<l.length->fx a6 0 ps e c N V [I (b s),.d (dR (l.getD (b s) c8))] ⟨d s++[.d (dR (l.getD (b s) c8))],C s,[.loop ps e c N V .ready]⟩ λv U=>
  (v=B true/\∃W,(f W/\b W=b s+1)/\U=⟨d W++[.d (dR (l.getD (b s) c8))],C W,[.loop ps e c N V .ready]⟩)\/(v=B false/\K (.ret (.tu (.d .un))) U))(G:∀s,f s->b s=l.length->K (.ret (.tu (.d .un))) ⟨d s,C s,[.loop ps e c N V .ready]⟩):
 b6 a6 175 [.ob (.yl 0),.B a []] ⟨d g,C g,[.loop ps e c N V .ready]⟩ K:=by
 refine ev func175 ?_;conv=>whnf
 have F:pv ff (d g) (iQ [] (kc 0 [SV.ob (Hd.yl 0),SV.B a []]) []) (.load 88 (.tmp 1))=some (.d (RS l)):=Bv rfl (J g) rfl rfl;rw[F];refine b2 (x:=(l.length:Int)) (dX c6 (λs:σ=>f s/\b s<=l.length) (λs=>l.length - b s) (λs=>[(7,I (b s))]) (λs=>⟨d s,C s,[.loop ps e c N V .ready]⟩) g ⟨o,a3⟩ ⟨by show some (I (0:Int))=some (I (b g:Int));rw[q];rfl,trivial⟩ rfl ?_ ?_)
 .intro s;obtain⟨w,M,_⟩:=k s;obtain⟨O,P,_⟩:=k g;exact⟨by show(d g).length<=(d s).length;omega,by show(C g).length<=(C s).length;omega,a9 _⟩
 rintro s ⟨y,R⟩;apply a4<;>intro j
 .have i:b s<l.length:=eZ j
  refine a4 ⟨(a3:(0:Int)<=(b s:Int)),(a3:(b s:Int)<(l.length:Int))⟩ ?_;conv=>whnf
  rw[DY (d s) tm.zero.sv];conv=>whnf
  have r:∀ρ:Operand->Option SV,ρ (.tmp 4)=some (.B (d s).length [])->pv ff (oJ (d s++[tm.zero.sv]) (d s).length ((SV.d (rF l (b s:Int).toNat)).C4 tm.zero.sv)) ρ (.load 74 (.tmp 4))=some (.d (dR (l.getD (b s) c8))):=λρ w=>Bv w (O8 _ _ _) rfl rfl;rw[r];rotate_left
  .rfl
  conv=>whnf
  rw[KF (d s) tm.zero.sv ((SV.d (rF l (b s:Int).toNat)).C4 tm.zero.sv)];refine zC (h s y i) ?_;rintro _ _ (⟨rfl,W,⟨n,p⟩,rfl⟩|⟨rfl,L⟩)
  .refine a4 (λj=>b3 j eA) λ_=>?_;refine b2 (x:=(b s:Int)+1) ?_;conv=>whnf
   obtain⟨z,A,E⟩:=k W;refine⟨W,⟨n,a3⟩,a3,⟨?_,trivial⟩,⟨?_,?_⟩,rfl⟩
   .show some (I ((b s:Int)+1))=some (I (b W:Int));rw[p];rfl
   .show(⟨(d W++[_]).take (d W).length,(C W).take (C W).length,[_]⟩:MS)=⟨d W,C W,[_]⟩;rw[S1 rfl,gv]
   .show(eV (d W).length (C W).length 1 (d W)&&gV (d W).length (C W).length 1 [.loop ps e c N V .ready])=true;rw[z,A,E];exact m
  .refine a4 (λ_=>?_) λj=>b3 j eA;exact L
 .have i:b s=l.length:=e9 j
  exact G s y i
end Sx
namespace Sx
variable{l:List Rn}{a:List Value}
def Sr{O:Ro}(h:dM O (fq fi (l.map dR)) a):dM O (RS l) a:=by obtain⟨A,c,rfl,h⟩:=h;have h:dM O (.X (l.map dR).length fi (c7 (l.map dR))) [.slice A (l.map dR).length c]:=⟨A,c,rfl,h⟩;rw[dD]at h ⊢;exact h.congr λi b=>(qe dR c8 b).symm
def zdh{O:Ro}(h:dM O (RS l) a):dM O (fq fi (l.map dR)) a:=by obtain⟨A,c,rfl,h⟩:=h;have h:dM O (RS l) [.slice A l.length c]:=⟨A,c,rfl,h⟩;show dM O (.X (l.map dR).length fi (c7 (l.map dR))) _;rw[dD];exact h.congr λi b=>qe dR c8 b
abbrev tP(l:List Rn):D:=.H (RS l) .un
def Fl(l:List Rn):(SV.d (n8 l)).le (.d (tP l)):=λO J x h=>by refine⟨λf=>?_,ef⟩;obtain⟨e,⟨a,b,rfl,c,d⟩,rfl⟩:=h.1 rfl;exact⟨_,⟨a,b,rfl,Sr c,d⟩,rfl⟩
def Fk(l:List Rn):(SV.d (tP l)).le (.d (n8 l)):=λO J x h=>by refine⟨λf=>?_,ef⟩;obtain⟨e,⟨a,b,rfl,c,d⟩,rfl⟩:=h.1 rfl;exact⟨_,⟨a,b,rfl,zdh c,d⟩,rfl⟩
attribute [local irreducible] b6 eF fR ez eH eB eM fx dC ec dU dx
def nu(l:List Rn)(n:Int):Option Rn:=l.find? λx=>decide (n>=1)&&decide (x.n>=n)
def u0(l:List Rn)(n:Int):Int:=match nu l n with
 |some x=>x.at_
 |none=>0
def UW(l:List Rn)(n:Int)(j:l.length<=2147483648):c5 a6 18 [.d (n8 l),I n] (T2 (I (u0 l n)) (B (nu l n).isSome)):=by
 refine c5.le (b:=[.d (tP l),I n]) ?_ ⟨Fl l,SV.le_refl _,trivial⟩;refine dq func18 ?_;refine ev func51 ?_;refine ev func99 ?_;refine rS rfl rfl ?_;refine MU j (σ:=Nat) (λ_=>[.d (tP l),I n,I 0,B false,.d (tP l),.d (RS l)]) (λ_=>[]) id (λi=>nu l n=nu (l.drop i) n) 5 6 0 0 (λ_=>rfl) (λ_=>⟨rfl,rfl,rfl⟩) rfl rfl rfl ?_ ?_
 .intro i c a;have a:i<l.length:=a;have g:l.drop i=l.getD i c8::l.drop (i+1):=by rw[sl (l:=l) (s:=i) (x:=l.getD i c8) (by rw[eu,ed a];rfl)]
  refine BE (rX c6 rfl a8 ?_);apply a4<;>intro h
  .have d:(decide (n>=1)&&decide ((l.getD i c8).n>=n))=true:=h;have e:nu l n=some (l.getD i c8):=by rw[c,g];unfold nu;rw[List.find?_cons,d]
   refine a4 rfl (.inr ⟨rfl,?_⟩);refine b7 ?_;unfold u0;rw[e];rfl
  .have d:(decide (n>=1)&&decide ((l.getD i c8).n>=n))=false:=h;refine a4 rfl (.inl ⟨rfl,i+1,⟨?_,rfl⟩,rfl⟩);rw[c,g];unfold nu;rw[List.find?_cons,d]
 .intro i c f;have f:i=l.length:=f;subst f;have e:nu l n=none:=by rw[c,pU];rfl
  refine b7 ?_;unfold u0;rw[e];rfl
end Sx
namespace Sx
variable{l:List Rn}{a k:Nat}{p:Rn->Bool}
def vQ{a T b:SV}(h:∀O J x,fJ O J a x->fJ O J T x):(T2 a b).le (T2 T b):=λO J x ⟨j,e,f⟩=>by obtain⟨g,i,rfl,c,d⟩:=e;exact⟨_,⟨g,_,rfl,h _ _ _ c,d⟩,f⟩
def dw(r:Rn):Prop:=0<=r.at_/\1<=r.n/\r.at_+r.n<=64
def xE{r:Rn}:sA r=true↔dw r:=by unfold sA dw;simp only[dH,fY];omega
structure Gv where
 x:Rn
 put:Bool
 out:List Rn
def Gv.fin(g:Gv):List Rn:=bif g.put then g.out else g.out++[g.x]
def kJ(g:Gv)(y:Rn):Option Gv:=
 bif decide (y.at_+y.n<g.x.at_)then some ⟨g.x,g.put,g.out++[y]⟩
 else bif decide (y.at_>g.x.at_+g.x.n)then some ⟨g.x,true,g.fin++[y]⟩
 else bif y.at_+y.n==g.x.at_ then some ⟨⟨y.at_,y.n+g.x.n⟩,g.put,g.out⟩
 else bif y.at_==g.x.at_+g.x.n then some ⟨⟨g.x.at_,g.x.n+y.n⟩,g.put,g.out⟩
 else none
def p8:Gv->List Rn->Option Gv
 |g,[]=>some g
 |g,y::l=>match kJ g y with
  |some A=>p8 A l
  |none=>none
def o7(l:List Rn)(x:Rn):Option (List Rn):=bif sA x then(p8 ⟨x,false,[]⟩ l).map Gv.fin else none
def IC{g A:Gv}{y:Rn}(e:dw g.x)(f:dw y)(h:kJ g y=some A):dw A.x:=by
 unfold kJ at h;unfold dw at*;cases c:decide (y.at_+y.n<g.x.at_)with
 |true=>rw[c]at h;simp only[dZ,fW]at h;subst h;exact e
 |false=>
  rw[c]at h;cases d:decide (y.at_>g.x.at_+g.x.n)with
  |true=>rw[d]at h;simp only[dZ,eQ,fW]at h;subst h;exact e
  |false=>
   rw[d]at h;cases a:(y.at_+y.n==g.x.at_)with
   |true=>
    rw[a]at h;simp only[dZ,eQ,fW]at h;subst h;have:y.at_+y.n=g.x.at_:=b8 a
    simp only;omega
   |false=>
    rw[a]at h;cases b:(y.at_==g.x.at_+g.x.n)with
    |true=>
     rw[b]at h;simp only[dZ,eQ,fW]at h;subst h;have:y.at_=g.x.at_+g.x.n:=b8 b
     simp only;omega
    |false=>rw[b]at h;cases h
def Yo(g:Gv):g.fin.length<=g.out.length+1:=by unfold Gv.fin;cases g.put<;>simp
def YW{g A:Gv}{y:Rn}:kJ g y=some A->A.out.length<=g.out.length+2:=by
 have a:=Yo g;unfold kJ;cases decide (y.at_+y.n<g.x.at_)with
 |true=>
  intro h;simp only[dZ,fW]at h;subst h;simp
 |false=>
  cases decide (y.at_>g.x.at_+g.x.n)with
  |true=>
   intro h;simp only[dZ,eQ,fW]at h;subst h;simp;omega
  |false=>
   cases(y.at_+y.n==g.x.at_)with
   |true=>
    intro h;simp only[dZ,eQ,fW]at h;subst h;simp
   |false=>
    cases(y.at_==g.x.at_+g.x.n)with
    |true=>
     intro h;simp only[dZ,eQ,fW]at h;subst h;simp
    |false=>
     intro h;cases h
attribute [local irreducible] b6 eF fR ez eH eB eM fx dC ec dU dx
abbrev fX(l:List Rn):List D:=l.map dR
def Kx(id v:Nat)(out:List Rn)(y:Rn):SV.ow id v ((fX out).length+[dR y].length) fi (fE (fX out).length (c7 (fX out)) (c7 [dR y]))=.ow id v (fX (out++[y])).length fi (c7 (fX (out++[y]))):=by rw[kA,show fX out++[dR y]=fX (out++[y]) by simp]
def g9{c Z:List SV}{t t':List Nat}{o o':List Ob}(a:c=Z)(b:t=t')(d:o=o'):(⟨c,t,o⟩:MS)=⟨Z,t',o'⟩:=by rw[a,b,d]
def ce{α:Type}{a b:α}{l m:List α}(h:a=b)(k:l=m):a::l=b::m:=by rw[h,k]
set_option maxHeartbeats 4000000 in
def L6(N:∀y∈l,dw y)(x:Rn)(Q:dx x.n)(P:l.length<=1000000):c5 a6 121 [.d (n8 l),I x.at_,I x.n] (T2 (.d (n8 ((o7 l x).getD l))) (B (o7 l x).isSome)):=by
 refine c5.le (b:=[.d (tP l),I x.at_,I x.n]) ?_ ⟨Fl l,SV.le_refl _,SV.le_refl _,trivial⟩;refine dq func121 ?_;refine bo (Jk x Q) ?_;apply a4<;>intro f
 .have w:sA x=false:=b8 f
  refine a4 rfl (a4 ⟨_,rfl,?_⟩ rfl);rw[o7,w];exact vQ λO J x h=>Fk l O J x h
 .have w:sA x=true:=b8 f
  have G:=xE.1 w;refine ev func51 ?_;refine ev func99 ?_;refine Fa 4 [] fi (c7 []) rfl rfl rfl ⟨_,_,rfl⟩ (rS rfl rfl ?_);refine MU (eY P a8) (σ:=Nat×Gv×Nat) (λs=>[.d (tP l),.d (ZT.d LB),B false,.d (dR s.2.1.x),.ow 1 s.2.2 (fX s.2.1.out).length fi (c7 (fX s.2.1.out)),B s.2.1.put,.d (tP l),.d (RS l)]) (λs=>[s.2.2]) (·.1) (λs=>(p8 ⟨x,false,[]⟩ l=p8 s.2.1 (l.drop s.1)/\dw s.2.1.x)/\s.2.1.out.length<=2*s.1) 7 8 1 (0,⟨x,false,[]⟩,0) (λ_=>rfl) (λ_=>⟨rfl,rfl,rfl⟩) ⟨⟨rfl,G⟩,a9 _⟩ rfl rfl ?_ ?_
  .rintro⟨i,g,v⟩ ⟨⟨j,t⟩,k⟩ n;simp only at j t k n;have M:l.drop i=l.getD i c8::l.drop (i+1):=by rw[sl (l:=l) (s:=i) (x:=l.getD i c8) (by rw[eu,ed n];rfl)]
   have K:dw (l.getD i c8):=N _ (by rw[eu,ed n];simp);rw[M]at j;simp only[p8]at j;have m:=λA h=>IC (g:=g) (A:=A) t K h;have o:=λA h=>YW (g:=g) (A:=A) (y:=l.getD i c8) h;generalize l.getD i c8=y at j K m o ⊢;obtain⟨c,d,a⟩:=g;obtain⟨T,U,V⟩:=K;obtain⟨R,S,C⟩:=t;simp only at R S C k;refine BE (rX c6 rfl a8 ?_);refine dL 6 (c9 (pD y (eD a3 a3)) (λ_ h=>h) ?_);apply a4<;>intro f
   .have q:decide (y.at_+y.n<c.at_)=true:=f;have e:kJ ⟨c,d,a⟩ y=some ⟨c,d,a++[y]⟩:=by simp only[kJ,q,dZ]
    rw[e]at j;refine Or.inl (a4 ⟨rfl,by simp;omega⟩ (a4 rfl (.inl ⟨rfl,(i+1,⟨c,d,a++[y]⟩,v+1),⟨⟨⟨j,m _ e⟩,by have:=o _ e;simp only at this ⊢;omega⟩,rfl⟩,?_⟩)));exact g9 (ce rfl (ce rfl (ce rfl (ce rfl (ce (Kx 1 (v+1) a y) rfl))))) rfl rfl
   .have q:decide (y.at_+y.n<c.at_)=false:=f;refine dL 6 (c9 (pD c (eD a3 a3)) (λ_ h=>h) ?_);apply a4<;>intro f
    .have r:decide (y.at_>c.at_+c.n)=true:=f;have e:kJ ⟨c,d,a⟩ y=some ⟨c,true,(Gv.mk c d a).fin++[y]⟩:=by simp only[kJ,q,r,dZ,eQ]
     rw[e]at j;have u:=o _ e;have z:=m _ e;apply a4<;>intro f
     .have p:d=false:=b8 f
      subst p;refine Or.inl (a4 ⟨rfl,by simp;omega⟩ (Or.inl (a4 ⟨rfl,by simp;omega⟩ (a4 rfl (.inl ⟨rfl,(i+1,⟨c,true,(Gv.mk c false a).fin++[y]⟩,v+1+1),⟨⟨⟨j,z⟩,by simp only at u ⊢;omega⟩,rfl⟩,?_⟩)))));have L:SV.ow 1 (v+1+1) ((fX a).length+[dR c].length+[dR y].length) fi (fE ((fX a).length+[dR c].length) (fE (fX a).length (c7 (fX a)) (c7 [dR c])) (c7 [dR y]))=.ow 1 (v+1+1) (fX (a++[c]++[y])).length fi (c7 (fX (a++[c]++[y]))):=by rw[rO,show(fX a).length+[dR c].length=(fX (a++[c])).length by simp,show fX a++[dR c]=fX (a++[c]) by simp];exact Kx 1 (v+1+1) (a++[c]) y
      exact g9 (ce rfl (ce rfl (ce rfl (ce rfl (ce L rfl))))) rfl rfl
     .have p:d=true:=b8 f
      subst p;refine Or.inl (a4 ⟨rfl,by simp;omega⟩ (a4 rfl (.inl ⟨rfl,(i+1,⟨c,true,(Gv.mk c true a).fin++[y]⟩,v+1),⟨⟨⟨j,z⟩,by simp only at u ⊢;omega⟩,rfl⟩,?_⟩)));exact g9 (ce rfl (ce rfl (ce rfl (ce rfl (ce (Kx 1 (v+1) a y) rfl))))) rfl rfl
    .have r:decide (y.at_>c.at_+c.n)=false:=f;refine dL 6 (c9 (pD y (eD a3 a3)) (λ_ h=>h) ?_);apply a4<;>intro f
     .have E:(y.at_+y.n==c.at_)=true:=f;have e:kJ ⟨c,d,a⟩ y=some ⟨⟨y.at_,y.n+c.n⟩,d,a⟩:=by simp only[kJ,q,r,E,dZ,eQ]
      rw[e]at j;exact b2 (x:=y.n+c.n) (a4 rfl (.inl ⟨rfl,(i+1,⟨⟨y.at_,y.n+c.n⟩,d,a⟩,v),⟨⟨⟨j,m _ e⟩,by simp only;omega⟩,rfl⟩,rfl⟩))
     .have E:(y.at_+y.n==c.at_)=false:=f;refine dL 6 (c9 (pD c (eD a3 a3)) (λ_ h=>h) ?_);apply a4<;>intro f
      .have F:(y.at_==c.at_+c.n)=true:=f;have e:kJ ⟨c,d,a⟩ y=some ⟨⟨c.at_,c.n+y.n⟩,d,a⟩:=by simp only[kJ,q,r,E,F,dZ,eQ]
       rw[e]at j;exact b2 (x:=c.n+y.n) (a4 rfl (.inl ⟨rfl,(i+1,⟨⟨c.at_,c.n+y.n⟩,d,a⟩,v),⟨⟨⟨j,m _ e⟩,by simp only;omega⟩,rfl⟩,rfl⟩))
      .have F:(y.at_==c.at_+c.n)=false:=f;have e:kJ ⟨c,d,a⟩ y=none:=by simp only[kJ,q,r,E,F,eQ]
       rw[e]at j;refine a4 rfl (.inr ⟨rfl,?_⟩);refine a4 rfl (a4 ⟨_,rfl,?_⟩ rfl);rw[o7,w,j];exact vQ λO J x h=>Fk l O J x h
  .rintro⟨i,g,v⟩ ⟨⟨j,t⟩,k⟩ n;simp only at j t k n;subst n;rw[pU]at j;have e:o7 l x=some g.fin:=by rw[o7,w,j];rfl
   obtain⟨c,d,a⟩:=g;simp only at k;apply a4<;>intro f
   .have p:d=false:=b8 f
    subst p;refine Or.inl (a4 ⟨rfl,by simp;omega⟩ (b7 ?_));rw[e];show T2 (.d (.H (.X ((fX a).length+[dR c].length) fi (fE (fX a).length (c7 (fX a)) (c7 [dR c]))) .un)) (B true)=T2 (.d (n8 (a++[c]))) (B true);rw[rO,show fX a++[dR c]=fX (a++[c]) by simp,show(fX a).length+[dR c].length=(fX (a++[c])).length by simp];rfl
   .have p:d=true:=b8 f
    subst p;refine b7 ?_;rw[e];rfl
def OG(a b:Rn):zX a6 74 (dR a) (dR b) (a.at_==b.at_&&a.n==b.n):=by
 intro O J x y X Y w k i j;obtain⟨l,c,rfl⟩:=i.1 rfl;obtain⟨m,e,rfl⟩:=j.1 rfl;obtain⟨_,_,rfl,⟨rfl,_⟩,_,_,rfl,⟨rfl,_⟩,rfl⟩:=c;obtain⟨_,_,rfl,⟨rfl,_⟩,_,_,rfl,⟨rfl,_⟩,rfl⟩:=e;refine⟨?_,?_⟩
 .have g:a6.eqGuardType a6.depth 74=false:=ey
  unfold eqGuard;cases k<;>simp[g]
 .have h:a6.stoodInHeld 74=false:=ey
  have f:∀w,(isAgg 3).run a6 w=.ok false w:=λw=>ey
  unfold Op.equal Op.maxDepth Op.equalIn;simp only[jt,run_underlying underlying74,lQ,run_program,h];simp[part,f,OF (d:=9998) underlying3];by_cases c:a.at_=b.at_<;>by_cases e:a.n=b.n<;>simp[c,e]
def mf(r x:Rn):Bool:=(x.at_==r.at_&&x.n==r.n)||(decide (x.at_>=r.at_)&&decide (x.at_+x.n<=r.at_+r.n))
def Pw(r x:Rn)(a:dx (r.at_+r.n))(b:dx (x.at_+x.n)):c5 a6 233 [.d (dR r),.d (dR x)] (B (mf r x)):=by
 refine dq func233 ?_;refine dL 18 (DO (OG x r) (λ_ h=>h) ?_);exact c9 (pD x b) (λ_ h _ _=>h) (c9 (pD r a) (λ_ h _ _=>h) b7)
def ly(p:Rn->Bool):List Rn->Nat->Int
 |[],_=> -1
 |y::l,i=>bif p y then i else ly p l (i+1)
def L9{m:MS}(q:l.length<=2147483648)(h:∀y∈l,b6 a6 k [.d (dR y),.B a []] m λo U=>o=.ret (B (p y))/\U=m):b6 a6 252 [.d (RS l),.fn (.func k) (.H (.B a []) (.d .un))] m λo U=>o=.ret (I (ly p l 0))/\U=m:=by
 refine ev func252 ?_;refine b2 (x:=(l.length:Int)) (wu c6 (λi=>i<=l.length/\ly p l 0=ly p (l.drop i) i) (λi=>l.length - i) (λi=>[(8,I i)]) (λ_=>m) 0 ⟨dG _,rfl⟩ ⟨rfl,trivial⟩ rfl (λi=>⟨a9 _,a9 _,a9 _⟩) ?_);rintro i ⟨j,c⟩;apply a4<;>intro g
 .have b:i<l.length:=eZ g
  have f:l[i]?=some (l.getD i c8):=by rw[eu,ed b];rfl
  have e:l.getD i c8∈l:=oU f;rw[sl f]at c;simp only[ly]at c;refine fS (i:=i) (n:=l.length) (mD (h _ e) ?_);apply a4<;>intro d
  .have d:p (l.getD i c8)=true:=d;rw[d]at c;exact a4 (by rw[c];rfl) rfl
  .have d:p (l.getD i c8)=false:=d;rw[d]at c;refine b2 (x:=(i:Int)+1) ?_;conv=>whnf
   exact⟨i+1,⟨b,c⟩,a3,⟨rfl,trivial⟩,.inl rfl⟩
 .have b:i=l.length:=e9 g
  subst b;rw[pU]at c;exact a4 (by rw[c];rfl) rfl
def UE{m:MS}(c:l.length<=2147483648)(b:∀y∈l,b6 a6 k [.d (dR y),.B a []] m λo U=>o=.ret (B (p y))/\U=m):b6 a6 231 [.d (RS l),.fn (.func k) (.H (.B a []) (.d .un))] m λo U=>o=.ret (B (decide (ly p l 0>=0)))/\U=m:=by
 refine ev func231 ?_;refine mD (L9 c b) ?_;exact a4 rfl rfl
def p9(l:List Rn)(a:Int):Bool:=sA ⟨a,1⟩&&decide (ly (λy=>mf y ⟨a,1⟩) l 0>=0)
def Cq(e:∀y∈l,dw y)(g:l.length<=2147483648)(a:Int):c5 a6 189 [.d (n8 l),I a] (B (p9 l a)):=by
 refine c5.le (b:=[.d (tP l),I a]) ?_ ⟨Fl l,SV.le_refl _,trivial⟩;refine dq func189 ?_;refine bo (Jk ⟨a,1⟩ (eD (x:=(1:Int)) a8 a8)) (JX (B (decide (ly (λy=>mf y ⟨a,1⟩) l 0>=0))) (λh=>?_) ?_)
 .have f:sA ⟨a,1⟩=true:=h;have c:=xE.1 f;unfold dw at c;simp only at c;refine UE g λy i=>?_;have d:=e y i;unfold dw at d;refine fm func232 ?_;exact bo (Pw y ⟨a,1⟩ (eD a3 a3) (eD (by simp only;omega) (by simp only;omega))) (a4 rfl (a4 rfl rfl))
 exact b7
end Sx
namespace Sx
def Dk{n:Nat}{t:Ty}{g f:Nat->D}:(SV.d (.X (0+n) t (fE 0 g f))).le (.d (.X n t f)):=by
 have e:fE 0 g f=f:=by funext i;rfl
 rw[e,ld];exact SV.le_refl _
attribute [local irreducible] b6 eF fR ez eH eB eM fx dC ec dU dx
def Uy(n:Nat)(f:Nat->D)(e:n<=2147483648):c5 a6 101 [.d (.X n fi f)] (.d (.X n fi f)):=by
 refine dq func101 ?_;intro b d;apply a4<;>intro g
 .have a:n=0:=by
   rcases pt n with h|h
   .exact h
   .have c:=d h;subst c;cases g
  subst a;exact a4 rfl (a4 ⟨_,rfl,pd _ _ _ _⟩ rfl)
 .exact Or.inl (a4 e (.inl (a4 rfl (a4 ⟨_,rfl,Dk⟩ rfl))))
def Ux(n:Nat)(f:Nat->D)(e:n<=2147483648):c5 a6 47 [.d (.X n .c f)] (.d (.X n .c f)):=by
 refine dq func47 ?_;intro b d;apply a4<;>intro g
 .have a:n=0:=by
   rcases pt n with h|h
   .exact h
   .have c:=d h;subst c;cases g
  subst a;exact a4 rfl (a4 ⟨_,rfl,pd _ _ _ _⟩ rfl)
 .exact Or.inl (a4 e (.inl (a4 rfl (a4 ⟨_,rfl,Dk⟩ rfl))))
def MB(l:List Rn)(a:l.length<=2147483648):c5 a6 53 [.d (n8 l)] (.d (fq fi (fX l))):=by
 refine dq func53 ?_;exact bo (Uy (fX l).length (c7 (fX l)) (by rw[dD];exact a)) b7
end Sx
namespace Sx
variable{a:List Nat}{l:List Rn}{b:List SV}{x:Operand}{ρ:Operand->Option SV}{v':SV}{tb:TT}{T:TypeId}
def Rl{id k:Nat}{v:SV}(c:ρ x=some (.B id a))(d:kI b id=some v)(e:v.B0 a=some v')(f:u6 tb T k v'.shape=true):pv tb b ρ (.fieldAddr T x k)=some (.B id (a++[k])):=by simp only[pv,c,d,e,f]
def Rj{id:Nat}{v:SV}{i:TI}(c:ρ x=some (.B id a))(d:kI b id=some v)(g:v.B0 a=some v')(e:tb.get T=some i)(f:od v'.shape v'.agg i=true):pv tb b ρ (.load T x)=some v':=by simp only[pv,c,d,g,e,f]
attribute [local irreducible] b6 eF fR ez eH eB eM fx dC ec dU dx
abbrev tH(l:List Rn)(F:Int):D:=.H (RS l) (.H (.z .i64 F) .un)
def dK:List Rn->Int
 |[]=>0
 |y::l=>y.n+dK l
def zq:∀(l m:List Rn),dK (l++m)=dK l+dK m
 |[],m=>by simp[dK]
 |y::l,m=>by simp only[r7,dK,zq l m];omega
def EG{i:Nat}(a:i<l.length):dK (l.take (i+1))=dK (l.take i)+(l.getD i c8).n:=by rw[js,zq,ed a,eu,ed a];simp[dK]
def sF(h:∀y∈l,dw y):0<=dK l/\dK l<=64*l.length:=by
 induction l with
 |nil=>simp[dK]
 |cons y l e=>
  have f:=e λz d=>h z (by simp[d]);obtain⟨a,b,c⟩:=h y eA;simp only[dK,jV];omega
def NN{F:Int}(O:∀y∈l,dw y)(hn:l.length<=1000000){ps:List Nat}{e d:Code}{N:Nat}{V:List Ent}{σ:Type}(c:σ->List SV)(b:σ->Nat)(i:σ->Prop)(a E:Nat)(f:σ)(L:∀s,kI (c s) a=some (.d (tH l F)))(q:∀s,(c s).length=E/\eV E 0 1 (c s)=true)(w:i f)(o:b f=0){K:Out->MS->Prop}(t:gV E 0 1 [.loop ps e d N V .ready]=true)(j:∀s,i s->b s<l.length->fx a6 0 ps e d N V [I (dK (l.take (b s))*32),.d (dR (l.getD (b s) c8))] ⟨c s++[.d (dR (l.getD (b s) c8))],[],[.loop ps e d N V .ready]⟩ λv U=>
  (v=B true/\∃W,(i W/\b W=b s+1)/\U=⟨c W++[.d (dR (l.getD (b s) c8))],[],[.loop ps e d N V .ready]⟩)\/(v=B false/\K (.ret (.tu (.d .un))) U))(S:∀s,i s->b s=l.length->K (.ret (.tu (.d .un))) ⟨c s,[],[.loop ps e d N V .ready]⟩):
 b6 a6 171 [.ob (.yl 0),.B a []] ⟨c f,[],[.loop ps e d N V .ready]⟩ K:=by
 refine ev func171 ?_;conv=>whnf
 have p:∀ρ:Operand->Option SV,ρ (.tmp 1)=some (.B a [])->pv ff (c f) ρ (.fieldAddr 90 (.tmp 1) 0)=some (.B a ([]++[0])):=λρ h=>Rl h (L f) rfl rfl;rw[p];rotate_left
 .rfl
 conv=>whnf
 have Q:∀ρ:Operand->Option SV,ρ (.tmp 6)=some (.B a ([]++[0]))->pv ff (c f) ρ (.load 88 (.tmp 6))=some (.d (RS l)):=λρ h=>Rj h (L f) rfl rfl rfl;rw[Q];rotate_left
 .rfl
 refine b2 (x:=(l.length:Int)) (dX c6 (λs:σ=>i s/\b s<=l.length) (λs=>l.length - b s) (λs=>[(9,I (b s)),(3,I (dK (l.take (b s))*32))]) (λs=>⟨c s,[],[.loop ps e d N V .ready]⟩) f ⟨w,a3⟩ ⟨by show some (I (0:Int))=some (I (b f:Int));rw[o];rfl,by show some (I (0:Int))=some (I (dK (l.take (b f))*32));rw[o];rfl,trivial⟩ rfl ?_ ?_)
 .intro s;obtain⟨p,_⟩:=q s;obtain⟨J,_⟩:=q f;exact⟨by show(c f).length<=(c s).length;omega,a9 _,a9 _⟩
 rintro s ⟨M,hp⟩;apply a4<;>intro k
 .have g:b s<l.length:=eZ k
  have z:=EG g;have Z:=sF (l:=l.take (b s)) λy A=>O y (sV A);have Y:(l.take (b s)).length<=1000000:=by rw[kO];omega
  have A:dw (l.getD (b s) c8):=O _ (by rw[eu,ed g];simp);obtain⟨y1,y2,y3⟩:=A;refine a4 ⟨(a3:(0:Int)<=(b s:Int)),(a3:(b s:Int)<(l.length:Int))⟩ ?_;conv=>whnf
  rw[DY (c s) tm.zero.sv];conv=>whnf
  have C:∀ρ:Operand->Option SV,ρ (.tmp 5)=some (.B (c s).length [])->pv ff (oJ (c s++[tm.zero.sv]) (c s).length ((SV.d (rF l (b s:Int).toNat)).C4 tm.zero.sv)) ρ (.load 74 (.tmp 5))=some (.d (dR (l.getD (b s) c8))):=λρ p=>Bv p (O8 _ _ _) rfl rfl;rw[C];rotate_left
  .rfl
  conv=>whnf
  rw[KF (c s) tm.zero.sv ((SV.d (rF l (b s:Int).toNat)).C4 tm.zero.sv)];refine zC (j s M g) ?_;rintro _ _ (⟨rfl,W,⟨u,n⟩,rfl⟩|⟨rfl,T⟩)
  .refine a4 (λk=>b3 k eA) λ_=>?_;conv=>whnf
   obtain⟨G,P⟩:=q W;have r:(c s).length=(c W).length:=by rw[G,(q s).1]
   have m:kI (c W++[.d (dR (l.getD (b s) c8))]) (c s).length=some (.d (dR (l.getD (b s) c8))):=by rw[r];exact DY _ _
   have J:∀ρ:Operand->Option SV,ρ (.tmp 5)=some (.B (c s).length [])->pv ff (c W++[.d (dR (l.getD (b s) c8))]) ρ (.fieldAddr 74 (.tmp 5) 1)=some (.B (c s).length ([]++[1])):=λρ h=>Rl h m rfl rfl;rw[J];rotate_left
   .rfl
   conv=>whnf
   have R:∀ρ:Operand->Option SV,ρ (.tmp 19)=some (.B (c s).length ([]++[1]))->pv ff (c W++[.d (dR (l.getD (b s) c8))]) ρ (.load 3 (.tmp 19))=some (I (l.getD (b s) c8).n):=λρ h=>Rj h m rfl rfl rfl;rw[R];rotate_left
   .rfl
   refine b2 (x:=(l.getD (b s) c8).n*32) (b2 (x:=dK (l.take (b s))*32+(l.getD (b s) c8).n*32) (b2 (x:=(b s:Int)+1) ?_));conv=>whnf
   refine⟨W,⟨u,a3⟩,a3,⟨?_,?_,trivial⟩,⟨?_,?_⟩,rfl⟩
   .show some (I ((b s:Int)+1))=some (I (b W:Int));rw[n];rfl
   .show some (I (dK (l.take (b s))*32+(l.getD (b s) c8).n*32))=some (I (dK (l.take (b W))*32));rw[n,z,Int.add_mul]
   .show(⟨(c W++[_]).take (c W).length,[],[_]⟩:MS)=⟨c W,[],[_]⟩;rw[S1 rfl]
   .show(eV (c W).length 0 1 (c W)&&gV (c W).length 0 1 [.loop ps e d N V .ready])=true;rw[G,P];exact t
  .refine a4 (λ_=>?_) λk=>b3 k eA;exact T
 .have g:b s=l.length:=e9 k
  exact S s M g
def HY(l:List Rn)(F:Int):(SV.d (rA l F)).le (.d (tH l F)):=λO J x h=>by refine⟨λf=>?_,ef⟩;obtain⟨e,⟨a,b,rfl,c,d⟩,rfl⟩:=h.1 rfl;exact⟨_,⟨a,b,rfl,Sr c,d⟩,rfl⟩
def Mz(c:∀y∈l,dw y)(f:l.length<=1000000)(F:Int):c5 a6 319 [.d (tH l F)] (I (dK l)):=by
 refine dq func319 ?_;refine ev func91 ?_;refine rS rfl rfl ?_;refine NN c f (σ:=Nat) (λi=>[.d (tH l F),I (dK (l.take i)),.d (tH l F)]) id (λi=>i<=l.length) 2 3 0 (λ_=>rfl) (λ_=>⟨rfl,rfl⟩) (dG _) rfl rfl ?_ ?_
 .intro i _ a;have a:i<l.length:=a;have d:=EG a;have g:=sF (l:=l.take i) λy h=>c y (sV h);have e:(l.take i).length<=1000000:=by rw[kO];omega
  obtain⟨j,k,m⟩:dw (l.getD i c8):=c _ (by rw[eu,ed a];simp);refine BE (rX c6 rfl a8 ?_);refine b2 (x:=dK (l.take i)+(l.getD i c8).n) (a4 rfl (.inl ⟨rfl,i+1,⟨a,rfl⟩,?_⟩));exact g9 (ce rfl (ce (by rw[d];rfl) rfl)) rfl rfl
 .intro i _ b;have b:i=l.length:=b;subst b;refine b7 ?_;rw[gv];rfl
def GJ(a:∀y∈l,dw y)(b:l.length<=1000000)(F:Int):c5 a6 319 [.d (rA l F)] (I (dK l)):=(Mz a b F).le ⟨HY l F,trivial⟩
end Sx
end Go.Proofs.YtfbhkfhbnkncoaaGreatDoor
