import Derived.Test.YtfbhkfhbnkncoaaGreatDoorV35
set_option linter.all false
set_option maxRecDepth 100000
set_option maxHeartbeats 4000000
namespace Go.Proofs.YtfbhkfhbnkncoaaGreatDoor
open Go.RowKit Tryz
open Tryz renaming prog→a6
namespace Sx
attribute [local irreducible] b6 eF fR ez eH eB eM fx dC ec dU dx
def rQ(s:St)(c:Call)(i:Nat):List Int:=(List.range i).map λi:Nat=>(tp (b1 s.t c.r).rs (c.a+(i:Int))).getD 0
def zbC(s:St)(c:Call)(i:Nat):(zL (rQ s c i)).length=i:=by unfold rQ;simp
def zbD(s:St)(c:Call)(i:Nat):zL (rQ s c i)++[D.z .i64 ((tp (b1 s.t c.r).rs (c.a+(i:Int))).getD 0)]=zL (rQ s c (i+1)):=by unfold rQ;rw[mC];simp only[je,oT,Gu]
def Vr{s:St}{d:Int->Nat}(G:StOk s d){c:Call}(p:di c.a)(q:di c.b):c5 a6 239 [.d (fw s),.d (iC c)] (T2 (.d (fq .c (zL (jS s c)))) (I (oF s c))):=by
 have m:=pF G.t c.r;have y:=Se m;have z:=wq m.ok;have A:=m.pg;have C:=m.q1;have K:=p.1;have M:=p.2;have t:=q.1;have S:=q.2;have nil:∀e:Int,oF s c=e->e≠0->(T2 (sD .c (c7 [])) (I e)).le (T2 (.d (fq .c (zL (jS s c)))) (I (oF s c))):=λe r F=>by
  have:jS s c=[]:=by unfold jS;rw[r,fc.2 F];rfl
  rw[this,r];exact vQ λO J x h=>pd _ _ _ _ O J x h
 refine dq func239 ?_;conv=>whnf
 refine bo (uK s.t c.r) ?_;conv=>whnf
 apply a4<;>intro b
 .have b:((bif bk s.t.b c.r then(0:Int)else 4) != 0)=true:=b;have g:bk s.t.b c.r=false:=by
   cases k:bk s.t.b c.r with
   |false=>rfl
   |true=>rw[k]at b;cases b
  have e:oF s c=4:=by unfold oF;rw[g];rfl
  conv=>whnf
  rw[g];exact⟨rfl,ub (nil 4 e a8)⟩
 .have b:((bif bk s.t.b c.r then(0:Int)else 4) != 0)=false:=b;have g:bk s.t.b c.r=true:=by
   cases k:bk s.t.b c.r with
   |true=>rfl
   |false=>rw[k]at b;cases b
  conv=>whnf
  apply a4<;>intro a
  .have a:((((c.C != 3)&&(c.C != 4))||decide (c.b<1))||decide (c.b>8))=true:=a;have e:oF s c=2:=by unfold oF;rw[g,<-Gj,a];rfl
   conv=>whnf
   exact⟨rfl,ub (nil 2 e a8)⟩
  .have a:((((c.C != 3)&&(c.C != 4))||decide (c.b<1))||decide (c.b>8))=false:=a;have E:¬c.b<1/\¬c.b>8:=by simp only[gX,kq]at a;exact⟨a.1.2,a.2⟩
   conv=>whnf
   refine b2 (x:=(b1 s.t c.r).len - c.b) ?_;conv=>whnf
   apply a4<;>intro f
   .have f:decide (c.a>(b1 s.t c.r).len - c.b)=true:=f;have e:oF s c=9:=by unfold oF;rw[g,<-Gj,a,f];rfl
    conv=>whnf
    exact⟨rfl,ub (nil 9 e a8)⟩
   .have f:decide (c.a>(b1 s.t c.r).len - c.b)=false:=f;have N:¬c.a>(b1 s.t c.r).len - c.b:=lK f;have e:oF s c=0:=by unfold oF;rw[g,<-Gj,a,f];rfl
    have v:jS s c=rQ s c c.b.toNat:=by unfold jS;rw[e];rfl
    conv=>whnf
    refine oA 8 .c (c7 []) rfl ?_;refine dX c6 (λi:Nat=>(i:Int)<=c.b) (λi=>8 - i) (λi=>[(59,I i),(8,gx 1 i .c (zL (rQ s c i)))]) (λi=>⟨[.d (fw s),.d (iC c),.d (lU (b1 s.t c.r))],[i],[]⟩) 0 t ⟨rfl,rfl,trivial⟩ rfl (λi=>⟨a9 _,a9 _,a9 _⟩) ?_;intro i P;have o:=zbC s c i;conv=>whnf
    apply a4<;>intro k
    .have n:(i:Int)<c.b:=b8 k
     conv=>whnf
     refine b2 (x:=c.a+(i:Int)) ?_;conv=>whnf
     refine bo (MA (l:=(b1 s.t c.r).rs) m.ok a3 (b1 s.t c.r).len (c.a+(i:Int)) a3) ?_;conv=>whnf
     refine Or.inl ?_;conv=>whnf
     refine⟨⟨rfl,(a3:(zL (rQ s c i)).length+1<=2147483648)⟩,?_⟩;conv=>whnf
     refine b2 (x:=(i:Int)+1) ?_;conv=>whnf
     refine⟨i+1,a3,a3,⟨rfl,?_,trivial⟩,⟨rfl,rfl⟩,rfl⟩;refine dE some (show SV.ow 1 (i+1) ((zL (rQ s c i)).length+[D.z .i64 ((tp (b1 s.t c.r).rs (c.a+(i:Int))).getD 0)].length) .c (fE (zL (rQ s c i)).length (c7 (zL (rQ s c i))) (c7 [D.z .i64 ((tp (b1 s.t c.r).rs (c.a+(i:Int))).getD 0)]))=gx 1 (i+1) .c (zL (rQ s c (i+1))) from ?_);rw[kA,zbD]
    .have n:(i:Int)=c.b:=by
      have:¬((i:Int)<c.b):=b8 k
      omega
     have w:c.b.toNat=i:=a3
     rw[v,e,w];generalize zL (rQ s c i)=L at o ⊢;conv=>whnf
     refine ev func262 ?_;conv=>whnf
     refine b2 (x:=(L.length:Int)) ?_;conv=>whnf
     refine b2 (x:=(L.length:Int)) ?_;conv=>whnf
     refine⟨⟨i6 0,(a3:(0:Int)<=(L.length:Int)),i6 _,rfl⟩,?_⟩;conv=>whnf
     have u:jT (c7 L) 0=c7 L:=by funext j;simp[jT]
     refine⟨rfl,ub ?_⟩;show SV.le (T2 (.ow 0 0 L.length .c (jT (c7 L) 0)) (I 0)) _;rw[u];exact vQ λO J x h=>vq _ _ _ _ _ O J x h
end Sx
namespace Sx
variable{t:Nat}
def yZ(c:Rt)(r:Rs)(e:Bool):SV:=.H (.B 2 []) (.d (.H (md c) (.H (fu r) (.H (.I e) .un))))
abbrev M7(Z:SV)(S Q F:D)(x:Cr)(c:Rt)(r:Rs)(e:Bool)(a b:Nat):MS:=⟨[Z,.d (dT x.p),eO x a,.d S,.d Q,.d F,yZ c r e],[a,b],[]⟩
structure WOk (x:Cr) (c:Rt) (t:Nat):Prop where
 s:SInv x.s
 K:FreeOk x.p.K
 n:x.p.n<=64
 q:x.q.length<=1000
 C5:gE x.m
 ct:CtOk t c
 ht:t<8
 al:x.s.alive t=true
 rn:ko c.run
 rx:RtX c
def xq{l:List Rn}(h:FreeOk l):l.length<=64:=by
 have f:=EB (l:=dm l) (m:=mH 64) (y7 h) λp d=>by obtain⟨y,e,d⟩:=vi.1 d;have:=h.ok y e;have:=iS.1 d;unfold dw at*;exact vh.2 a3
 have g:=Bs h.ok;have i:=wq h.ok;have j:(mH 64).length=64:=a8
 omega
def zaX(s:St)(M:Int)(c:Call):0<=dv s M c/\dv s M c<=4:=by
 have z:(0:Int)<=0/\(0:Int)<=4:=a8
 have d:∀n,jX s M c=.ok n->0<=n/\n<=4:=λn h=>by
  unfold jX at h;obtain⟨_,h⟩:=jd h;obtain⟨_,h⟩:=jd h;obtain⟨_,h⟩:=jd h;cases f:jv (b1 s.t c.r).rs (b1 s.t c.r).len (dn c.a 129) (dn c.b 9)with
  |true=>
   rw[f]at h;cases g:lu s c (b1 s.t c.r)with
   |ok y=>
    rw[g]at h;have h:(Except.ok 0:Except Int Int)=.ok n:=h;cases h;exact z
   |error e=>rw[g]at h;cases h
  |false=>
   rw[f]at h;obtain⟨_,h⟩:=jd (show dV _ _=_ from h);cases h;exact zaY _ _
 unfold dv;cases(c.C==2)with
 |false=>exact z
 |true=>
  cases i:jX s M c with
  |ok n=>exact d n i
  |error e=>exact z
def WOk.call{x:Cr}{c:Rt}(h:WOk x c t):CallOk x.s c.task c.c:=h.ct.call h.ht x.s
def WOk.alive{x:Cr}{c:Rt}(h:WOk x c t):x.s.alive c.task.toNat=true:=by rw[h.ct.t,nE];exact h.al
def o8{Z:SV}(g:Z.ids 3 2 0=true){l:List SV}{n:Nat}(e:3<=n)(d:eV n 2 0 l=true){v:SV}(f:v.ids n 2 0=true):(v.ids n 2 0&&(eV n 2 0 (Z::l)&&gV n 2 0 []))=true:=by rw[f,rI g e d];rfl
attribute [local irreducible] b6 eF fR ez eH eB eM fx dC ec dU dx
section
variable {Z:SV} {a b:Nat} {x:Cr} {c:Rt} {r0:Rs} {e0:Bool} {S Q F:D}
def w7{f:FuncId}{args:List SV}(v:Z.ids 3 2 0=true){k:Pl}{R:Out->Prop}(h:b6 a6 f args (MC Z x a b) λo m=>R o/\m=M3 Z (.d (dT k)) (eO x a) a b)(u:eV 3 2 0 args=true){e:List SV}{t2:List Nat}{j:List Ob}{K:Out->MS->Prop}(t:∀o,R o->K o ⟨Z::.d (dT k)::eO x a::e,a::b::t2,j⟩):b6 a6 f args ⟨Z::.d (dT x.p)::eO x a::e,a::b::t2,j⟩ K:=
 Nh h u ((rb v x a).all _) (λo m ⟨_,d⟩=>⟨_,_,_,_,_,d⟩) λo z y w T A ⟨s,d⟩=>by have g:=dE MS.c d;have i:=dE MS.t d;simp only[oP,px]at g i;obtain⟨l,n,p⟩:=g;obtain⟨q,r⟩:=i;rw[l,n,p,q,r];exact t o s
def y0(f:Z.ids 3 2 0=true)(l:x.q.length<=1000000)(j:gE x.m)(n:ko c.run)(r:Rs):b6 a6 234 [.B 6 [],.d (fu r)] (M7 Z S Q F x c r0 e0 a b) λo m=>o=l0/\∃T,m=M7 Z S Q F (jO x c) c r true T b:=by
 refine fm func234 ?_;refine dL 8 (Aj (a:=a) (b:=b) f (LU f c n l j) rfl (λo m ⟨_,T,h⟩=>⟨_,T,h⟩) λo q T ⟨k,p,d⟩=>?_);have e:=dE MS.c d;have g:=dE MS.t d;simp only[oP,px,FJ]at e g;obtain⟨i,e⟩:=e;subst k g;rw[i,e];conv=>whnf
 exact⟨o8 f (dF rfl) rfl rfl,rfl,T,rfl⟩
def zdG(g:Int)(l:List Int):D.X ((hL (g::l)).length - 1) .c (jT (c7 (hL (g::l))) 1)=fq .c (hL l):=by rw[KG];rfl
def yt(Z:SV)(S Q F:D)(b:Nat)(p:Sp)(o:Out)(m:MS):Prop:=o=.ret (B true)/\∃T,m=M7 Z S Q F p.x p.c p.r p.e T b
def zaF(h:Z.ids 3 2 0=true)(e:c.G=[]):b6 a6 193 [.B 6 []] (M7 Z S Q F x c r0 e0 a b) λo m=>o=.ret (B false)/\m=M7 Z S Q F x c r0 e0 a b:=by
 obtain⟨M,i,f,d,G,g⟩:=c;have e:d=[]:=e;subst e;refine fm func193 ?_;exact b2 (x:=(0:Int)) (ej (a4 (o8 h (dF rfl) rfl rfl) (a4 rfl rfl)))
def zaE(o:Z.ids 3 2 0=true)(r:gE x.m){g:Int}{l:List Int}(n:c.G=g::l)(s:l.length<=1000):b6 a6 193 [.B 6 []] (M7 Z S Q F x c nP false a b) (yt Z S Q F b (wv x c g l)):=by
 obtain⟨M,i,d,j,G,e⟩:=c;have n:j=g::l:=n;subst n;refine fm func193 ?_;refine a4 (eD (x:=((hL (g::l)).length:Int)) a3 (by rw[dD,jV];omega)) (a4 (λh=>?_) λ_=>?_)
 .have h:(((hL (g::l)).length:Int)==0)=true:=h;simp at h;exact b3 h a3
 refine a4 ⟨i6 0,(by rw[dD,jV];omega:(0:Int)<((hL (g::l)).length:Int))⟩ (bo (rm g) (fg (List.range 20) [(17,131071),(18,65536)] (c9 (VS x.m r (ny g) M) (λ_ h=>h) (fy ?_))))
 refine dL 7 ?_;apply a4<;>intro f
 .have f:th x.m (ny g) M=true:=f;refine a4 (by rw[dD,jV];omega:(0:Int)<=1/\(1:Int)<=((hL (g::l)).length:Int)) ?_;conv=>whnf
  have p:=dE (λq=>SV.H (.B 2 []) (.d (.H (.H (.z .i64 M) (.H (iC i) (.H (.I d) (.H q (.H (dR G) (.H (.z .i64 e) .un)))))) (.H (fu nP) (.H (.I false) .un))))) (zdG g l);have k:(wv x ⟨M,i,d,g::l,G,e⟩ g l)=⟨{x with m:=tA x.m (ny g) M},⟨M,i,d,l,G,e⟩,nP,false⟩:=by unfold wv;rw[f];rfl
  rw[k];refine⟨?_,rfl,a,?_⟩
  .exact o8 o (dF rfl) rfl rfl
  .exact g9 (ce rfl (ce rfl (ce rfl (ce rfl (ce rfl (ce rfl (ce p rfl))))))) rfl rfl
 .have f:th x.m (ny g) M=false:=f;conv=>whnf
  have k:(wv x ⟨M,i,d,g::l,G,e⟩ g l)=⟨{x with m:=tA x.m (ny g) M},⟨M,i,d,g::l,G,e⟩,nP,false⟩:=by unfold wv;rw[f];rfl
  rw[k];exact⟨o8 o (dF rfl) rfl rfl,rfl,a,rfl⟩
def W6(e:Z.ids 3 2 0=true)(h:decide (c.S<c.run.n)=false):b6 a6 195 [.B 6 []] (M7 Z S Q F x c r0 e0 a b) λo m=>o=.ret (B false)/\m=M7 Z S Q F x c r0 e0 a b:=by
 have f:¬c.S<c.run.n:=lK h;refine fm func195 ?_;refine dL 12 (a4 (λ_=>?_) λd=>?_)
 .exact a4 (o8 e (dF rfl) rfl rfl) (a4 rfl rfl)
 .have d:decide (c.S>=c.run.n)=false:=d;have:=lK d;omega
def W5(f:Z.ids 3 2 0=true)(g:∀y∈x.p.K,dw y)(i:x.p.K.length<=500)(k:x.p.n<=64)(l:dw c.run)(m:0<=c.S)(h:decide (c.S<c.run.n)=true):b6 a6 195 [.B 6 []] (M7 Z S Q F x c nP false a b) (yt Z S Q F b (sj x c)):=by
 have n:c.S<c.run.n:=gM h;obtain⟨p,q,r⟩:=l;refine fm func195 ?_;refine dL 12 (a4 (λd=>?_) λ_=>?_)
 .have d:decide (c.S>=c.run.n)=true:=d;have:=gM d;omega
 refine dL 19 (b2 (x:=c.run.at_+c.S) (w7 f (R:=λo=>∃e:Int,o=.ret (I e)) (VE (rb f x a) g i (c.run.at_+c.S) k) rfl λo j=>?_));obtain⟨e,rfl⟩:=j;refine b2 (x:=c.S+1) ?_;conv=>whnf
 exact⟨o8 f (dF rfl) rfl rfl,rfl,a,rfl⟩
def W0(f:Z.ids 3 2 0=true)(e:WOk x c t)(h:((dv x.s c.task c.c != 0)&&decide (c.run.n<=0))=false):b6 a6 194 [.B 6 []] (M7 Z S Q F x c r0 e0 a b) λo m=>o=.ret (B false)/\m=M7 Z S Q F x c r0 e0 a b:=by
 refine fm func194 ?_;refine dL 19 (c9 (CK e.s.F2 e.s.E9 e.call e.alive) (λ_ h=>h) (a4 (λ_=>?_) λd=>?_))
 .exact a4 (o8 f (dF rfl) rfl rfl) (a4 rfl rfl)
 .exfalso;have d:((dv x.s c.task c.c==0)||decide (c.run.n>0))=false:=d;simp only[gX,fc,kq]at d;rw[oX.2 d.1,eI a3]at h;cases h
def WZ(g:Z.ids 3 2 0=true)(f:WOk x c t)(h:((dv x.s c.task c.c != 0)&&decide (c.run.n<=0))=true):b6 a6 194 [.B 6 []] (M7 Z S Q F x c nP false a b) (yt Z S Q F b (lS x c (dv x.s c.task c.c))):=by
 have i:dx (dv x.s c.task c.c):=by have:=zaX x.s c.task c.c;exact eD a3 a3
 refine fm func194 ?_;refine dL 19 (c9 (CK f.s.F2 f.s.E9 f.call f.alive) (λ_ h=>h) (a4 (λd=>?_) λ_=>?_))
 .exfalso;have d:((dv x.s c.task c.c==0)||decide (c.run.n>0))=true:=d;simp only[dH,oX,fY]at h;rw[fc.2 h.1,fe a3]at d;cases d
 refine w7 g (R:=λo=>o=.ret (T2 (I (s9 x.p (dv x.s c.task c.c))) (I (kP x.p (dv x.s c.task c.c))))) (Ut (rb g x a) f.K.ok (eY (xq f.K) a8) i) rfl λo j=>?_;subst j;apply a4<;>intro d
 .have d:(kP x.p (dv x.s c.task c.c) != 0)=true:=d;have e:pZ x.p (dv x.s c.task c.c)=x.p:=by unfold pZ;rw[fc.2 (oX.1 d)];rfl
  rw[e];refine fa (y0 g (eY f.q a8) f.C5 f.rn ⟨kP x.p (dv x.s c.task c.c),0,0⟩) λo m h=>?_;obtain⟨rfl,T,rfl⟩:=h;refine a4 (o8 g (dF rfl) rfl rfl) ?_;rw[lS,d];exact⟨rfl,T,rfl⟩
 .have d:(kP x.p (dv x.s c.task c.c) != 0)=false:=d;refine a4 (o8 g (dF rfl) rfl rfl) ?_;rw[lS,d];exact⟨rfl,a,rfl⟩
def WW(g:Z.ids 3 2 0=true)(h:c.E4=true):b6 a6 192 [.B 6 []] (M7 Z S Q F x c r0 e0 a b) λo m=>o=.ret (B false)/\m=M7 Z S Q F x c r0 e0 a b:=by
 obtain⟨M,i,d,e,G,f⟩:=c;have h:d=true:=h;subst h;refine fm func192 ?_;exact ej (a4 (o8 g (dF rfl) rfl rfl) (a4 rfl rfl))
def WU(i:Z.ids 3 2 0=true)(d:WOk x c t)(h:c.E4=false)(n:c5 a6 235 [.d (fw x.s),.d (iC c.c)] (HS (iH x.s c.c))):b6 a6 192 [.B 6 []] (M7 Z S Q F x c nP false a b) (yt Z S Q F b (ou x c)):=by
 obtain⟨M,g,j,k,G,l⟩:=c;have h:j=false:=h;subst h;refine fm func192 ?_;refine b0 (dL 18 (c9 (VU d.s d.call d.alive) (λ_ h=>h) ?_));apply a4<;>intro e
 .have e:vD x.s M g=true:=e;refine a4 (o8 i (dF rfl) rfl rfl) ?_;rw[ou,e];exact⟨rfl,a,rfl⟩
 .have e:vD x.s M g=false:=e;refine dL 19 (c9 (LQ d.s d.call d.alive) (λ_ h=>h) ?_);apply a4<;>intro f
  .have f:(nk x.s M g != 0)=true:=f;refine fa (y0 i (eY d.q a8) d.C5 d.rn ⟨nk x.s M g,0,0⟩) λo m h=>?_;obtain⟨rfl,T,rfl⟩:=h;refine a4 (o8 i (dF rfl) rfl rfl) ?_;rw[ou,e,f];exact⟨rfl,T,rfl⟩
  .have f:(nk x.s M g != 0)=false:=f;refine fg (List.range 23) [(18,2),(22,0)] (c9 n (λ_ h=>h) (a4 (o8 i (dF rfl) rfl rfl) ?_));rw[ou,e,f];exact⟨rfl,a,rfl⟩
end
end Sx
end Go.Proofs.YtfbhkfhbnkncoaaGreatDoor
