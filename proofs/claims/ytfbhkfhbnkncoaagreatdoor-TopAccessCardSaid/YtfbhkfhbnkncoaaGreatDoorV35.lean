import Derived.Test.YtfbhkfhbnkncoaaGreatDoorV34
set_option linter.all false
set_option maxRecDepth 100000
set_option maxHeartbeats 8000000
namespace Go.Proofs.YtfbhkfhbnkncoaaGreatDoor
open Go.RowKit Tryz
open Tryz renaming prog→a6
namespace Sx
abbrev kB:SV:=.fn (.func 253) (.H (.B 0 []) (.H (.B 1 []) (.d .un)))
abbrev qj:SV:=.fn (.func 255) (.H (.B 0 []) (.H (.B 1 []) (.d .un)))
abbrev Fg:SV:=.fn (.func 256) (.H (.B 3 []) (.H (.B 0 []) (.H (.B 1 []) (.d .un))))
abbrev Fh:SV:=.fn (.func 258) (.H (.B 0 []) (.H (.B 1 []) (.d .un)))
abbrev Fi:SV:=.fn (.func 259) (.H (.B 1 []) (.H (.B 2 []) (.H (.B 3 []) (.d .un))))
def zcZ:List (Int×SV):=[(1,kB),(2,kB),(3,kB),(4,kB),(5,kB),(10,kB),(12,kB),(18,kB),(19,kB),(6,qj),(7,qj),(9,qj),(11,qj),(8,Fg),(13,Fh),(14,Fi)]
abbrev vw(s:St)(c:Call):MS:=⟨[.d (fw s),.d (iC c),kB,qj],[],[.map .u8 zcZ]⟩
attribute [local irreducible] b6 eF fR ez eH eB eM fx dC ec dU dx
def PH(l:List Int)(v:Int):decide (oz (λi=>l.getD i 0) v l.length>=0)=l.contains v:=by
 have a:∀n i,i+n=l.length->decide (n9 (λi=>l.getD i 0) v i n>=0)=(l.drop i).contains v:=by
  intro n;induction n with
  |zero=>intro i c;rw[List.drop_of_length_le a3];rfl
  |succ n d=>
   intro i c;rw[yk (a3:i<l.length)];show decide ((bif v==l.getD i 0 then(i:Int)else n9 (λi=>l.getD i 0) v (i+1) n)>=0)=_;have b:l.getD i 0=l[i]'a3:=by rw[eu,ed a3];rfl
   rw[b,List.contains_cons];cases e:(v==l[i]'a3)with
   |true=>simp
   |false=>rw[tE,<-d (i+1) a3];rfl
 exact a l.length 0 a3
def VK{s:St}(G:SInv s){c:Call}(p:di c.r)(Z:di c.s):c5 a6 235 [.d (fw s),.d (iC c)] (HS (iH s c)):=by
 obtain⟨d,f⟩:=G.t;have g:iH s c=qQ s c.r->Ok a6 f235.ntmps false (gW 5 (gB f235)) (gy [(8,kB),(9,.d (.I true))] []) (vw s c) (gS ff 0 0 0 f235.results.toList λo m=>(∃u,o=.ret u/\u.le (HS (iH s c)))/\m=⟨[],[],[]⟩):=λe=>by
  refine eJ c6 (b0 (ev func253 ?_));exact bo (JI s c.r) (b7 (by rw[e];rfl))
 have k:iH s c=dJ s.t c.r->Ok a6 f235.ntmps false (gW 5 (gB f235)) (gy [(8,qj),(9,.d (.I true))] []) (vw s c) (gS ff 0 0 0 f235.results.toList λo m=>(∃u,o=.ret u/\u.le (HS (iH s c)))/\m=⟨[],[],[]⟩):=λe=>by
  refine eJ c6 (b0 (ev func255 ?_));exact bo (yu f.ok f.rk p) (b7 (by rw[e];rfl))
 have K:c.C=8->Ok a6 f235.ntmps false (gW 5 (gB f235)) (gy [(8,Fg),(9,.d (.I true))] []) (vw s c) (gS ff 0 0 0 f235.results.toList λo m=>(∃u,o=.ret u/\u.le (HS (iH s c)))/\m=⟨[],[],[]⟩):=λe=>by
  refine eJ c6 (b0 (ev func256 ?_));refine ev func255 ?_;conv=>whnf
  cases n:bk s.t.b c.r with
  |false=>
   have j:dJ s.t c.r=[]:=by rw[dJ,n];rfl
   refine bo (yu f.ok f.rk p) ?_;conv=>whnf
   rw[j];refine⟨(show dx 0 from by first|omega|(refine⟨?_,?_⟩<;>omega)|(refine eD ?_ ?_<;>omega)),?_⟩;refine c9 (jA s.t.b c.s) (λ_ h _=>h) (a4 (λ_=>?_) λh=>b3 (show true=false from h) a8);refine a4 rfl (ub ?_);rw[show iH s c=[] by unfold iH;rw[e,j];rfl];exact pd _ _ _ _
  |true=>
   have j:dJ s.t c.r=eT s.t c.r:=by rw[dJ,n];rfl
   refine VT f.ok f.rk p n _ _ λv=>?_;have T:(eT s.t c.r).length<=33:=ra f.ok f.rk (g8 n);conv=>whnf
   have hl:(hL (dJ s.t c.r)).length<=33:=by rw[j,dD];exact T
   refine⟨eD a3 a3,?_⟩;refine c9 (jA s.t.b c.s) (λ_ h _=>h) ?_;apply a4<;>intro a
   .have a:(((hL (dJ s.t c.r)).length:Int)==0||!bk s.t.b c.s)=true:=a;refine a4 rfl (ub ?_);rw[show iH s c=[] by
     unfold iH;rw[e];show(bif ((dJ s.t c.r).length==0)||!bk s.t.b c.s then _ else _)=_;have b:(((dJ s.t c.r).length==0)||!bk s.t.b c.s)=true:=by simp only[dD]at a;simpa using a
     rw[b];rfl]
    exact pd _ _ _ _
   have a:(((hL (dJ s.t c.r)).length:Int)==0||!bk s.t.b c.s)=false:=a;have q:iH s c=bif (dJ s.t c.r).contains c.s then dJ s.t c.r else dJ s.t c.r++[c.s]:=by
    unfold iH;rw[e];show(bif ((dJ s.t c.r).length==0)||!bk s.t.b c.s then _ else _)=_;have b:(((dJ s.t c.r).length==0)||!bk s.t.b c.s)=false:=by simp only[dD]at a;simpa using a
    rw[b];rfl
   refine bo ((UJ (dJ s.t c.r).length (λi=>(dJ s.t c.r).getD i 0) c.s (by rw[j];omega)).le ⟨λO J x h=>iE .c hD 0 (dJ s.t c.r) O J x (vq _ _ _ _ _ O J x h),SV.le_refl _,trivial⟩) ?_;apply a4<;>intro b
   .have b:decide (oz (λi=>(dJ s.t c.r).getD i 0) c.s (dJ s.t c.r).length>=0)=true:=b;refine b7 ?_;rw[q,<-PH,b];rfl
   have b:decide (oz (λi=>(dJ s.t c.r).getD i 0) c.s (dJ s.t c.r).length>=0)=false:=b;rw[<-PH,b]at q;refine Or.inl (a4 ⟨rfl,a3⟩ (b7 ?_));rw[q];show SV.d (.X ((hL (dJ s.t c.r)).length+[hD c.s].length) .c (fE (hL (dJ s.t c.r)).length (c7 (hL (dJ s.t c.r))) (c7 [hD c.s])))=HS (dJ s.t c.r++[c.s]);rw[rO,<-ew,<-z5,<-je]
 have M:c.C=13->Ok a6 f235.ntmps false (gW 5 (gB f235)) (gy [(8,Fh),(9,.d (.I true))] []) (vw s c) (gS ff 0 0 0 f235.results.toList λo m=>(∃u,o=.ret u/\u.le (HS (iH s c)))/\m=⟨[],[],[]⟩):=λe=>by
  refine eJ c6 (b0 (ev func258 ?_));refine bo (uQ s.k c.s G.k.ok) ?_;apply a4<;>intro a
  .refine a4 rfl (ub ?_);rw[show iH s c=[] by
    have a:((bif bk s.k.b c.s then(0:Int)else 4) != 0)=true:=a;unfold iH;rw[e];show(bif bk s.k.b c.s then _ else _)=_;cases F:bk s.k.b c.s with
    |false=>rfl
    |true=>rw[F]at a;cases a]
   exact pd _ _ _ _
  have a:((bif bk s.k.b c.s then(0:Int)else 4) != 0)=false:=a;refine bo (JI s (dr s.k c.s).D) (b7 ?_);rw[show iH s c=qQ s (dr s.k c.s).D by
   unfold iH;rw[e];show(bif bk s.k.b c.s then _ else _)=_;cases F:bk s.k.b c.s with
   |true=>rfl
   |false=>rw[F]at a;cases a]
  rfl
 have N:c.C=14->Ok a6 f235.ntmps false (gW 5 (gB f235)) (gy [(8,Fi),(9,.d (.I true))] []) (vw s c) (gS ff 0 0 0 f235.results.toList λo m=>(∃u,o=.ret u/\u.le (HS (iH s c)))/\m=⟨[],[],[]⟩):=λe=>by
  refine eJ c6 (b0 (ev func259 ?_));apply a4<;>intro a
  .have a:(c.b==1)=true:=a;refine ev func253 ?_;exact bo (JI s c.r) (b7 (by rw[show iH s c=qQ s c.r by unfold iH;rw[e,a];rfl];rfl))
  have a:(c.b==1)=false:=a;refine ev func255 ?_;exact bo (yu f.ok f.rk p) (b7 (by rw[show iH s c=dJ s.t c.r by unfold iH;rw[e,a];rfl];rfl))
 have L:iH s c=[]->Ok a6 f235.ntmps false (gW 5 (gB f235)) (gy [(8,.d .nf),(9,.d (.I false))] []) (vw s c) (gS ff 0 0 0 f235.results.toList λo m=>(∃u,o=.ret u/\u.le (HS (iH s c)))/\m=⟨[],[],[]⟩):=λe=>by
  refine eJ c6 (ej (a4 rfl (ub ?_)));rw[e];exact pd _ _ _ _
 refine zu func235 ?_;refine dB (dB (dB (dA (l:=[(2,.B 0 []),(3,.B 1 []),(5,.B 2 []),(6,.B 3 [])]) (U:=⟨[.d (fw s),.d (iC c),kB,qj],[],[]⟩) ⟨rfl,rfl,rfl,rfl,trivial⟩ rfl ?_)));refine dB (R8 (sr [(7,[],some (.ob (.mo 0))),(29,[],some (.ob (.mo 0))),(28,[],some Fi),(27,[],some Fh),(26,[],some Fg),(25,[],some qj),(24,[],some qj),(23,[],some qj),(22,[],some qj),(21,[],some kB),(20,[],some kB),(19,[],some kB),(18,[],some kB),(17,[],some kB),(16,[],some kB),(15,[],some kB),(14,[],some kB),(13,[],some kB),(12,[],some (.ob (.mo 0)))] (gy [(2,.B 0 []),(3,.B 1 []),(5,.B 2 []),(6,.B 3 [])] [])) (vw s c) (λU=>ey) ?_);refine dA (l:=[(7,.ob (.mo 0)),(3,.B 1 [])]) (U:=vw s c) ⟨rfl,rfl,trivial⟩ rfl ?_;refine dB (a4 (λh=>?_) λa=>?_)
 .exact dA (l:=[(8,kB),(9,.d (.I true))]) ⟨rfl,rfl,trivial⟩ rfl (g (by unfold iH;rw[h];rfl))
 refine a4 (λh=>?_) λb=>?_
 .exact dA (l:=[(8,kB),(9,.d (.I true))]) ⟨rfl,rfl,trivial⟩ rfl (g (by unfold iH;rw[h];rfl))
 refine a4 (λh=>?_) λV=>?_
 .exact dA (l:=[(8,kB),(9,.d (.I true))]) ⟨rfl,rfl,trivial⟩ rfl (g (by unfold iH;rw[h];rfl))
 refine a4 (λh=>?_) λW=>?_
 .exact dA (l:=[(8,kB),(9,.d (.I true))]) ⟨rfl,rfl,trivial⟩ rfl (g (by unfold iH;rw[h];rfl))
 refine a4 (λh=>?_) λY=>?_
 .exact dA (l:=[(8,kB),(9,.d (.I true))]) ⟨rfl,rfl,trivial⟩ rfl (g (by unfold iH;rw[h];rfl))
 refine a4 (λh=>?_) λr=>?_
 .exact dA (l:=[(8,kB),(9,.d (.I true))]) ⟨rfl,rfl,trivial⟩ rfl (g (by unfold iH;rw[h];rfl))
 refine a4 (λh=>?_) λw=>?_
 .exact dA (l:=[(8,kB),(9,.d (.I true))]) ⟨rfl,rfl,trivial⟩ rfl (g (by unfold iH;rw[h];rfl))
 refine a4 (λh=>?_) λC=>?_
 .exact dA (l:=[(8,kB),(9,.d (.I true))]) ⟨rfl,rfl,trivial⟩ rfl (g (by unfold iH;rw[h];rfl))
 refine a4 (λh=>?_) λE=>?_
 .exact dA (l:=[(8,kB),(9,.d (.I true))]) ⟨rfl,rfl,trivial⟩ rfl (g (by unfold iH;rw[h];rfl))
 refine a4 (λh=>?_) λP=>?_
 .exact dA (l:=[(8,qj),(9,.d (.I true))]) ⟨rfl,rfl,trivial⟩ rfl (k (by unfold iH;rw[h];rfl))
 refine a4 (λh=>?_) λQ=>?_
 .exact dA (l:=[(8,qj),(9,.d (.I true))]) ⟨rfl,rfl,trivial⟩ rfl (k (by unfold iH;rw[h];rfl))
 refine a4 (λh=>?_) λS=>?_
 .exact dA (l:=[(8,qj),(9,.d (.I true))]) ⟨rfl,rfl,trivial⟩ rfl (k (by unfold iH;rw[h];rfl))
 refine a4 (λh=>?_) λt=>?_
 .exact dA (l:=[(8,qj),(9,.d (.I true))]) ⟨rfl,rfl,trivial⟩ rfl (k (by unfold iH;rw[h];rfl))
 refine a4 (λh=>?_) λR=>?_
 .exact dA (l:=[(8,Fg),(9,.d (.I true))]) ⟨rfl,rfl,trivial⟩ rfl (K h)
 refine a4 (λh=>?_) λy=>?_
 .exact dA (l:=[(8,Fh),(9,.d (.I true))]) ⟨rfl,rfl,trivial⟩ rfl (M h)
 refine a4 (λh=>?_) λz=>?_
 .exact dA (l:=[(8,Fi),(9,.d (.I true))]) ⟨rfl,rfl,trivial⟩ rfl (N h)
 refine dA (l:=[(8,.d .nf),(9,.d (.I false))]) (U:=vw s c) ⟨rfl,rfl,trivial⟩ rfl (L ?_);have A:(decide (1<=c.C)&&decide (c.C<=5))=false:=by rw[Gi,kq,kq];omega
 unfold iH;rw[A,show(c.C==6)=false from nH P,show(c.C==7)=false from nH Q,show(c.C==9)=false from nH S,show(c.C==11)=false from nH t,show(c.C==8)=false from nH R,show(c.C==13)=false from nH y,show(c.C==14)=false from nH z,show(c.C==10)=false from nH r,show(c.C==12)=false from nH w,show(c.C==18)=false from nH C,show(c.C==19)=false from nH E];rfl
end Sx
namespace Sx
variable{x:Int}{l:List SV}{j k n:Nat}
def dT(p:Pl):D:=.H (.z .i64 p.n) (.H (n8 p.K) (.H (.ar 64 (.ar 32 .c) λi=>.ar 32 .c λj=>.z .u8 (p.V i j)) .un))
abbrev M3(Z P C:SV)(a b:Nat):MS:=⟨[Z,P,C],[a,b],[]⟩
def Nh{P:Program}{f:FuncId}{args:List SV}{Z Q C:SV}{a b:Nat}{i:List SV}{t2:List Nat}{j:List Ob}{R:Out->MS->Prop}(h:b6 P f args (M3 Z Q C a b) R)(r:eV 3 2 0 args=true)(s:eV 3 2 0 [Z,Q,C]=true)(l:∀o m,R o m->∃e d c T g,m=M3 e d c T g){K:Out->MS->Prop}(q:∀o e d c T g,R o (M3 e d c T g)->K o ⟨e::d::c::i,T::g::t2,j⟩):b6 P f args ⟨Z::Q::C::i,a::b::t2,j⟩ K:=
 fa (ry i t2 j h r (by rw[show[Z,Q,C].length=3 from rfl,show[a,b].length=2 from rfl,show([]:List Ob).length=0 from rfl,s];rfl) λo m t=>by
  obtain⟨e,d,c,T,g,rfl⟩:=l o m t;exact⟨rfl,rfl,rfl⟩) λo m ⟨U,k,n⟩=>by
  obtain⟨e,d,c,T,g,rfl⟩:=l o U k;subst n;exact q o e d c T g k
attribute [local irreducible] b6 eF fR ez eH eB eM fx dC ec dU dx
def gw{v:SV}(c:v.ids n k j=true)(d:eV n k j l=true):(v.ids n k j&&(eV n k j l&&gV n k j []))=true:=by rw[c,d];rfl
def MQ{p:Nat->Bool}:∀{n:Nat},(∀i,i<n->p i=true)->yw p n=true
 |0,_=>rfl
 |n+1,h=>by unfold yw;rw[MQ λi c=>h i a3,h n a3];rfl
def Hq{a c:Nat}(h:n<=c)(k:Nat.blt a n=true):Nat.blt a c=true:=qq (eY (dF k) h)
def xv{n k j q o l:Nat}(d:n<=q)(g:k<=o)(e:j<=l):∀v:SV,v.ids n k j=true->v.ids q o l=true
 | .d _,_| .el _,_=>rfl
 | .B _ _,h=>Hq d h
 | .fn _ c,h=>xv d g e c h
 | .ow _ _ _ _ _,h=>qq (eY (dF h) g)
 | .H a b,h=>by have h:=iZ.1 h;exact iZ.2 ⟨xv d g e a h.1,xv d g e b h.2⟩
 | .tu a,h=>xv d g e a h
 | .ob (.mr ..),h| .ob (.mq ..),h| .ob (.mp ..),h| .ob (.yl _),h| .ob (.mo _),h=>Hq e h
 | .ob (.sb ..),h=>Hq d h
 | .ob (.gl _),_| .ob .gm,_=>rfl
 | .fb _ a,h=>xv d g e a h
 | .ar m _ f,h=>MQ λi r=>xv d g e (f i) (GS h r)
def rI{Z:SV}(e:Z.ids 3 2 0=true)(d:3<=n)(c:eV n 2 0 l=true):(eV n 2 0 (Z::l)&&gV n 2 0 [])=true:=by show((Z.ids n 2 0&&eV n 2 0 l)&&true)=true;rw[xv d (a9 2) (a9 0) Z e,c];rfl
structure ZC (Z C:SV):Prop where
 z:Z.ids 3 2 0=true
 c:C.ids 3 2 0=true
def ZC.all{Z C:SV}(h:ZC Z C)(d:D):eV 3 2 0 [Z,.d d,C]=true:=by show(Z.ids 3 2 0&&(true&&(C.ids 3 2 0&&true)))=true;rw[h.z,h.c];rfl
section
variable {Z C:SV} {a b:Nat} {p:Pl}
def Mw(c:ZC Z C):b6 a6 17 [.B 1 []] (M3 Z (.d (dT p)) C a b) λo m=>o=.ret (.d (n8 p.K))/\m=M3 Z (.d (dT p)) C a b:=by
 refine fm func17 ?_;exact b0 (a4 (gw rfl (c.all _)) (a4 rfl rfl))
def Mx(c:ZC Z C):b6 a6 49 [.B 1 []] (M3 Z (.d (dT p)) C a b) λo m=>o=.ret (I p.n)/\m=M3 Z (.d (dT p)) C a b:=by
 refine fm func49 ?_;exact b0 (a4 (gw rfl (c.all _)) (a4 rfl rfl))
def Ut(f:ZC Z C)(g:∀y∈p.K,dw y)(i:p.K.length<=500){n:Int}(j:dx n):b6 a6 237 [.B 1 [],I n] (M3 Z (.d (dT p)) C a b) λo m=>o=.ret (T2 (I (s9 p n)) (I (kP p n)))/\m=M3 Z (.d (dT (pZ p n))) C a b:=by
 refine fm func237 ?_;refine b0 ?_;apply a4<;>intro c
 .have c:decide (n<1)=true:=c;have e:kP p n=2:=by unfold kP;rw[c];rfl
  refine a4 (gw rfl (f.all _)) (a4 ?_ ?_)
  .rw[s9,e];rfl
  .rw[pZ,e];rfl
 .have c:decide (n<1)=false:=c;refine bo (UW p.K n a3) ?_;apply a4<;>intro d
  .have d:(!(nu p.K n).isSome)=true:=d;have e:kP p n=6:=by unfold kP;rw[c];revert d;cases(nu p.K n).isSome<;>intro h<;>first|rfl|cases h
   refine a4 (gw rfl (f.all _)) (a4 ?_ ?_)
   .rw[s9,e];rfl
   .rw[pZ,e];rfl
  .have d:(!(nu p.K n).isSome)=false:=d;have e:kP p n=0:=by unfold kP;rw[c];revert d;cases(nu p.K n).isSome<;>intro h<;>first|rfl|cases h
   refine bo (VQ (l:=p.K) g i ⟨u0 p.K n,n⟩ j) (a4 (gw rfl (f.all _)) (a4 ?_ ?_))
   .rw[s9,e];rfl
   .rw[pZ,e];rfl
def zbu(p:Pl)(k:Nat)(g:Nat->Int):(dT p).set [2,k] (.ar 32 .c λj=>.z .u8 (g j))=dT {p with V:=a7 p.V k g}:=by show D.H _ (.H _ (.H (.ar 64 (.ar 32 .c) (a7 (λi=>.ar 32 .c λj=>.z .u8 (p.V i j)) k (.ar 32 .c λj=>.z .u8 (g j)))) .un))=_;rw[iU (λg:Nat->Int=>D.ar 32 .c λj=>.z .u8 (g j)) p.V k g];rfl
def VE(g:ZC Z C)(i:∀y∈p.K,dw y)(k:p.K.length<=500)(c:Int)(n:p.n<=64):b6 a6 238 [.B 1 [],I c] (M3 Z (.d (dT p)) C a b) λo m=>(∃e:Int,o=.ret (I e))/\m=M3 Z (.d (dT (p0 p c))) C a b:=by
 refine fm func238 ?_;refine ev func119 ?_;refine b0 ?_;apply a4<;>intro d
 .have d:(decide (c<0)||decide (c>=p.n))=true:=d;have e:kg p c=2:=by unfold kg;rw[d];rfl
  refine a4 (gw rfl (g.all _)) (a4 ⟨_,rfl⟩ ?_);rw[p0,e];rfl
 .have d:(decide (c<0)||decide (c>=p.n))=false:=d;refine bo (Cq (l:=p.K) i a3 c) ?_;apply a4<;>intro f
  .have f:p9 p.K c=true:=f;have e:kg p c=12:=by unfold kg;rw[d,f];rfl
   refine a4 (gw rfl (g.all _)) (a4 ⟨_,rfl⟩ ?_);rw[p0,e];rfl
  .have f:p9 p.K c=false:=f;have e:kg p c=0:=by unfold kg;rw[d,f];rfl
   simp only[gX,kq]at d;refine a4 ⟨a3,a3⟩ (ev func261 ?_);refine a4 ⟨i6 0,(by show(0:Int)<=32;decide),i6 _⟩ ?_;conv=>whnf
   refine⟨λj=>.z .u8 (yI (p.V c.toNat) j),?_,?_⟩
   .funext j
    show(bif Nat.ble 0 j&&Nat.blt j (0+32)then D.z .u8 0 else D.z .u8 (p.V c.toNat j))=D.z .u8 (bif Nat.blt j 32 then 0 else p.V c.toNat j);rw[show Nat.ble 0 j=true from rfl,ld];cases Nat.blt j 32<;>rfl
   refine a4 (gw rfl (g.all _)) (a4 ⟨_,rfl⟩ ?_);have h:p0 p c={p with V:=a7 p.V c.toNat (yI (p.V c.toNat))}:=by unfold p0;rw[e];rfl
   rw[h,<-zbu];rfl
end
section
variable {Z C:SV} {a b:Nat} {p:Pl}
def VD(g:ZC Z C)(i:∀y∈p.K,dw y)(j:p.K.length<=500)(c:Int)(k:p.n<=64):b6 a6 65 [.B 1 [],I c] (M3 Z (.d (dT p)) C a b) λo m=>(∃e:Int,o=.ret (I e))/\m=M3 Z (.d (dT (uR p c))) C a b:=by
 refine fm func65 ?_;refine ev func119 ?_;refine b0 ?_;apply a4<;>intro d
 .have d:(decide (c<0)||decide (c>=p.n))=true:=d;have e:kg p c=2:=by unfold kg;rw[d];rfl
  refine a4 (gw rfl (g.all _)) (a4 ⟨_,rfl⟩ ?_);rw[uR,e];rfl
 .have d:(decide (c<0)||decide (c>=p.n))=false:=d;refine bo (Cq (l:=p.K) i a3 c) ?_;apply a4<;>intro f
  .have f:p9 p.K c=true:=f;have e:kg p c=12:=by unfold kg;rw[d,f];rfl
   refine a4 (gw rfl (g.all _)) (a4 ⟨_,rfl⟩ ?_);rw[uR,e];rfl
  .have f:p9 p.K c=false:=f;have e:kg p c=0:=by unfold kg;rw[d,f];rfl
   simp only[gX,kq]at d;refine a4 ⟨a3,a3⟩ (ev func120 ?_);refine fg (List.range 13) [(12,512)] (c9 (L6 (l:=p.K) i ⟨c,1⟩ (eD (x:=(1:Int)) a8 a8) a3) (λ_ h=>h) (a4 (gw rfl (g.all _)) (a4 ⟨_,rfl⟩ ?_)));rw[uR,e];rfl
def WA(p:Pl)(k i:Nat)(v:Int):(dT p).set [2,k,i] (.z .u8 v)=dT {p with V:=a7 p.V k (a7 (p.V k) i v)}:=by show D.H _ (D.H _ (D.H (.ar 64 (.ar 32 .c) (a7 (λi=>D.ar 32 .c λj=>D.z .u8 (p.V i j)) k (D.ar 32 .c (a7 (λj=>D.z .u8 (p.V k j)) i (D.z .u8 v))))) .un))=_;rw[iU λx=>D.z .u8 x,iU (λg:Nat->Int=>D.ar 32 .c λj=>D.z .u8 (g j)) p.V k];rfl
def Qr(h:¬x<0):0<=sE x/\sE x<32:=by have e:x.tmod 32=x % 32:=vI a3;unfold sE;rw[e];omega
def Qz(h:0<=sE x/\sE x<32):(32:Int)≠0/\ja .i64 (sE x)=true:=⟨a8,iL (by simp only[eU];omega) (λ_=>a3) (by simp only[eU];omega)⟩
def GI(h:ZC Z C)(n:∀y∈p.K,dw y)(r:p.K.length<=500)(c:Int)(s:p.n<=64)(q: -1000000<=c/\c<=1000000):b6 a6 46 [.B 1 [],I c] (M3 Z (.d (dT p)) C a b) λo m=>o=.ret (T2 (.d (.z .u8 (pf p c))) (I (kF p c)))/\m=M3 Z (.d (dT p)) C a b:=by
 refine fm func46 ?_;refine ev func92 ?_;apply a4<;>intro f
 .have f:decide (c<0)=true:=f;have e:kF p c=2:=by unfold kF;rw[f];rfl
  refine a4 (gw rfl (h.all _)) (a4 ?_ rfl);rw[pf,e];rfl
 have f:decide (c<0)=false:=f;have i:¬c<0:=lK f;have k:=Qr (x:=c) i;have j:kF p c=kg p (kX c):=by unfold kF;rw[f];rfl
 refine a4 (show(32:Int)≠0 by decide) (ev func119 ?_);refine b0 ?_;apply a4<;>intro d
 .have d:(decide (kX c<0)||decide (kX c>=p.n))=true:=d;have e:kF p c=2:=by rw[j];unfold kg;rw[d];rfl
  refine a4 (gw rfl (h.all _)) (a4 ?_ rfl);rw[pf,e];rfl
 .have d:(decide (kX c<0)||decide (kX c>=p.n))=false:=d;refine bo (Cq (l:=p.K) n a3 (kX c)) ?_;apply a4<;>intro g
  .have g:p9 p.K (kX c)=true:=g;have e:kF p c=12:=by rw[j];unfold kg;rw[d,g];rfl
   refine a4 (gw rfl (h.all _)) (a4 ?_ rfl);rw[pf,e];rfl
  .have g:p9 p.K (kX c)=false:=g;have e:kF p c=0:=by rw[j];unfold kg;rw[d,g];rfl
   simp only[gX,kq]at d;refine a4 (show 0<=kX c/\kX c<64 from⟨a3,a3⟩) (ev func172 ?_);refine dL 6 (a4 (Qz k) (a4 ⟨k.1,k.2⟩ (ev func93 ?_)));refine a4 (gw rfl (h.all _)) (a4 ?_ rfl);rw[pf,e];rfl
def My(h:ZC Z C)(n:∀y∈p.K,dw y)(r:p.K.length<=500)(c v:Int)(s:p.n<=64)(q: -1000000<=c/\c<=1000000):b6 a6 242 [.B 1 [],I c,.d (.z .u8 v)] (M3 Z (.d (dT p)) C a b) λo m=>(∃e:Int,o=.ret (I e))/\m=M3 Z (.d (dT (nV p c v))) C a b:=by
 refine fm func242 ?_;refine ev func92 ?_;apply a4<;>intro f
 .have f:decide (c<0)=true:=f;have e:kF p c=2:=by unfold kF;rw[f];rfl
  refine a4 (gw rfl (h.all _)) (a4 ⟨_,rfl⟩ ?_);rw[nV,e];rfl
 have f:decide (c<0)=false:=f;have i:¬c<0:=lK f;have k:=Qr (x:=c) i;have j:kF p c=kg p (kX c):=by unfold kF;rw[f];rfl
 refine a4 (show(32:Int)≠0 by decide) (ev func119 ?_);refine b0 ?_;apply a4<;>intro d
 .have d:(decide (kX c<0)||decide (kX c>=p.n))=true:=d;have e:kF p c=2:=by rw[j];unfold kg;rw[d];rfl
  refine a4 (gw rfl (h.all _)) (a4 ⟨_,rfl⟩ ?_);rw[nV,e];rfl
 .have d:(decide (kX c<0)||decide (kX c>=p.n))=false:=d;refine bo (Cq (l:=p.K) n a3 (kX c)) ?_;apply a4<;>intro g
  .have g:p9 p.K (kX c)=true:=g;have e:kF p c=12:=by rw[j];unfold kg;rw[d,g];rfl
   refine a4 (gw rfl (h.all _)) (a4 ⟨_,rfl⟩ ?_);rw[nV,e];rfl
  .have g:p9 p.K (kX c)=false:=g;have e:kF p c=0:=by rw[j];unfold kg;rw[d,g];rfl
   simp only[gX,kq]at d;refine a4 (show 0<=kX c/\kX c<64 from⟨a3,a3⟩) (ev func172 ?_);refine dL 6 (a4 (Qz k) (a4 ⟨k.1,k.2⟩ (ev func263 ?_)));conv=>whnf
   refine⟨_,dE SV.d (WA p (kX c).toNat (sE c).toNat v),?_⟩;refine a4 (gw rfl (h.all _)) (a4 ⟨_,rfl⟩ ?_);rw[nV,e];rfl
end
def Vf(l:Line)(n:Nat)(v:Int)(f:n<=8):b6 a6 264 [.ob (.sb 0 [2] 0 n),.d (.z .u8 v)] ⟨[.d (kS l)],[],[]⟩ λo m=>o=.ret (I (oz l.wait v n))/\m=⟨[.d (kS l)],[],[]⟩:=by
 refine fm func264 ?_;refine b2 (x:=(n:Int)) (dX c6 (λi=>i<=n/\oz l.wait v n=n9 l.wait v i (n - i)) (λi=>n - i) (λi=>[(8,I i)]) (λ_=>⟨[.d (kS l)],[],[]⟩) 0 ⟨a3,rfl⟩ ⟨rfl,trivial⟩ rfl (λi=>⟨a9 _,a9 _,a9 _⟩) ?_);rintro i ⟨e,b⟩;apply a4<;>intro d
 .have c:i<n:=eZ d
  rw[show n - i=(n -(i+1))+1 by omega]at b;refine a4 ⟨a3,a3⟩ ?_;apply a4<;>intro a
  .have a:(v==l.wait (0+i))=true:=a;rw[ld]at a;simp only[n9,a]at b;refine a4 rfl (a4 ?_ rfl);rw[b];rfl
  .have a:(v==l.wait (0+i))=false:=a;rw[ld]at a;simp only[n9,a]at b;refine b2 (x:=(i:Int)+1) ?_;conv=>whnf
   exact⟨i+1,⟨c,b⟩,a3,⟨rfl,trivial⟩,⟨rfl,rfl⟩,rfl⟩
 .have c:i=n:=e9 d
  subst c;rw[tM]at b;refine a4 rfl (a4 ?_ rfl);rw[b];rfl
def Q6(l:Line)(t:Int)(a:0<=l.n)(b:l.n<=8):c5 a6 244 [.d (kS l),I t] (I (oG l t)):=by
 refine dq func244 ?_;refine a4 ⟨i6 0,a,b⟩ (fa (HE rfl (yK rfl (Vf l l.n.toNat (iz t) a3))) λo m h=>?_);obtain⟨rfl,rfl⟩:=h;exact b7
def To(l:Line)(t:Int)(a:LnOk l)(f:0<=t)(g:t<8):c5 a6 200 [.d (kS l),I t] (.d (kS (tB l t))):=by
 refine dq func200 ?_;refine bo (Q6 l t a.n0 a.n1) ?_;conv=>whnf
 have n:=a.n0;have o:=a.n1;rcases EL l f g with⟨e,_⟩|⟨j,e,q,r⟩
 .refine⟨λ_=>?_,λh=>?_⟩
  .refine b7 ?_;rw[tB,e];rfl
  .rw[e]at h;cases h
 .refine⟨λh=>?_,λ_=>?_⟩
  .have h:decide (oG l t<0)=true:=h;rw[e]at h;have:=gM h;omega
  .refine dL 7 ?_;conv=>whnf
   have b:oG l t=(j:Int):=e;refine⟨⟨by rw[b];exact Ma j,by show oG l t<=8;omega,i6 _⟩,?_⟩;refine b2 (x:=oG l t+1) (a4 ⟨by show 0<=oG l t+1;omega,by show oG l t+1<=8;omega,i6 _⟩ (a4 (eD (Cs a8 (Ma _)) (Cs (Int.ofNat_le.2 (eY (Nat.min_le_right _ _) (Nat.sub_le _ _))) a8)) ?_));conv=>whnf
   obtain⟨W,c⟩:∃W:Nat->Int,W=λi=>bif Nat.ble (oG l t).toNat i&&Nat.blt i 7 then l.wait (i+1)else l.wait i:=⟨_,rfl⟩
   refine⟨λi=>.z .u8 (W i),?_,?_⟩
   .funext i
    rw[c,b];show(bif Nat.ble j i&&Nat.blt i (j+Nat.min (8 -(j+1)) (8 - j))then D.z .u8 (l.wait (j+1+(i - j)))else D.z .u8 (l.wait i))=D.z .u8 (bif Nat.ble j i&&Nat.blt i 7 then l.wait (i+1)else l.wait i);have m:j+Nat.min (8 -(j+1)) (8 - j)=7:=by show j+min (8 -(j+1)) (8 - j)=7;omega
    rw[m];cases p:Nat.ble j i&&Nat.blt i 7 with
    |true=>
     have k:=dF (iZ.1 p).1;show D.z .u8 (l.wait (j+1+(i - j)))=D.z .u8 (l.wait (i+1));rw[show j+1+(i - j)=i+1 by omega]
    |false=>rfl
   refine b2 (x:=l.n - 1) (a4 ⟨by show 0<=l.n - 1;omega,by show l.n - 1<8;omega⟩ ?_);conv=>whnf
   refine⟨.d (kS (tB l t)),?_,?_⟩
   .have d:tB l t=⟨l.has,l.n - 1,a7 W (l.n - 1).toNat 0⟩:=by unfold tB;rw[c,b,fe a3];rfl
    rw[d];show SV.d (D.H _ (D.H _ (D.H (D.ar 8 .c (a7 (λi=>D.z .u8 (W i)) _ (D.z .u8 0))) .un)))=_;rw[iU λx=>D.z .u8 x];rfl
   .exact b7
def Qq(m:Nat->Line)(k:Nat)(l:Line):SV.d ((lG m).set [0,k] (kS l))=.d (lG (a7 m k l)):=by show SV.d (D.H (D.ar 32 zM (a7 (λi=>kS (m i)) k (kS l))) .un)=_;rw[iU kS];rfl
def zaQ(m:Nat->Line)(k:Nat)(l:Line)(v:Int):SV.d ((lG (a7 m k l)).set [0,k,0] (.z .u8 v))=.d (lG (a7 m k {l with has:=v})):=by
 have e:((kS (a7 m k l k)).set [0] (.z .u8 v))=kS {l with has:=v}:=by rw[dN];rfl
 show SV.d (D.H (D.ar 32 zM (a7 (λi=>kS (a7 m k l i)) k ((kS (a7 m k l k)).set [0] (.z .u8 v)))) .un)=_;rw[e,iU kS,BY];rfl
def zaR(m:Nat->Line)(k:Nat)(l:Line)(v:Int):SV.d ((lG (a7 m k l)).set [0,k,1] (.z .i64 v))=.d (lG (a7 m k {l with n:=v})):=by
 have e:((kS (a7 m k l k)).set [1] (.z .i64 v))=kS {l with n:=v}:=by rw[dN];rfl
 show SV.d (D.H (D.ar 32 zM (a7 (λi=>kS (a7 m k l i)) k ((kS (a7 m k l k)).set [1] (.z .i64 v)))) .un)=_;rw[e,iU kS,BY];rfl
def zaS(m:Nat->Line)(k n:Nat)(v:Int):SV.d ((lG m).set [0,k,2,n] (.z .u8 v))=.d (lG (a7 m k {m k with wait:=a7 (m k).wait n v})):=by
 have e:((kS (m k)).set [2,n] (.z .u8 v))=kS {m k with wait:=a7 (m k).wait n v}:=by show D.H _ (D.H _ (D.H (D.ar 8 .c (a7 (λi=>D.z .u8 ((m k).wait i)) n (D.z .u8 v))) .un))=_;rw[iU λx=>D.z .u8 x];rfl
 show SV.d (D.H (D.ar 32 zM (a7 (λi=>kS (m i)) k ((kS (m k)).set [2,n] (.z .u8 v)))) .un)=_;rw[e,iU kS];rfl
def VS(m:Nat->Line)(k:gE m)(s t:Int):c5 a6 236 [.d (lG m),I s,I t] (T2 (.d (lG (tA m s t))) (B (th m s t))):=by
 refine dq func236 ?_;conv=>whnf
 refine bo (Ji s t) ?_;conv=>whnf
 apply a4<;>intro a
 .have a:(!pa s t)=true:=a;have a:pa s t=false:=b8 a
  conv=>whnf
  refine b7 ?_;rw[tA,th,a];rfl
 .have a:(!pa s t)=false:=a;have a:pa s t=true:=b8 a
  obtain⟨n,g,h⟩:=Ba a;have f:=k s.toNat a3;conv=>whnf
  refine⟨n,?_⟩;conv=>whnf
  refine bo (Q6 (m s.toNat) t f.n0 f.n1) ?_;conv=>whnf
  refine b2 (x:=t+1) ?_;conv=>whnf
  apply a4<;>intro b
  .have b:((m s.toNat).has==t+1)=true:=b;conv=>whnf
   refine b7 ?_;rw[tA,th,a,b];rfl
  .have b:((m s.toNat).has==t+1)=false:=b;conv=>whnf
   apply a4<;>intro d
   .have d:zO (m s.toNat) t=true:=d;conv=>whnf
    refine bo (To (m s.toNat) t f g h) ?_;conv=>whnf
    refine⟨_,Qq m s.toNat (tB (m s.toNat) t),?_⟩;conv=>whnf
    refine b2 (x:=t+1) ?_;conv=>whnf
    refine⟨_,zaQ m s.toNat (tB (m s.toNat) t) _,?_⟩;conv=>whnf
    refine b7 ?_;rw[tA,th,a,b,d];rfl
   .have d:zO (m s.toNat) t=false:=d;conv=>whnf
    apply a4<;>intro c
    .have c:decide (oG (m s.toNat) t<0)=true:=c;have i:(m s.toNat).n<8:=by
      rcases EL (m s.toNat) g h with⟨_,l⟩|⟨j,e,_⟩
      .exact P1 f g h l
      .rw[e]at c;have:=gM c;omega
     conv=>whnf
     refine dL 10 ?_;conv=>whnf
     refine⟨⟨f.n0,i⟩,?_⟩;conv=>whnf
     refine⟨_,zaS m s.toNat (m s.toNat).n.toNat _,?_⟩;conv=>whnf
     refine⟨?_,?_⟩
     .show dx ((a7 m s.toNat {m s.toNat with wait:=a7 (m s.toNat).wait (m s.toNat).n.toNat (IntKind.u8.wrap t)} s.toNat).n+1);rw[dN];exact eD (x:=(m s.toNat).n+1) (by have:=f.n0;omega) a3
     conv=>whnf
     refine⟨_,zaR m s.toNat {m s.toNat with wait:=a7 (m s.toNat).wait (m s.toNat).n.toNat (IntKind.u8.wrap t)} _,?_⟩;conv=>whnf
     refine b7 ?_;rw[tA,th,a,b,d,c,dN];rfl
    .have c:decide (oG (m s.toNat) t<0)=false:=c;conv=>whnf
     refine b7 ?_;rw[tA,th,a,b,d,c];rfl
def U2(m:Nat->Line)(l:gE m)(t:Int):c5 a6 134 [.d (lG m),I t] (.d (lG (Pd m t))):=by
 refine dq func134 ?_;conv=>whnf
 have o:IL.zero.sv=.d (lG λ_=>⟨0,0,λ_=>0⟩):=rfl;have c:∀i:Nat,i<32->(List.range (i+1)).foldl (tg t) m=tg t ((List.range i).foldl (tg t) m) i:=λi _=>by rw[mC,pq];rfl
 refine dX c6 (λi=>i<=32) (λi=>32 - i) (λi=>[(6,I i)]) (λi=>⟨[.d (lG ((List.range i).foldl (tg t) m)),IL.zero.sv],[],[]⟩) 0 (dG _) ⟨rfl,trivial⟩ rfl (λi=>⟨a9 _,a9 _,a9 _⟩) ?_;intro i n;conv=>whnf
 apply a4<;>intro f
 .have a:i<32:=by
   have:(i:Int)<32:=b8 f
   omega
  have e:=AD t (List.range i) l;have d:=c i a;generalize(List.range i).foldl (tg t) m=k at e d ⊢;conv=>whnf
  refine bo (UY k i t) ?_;conv=>whnf
  have j:=DU e (i:Int) t;refine bo (Ji (i:Int) t) ?_;conv=>whnf
  apply a4<;>intro b
  .have b:pa i t=true:=b;obtain⟨_,g,h⟩:=Ba b;conv=>whnf
   refine⟨⟨a3,a3⟩,?_⟩;conv=>whnf
   refine bo (To (ue k i t ((i:Int)).toNat) t (j _ a3) g h) ?_;conv=>whnf
   refine⟨⟨a3,a3⟩,?_⟩;conv=>whnf
   refine⟨_,Qq (ue k i t) ((i:Int)).toNat _,?_⟩;conv=>whnf
   refine b2 (x:=(i:Int)+1) ?_;conv=>whnf
   exact⟨i+1,a,a3,⟨rfl,trivial⟩,⟨by rw[d,tg,b];rfl,rfl⟩,rfl⟩
  .have b:pa i t=false:=b;conv=>whnf
   refine b2 (x:=(i:Int)+1) ?_;conv=>whnf
   exact⟨i+1,a,a3,⟨rfl,trivial⟩,⟨by rw[d,tg,b];rfl,rfl⟩,rfl⟩
 .have a:i=32:=by
   have:¬((i:Int)<32):=b8 f
   omega
  subst a;conv=>whnf
  exact b7
end Sx
namespace Sx
abbrev zL(l:List Int):List D:=l.map λx=>.z .i64 x
def eO(x:Cr)(a:Nat):SV:=.H (.d (fw x.s)) (.H (.B 1 []) (.H (.d (lG x.m)) (.H (gx 1 a .c (zL x.q)) (.d .un))))
def md(c:Rt):D:=.H (.z .i64 c.task) (.H (iC c.c) (.H (.I c.E4) (.H (fq .c (hL c.G)) (.H (dR c.run) (.H (.z .i64 c.S) .un)))))
abbrev MC(Z:SV)(x:Cr)(a b:Nat):MS:=M3 Z (.d (dT x.p)) (eO x a) a b
def XI(x:Cr)(a:Nat):(eO x a).ids 3 2 0=true:=rfl
def rb{Z:SV}(h:Z.ids 3 2 0=true)(x:Cr)(a:Nat):ZC Z (eO x a):=⟨h,XI x a⟩
def gK{Z:SV}(h:Z.ids 3 2 0=true)(x:Cr)(a:Nat):eV 3 2 0 [Z,.d (dT x.p),eO x a]=true:=(rb h x a).all _
attribute [local irreducible] b6 eF fR ez eH eB eM fx dC ec dU dx
section
variable {Z:SV} {a b:Nat} {x:Cr}
def Aj{f:FuncId}{args:List SV}{c:List SV}{t2:List Nat}{d:List Ob}{R:Out->MS->Prop}(n:Z.ids 3 2 0=true)(h:b6 a6 f args (MC Z x a b) R)(k:eV 3 2 0 args=true)(g:∀o m,R o m->∃x' T,m=MC Z x' T b){K:Out->MS->Prop}(j:∀o x' T,R o (MC Z x' T b)->K o ⟨Z::.d (dT x'.p)::eO x' T::c,T::b::t2,d⟩):b6 a6 f args ⟨Z::.d (dT x.p)::eO x a::c,a::b::t2,d⟩ K:=
 fa (ry c t2 d h k (by rw[show[Z,SV.d (dT x.p),eO x a].length=3 from rfl,show[a,b].length=2 from rfl,show([]:List Ob).length=0 from rfl,gK n];rfl) λo m l=>by
  obtain⟨x',T,rfl⟩:=g o m l;exact⟨rfl,rfl,rfl⟩) λo m ⟨U,e,i⟩=>by
  obtain⟨x',T,rfl⟩:=g o U e;subst i;exact j o x' T e
def zr{r:Rn}{i:Nat}(c:i<r.n.toNat):(pg r).take (i+1)=(pg r).take i++[r.at_+(i:Int)]:=by unfold pg;rw[js,pr,Gt c];rfl
def rj(r:Rn):Prop:=r.n<=0\/dw r
def ko.q{r:Rn}(h:ko r):rj r:=by
 rcases h with h|h
 .exact .inl a3
 .exact .inr h
abbrev qI(x:Cr)(r:Rn)(i:Nat):Cr:={x with q:=x.q++(pg r).take i}
def Rm(f:Z.ids 3 2 0=true)(r:Rn)(p:rj r)(t:x.q.length<=1000000):b6 a6 133 [.B 2 [],.d (dR r)] (MC Z x a b) λo m=>o=l0/\∃T,m=MC Z (dS x r) T b:=by
 have n:r.n<=64/\(r.n<=0\/(0<=r.at_/\r.at_<=64)):=by
  rcases p with h|h
  .omega
  .unfold dw at h;omega
 have d:∀i,((pg r).take i).length<=64:=λi=>by
  refine eY (Mm _ _) ?_;have:(pg r).length=r.n.toNat:=by simp[pg]
  omega
 refine fm func133 ?_;conv=>whnf
 refine dX c6 (λi=>i<=r.n.toNat) (λi=>r.n.toNat - i) (λi=>[(7,I i)]) (λi=>⟨[Z,.d (dT x.p),eO (qI x r i) (a+i),.d (dR r)],[a+i,b],[]⟩) 0 (dG _) ⟨rfl,trivial⟩ ?_ (λi=>⟨a9 _,a9 _,a9 _⟩) ?_
 .exact g9 (ce rfl (ce rfl (ce (dE (λq=>eO {x with q:=q} a) (gk x.q).symm) (ce rfl rfl)))) rfl rfl
 intro i s;conv=>whnf
 apply a4<;>intro e
 .have c:i<r.n.toNat:=by
   have:(i:Int)<r.n:=b8 e
   omega
  have l:=d i;conv=>whnf
  refine fg (List.range 14) [(9,31),(10,1),(13,0)] ?_;conv=>whnf
  refine b2 (x:=r.at_+(i:Int)) ?_;conv=>whnf
  refine Or.inl ?_;conv=>whnf
  refine⟨(show _/\_ from⟨rfl,rfl⟩),kT ?_ ?_⟩;rotate_left
  .repeat' (first|exact trivial|refine iF (show _/\_ from⟨rfl,rfl⟩) ?_)
  conv=>whnf
  refine⟨⟨rfl,(by rw[dD];show(x.q++(pg r).take i).length+1<=_;rw[ew];omega:(zL (qI x r i).q).length+1<=2147483648)⟩,?_⟩;conv=>whnf
  refine b2 (x:=(i:Int)+1) ?_;conv=>whnf
  have g:zL (qI x r i).q++[D.z .i64 (r.at_+(i:Int))]=zL (qI x r (i+1)).q:=by show(x.q++(pg r).take i).map _++_=(x.q++(pg r).take (i+1)).map _;rw[zr c,<-iJ];simp only[je,oT,Gu]
  refine⟨i+1,a3,a3,⟨rfl,trivial⟩,⟨?_,rI f (dF rfl) rfl⟩,rfl⟩;exact g9 (ce rfl (ce rfl (ce ((dE (λq=>SV.H (.d (fw x.s)) (.H (.B 1 []) (.H (.d (lG x.m)) (.H q (.d .un))))) (kA 1 (a+i+1) .c (zL (qI x r i).q) [D.z .i64 (r.at_+(i:Int))])).trans (dE (λL=>SV.H (.d (fw x.s)) (.H (.B 1 []) (.H (.d (lG x.m)) (.H (gx 1 (a+(i+1)) .c L) (.d .un))))) g)) (ce rfl rfl)))) rfl rfl
 .have c:i=r.n.toNat:=by
   have:¬((i:Int)<r.n):=b8 e
   omega
  subst c;have j:(pg r).take r.n.toNat=pg r:=by
   have:(pg r).length=r.n.toNat:=by simp[pg]
   rw[<-this,gv]
  have k:qI x r r.n.toNat=dS x r:=by unfold qI dS;rw[j]
  rw[k];conv=>whnf
  exact⟨gw rfl (gK f (dS x r) (a+r.n.toNat)),rfl,a+r.n.toNat,rfl⟩
def LU(f:Z.ids 3 2 0=true)(c:Rt)(n:ko c.run)(l:x.q.length<=1000000)(j:gE x.m):b6 a6 70 [.B 2 [],.d (md c)] (MC Z x a b) λo m=>o=l0/\∃T,m=MC Z (jO x c) T b:=by
 refine fm func70 ?_;refine Aj (a:=a) (b:=b) f (Rm f c.run n.q l) rfl (λo m ⟨_,T,h⟩=>⟨_,T,h⟩) λo q T ⟨k,p,d⟩=>?_;have e:=dE MS.c d;have g:=dE MS.t d;simp only[oP,px,FJ]at e g;obtain⟨i,e⟩:=e;subst k g;rw[i,e];refine dL 10 (c9 (U2 x.m j c.task) (λ_ h=>h) ?_);conv=>whnf
 exact⟨gw rfl (gK f (jO x c) T),rfl,T,rfl⟩
def VI(d:Z.ids 3 2 0=true)(i:∀y∈x.p.K,dw y)(j:x.p.K.length<=500)(k:x.p.n<=64)(n:x.q.length<=1000000):b6 a6 29 [.B 2 []] (MC Z x a b) λo m=>o=.ret (B (!(x.q.length==0)))/\m=MC Z (kM x) a b:=by
 obtain⟨s,p,mk,q⟩:=x;refine fm func29 ?_;cases q with
 |nil=>
  exact b2 (x:=(0:Int)) (ej (a4 (gw rfl (gK d _ a)) (a4 rfl rfl)))
 |cons c l=>
  refine a4 (eD (x:=((zL (c::l)).length:Int)) a3 (by rw[dD];show((c::l).length:Int)<=_;have:(c::l).length<=1000000:=n;omega)) (a4 (λh=>?_) λ_=>?_)
  .have h:(((zL (c::l)).length:Int)==0)=true:=h;simp at h;exact b3 h a3
  refine dL 10 (a4 ⟨i6 0,(by rw[dD];show(0:Int)<((c::l).length:Int);simp:(0:Int)<((zL (c::l)).length:Int))⟩ (fa (VD (rb d _ _) i j c k) λo m h=>?_));obtain⟨⟨e,rfl⟩,rfl⟩:=h;refine a4 (by rw[dD];show(0:Int)<=1/\(1:Int)<=((c::l).length:Int);rw[jV];omega:(0:Int)<=1/\(1:Int)<=((zL (c::l)).length:Int)) ?_;conv=>whnf
  have f:SV.ow 1 a ((zL (c::l)).length - 1) .c (jT (c7 (zL (c::l))) 1)=gx 1 a .c (zL l):=by rw[KG];rfl
  have g:=dE (λq=>SV.H (.d (fw s)) (.H (.B 1 []) (.H (.d (lG mk)) (.H q (.d .un))))) f;refine⟨?_,rfl,?_⟩
  .have:=gK d (kM ⟨s,p,mk,c::l⟩) a;exact gw rfl this
  .exact g9 (ce rfl (ce rfl (ce g rfl))) rfl rfl
end
end Sx
end Go.Proofs.YtfbhkfhbnkncoaaGreatDoor
