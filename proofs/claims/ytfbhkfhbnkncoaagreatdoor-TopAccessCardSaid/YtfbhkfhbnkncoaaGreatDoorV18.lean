import Derived.Test.YtfbhkfhbnkncoaaGreatDoorV17
set_option linter.all false
namespace Go.Proofs.YtfbhkfhbnkncoaaGreatDoor
open Go.RowKit Tryz
open Tryz renaming prog→a6
namespace Sx
variable{F a s:Int}{l:List Rn}{b:MBox}{i:Nat}{K:Out->MS->Prop}{k:Toks}
def Yp{g A:Gv}{y:Rn}:kJ g y=some A->A.fin.length<=g.fin.length+1:=by
 obtain⟨x,a,b⟩:=g;unfold kJ;cases decide (y.at_+y.n<(Gv.mk x a b).x.at_)with
 |true=>
  intro h;simp only[dZ,fW]at h;subst h;cases a<;>simp[Gv.fin]
 |false=>
  cases decide (y.at_>(Gv.mk x a b).x.at_+(Gv.mk x a b).x.n)with
  |true=>
   intro h;simp only[dZ,eQ,fW]at h;subst h;cases a<;>simp[Gv.fin]
  |false=>
   cases(y.at_+y.n==(Gv.mk x a b).x.at_)with
   |true=>
    intro h;simp only[dZ,eQ,fW]at h;subst h;cases a<;>simp[Gv.fin]
   |false=>
    cases(y.at_==(Gv.mk x a b).x.at_+(Gv.mk x a b).x.n)with
    |true=>
     intro h;simp only[dZ,eQ,fW]at h;subst h;cases a<;>simp[Gv.fin]
    |false=>
     intro h;cases h
def zbo{g A:Gv}{y:Rn}(i:∀z∈g.fin,dw z)(j:dw g.x)(f:dw y)(h:kJ g y=some A):∀z∈A.fin,dw z:=by
 have e:=IC j f h
 revert h
 obtain⟨x,b,c⟩:=g;have d:∀z∈c,dw z:=λz a=>i z (by cases b<;>simp[Gv.fin,a]);unfold kJ;cases decide (y.at_+y.n<(Gv.mk x b c).x.at_)with
 |true=>
  intro h;simp only[dZ,fW]at h;subst h;intro z a;cases b<;>simp[Gv.fin]at a<;>rcases a with a|a<;>first|exact d z a|(subst a;exact f)|(rcases a with rfl|rfl<;>first|exact f|exact j)
 |false=>
  cases decide (y.at_>(Gv.mk x b c).x.at_+(Gv.mk x b c).x.n)with
  |true=>
   intro h;simp only[dZ,eQ,fW]at h;subst h;intro z a;rcases eP.1 (show z∈(Gv.mk x b c).fin++[y] from a)with a|a
   .exact i z a
   .simp at a;subst a;exact f
  |false=>
   cases(y.at_+y.n==(Gv.mk x b c).x.at_)with
   |true=>
    intro h;simp only[dZ,eQ,fW]at h;subst h;intro z a;cases b<;>simp[Gv.fin]at a
    .rcases a with a|a
     .exact d z a
     .subst a;exact e
    .exact d z a
   |false=>
    cases(y.at_==(Gv.mk x b c).x.at_+(Gv.mk x b c).x.n)with
    |true=>
     intro h;simp only[dZ,eQ,fW]at h;subst h;intro z a;cases b<;>simp[Gv.fin]at a
     .rcases a with a|a
      .exact d z a
      .subst a;exact e
     .exact d z a
    |false=>
     intro h;cases h
def Pn:∀{l:List Rn} {g A:Gv},(∀y∈l,dw y)->(∀z∈g.fin,dw z)->dw g.x->p8 g l=some A->(∀z∈A.fin,dw z)/\A.fin.length<=g.fin.length+l.length
 |[],g,A,_,b,_,h=>by cases h;exact⟨b,a9 _⟩
 |y::l,g,A,c,b,d,h=>by
  unfold p8 at h;split at h
  .rename_i j a;have e:=c y eA;obtain⟨f,k⟩:=Pn (l:=l) (λz i=>c z (by simp[i])) (zbo b d e a) (IC d e a) h;have:=Yp a;exact⟨f,by simp only[jV];omega⟩
  .cases h
def YE{c:List Rn}{x:Rn}(i:∀y∈l,dw y)(h:o7 l x=some c):dw x/\(∀y∈c,dw y)/\c.length<=l.length+1:=by
 unfold o7 at h;cases a:sA x with
 |false=>rw[a]at h;cases h
 |true=>
  rw[a]at h;simp only[dZ,fB]at h;obtain⟨g,f,rfl⟩:=h;have b:=xE.1 a;obtain⟨e,j⟩:=Pn i (g:=⟨x,false,[]⟩) (λz d=>by simp[Gv.fin]at d;subst d;exact b) b f;refine⟨b,e,?_⟩;have k:(Gv.mk x false []).fin.length=1:=rfl;omega
def xD:List Rn->List Rn->Option (List Rn)
 |b,[]=>some b
 |b,y::l=>match o7 b y with
  |some a=>xD a l
  |none=>none
def mV(l:List Rn)(F:Int):Bool:=(xD [] l).isSome&&(decide (F>=0)&&decide (F<=dK l*32))
attribute [local irreducible] b6 eF fR ez eH eB eM fx dC ec dU dx
def Mr(v:∀y∈l,dx y.n)(A:l.length<=1000)(F:Int):c5 a6 285 [.d (rA l F)] (B (mV l F)):=by
 refine c5.le (b:=[.d (tH l F)]) ?_ ⟨HY l F,trivial⟩;refine dq func285 ?_;refine b2 (x:=(l.length:Int)) (dX c6 (λs:Nat×List Rn=>(s.1<=l.length/\s.2.length<=s.1)/\xD [] l=xD s.2 (l.drop s.1)/\(∀y∈s.2,dw y)/\∀y∈l.take s.1,dw y) (λs=>l.length - s.1) (λs=>[(11,I s.1)]) (λs=>⟨[.d (tH l F),.d (n8 s.2)],[],[]⟩) (0,[]) ⟨⟨dG _,a9 _⟩,rfl,(λy d=>by cases d),(λy d=>by simp at d)⟩ ⟨rfl,trivial⟩ rfl (λi=>⟨a9 _,a9 _,a9 _⟩) ?_);rintro⟨i,e⟩ ⟨⟨u,o⟩,f,j,c⟩;simp only at u o f j c;apply a4<;>intro q
 .have g:i<l.length:=eZ q
  have p:l[i]?=some (l.getD i c8):=by rw[eu,ed g];rfl
  have w:=v _ (oU p);rw[sl p]at f;simp only[xD]at f;refine fS (i:=i) (n:=l.length) (bo (L6 j (l.getD i c8) w a3) ?_);apply a4<;>intro k
  .have k:o7 e (l.getD i c8)=none:=by have:(!(o7 e (l.getD i c8)).isSome)=true:=k;simpa using this
   rw[k]at f;refine b7 ?_;rw[mV,f];rfl
  .obtain⟨a,m⟩:∃a,o7 e (l.getD i c8)=some a:=by have:(!(o7 e (l.getD i c8)).isSome)=false:=k;exact GF.1 (b8 this)
   obtain⟨r,t,z⟩:=YE j m;rw[m]at f;refine b2 (x:=(i:Int)+1) ?_;conv=>whnf
   refine⟨(i+1,a),⟨⟨g,by simp only;omega⟩,f,t,λy d=>?_⟩,by simp only;omega,⟨rfl,trivial⟩,⟨?_,rfl⟩,rfl⟩
   .rw[js,p]at d;rcases eP.1 d with d|d
    .exact c y d
    .simp at d;subst d;exact r
   .exact g9 (ce rfl (ce (by rw[m];rfl) rfl)) rfl rfl
 .have g:i=l.length:=e9 q
  subst g;rw[gv]at c;rw[pU]at f;have C:=sF c;refine dL 12 (c9 (Mz c a3 F) (λ_ h _=>h) (a4 (λ_=>eD (x:=dK l*32) a3 a3) (b7 ?_)));rw[mV,f];rfl
def vO(r:Rg):Prop:=(∀y∈r.rs,dx y.n)/\r.rs.length<=1000
def hQ(t:Tb)(h:Int)(r:Rg):Int:=bif !bk t.b h then 4 else bif !(decide (r.E>=0)&&decide (r.E<=64))||!mV r.rs r.len then 2 else 0
def hZ(t:Tb)(h:Int)(r:Rg):Tb:=bif hQ t h r==0 then⟨t.b,a7 t.r (a5 h) {r with up:=(t.r (a5 h)).up}⟩else t
def CO(t:Tb)(h:Int)(r:Rg)(d:vO r):c5 a6 348 [.d (eN t),H h,.d (lU r)] (T2 (.d (eN (hZ t h r))) (I (hQ t h r))):=by
 refine dq func348 ?_;refine bo (jA t.b h) ?_;apply a4<;>intro a
 .have b:(!bk t.b h)=true:=a;refine b7 ?_;rw[hZ,hQ,b];rfl
 .have b:(!bk t.b h)=false:=a;refine bo (Rp r.E) (c9 (Mr d.1 d.2 r.len) (λ_ h _=>h) ?_);apply a4<;>intro a
  .have c:(!(decide (r.E>=0)&&decide (r.E<=64))||!mV r.rs r.len)=true:=a;refine b7 ?_;rw[hZ,hQ,b,c];rfl
  .have c:(!(decide (r.E>=0)&&decide (r.E<=64))||!mV r.rs r.len)=false:=a;refine bo (rm h) (a4 (nR _) (a4 (nR _) ?_));conv=>whnf
   refine⟨.d (eN ⟨t.b,a7 t.r (a5 h) {r with up:=(t.r (a5 h)).up}⟩),dE (λf=>SV.d (.H (.H (kR t.b) .un) (.H (.ar 32 BR f) .un))) (iU lU t.r (a5 h) {r with up:=(t.r (a5 h)).up}),?_⟩;refine b7 ?_;rw[hZ,hQ,b,c];rfl
def oN(n a:Int):Int:=dC .andNot .i64 (n+a - 1) (a - 1)
def jv(l:List Rn)(F s a:Int):Bool:=lq s a&&!decide (oN F a+s>dK l*32)
def rD(l:List Rn)(F s a:Int):Int:=bif jv l F s a then oN F a else 0
def LY(e:∀y∈l,dw y)(h:l.length<=1000)(f:0<=F/\F<=1000000)(j:0<=s/\s<=1000)(g:0<=a/\a<=1000)(k:0<=oN F a/\oN F a<=2000000):c5 a6 318 [.d (rA l F),I s,I a] (T2 (I (rD l F s a)) (B (jv l F s a))):=by
 have i:=sF e;refine dq func318 ?_;refine bo (Qy s a) ?_;apply a4<;>intro b
 .have c:lq s a=false:=b8 b
  refine b7 ?_;rw[rD,jv,c];rfl
 .have c:lq s a=true:=b8 b
  refine ev func346 ?_;refine b2 (x:=F+a) (b2 (x:=F+a - 1) (b2 (x:=a - 1) (b2 (x:=oN F a+s) (bo (GJ e a3 F) (b2 (x:=dK l*32) ?_)))));apply a4<;>intro b
  .have d:decide (oN F a+s>dK l*32)=true:=b;refine b7 ?_;rw[rD,jv,c,d];rfl
  .have d:decide (oN F a+s>dK l*32)=false:=b;refine b7 ?_;rw[rD,jv,c,d];rfl
def mZ(l:List Rn)(F s a:Int):Int:=bif jv l F s a then oN F a+s else F
def LW(g:∀y∈l,dw y)(h:l.length<=1000)(b:0<=F/\F<=1000000)(i:0<=s/\s<=1000)(f:0<=a/\a<=1000)(j:0<=oN F a/\oN F a<=2000000):c5 a6 321 [.d (rA l F),I s,I a] (T3 (.d (rA l (mZ l F s a))) (I (rD l F s a)) (B (jv l F s a))):=by
 refine dq func321 ?_;refine bo (LY g h b i f j) ?_;apply a4<;>intro d
 .have c:jv l F s a=true:=d;have e:rD l F s a=oN F a:=by rw[rD,c];rfl
  rw[e];refine b2 (x:=oN F a+s) (b7 ?_);rw[mZ,c];rfl
 .have c:jv l F s a=false:=d;refine b7 ?_;rw[mZ,c];rfl
def vt(b:Int):List Rn->Int->Option Int
 |[],_=>none
 |y::l,a=>bif decide (b>=a)&&decide (b<a+y.n*32)then some (y.at_*32+b - a)else vt b l (a+y.n*32)
def tp(l:List Rn)(a:Int):Option Int:=vt a l 0
def MA(g:∀y∈l,dw y)(u:l.length<=1000)(F a:Int)(s: -4000000<=a/\a<=4294967296):c5 a6 45 [.d (rA l F),I a] (T2 (I ((tp l a).getD 0)) (B (tp l a).isSome)):=by
 refine c5.le (b:=[.d (tH l F),I a]) ?_ ⟨HY l F,SV.le_refl _,trivial⟩;refine dq func45 ?_;refine ev func91 ?_;refine rS rfl rfl ?_;refine NN g a3 (σ:=Nat) (λ_=>[.d (tH l F),I a,I 0,B false,.d (tH l F)]) id (λi=>i<=l.length/\tp l a=vt a (l.drop i) (dK (l.take i)*32)) 4 5 0 (λ_=>rfl) (λ_=>⟨rfl,rfl⟩) ⟨dG _,rfl⟩ rfl rfl ?_ ?_
 .rintro i ⟨_,d⟩ c;have c:i<l.length:=c;have j:l[i]?=some (l.getD i c8):=by rw[eu,ed c];rfl
  have e:=EG c;have h:=sF (l:=l.take i) λy m=>g y (sV m);have n:(l.take i).length<=1000:=by rw[kO];omega
  obtain⟨o,q,r⟩:dw (l.getD i c8):=g _ (oU j);rw[sl j]at d;simp only[vt]at d;simp only[id];generalize m:l.getD i c8=y at o q r d e ⊢;generalize t:dK (l.take i)=p at d h e ⊢;refine BE (rX c6 rfl a8 ?_);refine a4 (λ_=>eD (x:=y.n*32) a3 a3) (a4 (λ_=>eD (x:=p*32+y.n*32) a3 a3) ?_);apply a4<;>intro k
  .have f:(decide (a>=p*32)&&decide (a<p*32+y.n*32))=true:=k;rw[f]at d;refine b2 (x:=y.at_*32) (b2 (x:=y.at_*32+a) (b2 (x:=y.at_*32+a - p*32) (a4 rfl (.inr ⟨rfl,?_⟩))));refine b7 ?_;rw[d];rfl
  .have f:(decide (a>=p*32)&&decide (a<p*32+y.n*32))=false:=k;rw[f]at d;refine a4 rfl (.inl ⟨rfl,i+1,⟨⟨c,?_⟩,rfl⟩,rfl⟩);rw[d,e,Int.add_mul];rfl
 .rintro i ⟨_,d⟩ c;have c:i=l.length:=c;subst c;rw[pU]at d;refine b7 ?_;rw[d];rfl
def gq(r:Int)(x:Tk):Bool:=x.D==r
def jk(M:Int)(x:Tk):Bool:=x.W==M
def eg(k:Toks)(p:Tk->Bool)(l:List Int):List Int:=l.filter λh=>p (dr k h)
abbrev S6(k:Toks)(v:SV)(n:Nat):MS:=⟨[.d (j2 k),v,.d (j2 k)],[n],[]⟩
abbrev FI(k:Toks)(v:SV)(n:Nat)(x:Tk):MS:=⟨[.d (j2 k),v,.d (j2 k),.d (td x)],[n],[]⟩
def zbe(k:Toks)(r:Int)(x:Tk)(n:Nat):b6 a6 86 [.d (td x),.B 1 []] (FI k (H r) n x) λout U=>out=.ret (B (gq r x))/\U=FI k (H r) n x:=by
 refine fm func86 ?_;exact a4 rfl (a4 rfl rfl)
def zey(k:Toks)(r:Int)(x:Tk)(n:Nat):b6 a6 181 [.d (td x),.B 1 []] (FI k (I r) n x) λout U=>out=.ret (B (jk r x))/\U=FI k (I r) n x:=by
 refine fm func181 ?_;exact a4 rfl (a4 rfl rfl)
def qY(k:Toks)(p:Tk->Bool)(l:List Int):(eg k p l).length<=l.length:=sU _ _
def FH(k:Toks)(p:Tk->Bool){l:List Int}(a:i<l.length):eg k p (l.take (i+1))=eg k p (l.take i)++(if p (dr k (l.getD i 0))=true then[l.getD i 0]else[]):=by unfold eg;rw[js,r9,ed a,eu,ed a];simp only[GG,tO,oR,Cv]
def qb(b:fG):(dI b).length<=32:=oV b
def CP(h:l8 k)(r:Int):c5 a6 40 [.d (j2 k),H r] (HS (eg k (gq r) (dI k.b))):=by
 have d:=(z1 k.b).out (iE .c hD 0 (dI k.b));have j:=qb k.b;generalize dI k.b=l at d j ⊢;refine dq func40 ?_;refine ev func85 ?_;refine bo (d) (b2 (x:=(l.length:Int)) (oA 5 .c (c7 []) rfl ?_));refine dX c6 (λi=>i<=l.length) (λi=>l.length - i) (λi=>[(14,I i),(5,gx 1 (hL (eg k (gq r) (l.take i))).length .c (hL (eg k (gq r) (l.take i))))]) (λi=>S6 k (H r) (hL (eg k (gq r) (l.take i))).length) 0 (dG _) ⟨rfl,rfl,trivial⟩ rfl (λi=>⟨a9 _,a9 _,a9 _⟩) ?_;intro i p;have b:(hL (eg k (gq r) (l.take i))).length<=32:=by
  have m:=qY k (gq r) (l.take i);have o:(l.take i).length<=l.length:=by simp;omega
  rw[dD];omega
 apply a4<;>intro g
 .have a:i<l.length:=eZ g
  have c:=FH k (gq r) a;refine fS (i:=i) (n:=l.length) (bo (uQ k (l.getD i 0) h) (mD (zbe k r (dr k (l.getD i 0)) _) ?_));apply a4<;>intro f
  .rw[if_pos (show gq r (dr k (l.getD i 0))=true from f)]at c;have e:hL (eg k (gq r) (l.take (i+1)))=hL (eg k (gq r) (l.take i))++[hD (l.getD i 0)]:=by rw[c];simp
   generalize hL (eg k (gq r) (l.take i))=L at e b ⊢;refine Or.inl (a4 ⟨rfl,(a3:L.length+1<=2147483648)⟩ (b2 (x:=(i:Int)+1) ?_));conv=>whnf
   refine⟨i+1,a,a3,⟨rfl,?_,trivial⟩,⟨?_,?_⟩,?_⟩<;>rw[e]
   .show some (SV.ow 1 (L.length+1) (L.length+[hD (l.getD i 0)].length) .c (fE L.length (c7 L) (c7 [hD (l.getD i 0)])))=_;rw[kA,ew];rfl
   .rw[ew];rfl
   .rfl
   .rfl
  .rw[if_neg (show¬gq r (dr k (l.getD i 0))=true by rw[show gq r (dr k (l.getD i 0))=false from f];simp),gk]at c;refine b2 (x:=(i:Int)+1) ?_;conv=>whnf
   refine⟨i+1,a,a3,⟨rfl,?_,trivial⟩,⟨?_,?_⟩,?_⟩<;>rw[c]<;>rfl
 .have a:i=l.length:=e9 g
  subst a;rw[gv];exact b7
def MG(h:l8 k)(r:Int):c5 a6 108 [.d (j2 k),I r] (HS (eg k (jk r) (dI k.b))):=by
 have d:=(z1 k.b).out (iE .c hD 0 (dI k.b));have j:=qb k.b;generalize dI k.b=l at d j ⊢;refine dq func108 ?_;refine ev func85 ?_;refine bo (d) (b2 (x:=(l.length:Int)) (oA 5 .c (c7 []) rfl ?_));refine dX c6 (λi=>i<=l.length) (λi=>l.length - i) (λi=>[(14,I i),(5,gx 1 (hL (eg k (jk r) (l.take i))).length .c (hL (eg k (jk r) (l.take i))))]) (λi=>S6 k (I r) (hL (eg k (jk r) (l.take i))).length) 0 (dG _) ⟨rfl,rfl,trivial⟩ rfl (λi=>⟨a9 _,a9 _,a9 _⟩) ?_;intro i p;have b:(hL (eg k (jk r) (l.take i))).length<=32:=by
  have m:=qY k (jk r) (l.take i);have o:(l.take i).length<=l.length:=by simp;omega
  rw[dD];omega
 apply a4<;>intro g
 .have a:i<l.length:=eZ g
  have c:=FH k (jk r) a;refine fS (i:=i) (n:=l.length) (bo (uQ k (l.getD i 0) h) (mD (zey k r (dr k (l.getD i 0)) _) ?_));apply a4<;>intro f
  .rw[if_pos (show jk r (dr k (l.getD i 0))=true from f)]at c;have e:hL (eg k (jk r) (l.take (i+1)))=hL (eg k (jk r) (l.take i))++[hD (l.getD i 0)]:=by rw[c];simp
   generalize hL (eg k (jk r) (l.take i))=L at e b ⊢;refine Or.inl (a4 ⟨rfl,(a3:L.length+1<=2147483648)⟩ (b2 (x:=(i:Int)+1) ?_));conv=>whnf
   refine⟨i+1,a,a3,⟨rfl,?_,trivial⟩,⟨?_,?_⟩,?_⟩<;>rw[e]
   .show some (SV.ow 1 (L.length+1) (L.length+[hD (l.getD i 0)].length) .c (fE L.length (c7 L) (c7 [hD (l.getD i 0)])))=_;rw[kA,ew];rfl
   .rw[ew];rfl
   .rfl
   .rfl
  .rw[if_neg (show¬jk r (dr k (l.getD i 0))=true by rw[show jk r (dr k (l.getD i 0))=false from f];simp),gk]at c;refine b2 (x:=(i:Int)+1) ?_;conv=>whnf
   refine⟨i+1,a,a3,⟨rfl,?_,trivial⟩,⟨?_,?_⟩,?_⟩<;>rw[c]<;>rfl
 .have a:i=l.length:=e9 g
  subst a;rw[gv];exact b7
def iN(r a:Int)(x:Tk):Bool:=(x.D==r)&&(x.A==a)
def vl(k:Toks)(r a:Int)(l:List Int):Bool:=l.any λh=>iN r a (dr k h)&&(dr k h).mu
abbrev rgM(k:Toks)(r a:Int)(b:Bool)(n:Nat):MS:=⟨[.d (j2 k),H r,H a,B b,.d (j2 k)],[n],[]⟩
abbrev Sf(k:Toks)(r a:Int)(b:Bool)(n:Nat)(x:Tk):MS:=⟨[.d (j2 k),H r,H a,B b,.d (j2 k),.d (td x)],[n],[]⟩
def zc0(k:Toks)(r a:Int)(b:Bool)(n:Nat)(x:Tk):b6 a6 170 [.d (td x),.B 1 [],.B 2 [],.B 3 []] (Sf k r a b n x) λout U=>out=.ret (B (iN r a x))/\U=Sf k r a (b||(iN r a x&&x.mu)) n x:=by
 refine fm func170 ?_;exact a4 rfl (a4 rfl rfl)
def zaT(k:Toks)(r a:Int){l:List Int}(b:i<l.length):vl k r a (l.take (i+1))=(vl k r a (l.take i)||(iN r a (dr k (l.getD i 0))&&(dr k (l.getD i 0)).mu)):=by unfold vl;rw[js,List.any_append,ed b,eu,ed b];simp
def qV(k:Toks)(r a:Int):List Int:=eg k (iN r a) (dI k.b)
def wI(k:Toks)(r a:Int):Bool:=vl k r a (dI k.b)
def Kw(m:l8 k)(r a:Int):c5 a6 87 [.d (j2 k),H r,H a] (T2 (I (qV k r a).length) (B (wI k r a))):=by
 have g:=(z1 k.b).out (iE .c hD 0 (dI k.b));have p:=qb k.b;unfold qV wI;generalize dI k.b=l at g p ⊢;refine dq func87 ?_;refine ev func85 ?_;refine bo (g) (b2 (x:=(l.length:Int)) (oA 5 .c (c7 []) rfl ?_));refine dX c6 (λi=>i<=l.length) (λi=>l.length - i) (λi=>[(14,I i),(5,gx 1 (hL (eg k (iN r a) (l.take i))).length .c (hL (eg k (iN r a) (l.take i))))]) (λi=>rgM k r a (vl k r a (l.take i)) (hL (eg k (iN r a) (l.take i))).length) 0 (dG _) ⟨rfl,rfl,trivial⟩ rfl (λi=>⟨a9 _,a9 _,a9 _⟩) ?_;intro i t;have c:(hL (eg k (iN r a) (l.take i))).length<=32:=by
  have q:=qY k (iN r a) (l.take i);have s:(l.take i).length<=l.length:=by simp;omega
  rw[dD];omega
 apply a4<;>intro j
 .have b:i<l.length:=eZ j
  have d:=FH k (iN r a) b;have o:=zaT k r a b;refine fS (i:=i) (n:=l.length) (bo (uQ k (l.getD i 0) m) (fa (zc0 k r a (vl k r a (l.take i)) _ (dr k (l.getD i 0))) ?_));rintro _ _ ⟨rfl,rfl⟩;rw[<-o];apply a4<;>intro h
  .rw[if_pos (show iN r a (dr k (l.getD i 0))=true from h)]at d;have e:hL (eg k (iN r a) (l.take (i+1)))=hL (eg k (iN r a) (l.take i))++[hD (l.getD i 0)]:=by rw[d];simp
   generalize hL (eg k (iN r a) (l.take i))=L at e c ⊢;refine Or.inl (a4 ⟨rfl,(a3:L.length+1<=2147483648)⟩ (b2 (x:=(i:Int)+1) ?_));conv=>whnf
   refine⟨i+1,b,a3,⟨rfl,?_,trivial⟩,⟨?_,?_⟩,?_⟩<;>rw[e]
   .show some (SV.ow 1 (L.length+1) (L.length+[hD (l.getD i 0)].length) .c (fE L.length (c7 L) (c7 [hD (l.getD i 0)])))=_;rw[kA,ew];rfl
   .rw[ew];rfl
   .rfl
   .rfl
  .rw[if_neg (show¬iN r a (dr k (l.getD i 0))=true by rw[show iN r a (dr k (l.getD i 0))=false from h];simp),gk]at d;refine b2 (x:=(i:Int)+1) ?_;conv=>whnf
   refine⟨i+1,b,a3,⟨rfl,?_,trivial⟩,⟨?_,?_⟩,?_⟩<;>rw[d]<;>rfl
 .have b:i=l.length:=e9 j
  subst b;rw[gv]at c ⊢;have f:(hL (eg k (iN r a) l)).length=(eg k (iN r a) l).length:=eA
  refine dL 5 (b2 (x:=((hL (eg k (iN r a) l)).length:Int)) (b7 ?_));rw[f];rfl
def qi(k:Toks)(r a:Int):Bool:=ll k a&&!wI k r a
def og(k:Toks)(r a:Int):Bool:=ll k a&&((qV k r a).length==0)
def GL(b:l8 k)(r a:Int):c5 a6 41 [.d (j2 k),H r,H a] (B (qi k r a)):=by
 refine dq func41 ?_;exact bo (Kw b r a) (bo (Iz k a) b7)
def MN(b:l8 k)(r a:Int):c5 a6 163 [.d (j2 k),H r,H a] (B (ll k a&&((qV k r a).length==(0:Int)))):=by
 refine dq func163 ?_;exact bo (Kw b r a) (bo (Iz k a) b7)
def uD(x:Tk):Bool:=((decide (x.V>=8)||decide (x.W>=8))||(x.V==x.W))||(x.D==0)
def qZ(k:Toks)(x:Tk):Bool:=(x.A != 0)&&((((dr k x.A).D != x.D)||((dr k x.A).W != x.V))||(x.mu&&!(dr k x.A).mu))
def pj(k:Toks)(x:Tk):Bool:=wI k x.D x.A||(x.mu&&decide (((qV k x.D x.A).length:Int)>0))
def mK(k:Toks)(x:Tk):Int:=bif !ll k x.A then 4 else bif uD x then 2 else bif qZ k x then 12 else bif pj k x then 5 else 0
def VP(f:l8 k)(x:Tk):c5 a6 358 [.d (j2 k),.d (td x)] (I (mK k x)):=by
 refine dq func358 ?_;refine bo (uQ k x.A f) (bo (Kw f x.D x.A) (bo (Iz k x.A) ?_));apply a4<;>intro a
 .have b:(!ll k x.A)=true:=a;refine b7 ?_;rw[mK,b];rfl
 .have b:(!ll k x.A)=false:=a;apply a4<;>intro a
  .have c:uD x=true:=a;refine b7 ?_;rw[mK,b,c];rfl
  .have c:uD x=false:=a;apply a4<;>intro a
   .have d:qZ k x=true:=a;refine b7 ?_;rw[mK,b,c,d];rfl
   .have d:qZ k x=false:=a;apply a4<;>intro a
    .have e:pj k x=true:=a;refine b7 ?_;rw[mK,b,c,d,e];rfl
    .have e:pj k x=false:=a;refine b7 ?_;rw[mK,b,c,d,e];rfl
def kD(k:Toks)(l:List Int):Toks:=⟨l.foldl e8 k.b,k.s⟩
def Tn(k:Toks){l:List Int}(d:l.length<=1000):c5 a6 362 [.d (j2 k),LS l] (.d (j2 (kD k l))):=by
 refine dq func362 ?_;refine b2 (x:=(l.length:Int)) (dX c6 (λi=>i<=l.length) (λi=>l.length - i) (λi=>[(9,I i)]) (λi=>⟨[.d (j2 (kD k (l.take i))),.d (ZT.d Ce)],[],[]⟩) 0 (dG _) ⟨rfl,trivial⟩ rfl (λi=>⟨a9 _,a9 _,a9 _⟩) ?_);intro i c;apply a4<;>intro b
 .have a:i<l.length:=eZ b
  have e:e8 (kD k (l.take i)).b (l.getD i 0)=(kD k (l.take (i+1))).b:=by unfold kD;rw[js,pq,ed a,eu,ed a];rfl
  refine fS (i:=i) (n:=l.length) (bo (ML (kD k (l.take i)).b (l.getD i 0)) (b2 (x:=(i:Int)+1) ?_));conv=>whnf
  refine⟨i+1,a,a3,⟨rfl,trivial⟩,⟨?_,rfl⟩,rfl⟩;refine g9 (ce ?_ rfl) rfl rfl;show SV.d (.H (kR (e8 (kD k (l.take i)).b (l.getD i 0))) (.H (.ar 16 KU λi=>td (k.s i)) .un))=SV.d (j2 (kD k (l.take (i+1))));rw[e];rfl
 .have a:i=l.length:=e9 b
  subst a;rw[gv];exact b7
def Uu(a:l8 k)(r:Int):c5 a6 349 [.d (j2 k),H r] (.d (j2 (kD k (eg k (gq r) (dI k.b))))):=by
 refine dq func349 ?_;exact dL 5 (c9 ((CP a r).out (iE .c hD 0 _)) (λ_ h=>h) (c9 (Tn k (eY (qY _ _ _) (eY (qb k.b) a8))) (λ_ h=>h) b7))
def nN(k:Toks):Bool:=(!!mv (dY k.b))||decide (ny (dY k.b)>=16)
def iM(k:Toks)(x:Tk):Int:=bif mK k x != 0 then mK k x else bif nN k then 7 else 0
def lI(k:Toks)(x:Tk):Toks:=bif iM k x==0 then⟨fK k.b,a7 k.s (a5 (dY k.b)) x⟩else k
def qO(k:Toks)(x:Tk):Int:=bif iM k x==0 then dY k.b else 0
def Mf(h:l8 k)(x:Tk):c5 a6 333 [.d (j2 k),.d (td x)] (T3 (.d (j2 (lI k x))) (H (qO k x)) (I (iM k x))):=by
 refine dq func333 ?_;refine bo (VP h x) ?_;apply a4<;>intro c
 .have a:(mK k x != 0)=true:=c;have e:(mK k x==0)=false:=b8 a
  refine b7 ?_;rw[lI,qO,iM,a];simp only[dZ,e,eQ];rfl
 .have a:(mK k x != 0)=false:=c;refine bo (Mb k.b) (bo (rm (dY k.b)) ?_);apply a4<;>intro c
  .have b:nN k=true:=c;refine b7 ?_;rw[lI,qO,iM,a,b];rfl
  .have b:nN k=false:=c;have g:=nR (dY k.b);have d:ny (dY k.b)<16:=by unfold nN at b;simp only[gX,kq]at b;omega
   refine fg [0,1,2,3,5,4,6,7] [(4,37),(7,0)] (a4 (show _/\_ from⟨rfl,rfl⟩) (a4 (show _/\_ from⟨rfl,rfl⟩) (a4 ⟨g.1,d⟩ ?_)));conv=>whnf
   refine⟨.d (j2 ⟨fK k.b,a7 k.s (a5 (dY k.b)) x⟩),dE (λf=>SV.d (.H (kR (fK k.b)) (.H (.ar 16 KU f) .un))) (iU td k.s (a5 (dY k.b)) x),?_⟩;refine b7 ?_;rw[lI,qO,iM,a,b];rfl
def j4(b:MBox)(i:Nat):List Msg:=(List.range i).map λj:Nat=>b.ring (kE b (j:Int)).toNat
abbrev sB(l:List Msg):List D:=l.map uV
def zay(b:MBox)(i:Nat):j4 b (i+1)=j4 b i++[b.ring (kE b (i:Int)).toNat]:=by unfold j4;rw[mC,je];rfl
def Vq(a:BoxOk b):c5 a6 368 [.d (lT b)] (.d (fq uC (sB (j4 b b.n.toNat)))):=by
 have f:=a.n0;have k:=a.n1;refine dq func368 ?_;conv=>whnf
 refine ev func375 ?_;conv=>whnf
 refine Fa 1 [] uC (c7 []) rfl rfl rfl ⟨_,_,rfl⟩ (rS rfl rfl ?_);refine ev func378 ?_;conv=>whnf
 refine dX c6 (λi:Nat=>(i:Int)<=b.n) (λi=>4 - i) (λi=>[(6,I i)]) (λi=>⟨[.d (lT b),.ow 1 i (sB (j4 b i)).length uC (c7 (sB (j4 b i))),.d (lT b)],[i],_⟩) 0 (b8 f) ⟨rfl,trivial⟩ rfl (λi=>⟨a9 _,a9 _,a9 _⟩) ?_;intro i l;have h:(sB (j4 b i)).length=i:=by simp[j4]
 conv=>whnf
 apply a4<;>intro c
 .have d:(i:Int)<b.n:=b8 c
  conv=>whnf
  refine bo (Hk b i a a3 a3) ?_;conv=>whnf
  refine⟨Hj a a3 a3,?_⟩;conv=>whnf
  refine rX c6 rfl a8 ?_;conv=>whnf
  refine Or.inl ?_;conv=>whnf
  refine⟨⟨rfl,(a3:(sB (j4 b i)).length+1<=2147483648)⟩,?_⟩;conv=>whnf
  refine⟨λc=>b3 c eA,λ_=>?_⟩;conv=>whnf
  refine b2 (x:=(i:Int)+1) ?_;conv=>whnf
  refine⟨i+1,a3,a3,⟨rfl,trivial⟩,⟨?_,rfl⟩,rfl⟩;refine g9 (ce rfl (ce ?_ rfl)) rfl rfl;show SV.ow 1 (i+1) ((sB (j4 b i)).length+[uV (b.ring (kE b i).toNat)].length) uC (fE (sB (j4 b i)).length (c7 (sB (j4 b i))) (c7 [uV (b.ring (kE b i).toNat)]))=_;rw[kA,zay,show sB (j4 b i)++[uV (b.ring (kE b i).toNat)]=sB (j4 b i++[b.ring (kE b i).toNat]) by simp]
 .have d:(i:Int)=b.n:=by
   have:¬((i:Int)<b.n):=b8 c
   omega
  have e:b.n.toNat=i:=a3
  rw[e];generalize sB (j4 b i)=L at h ⊢;conv=>whnf
  refine ev func376 ?_;conv=>whnf
  refine b2 (x:=(L.length:Int)) ?_;conv=>whnf
  refine b2 (x:=(L.length:Int)) ?_;conv=>whnf
  refine⟨⟨i6 0,(a3:(0:Int)<=(L.length:Int)),i6 _,rfl⟩,?_⟩;conv=>whnf
  refine⟨rfl,⟨_,rfl,?_⟩,rfl⟩;have g:jT (c7 L) 0=c7 L:=by funext j;simp[jT]
  show SV.le (.ow 0 0 L.length uC (jT (c7 L) 0)) _;rw[g];exact vq _ _ _ _ _
def UQ(a:BoxOk b):c5 a6 341 [.d (lT b)] (T2 (.d (lT ⟨λ_=>mz,0,0,true⟩)) (.d (fq uC (sB (j4 b b.n.toNat))))):=by
 refine dq func341 ?_;exact bo (Vq a) b7
def LR(n:Nat)(f:Nat->D)(a:n<=2147483648):c5 a6 347 [.d (.X n fi f)] (.ow 0 0 n fi f):=by
 refine dq func347 ?_;refine b2 (x:=(n:Int)) (b2 (x:=(n:Int)) (a4 ⟨i6 0,(a3:(0:Int)<=(n:Int)),i6 _,rfl⟩ (b7 ?_)));show SV.ow 0 0 n fi (jT f 0)=_;rw[show jT f 0=f from by funext j;simp[jT]]
def U6(b:∀y∈l,dw y)(c:l.length<=1000)(F:Int)(r:Rn):c5 a6 320 [.d (rA l F),.d (dR r)] (.d (rA (l++[r]) (dK l*32))):=by
 have d:=sF b;have a:=GJ b a3 F;refine dq func320 ?_;conv=>whnf
 cases l with
 |nil=>
  exact fg [0,1,2,3,6,4,5,7,8,9,10] [(4,71),(5,64),(10,0)] (c9 (LR 0 (c7 []) a8) (λ_ h=>h) (Or.inl (a4 (show _/\_ from⟨rfl,rfl⟩) (a4 (show _/\_ from⟨rfl,rfl⟩) (a4 (show _/\_ from⟨rfl,rfl⟩) (a4 a8 (.inl (a4 (show _/\_ from⟨rfl,rfl⟩) (c9 a (λ_ h=>h) (b2 (x:=dK []*32) b7))))))))))
 |cons y l=>
  refine fg [0,1,2,3,6,4,5,7,8,9,10] [(4,71),(5,64),(10,0)] (c9 (LR (fX (y::l)).length (c7 (fX (y::l))) (by rw[dD];omega)) (λ_ h=>h) (Or.inl (a4 (show _/\_ from⟨rfl,rfl⟩) (a4 (show _/\_ from⟨rfl,rfl⟩) (a4 (show _/\_ from⟨rfl,rfl⟩) (a4 ⟨rfl,(by rw[dD];omega:(fX (y::l)).length+1<=2147483648)⟩ (a4 (show _/\_ from⟨rfl,rfl⟩) (c9 a (λ_ h=>h) (b2 (x:=dK (y::l)*32) (b7 ?_))))))))));show SV.d (.H (.X ((fX (y::l)).length+[dR r].length) fi (fE (fX (y::l)).length (c7 (fX (y::l))) (c7 [dR r]))) (.H (.z .i64 (dK (y::l)*32)) .un))=.d (rA (y::l++[r]) (dK (y::l)*32));rw[rO,show fX (y::l)++[dR r]=fX (y::l++[r]) by simp,show(fX (y::l)).length+[dR r].length=(fX (y::l++[r])).length by simp];rfl
abbrev lZ(e:Int):Out:=.P (.ic 62 (.z .i64 e))
def nv(b:Bool)(e:Int)(m:MS)(d:b=true->K (.ret (.tu (.d .un))) m)(f:b=false->K (lZ e) m):b6 a6 98 [B b,I e] m K:=by
 refine ev func98 ?_;apply a4<;>intro c
 .have a:b=false:=b8 c
  exact f a
 .have a:b=true:=b8 c
  exact d a
def xc(b:Bool)(e:Int)(m:MS)(d:b=true->K (.ret (.tu (.d .un))) m)(f:b=false->K (lZ e) m):b6 a6 367 [B b,I e] m K:=by
 refine ev func367 ?_;apply a4<;>intro c
 .have a:b=false:=b8 c
  exact f a
 .have a:b=true:=b8 c
  exact d a
def kv(e:Int)(m:MS)(b:e=0->K (.ret (.tu (.d .un))) m)(c:e≠0->K (lZ e) m):b6 a6 314 [I e] m K:=by
 refine ev func314 ?_;refine nv (e==0) e m (λa=>?_) λa=>?_
 .exact b (b8 a)
 .exact c (b8 a)
structure St where
 t:Tb
 o:Nat->Sd
 k:Toks
 box:Nat->MBox
 alive:Nat->Bool
 born:Nat->Bool
def zK:Ty:=.p (.ar 4 uC) (.p .c (.p .c (.p .c .u)))
def uX(s:St):D:=.H (eN s.t) (.H (ns s.o) (.H (j2 s.k) .un))
def fw(s:St):D:=.H (uX s) (.H (.ar 8 zK λi=>lT (s.box i)) (.H (.ar 8 .c λi=>.I (s.alive i)) (.H (.ar 8 .c λi=>.I (s.born i)) .un)))
def qQ(s:St)(h:Int):List Int:=bif bk s.t.b h then[h]else[]
set_option maxRecDepth 100000 in
def JI(s:St)(h:Int):c5 a6 254 [.d (fw s),H h] (HS (qQ s h)):=by
 refine dq func254 ?_;refine bo (jA s.t.b h) ?_;apply a4<;>intro b
 .have a:bk s.t.b h=false:=b8 b
  refine a4 rfl (a4 ⟨_,rfl,?_⟩ rfl);rw[qQ,a];exact pd _ _ _ _
 .have a:bk s.t.b h=true:=b8 b
  refine Or.inl (a4 rfl (a4 ⟨_,rfl,?_⟩ rfl));rw[qQ,a];exact vq _ _ _ _ _
def Vd(n:Nat)(x:Nat->Int)(v:Int)(f:n<=2147483648):c5 a6 265 [.d (.X n .c λi=>.z .u32 (x i)),H v] (I (oz x v n)):=by
 refine dq func265 ?_;refine b2 (x:=(n:Int)) (dX c6 (λi=>i<=n/\oz x v n=n9 x v i (n - i)) (λi=>n - i) (λi=>[(8,I i)]) (λ_=>⟨[],[],[]⟩) 0 ⟨a3,rfl⟩ ⟨rfl,trivial⟩ rfl (λi=>⟨a9 _,a9 _,a9 _⟩) ?_);rintro i ⟨e,a⟩;apply a4<;>intro d
 .have b:i<n:=eZ d
  rw[show n - i=(n -(i+1))+1 by omega]at a;refine a4 ⟨a3,a3⟩ ?_;apply a4<;>intro c
  .have c:(v==x i)=true:=c;simp only[n9,c]at a;refine b7 ?_;rw[a];rfl
  .have c:(v==x i)=false:=c;simp only[n9,c]at a;refine b2 (x:=(i:Int)+1) ?_;conv=>whnf
   exact⟨i+1,⟨b,a⟩,a3,⟨rfl,trivial⟩,⟨rfl,rfl⟩,rfl⟩
 .have b:i=n:=e9 d
  subst b;rw[tM]at a;refine b7 ?_;rw[a];rfl
def UJ(n:Nat)(x:Nat->Int)(v:Int)(a:n<=2147483648):c5 a6 257 [.d (.X n .c λi=>.z .u32 (x i)),H v] (B (decide (oz x v n>=0))):=by
 refine dq func257 ?_;exact bo (Vd n x v a) b7
end Sx
namespace Sx
variable{K:Out->MS->Prop}
def Ai{P:Program}{f:FuncId}{args:List SV}{Q:Out->Prop}(d:eV 0 0 0 args=true)(h:b6 P f args ⟨[],[],[]⟩ λo m=>Q o/\m=⟨[],[],[]⟩){m:MS}(c:∀o,Q o->K o m):b6 P f args m K:=
 fa (ry m.c m.t m.o h d rfl λo U e=>by rw[e.2];exact⟨rfl,rfl,rfl⟩) λo U ⟨g,a,b⟩=>by rw[b,a.2];exact c o a.1
attribute [local irreducible] b6 eF fR ez eH eB eM fx dC ec dU dx
structure Call where
 C:Int
 r:Int
 s:Int
 a:Int
 b:Int
 v:Int
def iC(c:Call):D:=.H (.z .u8 c.C) (.H (.z .u32 c.r) (.H (.z .u32 c.s) (.H (.z .u32 c.a) (.H (.z .u32 c.b) (.H (.z .u64 c.v) .un)))))
def pl(c:Call):Bool:=decide (c.b>=1)&&decide (c.b<=8)
def Tm(c:Call){m:MS}(b:pl c=true->K (.ret (.tu (.d .un))) m)(d:pl c=false->K (lZ 2) m):b6 a6 323 [.d (iC c)] m K:=by
 refine Ai (Q:=λo=>(pl c=true/\o=.ret (.tu (.d .un)))\/(pl c=false/\o=lZ 2)) rfl ?_ λo h=>?_
 .refine fm func323 ?_;refine nv (pl c) 2 _ (λa=>?_) λa=>?_
  .exact a4 rfl (a4 (.inl ⟨a,rfl⟩) rfl)
  .exact a4 rfl (a4 (.inr ⟨a,rfl⟩) rfl)
 .rcases h with⟨a,rfl⟩|⟨a,rfl⟩
  .exact b a
  .exact d a
end Sx
end Go.Proofs.YtfbhkfhbnkncoaaGreatDoor
