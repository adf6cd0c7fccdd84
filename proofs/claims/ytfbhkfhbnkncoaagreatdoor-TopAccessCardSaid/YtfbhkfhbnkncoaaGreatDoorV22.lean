import Derived.Test.YtfbhkfhbnkncoaaGreatDoorV21
set_option linter.all false
namespace Go.Proofs.YtfbhkfhbnkncoaaGreatDoor
open Go.RowKit Tryz
open Tryz renaming prog→a6
namespace Sx
variable{E M h r x:Int}{d:Int->Nat}{P g:List Int}{b:MBox}{a:Nat}{A F:Nat->Bool}{box:Nat->MBox}{o:Nat->Sd}{w:Ow}{t t':Tb}
def kf(x:Int)(a:Nat):Bool:=dC .and .u8 x (jC (a:Int)) != 0
set_option maxRecDepth 100000 in
def YZ:∀x:Fin 256,∀a:Fin 8,kf ((x.val:Nat):Int) a.val=x.val.testBit a.val:=a8
set_option maxRecDepth 100000 in
def zfd:∀x:Fin 256,∀a:Fin 8,dC .xor .u8 ((x.val:Nat):Int) (jC ((a.val:Nat):Int))=((x.val ^^^ 2 ^ a.val:Nat):Int):=a8
def AF(c:0<=x)(d:x<256)(b:a<8):kf x a=x.toNat.testBit a:=by
 have:=YZ ⟨x.toNat,a3⟩ ⟨a,b⟩
 rwa [show((x.toNat:Nat):Int)=x by omega]at this
def zfc(c:0<=x)(d:x<256)(b:a<8):dC .xor .u8 x (jC (a:Int))=((x.toNat ^^^ 2 ^ a:Nat):Int):=by
 have:=zfd ⟨x.toNat,a3⟩ ⟨a,b⟩
 rwa [show((x.toNat:Nat):Int)=x by omega]at this
def Cd(c:0<=x)(d:x<256){b:Nat}(e:a<8)(f:b<8):kf (dC .xor .u8 x (jC (a:Int))) b=(kf x b != decide (a=b))/\0<=dC .xor .u8 x (jC (a:Int))/\dC .xor .u8 x (jC (a:Int))<256:=by rw[zfc c d e];have g:x.toNat ^^^ 2 ^ a<2 ^ 8:=Nat.xor_lt_two_pow a3 (Nat.pow_lt_pow_right a8 e);refine⟨?_,a3,a3⟩;rw[AF a3 a3 f,AF c d f];simp[Nat.testBit_xor,Vv]
set_option maxRecDepth 100000 in
def Nm:∀a:Fin 8,∀b:Fin 8,kf (jC ((a.val:Nat):Int)) b.val=decide (a.val=b.val)/\0<=jC ((a.val:Nat):Int)/\jC ((a.val:Nat):Int)<256:=a8
def Q9(c:0<=x)(d:x<256):kY x.toNat=0↔∀a,a<8->kf x a=false:=by
 unfold kY;rw[List.countP_eq_zero];constructor
 .intro h a b;rw[AF c d b];simpa using h a (gZ.2 b)
 .intro h a b;rw[<-AF c d (gZ.1 b),h a (gZ.1 b)];simp
def gd(b:MBox):List Msg:=j4 b b.n.toNat
def vS(h:BoxOk b){i:Int}(a:0<=i):kE b i=(b.J+i) % 4:=by have:=h.f0;unfold kE;rw[vI a3]
def ET(h:BoxOk b){m:Msg}(a:j6 b=0):BoxOk (jq b m)/\gd (jq b m)=gd b++[m]/\b.cl=false:=by
 have g:=h.f0;have i:=h.f1;have l:=h.n0;have o:=h.n1;have d:b.cl=false:=by
  cases c:b.cl with
  |false=>rfl
  |true=>unfold j6 at a;rw[c]at a;cases a
 have k:b.n≠4:=by intro c;unfold j6 at a;rw[d,c]at a;cases a
 have e:jq b m={b with ring:=a7 b.ring (kE b b.n).toNat m,n:=b.n+1}:=by unfold jq;rw[a];rfl
 rw[e];refine⟨⟨g,i,by simp only;omega,by simp only;omega⟩,?_,d⟩;unfold gd j4;simp only;rw[show(b.n+1).toNat=b.n.toNat+1 by omega,mC,je,z5]
 congr 1
 .refine tK λj f=>?_;have f:=gZ.1 f;have:(kE b (j:Int)).toNat≠(kE b b.n).toNat:=by rw[vS h a3,vS h a3];omega
  show a7 b.ring (kE b b.n).toNat m (kE b (j:Int)).toNat=_;exact dP this
 .show[a7 b.ring (kE b b.n).toNat m (kE b ((b.n.toNat:Nat):Int)).toNat]=[m];rw[show((b.n.toNat:Nat):Int)=b.n by omega,dN]
def KX(h:BoxOk b)(a:lA b=0):BoxOk (ia b)/\gd b=gJ b::gd (ia b):=by
 have k:=h.f0;have l:=h.f1;have m:=h.n0;have o:=h.n1;have i:b.n≠0:=by intro g;unfold lA at a;rw[g]at a;cases f:b.cl<;>rw[f]at a<;>cases a
 have e:ia b={b with J:=kE b 1,n:=b.n - 1}:=by unfold ia;rw[a];rfl
 have d:gJ b=b.ring b.J.toNat:=by unfold gJ;rw[a];rfl
 have c:BoxOk {b with J:=kE b 1,n:=b.n - 1}:=⟨by simp only;rw[vS h a3];omega,by simp only;rw[vS h a3];omega,by simp only;omega,by simp only;omega⟩;rw[e,d];refine⟨c,?_⟩;unfold gd j4;rw[show b.n.toNat=(b.n - 1).toNat+1 by omega,List.range_succ_eq_map,oT,List.map_map]
 congr 1
 .rw[vS h a3]
  congr 2
  omega
 .refine tK λj p=>?_;show b.ring (kE b ((j+1:Nat):Int)).toNat=b.ring (kE {b with J:=kE b 1,n:=b.n - 1} (j:Int)).toNat;rw[vS h a3,vS c a3];simp only;rw[vS h a3]
  congr 2
  omega
def pE(m:Msg):Bool:=(m.D != 0)&&!m.sh
def g6(l:List Msg):List Int:=(l.filter pE).map (·.D)
def OT(l m:List Msg):g6 (l++m)=g6 l++g6 m:=by unfold g6;rw[r9,je]
def FL(box:Nat->MBox):List Int:=(List.range 8).flatMap λa=>g6 (gd (box a))
def Cp(d:a<8)(b:MBox):(FL (a7 box a b)++g6 (gd (box a))).Perm (FL box++g6 (gd b)):=by
 have:FL (a7 box a b)=(List.range 8).flatMap (a7 (λa=>g6 (gd (box a))) a (g6 (gd b))):=wb λj e=>by
  by_cases c:j=a
  .subst c;rw[dN,dN]
  .rw[dP c,dP c]
 rw[this];exact DS d
def Gp(A:Nat->Bool)(x:Int):Prop:=(0<=x/\x<256)/\(∃a,a<8/\kf x a=true)/\∀a,a<8->kf x a=true->A a=true
def s6(A:Nat->Bool)(F:List Int)(h:Int)(w:Ow):Prop:=
 (w.kind=1/\(0<=w.task/\w.task<8)/\A w.task.toNat=true)\/(w.kind=2/\h∈F)\/(w.kind=3/\Gp A w.hold)
structure OInv (t:Tb) (o:Nat->Sd) (box:Nat->MBox) (alive A:Nat->Bool) (P:List Int):Prop where
 rt:∀h,gi t h->(o (a5 h)).root=h/\s6 A (P++FL box) h (o (a5 h)).own
 nd:(P++FL box).Nodup
 K:∀h∈P++FL box,gi t h/\(o (a5 h)).own.kind=2
 dead:∀a,a<8->alive a=false->(box a).n=0
 bx:∀a,a<8->BoxOk (box a)/\∀m∈gd (box a),(0<=m.J/\m.J<8)/\di m.D
def sI(c:TbOk t){y:Int}(a:eW t x)(b:eW t y)(h:a5 x=a5 y):x=y:=rH c.Q a.1 b.1 a.2 b.2 h
def xK(e:TInv t d)(b:gi t h)(c:(o (a5 h)).root=h):dy o t h=(o (a5 h)).own:=by
 have a:=(rW e b.1).2 b.2;unfold dy;rw[a,c];have:mv h=false:=by have:=b.1.2;unfold bk at this;simp only[dH,jL]at this;exact this.1
 rw[this];simp
def tv(b:TInv t d)(a:gi t h)(c:0<=M)(e:M<8):gR t h M=0:=by unfold gR;rw[a.1.2,(rW b a.1).2 a.2,fe a3,fe a3];simp
def Sw(i:TInv t d)(f:di h)(a:gR t h M=0):gi t h/\0<=M/\M<8:=by
 unfold gR at a;have c:bk t.b h=true:=by
  cases b:bk t.b h with
  |true=>rfl
  |false=>rw[b]at a;cases a
 rw[c]at a;have e:(fl t h != h)=false:=by
  cases b:(fl t h != h)with
  |false=>rfl
  |true=>rw[b]at a;cases a
 rw[e]at a;have g:(decide (M<0)||decide (M>=8))=false:=by
  cases b:(decide (M<0)||decide (M>=8))with
  |false=>rfl
  |true=>rw[b]at a;cases a
 simp only[gX,kq]at g;exact⟨⟨⟨f,c⟩,(rW i ⟨f,c⟩).1 (b8 e)⟩,a3,a3⟩
def rY{x:Ow}(a:gR t h M=0):iI o t h M x=a7 o (a5 h) ⟨h,x⟩:=by unfold iI;rw[a];rfl
def OInv.move{o':Nat->Sd}{f:Nat->MBox}{u:Nat->Bool}{j:List Int}(h:OInv t o box F A P)(J:∀x,gi t' x->(gi t x/\o' (a5 x)=o (a5 x)/\(s6 A (P++FL box) x (o (a5 x)).own->s6 u (j++FL f) x (o (a5 x)).own))\/((o' (a5 x)).root=x/\s6 u (j++FL f) x (o' (a5 x)).own))(K:(j++FL f).Nodup)(L:∀x∈j++FL f,gi t' x/\(o' (a5 x)).own.kind=2)(M:∀a,a<8->F a=false->(f a).n=0)(N:∀a,a<8->BoxOk (f a)/\∀m∈gd (f a),(0<=m.J/\m.J<8)/\di m.D):OInv t' o' f F u j:=
 ⟨λx O=>by
  rcases J x O with⟨C,E,G⟩|g
  .have:=h.rt x C;rw[E];exact⟨this.1,G this.2⟩
  .exact g,K,L,M,N⟩
def s6.sub{C:Nat->Bool}{F F':List Int}(E:∀a,a<8->A a=true->C a=true)(K:x∈F->x∈F')(h:s6 A F x w):s6 C F' x w:=by
 rcases h with⟨f,j,u⟩|⟨f,j⟩|⟨f,j,u,J⟩
 .exact .inl ⟨f,j,E _ a3 u⟩
 .exact .inr (.inl ⟨f,K j⟩)
 .exact .inr (.inr ⟨f,j,u,λa G L=>E a G (J a G L)⟩)
def r6{a:Int}(b:0<=a)(c:a<256):iz a=a:=l5 (iL (by simp[eU];omega) (λ_=>b) (by simp[eU];omega))
def qc{s:St}{a:Int}(b:eh s M h a=0):bk s.t.b h=true/\j5 s M h a=true:=by
 unfold eh at b;cases c:bk s.t.b h with
 |false=>rw[c]at b;cases b
 |true=>
  rw[c]at b;cases d:j5 s M h a with
  |false=>rw[d]at b;cases b
  |true=>exact⟨rfl,rfl⟩
def Bb{s:St}{a:Int}(g:a=1\/a=2)(f:eh s M h a=0):bk s.t.b h=true/\(dy s.o s.t h).kind=1:=by
 obtain⟨e,b⟩:=qc f;refine⟨e,?_⟩;unfold j5 at b;cases c:((dy s.o s.t h).kind==3)with
 |true=>
  rw[c]at b;have:(a==0)=false:=by rcases g with rfl|rfl<;>rfl
  rw[this]at b;simp at b
 |false=>
  rw[c]at b;cases d:((dy s.o s.t h).kind==1)with
  |true=>simpa using d
  |false=>rw[d]at b;cases b
def xJ(g:TInv t d)(h:OInv t o box F A P){k:Int}(b:(dy o t r).kind=k)(c:k≠2):r∉P++FL box:=λf=>by obtain⟨a,e⟩:=h.K r f;rw[xK g a (h.rt r a).1,e]at b;exact c b.symm
def IS(b:Alike t t')(h:OInv t o box F A P):OInv t' o box F A P:=
 h.move (λx a=>.inl ⟨b.I4.1 a,rfl,λh=>h⟩) h.nd (λx a=>⟨b.I4.2 (h.K x a).1,(h.K x a).2⟩) h.dead h.bx
def PP(L:TInv t d)(h:OInv t o box F A P){n:Int}(N:di E)(K:mW t E n=0)(m:0<=M)(v:M<8)(J:A M.toNat=true):
 (E≠0->OInv (ik t E n) o box F A P)/\(E=0->gR (ik t E n) (jg t E n) M=0/\OInv (ik t E n) (iI o (ik t E n) (jg t E n) M ⟨1,iz M,0⟩) box F A P):=by
 obtain⟨Q,p,q,O,z,S,C,r,T⟩:=Be L N K;have b:∀x,eW (ik t E n) x->x=jg t E n\/(eW t x/\a5 x≠a5 (jg t E n)):=λx a=>by
  rcases(C x a.1).1 a.2 with g|g
  .by_cases c:x=jg t E n
   .exact .inl c
   .exact .inr ⟨⟨a.1,g⟩,λe=>c (sI p.ok a q e)⟩
  .exact .inl g
 have j:∀x,eW t x->eW (ik t E n) x/\a5 x≠a5 (jg t E n):=λx a=>by have:eW (ik t E n) x:=⟨a.1,(C x a.1).2 (.inl a.2)⟩;refine⟨this,λe=>?_⟩;have:=sI p.ok this q e;have w:=a.2;rw[this,O]at w;cases w
 have f:∀x∈P++FL box,gi (ik t E n) x/\a5 x≠a5 (jg t E n):=λx a=>by obtain⟨s,R⟩:=h.K x a;obtain⟨G,u⟩:=j x s.1;exact⟨⟨G,by rw[r x u];exact s.2⟩,u⟩
 apply a4<;>intro k
 .refine h.move (λx a=>.inl ?_) h.nd (λx a=>⟨(f x a).1,(h.K x a).2⟩) h.dead h.bx;rcases b x a.1 with g|⟨g,l⟩
  .have:=a.2;rw[g,z]at this;exact b3 this k
  .exact⟨⟨g,by rw[<-r x l];exact a.2⟩,rfl,λh=>h⟩
 .have i:gi (ik t E n) (jg t E n):=⟨q,by rw[z];exact k⟩;have y:=tv p i m v;refine⟨y,?_⟩;rw[rY y];refine h.move (λx a=>?_) h.nd (λx a=>⟨(f x a).1,by rw[dP (f x a).2];exact(h.K x a).2⟩) h.dead h.bx;rcases b x a.1 with g|⟨g,l⟩
  .refine .inr ?_;rw[g,dN];exact⟨rfl,.inl ⟨rfl,by simp only;rw[r6 m a3];exact⟨m,v⟩,by simp only;rw[r6 m a3];exact J⟩⟩
  .exact .inl ⟨⟨g,by rw[<-r x l];exact a.2⟩,dP l,λh=>h⟩
def Ep{z:Int->Nat}(y:TInv t d)(O:TInv t' z){b:Nat->MBox}{k:Nat->Bool}(h:OInv t o box F A P)(s:eW t r)(J:t'.b=t.b)(f:∀x,A0 t' x=if a5 x=a5 r then 0 else A0 t x)(K:∀x,x∈g++FL b->x≠r->x∈P++FL box)(p:∀x,x∈P++FL box->x≠r->x∈g++FL b)(Q:s6 k (g++FL b) r w)(L:r∈g++FL b->w.kind=2)(q:(g++FL b).Nodup)(n:∀a,a<8->A a=true->k a=true)(E:∀a,a<8->F a=false->(b a).n=0)(G:∀a,a<8->BoxOk (b a)/\∀m∈gd (b a),(0<=m.J/\m.J<8)/\di m.D):OInv t' (a7 o (a5 r) ⟨r,w⟩) b F k g:=by
 have j:∀x,eW t' x↔eW t x:=λx=>by unfold eW;rw[J]
 have u:gi t' r:=⟨(j r).2 s,by rw[f,if_pos rfl]⟩;refine h.move (λx i=>?_) q (λx i=>?_) E G
 .by_cases c:a5 x=a5 r
  .have e:=sI y.ok ((j x).1 i.1) s c;refine .inr ?_;rw[e,dN];exact⟨rfl,Q⟩
  .refine .inl ⟨⟨(j x).1 i.1,by have:=i.2;rw[f,if_neg c]at this;exact this⟩,dP c,λN=>N.sub n λM=>p x M λe=>c (by rw[e])⟩
 .by_cases c:x=r
  .rw[c,dN];exact⟨u,L (c▸i)⟩
  .obtain⟨l,C⟩:=h.K x (K x i c);have v:a5 x≠a5 r:=λe=>c (sI y.ok l.1 s e);rw[dP v];exact⟨⟨(j x).2 l.1,by rw[f,if_neg v];exact l.2⟩,C⟩
def Er(l:TInv t d){b:Nat->MBox}{f:Nat->Bool}{e:List Int}(h:OInv t o box F A P)(k:gi t r)(q:∀x,x∈e++FL b->x≠r->x∈P++FL box)(i:∀x,x∈P++FL box->x≠r->x∈e++FL b)(u:s6 f (e++FL b) r w)(s:r∈e++FL b->w.kind=2)(j:(e++FL b).Nodup)(g:∀a,a<8->A a=true->f a=true)(n:∀a,a<8->F a=false->(b a).n=0)(p:∀a,a<8->BoxOk (b a)/\∀m∈gd (b a),(0<=m.J/\m.J<8)/\di m.D):OInv t (a7 o (a5 r) ⟨r,w⟩) b F f e:=by
 refine Ep l l h k.1 rfl (λx=>?_) q i u s j g n p;by_cases c:a5 x=a5 r
 .rw[if_pos c,BV c];exact k.2
 .rw[if_neg c]
def PK(l:TInv t d)(h:OInv t o box F A P)(f:eW t r)(m:∀x,x∈g++FL box↔x∈P++FL box/\x≠r)(j:(g++FL box).Nodup):OInv (gT t (dJ t r)) o box F A g:=by
 obtain⟨hD,z,y,a⟩:=tf l f;refine h.move (λx b=>.inl ?_) j (λx b=>?_) h.dead h.bx
 .have n:=(hD.D2 x b.1.1).1 b.1.2;have a:=a x b.1;have k:x≠r:=λe=>n.2 (by rw[e];exact(oM l f).2 ⟨f,.refl _⟩);exact⟨⟨⟨b.1.1,n.1⟩,by rw[<-a];exact b.2⟩,rfl,λw=>w.sub (λ_ _ h=>h) λi=>(m x).2 ⟨i,k⟩⟩
 .obtain⟨s,u⟩:=(m x).1 b;obtain⟨c,q⟩:=h.K x s;have v:x∉eT t r:=λi=>by have:=((oM l f).1 i).2;exact u (GX this c.2)
  have p:eW (gT t (dJ t r)) x:=⟨c.1.1,(hD.D2 x c.1.1).2 ⟨c.1.2,v⟩⟩;exact⟨⟨p,by rw[a x p];exact c.2⟩,q⟩
def Eo(f:TInv t d)(h:OInv t o box F A P)(c:eW t r)(b:r∉P++FL box):OInv (gT t (dJ t r)) o box F A P:=
 PK f h c (λx=>⟨λa=>⟨a,λe=>b (e▸a)⟩,λa=>a.1⟩) h.nd
def M2(l:TInv t d)(h:OInv t o box F A P){a:Int}(s:di a)(g:di E)(q:nL t a E=0)(r:a∉P++FL box):OInv (ln t a E) o box F A P:=by
 obtain⟨m,n,p,v,w,j,y⟩:=Ed l s g q;have k:∀x,eW (ln t a E) x↔eW t x:=λx=>by unfold eW;rw[p]
 refine h.move (λx f=>.inl ?_) h.nd (λx f=>?_) h.dead h.bx
 .have b:=f.2;rw[j]at b;by_cases c:a5 x=a5 a
  .rw[if_pos c]at b;exact b3 b (g8 n.2)
  .rw[if_neg c]at b;exact⟨⟨(k x).1 f.1,b⟩,rfl,λh=>h⟩
 .obtain⟨i,u⟩:=h.K x f;have c:a5 x≠a5 a:=λe=>r (by rw[<-sI l.ok i.1 m.1 e];exact f);exact⟨⟨(k x).2 i.1,by rw[j,if_neg c];exact i.2⟩,u⟩
def wq:∀{l:List Rn},(∀y∈l,dw y)->(l.length:Int)<=dK l
 |[],_=>a8
 |y::l,h=>by have a:=h y (fQ ..);have c:=wq (l:=l) λz b=>h z (fA _ b);unfold dw at a;simp only[jV,dK];omega
def RgI.I6{r:Rg}(h:RgI r):vO r:=⟨λy f=>by have:=h.ok y f;unfold dw at this;exact eD a3 a3,by have:=wq h.ok;have:=h.pg;have:=h.q1;omega⟩
def xe(t:Tb)(h:Int)(c:Nat->Int)(k:Nat):Nat->Int:=λi=>bif Nat.blt i k&&pA t h (c i)then 0 else c i
def N4(t:Tb)(h:Int)(c:Nat->Int)(k:Nat):xe t h c (k+1)=bif pA t h (c k)then a7 (xe t h c k) k 0 else xe t h c k:=by
 funext i
 unfold xe;cases f:pA t h (c k)with
 |true=>
  rw[dZ];unfold a7;split
  .rename_i e;subst e;rw[f,show Nat.blt i (i+1)=true by simp];rfl
  .rename_i e;have:Nat.blt i (k+1)=Nat.blt i k:=by
    cases a:Nat.blt i k with
    |true=>
     have:i<k:=b8 a
     simp;omega
    |false=>
     have g:¬i<k:=λh=>
      by
       have b:Nat.blt i k=true:=b8 h
       rw[b]at a;cases a
     cases d:Nat.blt i (k+1)with
     |false=>rfl
     |true=>
      have:i<k+1:=b8 d
      omega
   rw[this]
 |false=>
  rw[eQ];by_cases e:i=k
  .subst e;rw[f,lO,lO]
  .have:Nat.blt i (k+1)=Nat.blt i k:=by
    cases a:Nat.blt i k with
    |true=>
     have:i<k:=b8 a
     simp;omega
    |false=>
     have g:¬i<k:=λh=>
      by
       have b:Nat.blt i k=true:=b8 h
       rw[b]at a;cases a
     cases d:Nat.blt i (k+1)with
     |false=>rfl
     |true=>
      have:i<k+1:=b8 d
      omega
   rw[this]
attribute [local irreducible] b6 eF fR ez eH eB eM fx dC ec dU dx
def UN(j:TInv t d)(w:di h):c5 a6 351 [.d (eN t),H h] (T2 (.d (eN (fC t h))) (I (rz t h))):=by
 refine dq func351 ?_;refine bo (jA t.b h) ?_;apply a4<;>intro g
 .have m:bk t.b h=false:=b8 g
  refine b7 ?_;rw[fC,rz,m];rfl
 .have m:bk t.b h=true:=b8 g
  refine ev func184 ?_;refine rS rfl rfl ?_;refine FM j.ok j.rk m w (σ:=List Int) (λo=>[.d (eN t),H h,.d (ZT.d uG),.fn (.func 372) (.H (.B 1 []) (.H (.B 0 []) (.d .un))),.d (eN (qz t h o)),.d (eN t),H h]) (λ_=>[]) id (λ_=>True) 6 5 7 0 [] (λ_=>rfl) (λ_=>rfl) (λ_=>⟨rfl,rfl,rfl⟩) trivial rfl rfl ?_ ?_
  .intro s x r _ p v E C A;have l:Cells t (qz t h s):=DC t h s t;have q:=l.inv j;generalize u:qz t h s=n at l q;refine BE (rX c6 rfl a8 ?_);refine bo (uK n x) (dX c6 (λk=>k<=8) (λk=>8 - k) (λk=>[(34,I k)]) (λk=>⟨[.d (eN t),H h,.d (ZT.d uG),.fn (.func 372) (.H (.B 1 []) (.H (.B 0 []) (.d .un))),.d (eN n),.d (eN t),H h,.d (lU {b1 n x with cells:=xe t h (b1 n x).cells k})],[],_⟩) 0 (dG _) ⟨rfl,trivial⟩ rfl (λi=>⟨a9 _,a9 _,a9 _⟩) ?_);intro k y;apply a4<;>intro g
   .have a:k<8:=eZ g
    refine a4 ⟨(a3:(0:Int)<=(k:Int)),(a3:(k:Int)<8)⟩ (ev func372 ?_);refine c9 (GH t ((b1 n x).cells k) h j.rk) (λ_ h _=>h) ?_;apply a4<;>intro b
    .have b:pA t h ((b1 n x).cells k)=true:=b;refine a4 ⟨(a3:(0:Int)<=(k:Int)),(a3:(k:Int)<8)⟩ ?_;conv=>whnf
     refine⟨.d (lU {b1 n x with cells:=a7 (xe t h (b1 n x).cells k) k 0}),dE (λf=>SV.d (.H (.z .u32 (b1 n x).up) (.H (.z .i64 (b1 n x).E) (.H (rA (b1 n x).rs (b1 n x).len) (.H (.ar 8 .c f) .un))))) (iU (λx=>D.z .u32 x) (xe t h (b1 n x).cells k) k 0),?_⟩;refine b2 (x:=(k:Int)+1) ?_;conv=>whnf
     have e:=N4 t h (b1 n x).cells k;rw[b]at e;exact⟨k+1,a,a3,⟨rfl,trivial⟩,⟨g9 (ce rfl (ce rfl (ce rfl (ce rfl (ce rfl (ce rfl (ce rfl (ce (dE (λc=>SV.d (lU {b1 n x with cells:=c})) e.symm) rfl)))))))) rfl rfl,rfl⟩,rfl⟩
    .have b:pA t h ((b1 n x).cells k)=false:=b;refine b2 (x:=(k:Int)+1) ?_;conv=>whnf
     have e:=N4 t h (b1 n x).cells k;rw[b]at e;exact⟨k+1,a,a3,⟨rfl,trivial⟩,⟨g9 (ce rfl (ce rfl (ce rfl (ce rfl (ce rfl (ce rfl (ce rfl (ce (dE (λc=>SV.d (lU {b1 n x with cells:=c})) e.symm) rfl)))))))) rfl rfl,rfl⟩,rfl⟩
   .have a:k=8:=e9 g
    subst a;refine bo (CO n x (DD t h (b1 n x)) ((pF q x).cells _ _).I6) ?_;conv=>whnf
    refine⟨rfl,rfl,s++[x],⟨trivial,rfl⟩,?_⟩;have e:qz t h (s++[x])=hZ n x (DD t h (b1 n x)):=by unfold qz at u ⊢;rw[pq,u];rfl
    exact g9 (ce rfl (ce rfl (ce rfl (ce rfl (ce (dE (λc=>SV.d (eN c)) e.symm) (ce rfl (ce rfl rfl))))))) rfl rfl
  .intro s z _ p;have p:s=eT t h:=p;subst p;have l:Cells t (qz t h (eT t h)):=DC t h _ t;refine bo (MD (qz t h (eT t h)) h 0 (l.inv j).rk) (b7 ?_);rw[fC,rz,m];rfl
end Sx
namespace Sx
variable{x:Int}{n:Nat}{k:Toks}
abbrev qu(x:Int):Tk->Bool:=λt=>t.A==x
def zeC{a b c:Int}(h:TRe k a b)(g:TRe k b c):TRe k a c:=by
 induction g with
 |refl=>exact h
 |step _ d e=>exact .step e d
def Lg{y:Int}:TRe k x y↔y=x\/∃z∈nC k x,TRe k z y:=by
 constructor
 .intro h;induction h with
  |refl=>exact .inl rfl
  |step h b d=>
   rcases d with rfl|⟨z,a,c⟩
   .exact .inr ⟨_,b,.refl⟩
   .exact .inr ⟨z,a,.step c b⟩
 .rintro(rfl|⟨z,a,h⟩)
  .exact .refl
  .exact zeC (.step .refl a) h
abbrev OI:SV:=.fn (.func 360) (.H (.B 2 []) (.H (.B 0 []) (.H (.B 3 []) (.d .un))))
abbrev wa(k:Toks)(l:List (Int×SV)):MS:=⟨[.d (j2 k),.d (ZT.d Ce),.ob (.mo 0),OI],[],[.map .u32 l]⟩
abbrev fM(k:Toks)(l:List (Int×SV))(x:Int)(n:Nat):MS:=⟨[.d (j2 k),.d (ZT.d Ce),.ob (.mo 0),OI,H x,.d (j2 k)],[n],[.map .u32 l]⟩
def Qs:∀{l:List (Int×SV)},s7 l->∀x:Int,s7 (pH l x (.d (.I true)))/\∀y,lp (iy (pH l x (.d (.I true))) y)=(lp (iy l y)||y==x)
 |[],_,x=>⟨⟨⟨true,rfl⟩,trivial⟩,λy=>by
  show lp (match ng x y with
   |true=>some (SV.d (.I true))
   |false=>none)=(false||y==x)
  cases a:ng x y with
  |true=>have:=(pY).1 a;subst this;simp[lp]
  |false=>
   have:y≠x:=λe=>by rw[(pY).2 e.symm]at a;cases a
   simp[lp,this]⟩
 |(c,u)::r,h,x=>by
  obtain⟨j,d⟩:=h;obtain⟨g,i⟩:=Qs d x;unfold pH;cases a:ng c x with
  |true=>
   have e:=(pY).1 a;subst e;refine⟨⟨⟨true,rfl⟩,d⟩,λy=>?_⟩;simp only[iy];cases b:ng c y with
   |true=>have:=(pY).1 b;subst this;simp[lp]
   |false=>
    have:y≠c:=λe=>by rw[(pY).2 e.symm]at b;cases b
    simp[this]
  |false=>
   refine⟨⟨j,g⟩,λy=>?_⟩;simp only[iy];cases b:ng c y with
   |true=>
    have e:=(pY).1 b;have:y≠x:=λf=>by rw[e,f,(pY).2 rfl]at a;cases a
    simp[this]
   |false=>exact i y
def AH{n k j:Nat}:∀{l:List (Int×SV)},s7 l->ui n k j l=true
 |[],_=>rfl
 |(_,v)::r,⟨⟨b,a⟩,h⟩=>by show(v.ids n k j&&ui n k j r)=true;rw[AH h,a];rfl
def IN{l:List (Int×SV)}(h:s7 l):(eV 6 1 1 (fM k l x n).c&&gV 6 1 1 (fM k l x n).o)=true:=by show(true&&(ui _ _ _ l&&true))=true;rw[AH h];rfl
attribute [local irreducible] b6 eF fR ez eH eB eM fx dC ec dU dx
def OQ{k:Toks}(N:l8 k){A:Int->Nat}{F:Nat}(J:∀y,A y<F)(C:∀x y,x≠0->y∈nC k x->A x<A y)(K:∀x y,y∈nC k x->y≠0):∀(n:Nat) (x:Int) (l:List (Int×SV)),x≠0->F<=n+A x->s7 l->b6 a6 360 [H x,.B 2 [],.B 0 [],.B 3 []] (wa k l) λo m=>o=.ret (.tu (.d .un))/\∃u,m=wa k u/\s7 u/\∀y,lp (iy u y)=true↔lp (iy l y)=true\/TRe k x y
 |0,x,l,_,hn,_=>by have:=J x;omega
 |n+1,x,l,O,hn,Z=>by
  have ih:=OQ N J C K n;have G:=(z1 k.b).out (iE .c hD 0 (dI k.b));have g:=qb k.b;have b:nC k x=eg k (qu x) (dI k.b):=rfl;have d:=λy=>C x y O;obtain⟨v,Q⟩:=Qs Z x;refine fm func360 ?_;conv=>whnf
  generalize pH l x (SV.d (D.I true))=l1 at v Q;refine ev func85 ?_;conv=>whnf
  rw[b]at d;generalize dI k.b=is at G g d b;refine bo (G) ?_;conv=>whnf
  refine b2 (x:=(is.length:Int)) ?_;conv=>whnf
  refine oA 5 .c (c7 []) rfl ?_;refine dX c6 (λi=>i<=is.length) (λi=>is.length - i) (λi=>[(14,I i),(5,gx 1 (hL (eg k (qu x) (is.take i))).length .c (hL (eg k (qu x) (is.take i))))]) (λi=>fM k l1 x (hL (eg k (qu x) (is.take i))).length) 0 (dG _) ⟨rfl,rfl,trivial⟩ rfl (λi=>⟨a9 _,a9 _,a9 _⟩) ?_;intro i W;have c:(hL (eg k (qu x) (is.take i))).length<=32:=by
   have r:=qY k (qu x) (is.take i);have f:(is.take i).length<=is.length:=by simp;omega
   rw[dD];omega
  conv=>whnf
  apply a4<;>intro j
  .have a:i<is.length:=by
    have:(i:Int)<is.length:=b8 j
    omega
   have t:=FH k (qu x) a;conv=>whnf
   refine fS (i:=i) (n:=is.length) ?_;conv=>whnf
   refine bo (uQ k (is.getD i 0) N) ?_;conv=>whnf
   refine ev func361 ?_;conv=>whnf
   apply a4<;>intro M
   .rw[if_pos (show qu x (dr k (is.getD i 0))=true from M)]at t;have e:hL (eg k (qu x) (is.take (i+1)))=hL (eg k (qu x) (is.take i))++[hD (is.getD i 0)]:=by rw[t];simp
    generalize hL (eg k (qu x) (is.take i))=L at e c ⊢;conv=>whnf
    refine Or.inl ?_;conv=>whnf
    refine⟨⟨rfl,(a3:L.length+1<=2147483648)⟩,?_⟩;conv=>whnf
    refine b2 (x:=(i:Int)+1) ?_;conv=>whnf
    refine⟨i+1,a,a3,⟨rfl,?_,trivial⟩,⟨?_,IN v⟩,?_⟩<;>rw[e]
    .show some (SV.ow 1 (L.length+1) (L.length+[hD (is.getD i 0)].length) .c (fE L.length (c7 L) (c7 [hD (is.getD i 0)])))=_;rw[kA,ew];rfl
    .rw[ew];rfl
    .rfl
   .rw[if_neg (show¬qu x (dr k (is.getD i 0))=true by rw[show qu x (dr k (is.getD i 0))=false from M];simp),gk]at t;conv=>whnf
    refine b2 (x:=(i:Int)+1) ?_;conv=>whnf
    refine⟨i+1,a,a3,⟨rfl,?_,trivial⟩,⟨?_,IN v⟩,?_⟩<;>rw[t]<;>rfl
  .have a:i=is.length:=by
    have:¬((i:Int)<is.length):=b8 j
    omega
   subst a;rw[gv];rw[gv]at c;generalize Y:eg k (qu x) is=ks at d c b;conv=>whnf
   refine b2 (x:=((hL ks).length:Int)) ?_;conv=>whnf
   refine dX c6 (λ(s:Nat×List (Int×SV))=>s.1<=ks.length/\s7 s.2/\∀y,lp (iy s.2 y)=true↔lp (iy l1 y)=true\/∃z∈ks.take s.1,TRe k z y) (λs=>ks.length - s.1) (λs=>[(13,I s.1)]) (λs=>fM k s.2 x (hL ks).length) (0,l1) ⟨dG _,v,λy=>eA⟩ ⟨rfl,trivial⟩ rfl (λi=>⟨a9 _,a9 _,a9 _⟩) ?_;rintro⟨i,q⟩ ⟨W,w,R⟩;have aa:(hL ks).length=ks.length:=dD ..;conv=>whnf
   apply a4<;>intro j
   .have a:i<ks.length:=by
     have:(i:Int)<(hL ks).length:=b8 j
     omega
    have P:ks[i]?=some (ks.getD i 0):=by rw[eu,ed a];rfl
    have E:ks.getD i 0∈ks:=oU P;have p:ks.getD i 0∈nC k x:=by rw[b];exact E
    have ab:=C x _ O p;conv=>whnf
    refine fS (i:=i) (n:=(hL ks).length) ?_;conv=>whnf
    have T:c7 (hL ks) ((((i,q):Nat×List (Int×SV)).fst:Nat):Int).toNat=hD (ks.getD i 0):=qe hD 0 a;rw[T];conv=>whnf
    have V:=ry [H x,.d (j2 k)] [(hL ks).length] [] (ih (ks.getD i 0) q (K x _ p) a3 w) rfl (by show(true&&(ui _ _ _ q&&true))=true;rw[AH w];rfl) (by rintro o U ⟨_,u,rfl,_⟩;exact⟨rfl,rfl,rfl⟩);refine fa V ?_;rintro o U ⟨m2,⟨rfl,l3,rfl,S,r2⟩,rfl⟩;conv=>whnf
    refine b2 (x:=(i:Int)+1) ?_;conv=>whnf
    refine⟨(i+1,l3),⟨a,S,λy=>?_⟩,by simp only;omega,⟨rfl,trivial⟩,⟨rfl,IN S⟩,rfl⟩;rw[r2,R,js,P];simp only[GG,eP,nZ];constructor
    .rintro((h|⟨z,r,f⟩)|h)
     .exact .inl h
     .exact .inr ⟨z,.inl r,f⟩
     .exact .inr ⟨_,.inr rfl,h⟩
    .rintro(h|⟨z,r|rfl,f⟩)
     .exact .inl (.inl h)
     .exact .inl (.inr ⟨z,r,f⟩)
     .exact .inr f
   .have a:i=ks.length:=by
     have:¬((i:Int)<(hL ks).length):=b8 j
     omega
    subst a;conv=>whnf
    refine⟨?_,rfl,q,rfl,w,λy=>?_⟩
    .show(true&&(true&&(ui _ _ _ q&&true)))=true;rw[AH w];rfl
    .rw[R,gv,Q,Lg,b];simp only[pP,gG,or_assoc]
def Yn(p:Int->Bool){l:List Int}{i:Nat}(a:i<l.length):(l.take (i+1)).filter p=(l.take i).filter p++(if p (l.getD i 0)=true then[l.getD i 0]else[]):=by rw[js,r9,ed a,eu,ed a];simp only[GG,tO,oR,Cv]
def PF{l:List (Int×SV)}(h:s7 l):(eV 4 1 1 (⟨(wa k l).c,[n],(wa k l).o⟩:MS).c&&gV 4 1 1 (⟨(wa k l).c,[n],(wa k l).o⟩:MS).o)=true:=by show(true&&(ui _ _ _ l&&true))=true;rw[AH h];rfl
def MH(M:l8 k){s:Int->Nat}{t:Nat}(A:∀y,s y<t)(F:∀x y,x≠0->y∈nC k x->s x<s y)(G:∀x y,y∈nC k x->y≠0)(x:Int):∃u:SV,u.shape=.c/\c5 a6 334 [.d (j2 k),H x] (T3 (.d (j2 (gI k x))) u (I (bif bk k.b x then 0 else 4))):=by
 have w:=(z1 k.b).out (iE .c hD 0 (dI k.b));have g:=qb k.b;cases f:bk k.b x with
 |false=>
  refine⟨LS [],rfl,?_⟩;refine dq func334 ?_;refine bo (jA k.b x) (a4 (λ_=>?_) λd=>by rw[f]at d;cases d);conv=>whnf
  rw[gI,f];exact⟨rfl,⟨_,rfl,GM λO J x h=>pd .c .c _ _ O J x h⟩,rfl⟩
 |true=>
  have N:=g8 f;refine⟨HS (vv k x),rfl,?_⟩;refine dq func334 ?_;refine bo (jA k.b x) (a4 (λd=>by rw[f]at d;cases d) λ_=>?_);refine fa (OQ M A F G t x [] N a3 trivial) ?_;rintro o U ⟨rfl,a,rfl,r,P⟩;conv=>whnf
  have E:vv k x=(dI k.b).filter λy=>lp (iy a y):=by
   unfold vv;refine List.filter_congr λy _=>?_;have v:lp (iy a y)=true↔TRe k x y:=by
    have:=P y
    rwa [show lp (iy [] y)=true↔False from⟨ef,False.elim⟩,false_or]at this
   rw[sQ];exact Iff.trans eA v.symm
  have C:gI k x=kD k (vv k x):=by rw[gI,f];rfl
  rw[C,E];generalize dI k.b=is at w g;refine bo (w) (b2 (x:=(is.length:Int)) (oA 9 .c (c7 []) rfl ?_));refine dX c6 (λi=>i<=is.length) (λi=>is.length - i) (λi=>[(27,I i),(9,gx 1 (hL ((is.take i).filter λy=>lp (iy a y))).length .c (hL ((is.take i).filter λy=>lp (iy a y))))]) (λi=>⟨(wa k a).c,[(hL ((is.take i).filter λy=>lp (iy a y))).length],(wa k a).o⟩) 0 (dG _) ⟨rfl,rfl,trivial⟩ rfl (λi=>⟨a9 _,a9 _,a9 _⟩) ?_;intro i Q;have b:(hL ((is.take i).filter λy=>lp (iy a y))).length<=32:=by
   have p:=sU (λy=>lp (iy a y)) (is.take i);have v:(is.take i).length<=is.length:=by simp;omega
   rw[dD];omega
  apply a4<;>intro d
  .have c:i<is.length:=eZ d
   have m:=Yn (λy=>lp (iy a y)) c;refine fS (i:=i) (n:=is.length) ?_;conv=>whnf
   refine⟨r,_,rfl,?_⟩;conv=>whnf
   apply a4<;>intro z
   .rw[if_pos (show lp (iy a (is.getD i 0))=true from z)]at m;have e:hL ((is.take (i+1)).filter λy=>lp (iy a y))=hL ((is.take i).filter λy=>lp (iy a y))++[hD (is.getD i 0)]:=by rw[m];simp
    generalize hL ((is.take i).filter λy=>lp (iy a y))=L at e b ⊢;refine Or.inl (a4 ⟨rfl,(a3:L.length+1<=2147483648)⟩ (b2 (x:=(i:Int)+1) ?_));conv=>whnf
    refine⟨i+1,c,a3,⟨rfl,?_,trivial⟩,⟨?_,PF r⟩,?_⟩<;>rw[e]
    .show some (SV.ow 1 (L.length+1) (L.length+[hD (is.getD i 0)].length) .c (fE L.length (c7 L) (c7 [hD (is.getD i 0)])))=_;rw[kA,ew];rfl
    .rw[ew];rfl
    .rfl
   .rw[if_neg (show¬lp (iy a (is.getD i 0))=true by rw[show lp (iy a (is.getD i 0))=false from z];simp),gk]at m;refine b2 (x:=(i:Int)+1) ?_;conv=>whnf
    refine⟨i+1,c,a3,⟨rfl,?_,trivial⟩,⟨?_,PF r⟩,?_⟩<;>rw[m]<;>rfl
  .have c:i=is.length:=e9 d
   subst c;rw[gv]at b ⊢;generalize(is.filter λy=>lp (iy a y))=ks at b;have q:(hL ks).length=ks.length:=dD ..;refine bo (c5.le (Tn k (l:=ks) a3) ⟨SV.le_refl _,?_,trivial⟩) ?_
   .intro O J x h;refine b0 ?_;have p:=(h.B9 rfl).2 rfl;rw[q]at p;exact dM.congr p λj K=>PT K
   exact b7
end Sx
namespace Sx
variable{p:Int->Bool}{l:List Int}{m:MS}{a b c d k:Nat}
def sz(p:Int->Bool):List Int->Nat->Int
 |[],_=> -1
 |y::l,i=>bif p y then i else sz p l (i+1)
def Pu:decide (sz p l 0>=0)=l.any p:=by
 have:∀(l:List Int) (i:Nat),decide (sz p l i>=0)=l.any p:=λl=>by
  induction l with
  |nil=>intro i;rfl
  |cons y l a=>
   intro i;rw[sz,z3];cases p y with
   |true=>exact eI (Ma i)
   |false=>exact a (i+1)
 exact this l 0
attribute [local irreducible] b6 eF fR ez eH eB eM fx dC ec dU dx
def U9(q:l.length<=2147483648)(h:∀y∈l,b6 a6 k (H y::[.B a []]) m λo U=>o=.ret (B (p y))/\U=m):b6 a6 221 [LS l,.fn (.func k) (.H (.B a []) (.d .un))] m λo U=>o=.ret (I (sz p l 0))/\U=m:=by
 refine ev func221 ?_;refine b2 (x:=(l.length:Int)) (wu c6 (λi=>i<=l.length/\sz p l 0=sz p (l.drop i) i) (λi=>l.length - i) (λi=>[(8,I i)]) (λ_=>m) 0 ⟨dG _,rfl⟩ ⟨rfl,trivial⟩ rfl (λi=>⟨a9 _,a9 _,a9 _⟩) ?_);rintro i ⟨j,c⟩;apply a4<;>intro g
 .have b:i<l.length:=eZ g
  have f:l[i]?=some (l.getD i 0):=by rw[eu,ed b];rfl
  have e:l.getD i 0∈l:=oU f;rw[sl f]at c;simp only[sz]at c;refine fS (i:=i) (n:=l.length) (mD (h _ e) ?_);apply a4<;>intro d
  .have d:p (l.getD i 0)=true:=d;rw[d]at c;exact a4 (by rw[c];rfl) rfl
  .have d:p (l.getD i 0)=false:=d;rw[d]at c;refine b2 (x:=(i:Int)+1) ?_;conv=>whnf
   exact⟨i+1,⟨b,c⟩,a3,⟨rfl,trivial⟩,.inl rfl⟩
 .have b:i=l.length:=e9 g
  subst b;rw[pU]at c;exact a4 (by rw[c];rfl) rfl
def UB(c:l.length<=2147483648)(b:∀y∈l,b6 a6 k (H y::[.B a []]) m λo U=>o=.ret (B (p y))/\U=m):b6 a6 165 [LS l,.fn (.func k) (.H (.B a []) (.d .un))] m λo U=>o=.ret (B (l.any p))/\U=m:=by
 rw[<-Pu];refine ev func165 ?_;refine mD (U9 c b) ?_;exact a4 rfl rfl
def Va(t:l.length<=2147483648)(r:∀y∈l,b6 a6 k (H y::[.B a [],.B b [],.B c [],.B d []]) m λo U=>o=.ret (B (p y))/\U=m):b6 a6 221 [LS l,.fn (.func k) (.H (.B a []) (.H (.B b []) (.H (.B c []) (.H (.B d []) (.d .un)))))] m λo U=>o=.ret (I (sz p l 0))/\U=m:=by
 refine ev func221 ?_;refine b2 (x:=(l.length:Int)) (wu c6 (λi=>i<=l.length/\sz p l 0=sz p (l.drop i) i) (λi=>l.length - i) (λi=>[(8,I i)]) (λ_=>m) 0 ⟨dG _,rfl⟩ ⟨rfl,trivial⟩ rfl (λi=>⟨a9 _,a9 _,a9 _⟩) ?_);rintro i ⟨s,f⟩;apply a4<;>intro q
 .have e:i<l.length:=eZ q
  have j:l[i]?=some (l.getD i 0):=by rw[eu,ed e];rfl
  have h:l.getD i 0∈l:=oU j;rw[sl j]at f;simp only[sz]at f;refine fS (i:=i) (n:=l.length) (mD (r _ h) ?_);apply a4<;>intro g
  .have g:p (l.getD i 0)=true:=g;rw[g]at f;exact a4 (by rw[f];rfl) rfl
  .have g:p (l.getD i 0)=false:=g;rw[g]at f;refine b2 (x:=(i:Int)+1) ?_;conv=>whnf
   exact⟨i+1,⟨e,f⟩,a3,⟨rfl,trivial⟩,.inl rfl⟩
 .have e:i=l.length:=e9 q
  subst e;rw[pU]at f;exact a4 (by rw[f];rfl) rfl
def UC(f:l.length<=2147483648)(e:∀y∈l,b6 a6 k (H y::[.B a [],.B b [],.B c [],.B d []]) m λo U=>o=.ret (B (p y))/\U=m):b6 a6 165 [LS l,.fn (.func k) (.H (.B a []) (.H (.B b []) (.H (.B c []) (.H (.B d []) (.d .un)))))] m λo U=>o=.ret (B (l.any p))/\U=m:=by
 rw[<-Pu];refine ev func165 ?_;refine mD (Va f e) ?_;exact a4 rfl rfl
end Sx
namespace Sx
variable{h:Int}{d:Int->Nat}{s:St}
structure StOk (s:St) (d:Int->Nat):Prop where
 t:TInv s.t d
 k:l8 s.k
attribute [local irreducible] b6 eF fR ez eH eB eM fx dC ec dU dx
def wR{l:List Int}:(HS l).le (LS l):=iE .c hD 0 l
def Lk{t:Tb}(a:TInv t d)(c:di h):(dJ t h).length<=33:=by
 unfold dJ;cases b:bk t.b h with
 |true=>exact ra a.ok a.rk (g8 b)
 |false=>exact dG _
def Tq(k:Toks)(r a:Int):og k r a=(ll k a&&((qV k r a).length==(0:Int))):=by
 unfold og
 congr 1
 cases b:((qV k r a).length==0)with
 |true=>
  have:(qV k r a).length=0:=b8 b
  rw[this];rfl
 |false=>
  have:(qV k r a).length≠0:=b8 b
  exact(fc.2 a3).symm
set_option maxRecDepth 100000 in
def zbr(b:StOk s d)(f:di h)(a:Int)(k:a=0\/a=1\/a=2):c5 a6 82 [.d (uX s),H h,.d (.z .u8 a)] (B (vr s h a)):=by
 have m:=Lk b.t f;refine dq func82 ?_;refine a4 (λc=>?_) λg=>⟨λc=>?_,λi=>⟨λc=>?_,λj=>?_⟩⟩
 .subst c;refine mI (v:=B (qi s.k h 0)) ?_ (λ_ h _=>h) ?_
  .refine fm func161 ?_;exact bo (GL b.k h 0) (a4 rfl (a4 rfl rfl))
  exact b7
 .subst c;refine mI (v:=B (ll s.k 0&&((qV s.k h 0).length==(0:Int)))) ?_ (λ_ h _=>h) ?_
  .refine fm func162 ?_;exact bo (MN b.k h 0) (a4 rfl (a4 rfl rfl))
  refine b7 ?_;show B _=B (og s.k h 0);rw[Tq];exact dE B (po _)
 .subst c;refine mI (v:=B (FP s h)) ?_ (λ_ h _=>h) ?_
  .refine fm func164 ?_;refine bo ((yu b.t.ok b.t.rk f).out wR) (mD (UB (p:=λx=>decide (((hL (eg s.k (gq x) (dI s.k.b))).length:Int)>0)) a3 λy _=>?_) ?_)
   .refine fm func166 ?_;conv=>whnf
    have l:(hL (eg s.k (gq y) (dI s.k.b))).length<=32:=by rw[dD];exact eY (qY s.k (gq y) (dI s.k.b)) (qb s.k.b)
    exact bo (CP b.k y) (b2 (x:=((hL (eg s.k (gq y) (dI s.k.b))).length:Int)) (a4 rfl (a4 rfl rfl)))
   exact a4 rfl (a4 rfl rfl)
  exact b7
 .rcases k with e|e|e
  .exact b3 e g
  .exact b3 e i
  .exact b3 e j
set_option maxRecDepth 100000 in
def zal(c:StOk s d)(M h a:Int):c5 a6 83 [.d (uX s),I M,H h,.d (.z .u8 a)] (B (xz s M h a)):=by
 have e:=eY (qY s.k (gq h) (dI s.k.b)) (qb s.k.b);refine dq func83 ?_;refine bo ((CP c.k h).out wR) (mD (UC (p:=uo s M h a) a3 λy _=>?_) ?_)
 .refine fm func167 ?_;refine bo (uQ s.k y c.k) (c9 (GL c.k h y) (λ_ h _ _=>h) (c9 (MN c.k h y) (λ_ h _ _ _=>h) (a4 rfl (a4 (dE (λb=>Out.ret (B b)) ?_) rfl))));rw[uo,Tq]
 exact b7
set_option maxRecDepth 100000 in
def GC(j:StOk s d)(M:Int)(l:0<=M)(m:di h)(a:Int)(n:a=0\/a=1\/a=2):c5 a6 38 [.d (uX s),I M,H h,.d (.z .u8 a)] (I (eh s M h a)):=by
 refine dq func38 ?_;refine bo (jA s.t.b h) ?_;apply a4<;>intro k
 .have i:bk s.t.b h=false:=b8 k
  refine b7 ?_;rw[eh,i];rfl
 .have i:bk s.t.b h=true:=b8 k
  have e:eh s M h a=bif j5 s M h a then 0 else 5:=by rw[eh,i];rfl
  rw[e];refine bo (tN s.o s.t h j.t.rk) ?_;apply a4<;>intro f
  .have f:((dy s.o s.t h).kind==3)=true:=f;refine a4 (λ_=>l) ?_;conv=>whnf
   have c:j5 s M h a=((((a==0)&&decide (M>=0))&&decide (M<8))&&va (dy s.o s.t h) M):=by rw[j5,f];rfl
   apply a4<;>intro b
   .have b:(!j5 s M h a)=true:=by rw[c];exact b
    refine b7 ?_;rw[show j5 s M h a=false by simpa using b];rfl
   .have b:(!j5 s M h a)=false:=by rw[c];exact b
    refine b7 ?_;rw[show j5 s M h a=true by simpa using b];rfl
  .have f:((dy s.o s.t h).kind==3)=false:=f;apply a4<;>intro g
   .have g:((dy s.o s.t h).kind==1)=true:=g;refine c9 (zbr j m a n) (λ_ h _=>h) (c9 (zal j M h a) (λ_ h _=>h) ?_);conv=>whnf
    have c:j5 s M h a=((((dy s.o s.t h).task==M)&&vr s h a)||xz s M h a):=by rw[j5,f,g];rfl
    apply a4<;>intro b
    .have b:(!j5 s M h a)=true:=by rw[c];exact b
     refine b7 ?_;rw[show j5 s M h a=false by simpa using b];rfl
    .have b:(!j5 s M h a)=false:=by rw[c];exact b
     refine b7 ?_;rw[show j5 s M h a=true by simpa using b];rfl
   .have g:((dy s.o s.t h).kind==1)=false:=g;have c:j5 s M h a=false:=by rw[j5,f,g];rfl
    refine ej (b7 ?_);rw[c];rfl
end Sx
end Go.Proofs.YtfbhkfhbnkncoaaGreatDoor
