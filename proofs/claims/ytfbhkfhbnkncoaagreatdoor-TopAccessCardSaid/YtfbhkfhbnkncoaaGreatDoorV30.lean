import Derived.Test.YtfbhkfhbnkncoaaGreatDoorV29
set_option linter.all false
namespace Go.Proofs.YtfbhkfhbnkncoaaGreatDoor
open Go.RowKit
namespace Sx
variable{F a b q v:Int}{B:List Int}{l:List Rn}{i k n:Nat}{f:Nat->List Int}{p:Pl}{r:Rn}
def nh(r:Rn):List Int:=(List.range (32*r.n).toNat).map λk:Nat=>32*r.at_+k
def gj(l:List Rn):List Int:=l.flatMap nh
def Jn:a∈nh r↔32*r.at_<=a/\a<32*(r.at_+r.n):=by
 unfold nh;rw[l6];constructor
 .rintro⟨k,b,rfl⟩;have:=gZ.1 b;omega
 .rintro⟨c,d⟩;exact⟨(a - 32*r.at_).toNat,gZ.2 a3,a3⟩
def zk:a∈gj l↔a / 32∈dm l:=by unfold gj dm;rw[om,om];refine exists_congr λy=>and_congr_right λ_=>?_;rw[Jn,iS];omega
def Wz(l m:List Rn):gj (l++m)=gj l++gj m:=mA
def Nw:∀{l:List Rn},(dm l).Nodup->(gj l).Nodup
 |[],_=>wV
 |y::l,h=>by have h:(pg y++dm l).Nodup:=h;rw[mB]at h;show(nh y++gj l).Nodup;rw[mB];refine⟨Bg (λx _ z _ (h:32*y.at_+(x:Int)=32*y.at_+(z:Int))=>a3) Gx,Nw h.2.1,λa c b d e=>?_⟩;subst e;exact h.2.2 (a / 32) (by rw[Jn]at c;rw[iS];omega) (a / 32) (zk.1 d) rfl
def An(r:Rn):(nh r).length=(32*r.n).toNat:=by unfold nh;rw[dD,tJ]
def vW(h:∀y∈l,dw y):((gj l).length:Int)=32*dK l:=by
 induction l with
 |nil=>rfl
 |cons y r d=>
  have a:=d λz c=>h z (fA _ c);have b:=h y fQ;unfold dw at b;simp only[gj,rh,ew,An,dK]at a ⊢;omega
def Q5{a:Int}:∀{l:List Rn} {b:Int},(∀y∈l,dw y)->b<=a->vt a l b=(gj l)[(a - b).toNat]?
 |[],b,_,_=>rfl
 |y::l,b,d,e=>by
  have f:=d y (fQ ..);unfold dw at f;rw[vt];show _=(nh y++gj l)[(a - b).toNat]?;cases c:(decide (a>=b)&&decide (a<b+y.n*32))with
  |true=>
   simp only[dH,fY]at c;rw[pV (by rw[An];omega)];unfold nh;rw[pr,Gt a3];show some (y.at_*32+a - b)=some (32*y.at_+((a - b).toNat:Int))
   congr 1;omega
  |false=>
   rw[eI e,po]at c;have c:=lK c;rw[oh (by rw[An];omega),An,eQ,Q5 (λz g=>d z (fA _ g)) a3]
   congr 1;omega
def Q8(c:∀y∈l,dw y)(b:0<=a):tp l a=(gj l)[a.toNat]?:=by unfold tp;rw[Q5 c b,Int.sub_zero]
def rd(p:Pl)(a:Int):Int:=p.V (kX a).toNat (sE a).toNat
def Zp(p:Pl)(q:Int):Prop:=∀o,o<32->p.V q.toNat o=0
def xP(b:0<=a)(c:a<4096):kX a=a / 32/\sE a=a % 32:=by unfold kX sE;rw[Gq b,vI b];exact⟨l5 (iL (by simp only[eU];omega) ef (by simp only[eU];omega)),rfl⟩
def vJ(p:Pl)(a:Int):Prop:=(0<=a/\a<2048)/\kF p a=0
def RZ{c:Int}(h:vJ p a)(f:0<=c/\c<4096):rd (nV p a b) c=if c=a then b else rd p c:=by
 unfold nV rd;rw[h.2];have hL:=h.1;obtain⟨g,i⟩:=xP hL.1 (a3:a<4096);obtain⟨j,k⟩:=xP f.1 f.2;rw[g,i,j,k];show a7 p.V (a / 32).toNat (a7 (p.V (a / 32).toNat) (a % 32).toNat b) (c / 32).toNat (c % 32).toNat=_;by_cases e:c=a
 .rw[e,dN,dN,if_pos rfl]
 .rw[if_neg e];by_cases d:(c / 32).toNat=(a / 32).toNat
  .rw[d,dN,dP a3]
  .rw[dP d]
def nz(v:Int)(a:Nat):Nat->List Int->List Int
 |0,l=>l
 |k+1,l=>(nz v a k l).set (a+k) (IntKind.u8.wrap (dU .u64 v (8*(k:Int))))
def um(l:List Int)(a:Nat):Nat->Int
 |0=>0
 |k+1=>IntKind.u64.wrap (um l a k+ec .u64 (l.getD (a+k) 0) (8*(k:Int)))
def BN(v:Int)(a:Nat)(l:List Int):∀k,(nz v a k l).length=l.length
 |0=>rfl
 |k+1=>by rw[nz,wU,BN v a l k]
def tF(l:List Int):Prop:=∀b∈l,0<=b/\b<256
def SP{v:Int}{a:Nat}{l:List Int}(h:tF l):∀k,tF (nz v a k l)
 |0=>h
 |k+1=>λb f=>by
  rcases List.mem_or_eq_of_mem_set f with c|c
  .exact SP h k b c
  .obtain⟨_,d,e⟩:=xx (rJ .u8 (dU .u64 v (8*(k:Int))));rw[c];simp only[eU]at e;exact⟨d rfl,a3⟩
def zaC(o:B.Nodup)(m:∀x∈B,0<=x/\x<2048)(n:k<B.length)(f:B[k]?=some a)(h:vJ p a):B.map (rd (nV p a b))=(B.map (rd p)).set k b:=by
 refine z4 λj=>?_;rw[pr,Cx,dD,pr];cases d:B[j]? with
 |none=>
  have:k≠j:=λe=>by rw[<-e,f]at d;cases d
  rw[if_neg this];rfl
 |some x=>
  have q:=m x (oU d);show some (rd (nV p a b) x)=_;rw[RZ h ⟨q.1,a3⟩];by_cases e:k=j
  .subst e;rw[f]at d;cases d;rw[if_pos rfl,if_pos rfl,if_pos n]
  .have g:x≠a:=λc=>e (by
    subst c;obtain⟨r,i⟩:=iA.1 f;obtain⟨s,l⟩:=iA.1 d;exact(List.getElem_inj o).1 (i.trans l.symm))
   rw[if_neg g,if_neg e];rfl
def zam{q:Pl}(c:q.n=p.n)(b:q.K=p.K)(h:vJ p a):vJ q a:=by refine⟨h.1,?_⟩;have:=h.2;unfold kF kg at this ⊢;rw[c,b];exact this
def sG(B:List Int)(a n:Nat):List Int:=(List.range n).map λi=>B.getD (a+i) 0
def Q4(B:List Int)(a n:Nat):sG B a (n+1)=sG B a n++[B.getD (a+n) 0]:=by unfold sG;rw[mC,je];rfl
def Q3(B:List Int)(a n:Nat):(sG B a n).length=n:=by unfold sG;rw[dD,tJ]
def O4(h:i<B.length):B[i]?=some (B.getD i 0)/\B.getD i 0∈B:=by rw[eu,ed h];exact⟨rfl,oi h⟩
def KO{p:Pl}{B:List Int}(j:B.Nodup)(b:∀x∈B,vJ p x)(v:Int)(a:Nat):∀n:Nat,a+n<=B.length->
 B.map (rd (jr v p (sG B a n) 0))=nz v a n (B.map (rd p))/\∀c,0<=c/\c<4096->c∉B->rd (jr v p (sG B a n) 0) c=rd p c
 |0,_=>⟨rfl,λ_ _ _=>rfl⟩
 |n+1,h=>by
  obtain⟨l,m⟩:=KO j b v a n a3;obtain⟨E,q⟩:=BP v (sG B a n) p 0;obtain⟨k,d⟩:=O4 (B:=B) (i:=a+n) a3;have hL:=zam E q (b _ d);rw[Q4,FD,Q3,ld];refine⟨?_,λc f g=>?_⟩
  .rw[zaC j (λx o=>(b x o).1) a3 k hL,l];rfl
  .rw[RZ hL f,if_neg λe=>g (by rw[e];exact d)];exact m c f g
def zbm(k:n<8)(d:0<=v/\v<2 ^(8*n))(e:0<=b/\b<256):dC .or .u64 v (ec .u64 b (8*(n:Int)))=IntKind.u64.wrap (v+ec .u64 b (8*(n:Int)))/\0<=IntKind.u64.wrap (v+ec .u64 b (8*(n:Int)))/\IntKind.u64.wrap (v+ec .u64 b (8*(n:Int)))<2 ^(8*(n+1)):=by
 obtain⟨v,rfl⟩:=sS d.1;obtain⟨b,rfl⟩:=sS e.1;have c:v<2 ^(8*n):=by exact_mod_cast d.2
 have a:b<256:=a3
 have w:∀{x:Nat},x<2 ^ 64->IntKind.u64.wrap (x:Int)=x:=λh=>l5 (iL (by simp only[eU];omega) (λ_=>a3) (by simp only[eU];omega));have g:(2:Nat) ^(8*(n+1))=2 ^(8*n)*256:=by rw[Nat.mul_add,Nat.pow_add]
 have i:2 ^(8*n)*b+2 ^(8*n)<=2 ^(8*n)*256:=by rw[<-Nat.mul_succ];exact Nat.mul_le_mul_left _ a
 have j:(2:Nat) ^(8*(n+1))<=2 ^ 64:=Nat.pow_le_pow_right a3 a3;have f:ec .u64 (b:Int) (8*(n:Int))=((2 ^(8*n)*b:Nat):Int):=by unfold ec;rw[show min (8*(n:Int)).toNat IntKind.u64.bits=8*n from by show min (8*(n:Int)).toNat 64=8*n;omega,show(b:Int)*2 ^(8*n)=((2 ^(8*n)*b:Nat):Int) from by rw[Int.natCast_mul,Int.natCast_pow,Int.mul_comm];rfl];exact w a3
 rw[f,show(v:Int)+((2 ^(8*n)*b:Nat):Int)=((2 ^(8*n)*b+v:Nat):Int) from a3,w a3];refine⟨?_,a3,?_⟩
 .unfold dC;show IntKind.u64.wrap ((BitVec.ofInt 64 (v:Int)|||BitVec.ofInt 64 ((2 ^(8*n)*b:Nat):Int)).toNat:Int)=_;rw[zV,zV,BitVec.toNat_or,BitVec.toNat_ofNat,BitVec.toNat_ofNat,CG a3,CG a3,Nat.or_comm,<-Nat.two_pow_add_eq_or_of_lt c];exact w a3
 .exact_mod_cast (show 2 ^(8*n)*b+v<2 ^(8*(n+1)) by omega)
def P3{p:Pl}{B:List Int}(c:∀x∈B,vJ p x)(d:tF (B.map (rd p)))(a:Nat):∀n:Nat,n<=8->a+n<=B.length->
 mU p 0 (sG B a n) 0=um (B.map (rd p)) a n/\0<=um (B.map (rd p)) a n/\um (B.map (rd p)) a n<2 ^(8*n)
 |0,_,_=>⟨rfl,(a8:(0:Int)<=0),(a8:(0:Int)<1)⟩
 |n+1,l,h=>by
  obtain⟨g,j⟩:=P3 c d a n a3 a3;obtain⟨f,b⟩:=O4 (B:=B) (i:=a+n) a3;have e:(B.map (rd p)).getD (a+n) 0=rd p (B.getD (a+n) 0):=by rw[eu,pr,f];rfl
  have k:pf p (B.getD (a+n) 0)=rd p (B.getD (a+n) 0):=by unfold pf;rw[(c _ b).2];rfl
  rw[Q4,Eu,Q3,ld,g,um,e,k];exact zbm a3 j (d _ (l6.2 ⟨_,b,rfl⟩))
def CY(a:Int):vR a=(((a==1||a==2)||a==4)||a==8):=by
 unfold vR oz n9;by_cases b:a=1
 .subst b;decide
 by_cases d:a=2
 .subst d;decide
 by_cases e:a=4
 .subst e;decide
 by_cases f:a=8
 .subst f;decide
 simp[n9,fc.2 b,fc.2 d,fc.2 e,fc.2 f,sZ b,sZ d,sZ e,sZ f]
def Wd{x:Nat}(g:k<=3)(f:x<2 ^ 62):dC .andNot .i64 (x:Int) ((2 ^ k - 1:Nat):Int)=((x / 2 ^ k*2 ^ k:Nat):Int):=by
 have d:x / 2 ^ k*2 ^ k<=x:=Nat.div_mul_le_self _ _;have e:(BitVec.ofInt 64 (x:Int)&&& ~~~(BitVec.ofInt 64 ((2 ^ k - 1:Nat):Int))).toNat=x / 2 ^ k*2 ^ k:=by
  rw[zV,zV];refine Nat.eq_of_testBit_eq λi=>?_;rw[BitVec.testBit_toNat,BitVec.getLsbD_and,BitVec.getLsbD_not,BitVec.getLsbD_ofNat,BitVec.getLsbD_ofNat,Nat.testBit_two_pow_sub_one,Nat.mul_comm,Nat.testBit_two_pow_mul,Nat.testBit_div_two_pow];by_cases b:i<64
  .by_cases a:k<=i
   .rw[show i - k+k=i by omega];simp[b,a,CH.2 a]
   .simp[b,a,Nat.lt_of_not_le a]
  .have:Nat.testBit x i=false:=Nat.testBit_lt_two_pow (CF f (Nat.pow_le_pow_right a3 a3));by_cases a:k<=i
   .rw[show i - k+k=i by omega];simp[b,this]
   .simp[b,a]
 show IntKind.i64.wrap ((BitVec.ofInt 64 (x:Int)&&& ~~~(BitVec.ofInt 64 ((2 ^ k - 1:Nat):Int))).toNat:Int)=_;rw[e];exact l5 (iL (by simp only[eU];omega) (λ_=>a3) (by simp only[eU];omega))
def Lm{n:Int}(h:vR a=true)(e:0<=n)(f:n<=1000000):oN n a=(n+a - 1) / a*a:=by
 rw[CY]at h;simp only[pP,gG]at h;obtain⟨n,rfl⟩:=sS e;unfold oN;have b:∀k:Nat,k<=3->dC .andNot .i64 ((n+2 ^ k - 1:Nat):Int) ((2 ^ k - 1:Nat):Int)=(((n+2 ^ k - 1) / 2 ^ k*2 ^ k:Nat):Int):=λk d=>Wd d (by have:2 ^ k<=2 ^ 3:=Nat.pow_le_pow_right a3 d;omega);rcases h with((rfl|rfl)|rfl)|rfl
 .have:=b 0 a3;simpa using this
 .have:=b 1 a3;rw[show(n:Int)+2 - 1=((n+2 ^ 1 - 1:Nat):Int) by omega];exact this.trans a3
 .have:=b 2 a3;rw[show(n:Int)+4 - 1=((n+2 ^ 2 - 1:Nat):Int) by omega];exact this.trans a3
 .have:=b 3 a3;rw[show(n:Int)+8 - 1=((n+2 ^ 3 - 1:Nat):Int) by omega];exact this.trans a3
def jy(a b:Int):Bool:=(decide (a>=1)&&decide (a<=128))&&(((b==1||b==2)||b==4)||b==8)
def gY(a b:Int):Int:=bif jy a b then(a+31) / 32 else 0
def pI(h:jy a b=true):1<=a/\a<=128/\(b=1\/b=2\/b=4\/b=8):=by unfold jy at h;simp at h;omega
def vo(a b:Int):lq (dn a 129) (dn b 9)=jy a b:=by
 have d:(decide (dn a 129>=1)&&decide (dn a 129<=128))=(decide (a>=1)&&decide (a<=128)):=by
  unfold dn;cases h:decide (129<a)with
  |false=>rfl
  |true=>have:=gM h;simp;omega
 have e:vR (dn b 9)=(((b==1||b==2)||b==4)||b==8):=by
  rw[CY];unfold dn;cases h:decide (9<b)with
  |false=>rfl
  |true=>
   have:=gM h;rw[fc.2 (a3:b≠1),fc.2 (a3:b≠2),fc.2 (a3:b≠4),fc.2 (a3:b≠8)];rfl
 unfold lq jy;rw[d,e]
def zl(h:jy a b=true):dn a 129=a/\dn b 9=b:=by have:=pI h;unfold dn;rw[fe a3,fe a3];exact⟨rfl,rfl⟩
def Ju(a b:Int):jb (dn a 129) (dn b 9)=gY a b:=by
 unfold jb gY;rw[vo];cases h:jy a b with
 |false=>rfl
 |true=>
  have d:=pI h;rw[(zl h).1,dZ,dZ,Gq a3,l5 (iL (by simp only[eU];omega) ef (by simp only[eU];omega))]
  congr 1;omega
def p6(F all a b:Int):Int:=bif jy a b&&decide ((F+b - 1) / b*b+a<=all)then(F+b - 1) / b*b else -1
def OS(f:0<=F)(g:F<=1000000):p6 F (32*dK l) a b=bif jv l F (dn a 129) (dn b 9)then oN F (dn b 9)else -1:=by
 unfold p6 jv;rw[vo];cases h:jy a b with
 |false=>rfl
 |true=>
  obtain⟨d,e⟩:=zl h;rw[d,e,Lm (by have:=vo a b;rw[h,d,e]at this;unfold lq at this;rw[dH]at this;exact this.2) f g];rw[show decide ((F+b - 1) / b*b+a<=32*dK l)=!decide ((F+b - 1) / b*b+a>dK l*32) from by rw[<-decide_not];exact decide_eq_decide.2 a3]
def Tc(a:b=1\/b=2\/b=4\/b=8)(d:0<=F):0<=(F+b - 1) / b*b/\F<=(F+b - 1) / b*b:=by rcases a with rfl|rfl|rfl|rfl<;>omega
def rV{r:Rg}(h:RgI r):(0<=r.len/\r.len<=dK r.rs*32)/\dK r.rs<=64:=by have:=h.mx;unfold mV at this;simp only[dH,fY]at this;exact⟨this.2,Cs h.pg h.q1⟩
def Rh{r:Rg}(h:RgI r)(a b:Int):RgI {r with len:=mZ r.rs r.len (dn a 129) (dn b 9)}:=by
 obtain⟨f,m⟩:=rV h;have d:=h.mx;refine⟨h.q0,h.q1,h.ok,h.pg,?_⟩;unfold mV at d ⊢;rw[dH]at d;rw[d.1,po,dH,fY,fY];show 0<=mZ r.rs r.len (dn a 129) (dn b 9)/\mZ r.rs r.len (dn a 129) (dn b 9)<=dK r.rs*32;unfold mZ;cases e:jv r.rs r.len (dn a 129) (dn b 9)with
 |false=>exact f
 |true=>
  unfold jv at e;rw[vo,dH,jL,kq]at e;have k:=pI e.1;obtain⟨i,j⟩:=zl e.1;have l:=e.2;rw[i,j,Lm (by rw[CY];have g:=e.1;unfold jy at g;rw[dH]at g;exact g.2) f.1 a3]at l ⊢;have:=Tc k.2.2 f.1;rw[dZ];omega
def Pk{r:Rg}{G:Rn}(h:RgI r)(d:dw G)(f:(dm r.rs++pg G).Nodup)(i:dK r.rs+G.n<=r.E):RgI (iR r G):=by
 have g:=rV h;have e:dK (r.rs++[G])=dK r.rs+G.n:=by rw[zq];simp[dK]
 have a:∀y∈r.rs++[G],dw y:=λy b=>by
  rcases eP.1 b with b|b
  .exact h.ok y b
  .rw[nZ.1 b];exact d
 unfold dw at d;refine⟨h.q0,h.q1,a,?_,?_⟩
 .show dK (r.rs++[G])<=r.E;omega
 .refine zaL a ?_ (by show 0<=dK r.rs*32;omega) (by show dK r.rs*32<=dK (r.rs++[G])*32;omega);rw[oE];simpa[dm]using f
def y5{f:Nat->List Int}:∀{n i:Nat},i<n->(f i).Sublist ((List.range n).flatMap f)
 |0,_,h=>b3 h (jm _)
 |n+1,i,h=>by
  rw[mC,mA];by_cases c:i=n
  .subst c;exact(List.Sublist.refl _).trans eA
  .exact(y5 a3).trans (List.sublist_append_left _ _)
def OU{f:Nat->List Int}:∀{n:Nat},((List.range n).flatMap f).Nodup->∀{i j:Nat},i<n->j<n->i≠j->∀a,a∈f i->a∉f j
 |0,_,_,_,h,_,_,_,_=>b3 h (jm _)
 |n+1,o,i,j,t,u,g,a,e=>λd=>by
  rw[mC,mA,mB]at o;obtain⟨q,_,l⟩:=o;have m:∀k,k<n->∀b,b∈f k->b∈(List.range n).flatMap f:=λk r b d=>(y5 r).subset d;by_cases c:i=n
  .subst c;exact l a (m j a3 a d) a (b8 e) rfl
  .by_cases p:j=n
   .subst p;exact l a (m i a3 a e) a (b8 d) rfl
   .exact OU q a3 a3 g a e d
section
variable {s:St} {M:Int} {c:Call} {G:Rn}
def Ez(b:dv s M c>0):c.C=2/\jy c.a c.b=true/\eh s M c.r 1=0/\bk s.t.b c.r=true/\jv (b1 s.t c.r).rs (b1 s.t c.r).len (dn c.a 129) (dn c.b 9)=false/\dK (b1 s.t c.r).rs+gY c.a c.b<=(b1 s.t c.r).E/\dv s M c=gY c.a c.b:=by
 have g:=Jt b;have l:dv s M c=(match jX s M c with
  | .ok n=>n
  | .error _=>0):=by unfold dv;rw[g];rfl
 rw[l]at b ⊢;cases a:jX s M c with
 |error e=>rw[a]at b;exact b3 (show(0:Int)>0 from b) a8
 |ok n=>
  rw[a]at b;have b:n>0:=b;unfold jX at a;obtain⟨d,a⟩:=jd a;obtain⟨j,a⟩:=jd a;obtain⟨k,a⟩:=jd a;have d:=mX a8 d;rw[vo]at d;cases h:jv (b1 s.t c.r).rs (b1 s.t c.r).len (dn c.a 129) (dn c.b 9)with
  |true=>
   exfalso;rw[h]at a;have a:(match lu s c (b1 s.t c.r)with
    | .ok _=>.ok (0:Int)
    | .error e=>.error e)=Except.ok n:=a
   cases i:lu s c (b1 s.t c.r)with
   |ok x=>rw[i]at a;cases a;omega
   |error e=>rw[i]at a;cases a
  |false=>
   rw[h]at a;obtain⟨f,a⟩:=jd a;have f:=gM (mX a8 f);rw[Ju]at f a;cases a;exact⟨g,d,j,mX a8 k,rfl,f,rfl⟩
def Jv:0<=dv s M c:=by
 by_cases h:dv s M c>0
 .omega
 .have k:dv s M c=0\/dv s M c>0:=by
   unfold dv;cases(c.C==2)with
   |false=>exact .inl rfl
   |true=>
    show(match jX s M c with
     | .ok n=>n
     | .error _=>0)=0\/(match jX s M c with
     | .ok n=>n
     | .error _=>0)>0
    cases a:jX s M c with
    |error e=>exact .inl rfl
    |ok n=>
     show n=0\/n>0;unfold jX at a;obtain⟨f,a⟩:=jd a;obtain⟨g,a⟩:=jd a;obtain⟨i,a⟩:=jd a;cases b:jv (b1 s.t c.r).rs (b1 s.t c.r).len (dn c.a 129) (dn c.b 9)with
     |true=>
      rw[b]at a;have a:(match lu s c (b1 s.t c.r)with
       | .ok _=>.ok (0:Int)
       | .error e=>.error e)=Except.ok n:=a
      cases d:lu s c (b1 s.t c.r)with
      |ok x=>rw[d]at a;cases a;exact .inl rfl
      |error e=>rw[d]at a;cases a
     |false=>
      rw[b]at a;obtain⟨j,a⟩:=jd a;have:=Bc (mX a8 f);cases a;right;omega
  omega
def MW(n:SInv s)(b:0<=M/\M<8)(h:s.alive M.toNat=true)(k:dv s M c>0)(m:G.n=dv s M c)(l:dw G)(hd:(eG s.t++pg G).Nodup):∃W r,fr s M c G=.ok (W,r,[])/\r.e=0:=by
 obtain⟨p,q,t,a,u,v,w⟩:=Ez k;obtain⟨d,o⟩:=n.t;have j:=pF o c.r;have g:=(su a).1;have e:RgI (iR (b1 s.t c.r) G):=Pk j l (by
  rw[g];refine hd.sublist (List.Sublist.append_right ?_ _);unfold eG;exact y5 (f:=λi=>dm (s.t.r i).rs) (iq c.r)) a3
 unfold fr;rw[eI b.1,eI b.2,h,show no ((true&&true)&&true) 12=0 from rfl,b9 rfl,p];show∃W r,mN s M c G=.ok (W,r,[])/\_;unfold mN;rw[vo,q,t,a,u,show no true 2=0 from rfl,show no true 4=0 from rfl,b9 rfl,b9 rfl,b9 rfl,eQ,Ju,eI v,show no true 6=0 from rfl,b9 rfl,e.mx,m,w,beq_self_eq_true,show no (true&&true) 2=0 from rfl,b9 rfl];unfold lu;rw[b9 (BJ a (Rh e c.a c.b))];exact⟨_,_,rfl,rfl⟩
end
def PB(p:Pl)(t:Tb)(y:Nat->List Int):Prop:=∀i,i<32->(gj (t.r i).rs).map (rd p)=y i/\tF (y i)
def jh(n:Nat)(l:List Int):List Int:=l.take n++List.replicate (n - l.length) 0
def qx(s W:St)(c:Call)(e:Int)(y:Nat->List Int):Nat->List Int:=λi=>jh (32*dK (W.t.r i).rs).toNat (bif ((c.C==4)&&(e==0))&&Nat.beq i (a5 c.r)then nz c.v c.a.toNat c.b.toNat (y i)else y i)
def pM(c:Call)(y:Nat->List Int)(r:Rs):Rs:=bif (c.C==3)&&(r.e==0)then{r with v:=um (y (a5 c.r)) c.a.toNat c.b.toNat}else r
def sf(s W:St)(M:Int)(c:Call)(G:Rn)(r:Rs)(y y':Nat->List Int):Prop:=
 (r.e=6/\dv s M c>0/\W=s/\y'=y)\/
 ((G=c4\/dw G)/\dv s M c=G.n/\(0<G.n->(eG s.t++pg G).Nodup)/\W=(dz s M c G).1/\r=pM c y (dz s M c G).2.1/\y'=qx s W c (dz s M c G).2.1.e y)
def QU(n:Nat)(l:List Int):(jh n l).length=n:=by unfold jh;rw[ew,kO,List.length_replicate];omega
def wE{l:List Int}(h:l.length=n):jh n l=l:=by unfold jh;rw[<-h,gv,tM];exact gk l
def JQ{t:Tb}{y:Nat->List Int}(h:PB p t y){d:Int->Nat}(b:TInv t d)(a:i<32):(y i).length=(32*dK (t.r i).rs).toNat:=by rw[<-(h i a).1,dD];have:=vW (b.rg i a).ok;omega
def za5{N:Int}{l:List Int}(h:l.Perm (mH N)):l.Nodup:=h.nodup_iff.2 (IQ N)
section
variable {N:Int} {U:List Int} {x:Cr} {c:Rt} {t:Nat}
def CI.dj(h:CI N U x r):(eG x.s.t).Nodup/\(eG x.s.t++pg r).Nodup/\∀q,q∈eG x.s.t\/q∈pg r->q∉dm x.p.K/\0<=q/\q<N:=by
 have C:=za5 h.pp;have f:=mB.1 C;have j:(eG x.s.t++pg r).Nodup:=by have:=f.2.1;rw[<-iJ]at this;exact(mB.1 this).1
 refine⟨(mB.1 j).1,j,λq E=>?_⟩;have u:q∈eG x.s.t++(pg r++(x.q++U)):=by rw[eP,eP];exact E.imp_right .inl
 exact⟨λA=>f.2.2 q A q u rfl,vh.1 (h.pp.subset (eP.2 (.inr u)))⟩
def CI.F3(h:CI N U x r)(C:N<=64)(j:a / 32∈eG x.s.t\/a / 32∈pg r):vJ x.p a:=by obtain⟨f,u,A⟩:=h.dj.2.2 _ j;refine⟨⟨a3,a3⟩,?_⟩;unfold kF kg;rw[(xP (a3:0<=a) a3).1,h.n,fe a3,fe a3,fe a3];have:p9 x.p.K (a / 32)=false:=vF.2 λe=>f ((Pq h.K.ok).1 e);rw[this];rfl
def Km{t:Tb}(a:i<32)(h:q∈dm (t.r i).rs):q∈eG t:=(y5 (f:=λi=>dm (t.r i).rs) a).subset h
def Ul(f:0<=q)(g:q<64):Zp p q↔∀a,a / 32=q->rd p a=0:=by
 constructor
 .intro h a e;obtain⟨b,d⟩:=xP (a:=a) a3 a3;unfold rd;rw[b,d,e];exact h _ a3
 .intro h o i;have:=h (32*q+o) a3;obtain⟨b,d⟩:=xP (a:=32*q+(o:Int)) a3 a3;unfold rd at this;rw[b,d,show(32*q+(o:Int)) / 32=q by omega,show((32*q+(o:Int)) % 32).toNat=o by omega]at this;exact this
def W2(h:kg p a=0):Zp (p0 p a) a/\∀q,q≠a->0<=q->0<=a->∀o,(p0 p a).V q.toNat o=p.V q.toNat o:=by
 unfold p0;rw[h];refine⟨λo b=>?_,λq f d e o=>?_⟩
 .show a7 p.V a.toNat (yI (p.V a.toNat)) a.toNat o=0;rw[dN];unfold yI;rw[show Nat.blt o 32=true by simpa using b];rfl
 .show a7 p.V a.toNat (yI (p.V a.toNat)) q.toNat o=_;rw[dP a3]
def EH{s W:St}{c:Call}{G:Rn}{e:Int}{y:Nat->List Int}(f:PB p s.t y)(K:SInv s)(j:SInv W)(v:((c.C==4)&&(e==0))=false)(J:∀i,(W.t.r i).rs=(s.t.r i).rs\/(W.t.r i).rs=[]\/(W.t.r i).rs=(s.t.r i).rs++[G]/\0<G.n)(M:0<G.n->∀q∈pg G,0<=q/\q<64/\Zp p q):PB p W.t (qx s W c e y):=by
 intro i h;obtain⟨d,k⟩:=K.t;obtain⟨O,L⟩:=j.t;obtain⟨l,m⟩:=f i h;have n:=JQ f k h;unfold qx;rw[v,Bool.false_and,eQ];rcases J i with e|e|⟨e,A⟩
 .rw[e,wE n];exact⟨l,m⟩
 .rw[e];have:jh (32*dK []).toNat (y i)=[]:=by unfold jh;simp[dK]
  rw[this];exact⟨rfl,λb f=>by cases f⟩
 .have C:=(rV (k.rg i h)).1;have E:=sF (k.rg i h).ok;have w:(gj ((s.t.r i).rs++[G])).map (rd p)=y i++List.replicate (32*G.n).toNat 0:=by
   rw[Wz,je,l]
   congr 1
   have:gj [G]=nh G:=gk _;rw[this,List.eq_replicate_iff,dD,An];refine⟨rfl,λb f=>?_⟩;obtain⟨a,z,rfl⟩:=l6.1 f;have F:a / 32∈pg G:=by rw[Jn]at z;rw[iS];omega
   obtain⟨o,r,u⟩:=M A _ F;exact(Ul o r).1 u a rfl
  have g:jh (32*dK ((s.t.r i).rs++[G])).toNat (y i)=y i++List.replicate (32*G.n).toNat 0:=by
   have:dK [G]=G.n:=by simp[dK]
   unfold jh;rw[zq,this,pX a3,n]
   congr 2;omega
  rw[e,g];refine⟨w,λb f=>?_⟩;rcases eP.1 f with f|f
  .exact m b f
  .rw[(List.mem_replicate.1 f).2];decide
def Ja{s:St}{M:Int}{c:Call}{G:Rn}(u:c.C=3\/c.C=4)(r:SInv s)(m:CallOk s M c)(a:(dz s M c G).2.1.e=0):(dz s M c G).1=s/\(dz s M c G).2.1=⟨0,0,0⟩/\(dz s M c G).2.2=[]/\jS s c=sG (gj (s.t.r (a5 c.r)).rs) c.a.toNat c.b.toNat/\c.a.toNat+c.b.toNat<=(gj (s.t.r (a5 c.r)).rs).length/\c.b.toNat<=8:=by
 have z:=m.a.1;have A:=m.b.1;obtain⟨w,h⟩:∃w,fr s M c G=lJ s M c w:=by
  by_cases j:no ((decide (M>=0)&&decide (M<8))&&s.alive M.toNat) 12=0
  .rcases u with e|e
   .refine⟨0,?_⟩;unfold fr;rw[j,b9 rfl,e];rfl
   .refine⟨1,?_⟩;unfold fr;rw[j,b9 rfl,e];rfl
  .exfalso;unfold dz fr at a;rw[eR j]at a;exact j a
 cases g:fr s M c G with
 |error e=>
  exfalso;unfold dz at a;rw[g]at a;exact xb (G:=G) r m (by rw[g];exact dE Except.error a)
 |ok x=>
  rw[g]at h;have h:=h.symm;unfold lJ at h;obtain⟨b,h⟩:=jd h;obtain⟨F,h⟩:=jd h;obtain⟨f,h⟩:=jd h;obtain⟨k,h⟩:=jd h;have b:=mX a8 b;have f:=mX a8 f;have k:=gM (mX a8 k);unfold pl at b;rw[dH,fY,fY]at b;have hD:dz s M c G=x:=by unfold dz;rw[g]
  obtain⟨d,C⟩:=r.t;have l:=C.rg (a5 c.r) (iq c.r);have q:=rV l;have y:=vW l.ok;obtain⟨v,E,p⟩:=su f;rw[p]at k;have n:oF s c=0:=by unfold oF;rw[f,p];rcases u with e|e<;>(rw[e,fe (a3:¬c.b<1),fe (a3:¬c.b>8),fe a3];rfl)
  have o:x=(s,⟨0,0,0⟩,[]):=by unfold nw at h;exact(yg h).symm
  refine⟨by rw[hD,o],by rw[hD,o],by rw[hD,o],?_,a3,a3⟩;unfold jS sG;rw[n];refine tK λi _=>?_;rw[v,Q8 l.ok a3,eu,show(c.a+(i:Int)).toNat=c.a.toNat+i by omega]
end
section
variable {s:St} {M:Int} {c:Call} {G:Rn}
def HQ(f:SInv s)(d:CallOk s M c):((dz s M c G).2.1.e≠0/\(dz s M c G).1=s/\(dz s M c G).2.2=[]/\(dz s M c G).2.1=⟨(dz s M c G).2.1.e,0,0⟩)\/((dz s M c G).2.1.e=0/\CS c G s (dz s M c G).1 (dz s M c G).2.1 (dz s M c G).2.2):=by
 unfold dz;cases a:fr s M c G with
 |error e=>exact .inl ⟨λh=>xb (G:=G) f d (by rw[a];exact dE Except.error h),rfl,rfl,rfl⟩
 |ok x=>
  obtain⟨W,r,b⟩:=x;have:=Hu d.s' _ _ _ a;exact .inr ⟨this.e,this⟩
def V8(hd:c.C=2):(dz s M c G).2.2=[]:=by
 unfold dz;cases d:fr s M c G with
 |error e=>rfl
 |ok x=>
  unfold fr at d;obtain⟨_,h⟩:=jd d;rw[hd]at h;have a:∀r,Al (λ_ _ b=>b=[]) (lu s c r):=λr=>dQ λ_=>rp rfl;have:Al (λ_ _ b=>b=[]) (mN s M c G):=dQ λ_=>dQ λ_=>dQ λ_=>gz (λ_=>a _) λ_=>dQ λ_=>dQ λ_=>a _;exact this x.1 x.2.1 x.2.2 h
end
section
variable {N:Int} {U:List Int} {x:Cr} {c:Rt} {t:Nat} {y:Nat->List Int}
def NX(hN:N<=64)(h:CI N U x c.run)(ht:t<8)(hc:CtOk t c)(hA:x.s.alive t=true)(w:PB x.p x.s.t y)(hn:dv x.s c.task c.c=c.run.n)(hz:0<c.run.n->∀q∈pg c.run,Zp x.p q):
 (gO x c).e=true/\(∀q,0<=q->q<64->q∉eG x.s.t->Zp x.p q->Zp (gO x c).x.p q)/\(gO x c).x.s=(dz x.s c.task c.c c.run).1/\(gO x c).r=pM c.c y (dz x.s c.task c.c c.run).2.1/\
 PB (gO x c).x.p (gO x c).x.s.t (qx x.s (gO x c).x.s c.c (dz x.s c.task c.c c.run).2.1.e y)/\(0<c.run.n->(dz x.s c.task c.c c.run).2.1.e=0)/\
 ((dz x.s c.task c.c c.run).2.1.e=0->c.c.C=2->(gO x c).x.q=x.q):=by
 have b:=hc.call ht x.s;have Y:x.s.alive c.task.toNat=true:=by rw[hc.t,nE];exact hA
 have g:=HD h ht hc λP=>a3;have l:0<c.run.n->(dz x.s c.task c.c c.run).2.1.e=0:=λL=>by obtain⟨W,r,R,S⟩:=MW h.s ⟨b.t0,b.t1⟩ Y a3 hn.symm (h.rn.ok L) h.dj.2.1;unfold dz;rw[R];exact S
 rcases HQ (G:=c.run) h.s b with⟨n,T,g3,g4⟩|⟨n,T⟩
 .have e:gO x c=rC x c (dz x.s c.task c.c c.run).2.1:=by unfold gO;rw[oX.2 n];rfl
  rw[e]at g ⊢;refine⟨rfl,λq _ _ _ o=>o,T.symm,?_,?_,l,λP=>b3 P n⟩
  .unfold pM;rw[fc.2 n,lO];rfl
  .exact EH (G:=c.run) w h.s h.s (by rw[fc.2 n,lO]) (λ_=>.inl rfl) λL=>b3 (l L) n
 .have e:gO x c=vY x c (dz x.s c.task c.c c.run).2.1 (dz x.s c.task c.c c.run).1 (dz x.s c.task c.c c.run).2.2:=by unfold gO;rw[n];rfl
  obtain⟨q1,q2,q3,_⟩:=rR (dz x.s c.task c.c c.run).2.2 {x with s:=(dz x.s c.task c.c c.run).1,p:=bif c.c.C==4 then jr c.c.v x.p (jS x.s c.c) 0 else x.p};have ep:(gO x c).x.p=bif c.c.C==4 then jr c.c.v x.p (jS x.s c.c) 0 else x.p:=by rw[e];exact q2
  have es:(gO x c).x.s=(dz x.s c.task c.c c.run).1:=by rw[e];exact q3
  have er:(gO x c).r=bif c.c.C==3 then{(dz x.s c.task c.c c.run).2.1 with v:=mU x.p (dz x.s c.task c.c c.run).2.1.v (jS x.s c.c) 0}else(dz x.s c.task c.c c.run).2.1:=by rw[e];rfl
  have ee:(gO x c).e=true:=by rw[e];rfl
  have eq:(gO x c).x.q=x.q++dm (dz x.s c.task c.c c.run).2.2:=by rw[e];show(((dz x.s c.task c.c c.run).2.2.foldl dS _).q++pg c4)=_;rw[q1];exact gk _
  have aa:SInv (dz x.s c.task c.c c.run).1:=by unfold se at g;rw[ee]at g;rw[<-es];exact g.s
  have A:∀i,i<32->∀a∈gj (x.s.t.r i).rs,a / 32∈eG x.s.t:=λi m a z=>Km m (zk.1 z);have j:∀i,i<32->∀a∈gj (x.s.t.r i).rs,vJ x.p a:=λi m a z=>h.F3 hN (.inl (A i m a z));have K:∀i,i<32->(gj (x.s.t.r i).rs).Nodup:=λi m=>Nw (h.dj.1.sublist (y5 (f:=λi=>dm (x.s.t.r i).rs) m));have u:=iq c.c.r;rw[es,er,ep,eq,ee];refine⟨rfl,?_,rfl,?_,?_,l,λ_ h2=>by rw[V8 h2];exact gk _⟩
  .intro q P V hm o;cases F:(c.c.C==4)with
   |false=>exact o
   |true=>
    obtain⟨_,_,_,C,E,_⟩:=Ja (.inr (eq_of_beq F)) h.s b n;rw[dZ,C];rw[Ul P V]at o ⊢;intro a z;rw[(KO (K _ u) (j _ u) c.c.v c.c.a.toNat c.c.b.toNat E).2 a a3 λZ=>hm (z▸A _ u a Z)];exact o a z
  .unfold pM;rw[n];cases h3:(c.c.C==3)with
   |false=>rfl
   |true=>
    obtain⟨_,S,_,C,E,e6⟩:=Ja (.inl (eq_of_beq h3)) h.s b n;have J:=P3 (j _ u) (by rw[(w _ u).1];exact(w _ u).2) c.c.a.toNat c.c.b.toNat e6 E;rw[(w _ u).1]at J;rw[C,S];show({(⟨0,0,0⟩:Rs)with v:=mU x.p 0 (sG (gj (x.s.t.r (a5 c.c.r)).rs) c.c.a.toNat c.c.b.toNat) 0}:Rs)={(⟨0,0,0⟩:Rs)with v:=um (y (a5 c.c.r)) c.c.a.toNat c.c.b.toNat};rw[J.1]
  .cases F:(c.c.C==4)with
   |false=>
    rw[eQ];exact EH w h.s aa (by rw[F];rfl) (λi=>(T.r i).imp_right λk=>k.imp_right λk=>k.2) λL q o=>⟨(h.dj.2.2 q (.inr o)).2.1,by have:=(h.dj.2.2 q (.inr o)).2.2;omega,hz L q o⟩
   |true=>
    obtain⟨R,_,_,C,E,_⟩:=Ja (.inr (eq_of_beq F)) h.s b n;rw[dZ,C,R];have O:=KO (K _ u) (j _ u) c.c.v c.c.a.toNat c.c.b.toNat E;obtain⟨d,ab⟩:=h.s.t;intro i m;unfold qx;rw[F,n];have J:=JQ w ab m;by_cases Q:i=a5 c.c.r
    .subst Q;rw[show Nat.beq (a5 c.c.r) (a5 c.c.r)=true from uO _];show(gj _).map _=jh _ (nz _ _ _ _)/\tF (jh _ (nz _ _ _ _));rw[wE (by rw[BN,J]),O.1,(w _ m).1];exact⟨rfl,SP (w _ m).2 _⟩
    .rw[show Nat.beq i (a5 c.c.r)=false from by cases o:Nat.beq i (a5 c.c.r)with
      |false=>rfl
      |true=>exact b3 (fp o) Q]
     show(gj _).map _=jh _ (y i)/\tF (jh _ (y i));rw[wE J];refine⟨?_,(w i m).2⟩;rw[<-(w i m).1];refine tK λa z=>?_;obtain⟨hL,_⟩:=j i m a z;exact O.2 a ⟨hL.1,a3⟩ λZ=>OU (f:=λi=>dm (x.s.t.r i).rs) h.dj.1 m u Q (a / 32) (zk.1 z) (zk.1 Z)
end
end Sx
end Go.Proofs.YtfbhkfhbnkncoaaGreatDoor
