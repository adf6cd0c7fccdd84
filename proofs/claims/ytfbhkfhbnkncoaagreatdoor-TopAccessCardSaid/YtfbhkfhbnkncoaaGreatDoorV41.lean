import Derived.Test.YtfbhkfhbnkncoaaGreatDoorV40
set_option linter.all false
set_option maxRecDepth 100000
set_option maxHeartbeats 4000000
namespace Go.Proofs.YtfbhkfhbnkncoaaGreatDoor
open Go.RowKit Tryz
open Tryz renaming prog→a6
namespace Sx
variable{c:Code}{a:List Value}{l:Lst}{f:Nat->D}{t':Ty}
def Ak(b:ByteArray):Bool:=(((b.size:Int).tmod 6) != 0)||decide ((b.size:Int)>384)
def o9(b:ByteArray):Bool:=!(Ak b||!wx (oZ b))
abbrev LT(l:List Ins):D:=.X l.length qX λi=>iK (l.getD i lW)
def Lc(n:Nat):(n:Int).tmod 6=((n % 6:Nat):Int):=by rw[vI a3];omega
def zer(b:ByteArray){n:Nat}(a:Nat.min b.size 6=n)(f:Nat->D):mQ 0 (Nat.min b.size 6) (λi=>D.z .u8 (fF b i)) f=mQ 0 n (λi=>D.z .u8 (fF b i)) f:=by rw[a]
attribute [local irreducible] b6 eF fR ez eH eB eM fx dC ec dU dx
def LV(b:ByteArray)(h:b.size<=1000000):c5 a6 112 [.d (.st b)] (T2 (bif o9 b then .d (LT (oZ b))else sD .c (c7 [])) (I (bif o9 b then 0 else 3))):=by
 have p:dx (b.size:Int):=eD a3 a3;refine dq func112 ?_;refine a4 p (a4 ⟨(a8:(6:Int)≠0),(by have:=Lc b.size;exact iL (by simp only[eU];omega) ef (by simp only[eU];omega):ja .i64 ((b.size:Int).tmod 6)=true)⟩ (a4 (λ_=>p) ?_));apply a4<;>intro c
 .have c:Ak b=true:=c;refine a4 rfl ?_;rw[show o9 b=false by unfold o9;rw[c];rfl];exact uY rfl
 have c:Ak b=false:=c;have y:b.size % 6=0/\b.size<=384:=by unfold Ak at c;rw[Lc]at c;simp only[gX,kq,bne_eq_false_iff_eq]at c;omega
 refine oA 4 qX (c7 []) rfl ?_;refine dX c6 (λi:Nat=>6*i<=b.size) (λi=>b.size - 6*i) (λi=>[(0,.d (.st (fI b (6*i)))),(4,gx 1 i qX ((ma b i).map iK))]) (λi=>⟨[],[i],[]⟩) 0 (dG _) ⟨by rw[Nat.mul_zero,SW];rfl,rfl,trivial⟩ rfl (λi=>⟨a9 _,a9 _,a9 _⟩) ?_;intro i w;have v:=SX b (6*i);refine b2 (x:=((fI b (6*i)).size:Int)) ?_;apply a4<;>intro o
 .have u:6*i+6<=b.size:=by
   have:((fI b (6*i)).size:Int)>0:=b8 o
   omega
  refine a4 ⟨(a8:(0:Int)<=0),(a8:(0:Int)<=6),(a8:(6:Int)<=6)⟩ ?_;conv=>whnf
  have d:Nat.min (fI b (6*i)).size 6=6:=Nat.min_eq_right a3;refine⟨(by rw[show(((6:Nat):Int).toNat -(0:Int).toNat)=6 from rfl,d];exact eD a8 a8:dx ((Nat.min (fI b (6*i)).size (((6:Nat):Int).toNat -(0:Int).toNat):Nat):Int)),?_⟩;conv=>whnf
  refine⟨_,zer (fI b (6*i)) d _,?_⟩;refine a4 ⟨(a8:(0:Int)<=0),(a8:(0:Int)<6)⟩ (a4 ⟨(a8:(0:Int)<=1),(a8:(1:Int)<6)⟩ (a4 ⟨(a8:(0:Int)<=2),(a8:(2:Int)<6)⟩ (a4 ⟨(a8:(0:Int)<=3),(a8:(3:Int)<6)⟩ (a4 ⟨(a8:(0:Int)<=4),(a8:(4:Int)<6)⟩ (a4 ⟨(a8:(0:Int)<=5),(a8:(5:Int)<6)⟩ (Or.inl ?_))))));conv=>whnf
  have f:((ma b i).map iK).length=i:=by rw[dD,As]
  refine⟨⟨rfl,by rw[f];omega⟩,?_⟩;refine a4 ⟨(a8:(0:Int)<=6),(a3:(6:Int)<=((fI b (6*i)).size:Int)),(a3:((fI b (6*i)).size:Int)<=((fI b (6*i)).size:Int))⟩ ?_;conv=>whnf
  refine⟨i+1,(a3:6*(i+1)<=b.size),a3,⟨?_,?_,trivial⟩,⟨rfl,rfl⟩,rfl⟩
  .exact dE (λs=>some (SV.d (.st s))) (SY b (6*i))
  .have n:=λj=>tW (fI b (6*i)) j;have e:iK ⟨fF (fI b (6*i)) 0,fF (fI b (6*i)) 1,fF (fI b (6*i)) 2,fF (fI b (6*i)) 3,dC .or .u16 (fF (fI b (6*i)) 4) (ec .u16 (fF (fI b (6*i)) 5) 8)⟩=iK (xy b i):=by have q:fF (fI b (6*i)) 0=fF b (6*i:Nat):=sK b (6*i) 0;rw[zbl (n 4) (n 5)];unfold xy;rw[q,<-sK b (6*i) 1,<-sK b (6*i) 2,<-sK b (6*i) 3,<-sK b (6*i) 4,<-sK b (6*i) 5];rfl
   rw[Oa,je,<-kA];show some (SV.ow 1 (i+1) _ qX (fE _ (c7 ((ma b i).map iK)) (c7 [iK ⟨fF (fI b (6*i)) 0,fF (fI b (6*i)) 1,fF (fI b (6*i)) 2,fF (fI b (6*i)) 3,dC .or .u16 (fF (fI b (6*i)) 4) (ec .u16 (fF (fI b (6*i)) 5) 8)⟩])))=_;rw[e];rfl
 .have t:b.size=6*i:=by
   have:¬((fI b (6*i)).size:Int)>0:=b8 o
   omega
  have m:b.size / 6=i:=a3
  have l:oZ b=ma b i:=by unfold oZ;rw[m]
  conv=>whnf
  have r:∀x∈ma b i,InsOk x:=λx k=>N9 b x (l▸k);refine bo ((Vu (ma b i) r (by rw[As];omega)).le (a:=[gx 1 i qX ((ma b i).map iK)]) ⟨λO J x k=>iE qX iK lW (ma b i) O J x (vq _ _ _ _ _ O J x k),trivial⟩) ?_;apply a4<;>intro g
  .have g:(!wx (ma b i))=true:=g;refine a4 rfl ?_;have e:o9 b=false:=by unfold o9;rw[l,g,Gk];rfl
   rw[e];exact uY rfl
  .have g:(!wx (ma b i))=false:=g;conv=>whnf
   have e:o9 b=true:=by unfold o9;rw[l,g,c];rfl
   rw[e,l];refine⟨rfl,⟨_,rfl,?_⟩,rfl⟩;exact vQ (b:=I 0) λO J x k=>iE qX iK lW (ma b i) O J x k
def wF(x:Int):Bool:=(decide (x<8)||(x==8))||(decide (x>=16)&&decide (x<24))
def me(l:Lst):D:=.H (.z .i64 l.n) (.H (.X l.ps.length .c λi=>.st (l.ps.getD i ByteArray.empty)) (.H (.X l.pk.size .c λi=>.z .u8 (fF l.pk i)) .un))
def oB(l:Lst):Bool:=!uu l&&(!(l.ps.any λp=>!o9 p)&&!((qg l.pk).any λx=>!wF x))
def zbz(x:Int):c5 a6 116 [.d (.z .u8 x)] (B (wF x)):=by
 refine dq func116 ?_;exact b7
def zaH(y:Int):c5 a6 115 [.d (.z .u8 y)] (B (!wF y)):=by
 refine dq func115 ?_;exact bo (zbz y) b7
def zbB(s:ByteArray):(SV.d (.X s.size .c λi=>.z .u8 (fF s i))).le (.d (.X (qg s).length .c λi=>.z .u8 ((qg s).getD i 0))):=λO J y h=>by refine⟨ef,λ_=>?_⟩;show dM O (.X (qg s).length .c λi=>.z .u8 ((qg s).getD i 0)) [y];rw[EK];exact h.X.congr λi a=>by rw[JT s a]
def Mq(l:Lst)(g:l.ps.length<=20)(h:l.pk.size<=6000)(c:∀p∈l.ps,p.size<=1000):c5 a6 62 [.d (me l)] (B (oB l)):=by
 have e:dx (l.ps.length:Int):=eD a3 a3;have f:dx (l.pk.size:Int):=eD a3 a3;refine dq func62 ?_;refine a4 e (a4 (λ_=>f) ?_);apply a4<;>intro a
 .have a:uu l=true:=a;exact b7 (by unfold oB;rw[a];rfl)
 have a:uu l=false:=a;refine mD (UF (p:=λp=>!o9 p) a3 λy d=>?_) ?_
 .refine fm func111 ?_;refine bo (LV y (eY (c y d) a8)) (a4 rfl (a4 (dE (λb=>Out.ret (B b)) ?_) rfl));cases o9 y<;>rfl
 refine JY (B ((qg l.pk).any λx=>!wF x)) (λi=>c5.le (λm=>UA (k:=115) (l:=qg l.pk) (p:=λx=>!wF x) (by rw[EK];omega) λy _=>?_) ⟨zbB l.pk,SV.le_refl _,trivial⟩) ?_
 .exact zaH y m
 exact b7 (by unfold oB;rw[a];rfl)
def Mt(l:Lst):c5 a6 28 [.d (ig l)] (.d (me l)):=by
 refine dq func28 ?_;exact b7
def Mu(b:ByteArray)(h:b.size<=1000000)(c:o9 b=true):c5 a6 64 [.d (.st b)] (T2 (.d (gC ⟨oZ b,0,λ_=>0⟩)) (I 0)):=by
 refine dq func64 ?_;conv=>whnf
 have a:=LV b h;rw[c]at a;exact bo (a) (b0 b7)
def l9(l:Lst)(i j:Nat):List Ins:=bif Nat.blt j i then oZ (l.ps.getD j ByteArray.empty)else[]
def gH(l:Lst):Nat->List Ins:=l9 l l.ps.length
def By{f:FuncId}{fn:Func}(b:a6.funcs[f]?=some fn)(a:fn.body=some c)(g:(fn.name== "runtime.NumGoroutine")=false)(e:Nat.ble fn.results.toList.length 3=true){args:List SV}(d:Nat.ble args.length fn.ntmps=true){m:MS}{K:Out->MS->Prop}(h:Ok a6 fn.ntmps false c (kc 0 args) m (xn ff fn.results.toList K)):b6 a6 f args m K:=DA c6 b a (v8 b g (by rw[a];rfl)) (dF e) (dF d) h
def nr(k:Nat)(m:Mc)(b:Nat):SV:=.H (.B k []) (.H (.d (nK m.ts)) (.H (I m.now) (.H (gx 2 b jj (lj m.M)) (.d .un))))
def o4(k:Nat)(x:Cr)(a:Nat):SV:=.H (.d (fw x.s)) (.H (.B k []) (.H (.d (lG x.m)) (.H (gx 1 a .c (zL x.q)) (.d .un))))
def Jh(h:oB l=true):uu l=false/\(1<=l.n/\l.n<=64)/\l.ps.length<=8:=by
 have a:uu l=false:=by
  cases b:uu l with
  |false=>rfl
  |true=>unfold oB at h;rw[b]at h;cases h
 refine⟨a,?_⟩;unfold uu at a;simp only[gX,kq]at a;omega
def Bk{P:Program}{N:Nat}{F:Bool}{V:List Ent}{m:MS}{K:X->List Ent->MS->Prop}(id:Nat){v v':SV}(n:kI m.c id=some v)(y:v'.shape=v.shape)(x:∀O J cs,eX O J v cs->eX O J v' cs)(h:Ok P N F c V ⟨oJ m.c id v',m.t,m.o⟩ K):Ok P N F c V m K:=by
 intro E r z O J a w g k;rw[qH]at n;rw[vy]at h;have b:=k.m;have f:Mem E O J ⟨m.c.set id v',m.t,m.o⟩ w:=by
  refine⟨⟨by show J.b.length=(m.c.set id v').length;rw[wU];exact b.len,b.A6,λi d t u l j=>?_,b.inj,b.tail,b.A3,b.known,b.R,b.obj,b.A2,b.I⟩,b.gh,b.B1,b.C3,b.marks⟩;rcases mS j with⟨rfl,rfl⟩|⟨_,j⟩
  .obtain⟨C,e,o,p,q,s⟩:=b.box i d t v l n;exact⟨C,e,o,x _ _ _ p,by rw[y];exact q,s⟩
  .exact b.box i d t u l j
 exact h E r z O J a w g ⟨k.l,f⟩
def zdc{O:Ro}{X Y:D}{t:Ty}{f':Nat->D}(h:dM O (.H (.H (.X 0 t f) X) Y) a):dM O (.H (.H (.X 0 t' f') X) Y) a:=by obtain⟨i,j,rfl,⟨b,c,rfl,d,e⟩,g⟩:=h;exact⟨_,_,rfl,⟨b,c,rfl,d.C8,e⟩,g⟩
def Qm{O:Ro}{J:Bl}{A B:SV}{b t2 t:Ty}{f':Nat->Nat->D}{X Y:D}(l:b=t2)(k:∀i,(D.H (.H (.X 0 t' (f' i)) X) Y).shape=t2)(h:eX O J (.H A (.H (.d (.ar 8 b λ_=>.H (.H (.X 0 t f) X) Y)) B)) a):eX O J (.H A (.H (.d (.ar 8 t2 λi=>.H (.H (.X 0 t' (f' i)) X) Y)) B)) a:=by
 subst l;obtain⟨m,n,rfl,c,o,p,rfl,⟨g,rfl,e⟩,d⟩:=h;exact⟨_,_,rfl,c,_,_,rfl,⟨g,rfl,λi j=>⟨k i,zdc (e i j).2⟩⟩,d⟩
def IT(h:oB l=true){p:ByteArray}(a:p∈l.ps):o9 p=true:=by unfold oB at h;simp only[dH,jL]at h;have:=vL.1 h.2.1 p a;simpa using this
def NW(l:Lst)(i:Nat):(nK (fo l.n (l9 l i)).ts).set [i,0] (gC ⟨oZ (l.ps.getD i ByteArray.empty),0,λ_=>0⟩)=nK (fo l.n (l9 l (i+1))).ts:=by
 rw[Li];refine dE nK (funext λj=>?_);show(if j=i then _ else _)=_;have e:l9 l (i+1) j=if j=i then oZ (l.ps.getD i ByteArray.empty)else l9 l i j:=by
  unfold l9;by_cases h:j=i
  .subst h;rw[if_pos rfl,show Nat.blt j (j+1)=true from qq (a9 _)];rfl
  .rw[if_neg h];by_cases b:j<i
   .rw[show Nat.blt j (i+1)=true from qq a3,show Nat.blt j i=true from qq b]
   .have c:Nat.blt j (i+1)=false:=by
     cases a:Nat.blt j (i+1)with
     |false=>rfl
     |true=>have:=dF a;omega
    have d:Nat.blt j i=false:=by
     cases a:Nat.blt j i with
     |false=>rfl
     |true=>have:=dF a;omega
    rw[c,d]
 show _=(⟨⟨l9 l (i+1) j,0,λ_=>0⟩,iT,false,0⟩:Rr);rw[e];by_cases h:j=i
 .rw[if_pos h,if_pos h];rfl
 .rw[if_neg h,if_neg h];rfl
def Vx(l:Lst)(L:D)(q:l.pk.size<=6000)(k:∀p∈l.ps,p.size<=1000)(f:oB l=true):b6 a6 27 [.d (me l)] ⟨[.d L],[],[]⟩ λo U=>o=.ret (T2 (.B 2 []) (I 0))/\∃a b,U=⟨[.d L,.d (me l),nr 4 (fo l.n (gH l)) b,.d (dT (fo l.n (gH l)).x.p),o4 3 (fo l.n (gH l)).x a],[a,b],[]⟩:=by
 obtain⟨v,w,y⟩:=Jh f;refine By func27 rfl ey rfl rfl ?_;refine dB (dA (l:=[(1,.B 1 [])]) (U:=⟨[.d L,.d (me l)],[],[]⟩) ⟨rfl,trivial⟩ rfl ?_);refine dB (bo (Mq l a3 q k) ?_);conv=>whnf
 rw[f];refine b0 (dA (l:=[(1,.B 1 [])]) (U:=⟨[.d L,.d (me l)],[],[]⟩) ⟨rfl,trivial⟩ rfl ?_);refine dB (dA (l:=[(1,.B 1 []),(4,.B 2 [])]) (U:=⟨[.d L,.d (me l),LD.D7],[],[]⟩) ⟨rfl,rfl,trivial⟩ rfl ?_);refine dB (ev func63 ?_);refine ev func117 ?_;refine a4 (λg=>?_) λ_=>?_
 .have g:(decide (l.n<1)||decide (l.n>64))=true:=g;simp only[pP,fY]at g;omega
 refine bo (Mv l.n (eD a3 a3)) (b0 (bo (LP) (Bm 4 [3] .c (c7 []) rfl rfl rfl ⟨_,_,rfl⟩ ?_)));refine Bm 2 [3] jj (c7 []) rfl rfl rfl ⟨_,_,rfl⟩ ?_;refine Bk 2 (v':=nr 4 (fo l.n (l9 l 0)) 0) rfl rfl (λO J s r=>?_) ?_
 .exact Qm (t':=qX) (f':=λi j=>iK (([]:List Ins).getD j lW)) rfl (λi=>rfl) r
 refine dA (l:=[(1,.B 1 []),(4,.B 2 [])]) (U:=⟨[.d L,.d (me l),nr 4 (fo l.n (l9 l 0)) 0,.d (dT (fo l.n (l9 l 0)).x.p),o4 3 (fo l.n (l9 l 0)).x 0],[0,0],[]⟩) ⟨rfl,rfl,trivial⟩ rfl ?_;refine dB (b2 (x:=(l.ps.length:Int)) (dX c6 (λi:Nat=>i<=l.ps.length) (λi=>l.ps.length - i) (λi=>[(24,I i)]) (λi=>⟨[.d L,.d (me l),nr 4 (fo l.n (l9 l i)) 0,.d (dT (fo l.n (l9 l 0)).x.p),o4 3 (fo l.n (l9 l 0)).x 0],[0,0],[]⟩) 0 (dG _) ⟨rfl,trivial⟩ rfl (λi=>⟨a9 _,a9 _,a9 _⟩) ?_));intro i t;apply a4<;>intro m
 .have c:i<l.ps.length:=eZ m
  have e:l.ps.getD i ByteArray.empty∈l.ps:=by rw[eu,ed c];exact oi c
  have u:=k _ e;refine fS (i:=i) (n:=l.ps.length) (fg (List.range 12) [(11,64)] (c9 (Mu (l.ps.getD i ByteArray.empty) a3 (IT f e)) (λ_ h=>h) (a4 ⟨(a3:(0:Int)<=(i:Int)),(a3:(i:Int)<8)⟩ ?_)));conv=>whnf
  refine⟨nr 4 (fo l.n (l9 l (i+1))) 0,dE (λd=>SV.H (.B 4 []) (.H (.d d) (.H (I 0) (.H (gx 2 0 jj (lj [])) (.d .un))))) (NW l i),?_⟩;refine b2 (x:=(i:Int)+1) ?_;conv=>whnf
  exact⟨i+1,c,a3,⟨rfl,trivial⟩,⟨rfl,rfl⟩,rfl⟩
 .have c:i=l.ps.length:=e9 m
  subst c;refine eJ c6 ?_;conv=>whnf
  exact⟨rfl,0,0,rfl⟩
def Vy(l:Lst)(f L:D)(r:l.pk.size<=6000)(m:∀p∈l.ps,p.size<=1000)(g:oB l=true):b6 a6 27 [.d (me l)] ⟨[.d f,.d L],[],[]⟩ λo U=>o=.ret (T2 (.B 3 []) (I 0))/\∃a b,U=⟨[.d f,.d L,.d (me l),nr 5 (fo l.n (gH l)) b,.d (dT (fo l.n (gH l)).x.p),o4 4 (fo l.n (gH l)).x a],[a,b],[]⟩:=by
 obtain⟨w,y,z⟩:=Jh g;refine By func27 rfl ey rfl rfl ?_;refine dB (dA (l:=[(1,.B 2 [])]) (U:=⟨[.d f,.d L,.d (me l)],[],[]⟩) ⟨rfl,trivial⟩ rfl ?_);refine dB (bo (Mq l a3 r m) ?_);conv=>whnf
 rw[g];refine b0 (dA (l:=[(1,.B 2 [])]) (U:=⟨[.d f,.d L,.d (me l)],[],[]⟩) ⟨rfl,trivial⟩ rfl ?_);refine dB (dA (l:=[(1,.B 2 []),(4,.B 3 [])]) (U:=⟨[.d f,.d L,.d (me l),LD.D7],[],[]⟩) ⟨rfl,rfl,trivial⟩ rfl ?_);refine dB (ev func63 ?_);refine ev func117 ?_;refine a4 (λk=>?_) λ_=>?_
 .have k:(decide (l.n<1)||decide (l.n>64))=true:=k;simp only[pP,fY]at k;omega
 refine bo (Mv l.n (eD a3 a3)) (b0 (bo (LP) (Bm 5 [3] .c (c7 []) rfl rfl rfl ⟨_,_,rfl⟩ ?_)));refine Bm 3 [3] jj (c7 []) rfl rfl rfl ⟨_,_,rfl⟩ ?_;refine Bk 3 (v':=nr 5 (fo l.n (l9 l 0)) 0) rfl rfl (λO J t s=>?_) ?_
 .exact Qm (t':=qX) (f':=λi j=>iK (([]:List Ins).getD j lW)) rfl (λi=>rfl) s
 refine dA (l:=[(1,.B 2 []),(4,.B 3 [])]) (U:=⟨[.d f,.d L,.d (me l),nr 5 (fo l.n (l9 l 0)) 0,.d (dT (fo l.n (l9 l 0)).x.p),o4 4 (fo l.n (l9 l 0)).x 0],[0,0],[]⟩) ⟨rfl,rfl,trivial⟩ rfl ?_;refine dB (b2 (x:=(l.ps.length:Int)) (dX c6 (λi:Nat=>i<=l.ps.length) (λi=>l.ps.length - i) (λi=>[(24,I i)]) (λi=>⟨[.d f,.d L,.d (me l),nr 5 (fo l.n (l9 l i)) 0,.d (dT (fo l.n (l9 l 0)).x.p),o4 4 (fo l.n (l9 l 0)).x 0],[0,0],[]⟩) 0 (dG _) ⟨rfl,trivial⟩ rfl (λi=>⟨a9 _,a9 _,a9 _⟩) ?_));intro i u;apply a4<;>intro q
 .have c:i<l.ps.length:=eZ q
  have e:l.ps.getD i ByteArray.empty∈l.ps:=by rw[eu,ed c];exact oi c
  have v:=m _ e;refine fS (i:=i) (n:=l.ps.length) (fg (List.range 12) [(11,64)] (c9 (Mu (l.ps.getD i ByteArray.empty) a3 (IT g e)) (λ_ h=>h) (a4 ⟨(a3:(0:Int)<=(i:Int)),(a3:(i:Int)<8)⟩ ?_)));conv=>whnf
  refine⟨nr 5 (fo l.n (l9 l (i+1))) 0,dE (λd=>SV.H (.B 5 []) (.H (.d d) (.H (I 0) (.H (gx 2 0 jj (lj [])) (.d .un))))) (NW l i),?_⟩;refine b2 (x:=(i:Int)+1) ?_;conv=>whnf
  exact⟨i+1,c,a3,⟨rfl,trivial⟩,⟨rfl,rfl⟩,rfl⟩
 .have c:i=l.ps.length:=e9 q
  subst c;refine eJ c6 ?_;conv=>whnf
  exact⟨rfl,0,0,rfl⟩
def Wq(l:Lst)(c:l.pk.size<=6000)(d:∀p∈l.ps,p.size<=1000)(e:oB l=true):b6 a6 7 [.d (ig l)] ⟨[],[],[]⟩ λo U=>o=.ret (.B 2 [])/\∃a b,U=⟨[.d (ig l),.d (me l),nr 4 (fo l.n (gH l)) b,.d (dT (fo l.n (gH l)).x.p),o4 3 (fo l.n (gH l)).x a],[a,b],[]⟩:=by
 refine By func7 rfl ey rfl rfl ?_;refine dB (dA (l:=[(1,.B 0 [])]) (U:=⟨[.d (ig l)],[],[]⟩) ⟨rfl,trivial⟩ rfl ?_);refine eJ c6 (bo (Mt l) (fa (Vx l (ig l) c d e) ?_));rintro _ _ ⟨rfl,a,b,rfl⟩;refine b0 ?_;conv=>whnf
 exact⟨rfl,a,b,rfl⟩
def Wp(l:Lst)(f:l.pk.size<=6000)(g:∀p∈l.ps,p.size<=1000)(h:oB l=true):b6 a6 7 [.d (ig l)] ⟨[],[],[]⟩ λo U=>o=.ret (.B 0 [])/\∃a b,U=⟨[nr 2 (fo l.n (gH l)) b,.d (dT (fo l.n (gH l)).x.p),o4 1 (fo l.n (gH l)).x a],[a,b],[]⟩:=by
 have c:=yL (Wq l f g h) (K:=λo U=>o=.ret (.B 0 [])/\∃a b,U=⟨[nr 4 (fo l.n (gH l)) b,.d (me l),.d (ig l),.d (dT (fo l.n (gH l)).x.p),o4 3 (fo l.n (gH l)).x a],[a,b],[]⟩) (by
  rintro _ _ ⟨rfl,a,b,rfl⟩;exact⟨0,2,⟨dF rfl,dF rfl⟩,⟨dF rfl,dF rfl⟩,rfl,rfl,a,b,rfl⟩)
 have d:=yL c (K:=λo U=>o=.ret (.B 0 [])/\∃a b,U=⟨[nr 4 (fo l.n (gH l)) b,.d (dT (fo l.n (gH l)).x.p),.d (ig l),.d (me l),o4 1 (fo l.n (gH l)).x a],[a,b],[]⟩) (by
  rintro _ _ ⟨rfl,a,b,rfl⟩;exact⟨1,3,⟨dF rfl,dF rfl⟩,⟨dF rfl,dF rfl⟩,rfl,rfl,a,b,rfl⟩)
 have e:=yL d (K:=λo U=>o=.ret (.B 0 [])/\∃a b,U=⟨[nr 2 (fo l.n (gH l)) b,.d (dT (fo l.n (gH l)).x.p),o4 1 (fo l.n (gH l)).x a,.d (me l),.d (ig l)],[a,b],[]⟩) (by
  rintro _ _ ⟨rfl,a,b,rfl⟩;exact⟨2,4,⟨dF rfl,dF rfl⟩,⟨dF rfl,dF rfl⟩,rfl,rfl,a,b,rfl⟩)
 refine uT 3 2 0 ⟨dF rfl,dF rfl,dF rfl⟩ (fa e ?_);rintro _ _ ⟨rfl,a,b,rfl⟩;exact⟨_,SV.le_refl _,rfl,rfl,a,b,rfl⟩
def Ws(l:Lst)(c:D)(d:l.pk.size<=6000)(e:∀p∈l.ps,p.size<=1000)(f:oB l=true):b6 a6 7 [.d (ig l)] ⟨[.d c],[],[]⟩ λo U=>o=.ret (.B 3 [])/\∃a b,U=⟨[.d c,.d (ig l),.d (me l),nr 5 (fo l.n (gH l)) b,.d (dT (fo l.n (gH l)).x.p),o4 4 (fo l.n (gH l)).x a],[a,b],[]⟩:=by
 refine By func7 rfl ey rfl rfl ?_;refine dB (dA (l:=[(1,.B 1 [])]) (U:=⟨[.d c,.d (ig l)],[],[]⟩) ⟨rfl,trivial⟩ rfl ?_);refine eJ c6 (bo (Mt l) (fa (Vy l c (ig l) d e f) ?_));rintro _ _ ⟨rfl,a,b,rfl⟩;refine b0 ?_;conv=>whnf
 exact⟨rfl,a,b,rfl⟩
def Wr(l:Lst)(c:D)(g:l.pk.size<=6000)(h:∀p∈l.ps,p.size<=1000)(i:oB l=true):b6 a6 7 [.d (ig l)] ⟨[.d c],[],[]⟩ λo U=>o=.ret (.B 1 [])/\∃a b,U=⟨[.d c,nr 3 (fo l.n (gH l)) b,.d (dT (fo l.n (gH l)).x.p),o4 2 (fo l.n (gH l)).x a],[a,b],[]⟩:=by
 have d:=yL (Ws l c g h i) (K:=λo U=>o=.ret (.B 1 [])/\∃a b,U=⟨[.d c,nr 5 (fo l.n (gH l)) b,.d (me l),.d (ig l),.d (dT (fo l.n (gH l)).x.p),o4 4 (fo l.n (gH l)).x a],[a,b],[]⟩) (by
  rintro _ _ ⟨rfl,a,b,rfl⟩;exact⟨1,3,⟨dF rfl,dF rfl⟩,⟨dF rfl,dF rfl⟩,rfl,rfl,a,b,rfl⟩)
 have e:=yL d (K:=λo U=>o=.ret (.B 1 [])/\∃a b,U=⟨[.d c,nr 5 (fo l.n (gH l)) b,.d (dT (fo l.n (gH l)).x.p),.d (ig l),.d (me l),o4 2 (fo l.n (gH l)).x a],[a,b],[]⟩) (by
  rintro _ _ ⟨rfl,a,b,rfl⟩;exact⟨2,4,⟨dF rfl,dF rfl⟩,⟨dF rfl,dF rfl⟩,rfl,rfl,a,b,rfl⟩)
 have f:=yL e (K:=λo U=>o=.ret (.B 1 [])/\∃a b,U=⟨[.d c,nr 3 (fo l.n (gH l)) b,.d (dT (fo l.n (gH l)).x.p),o4 2 (fo l.n (gH l)).x a,.d (me l),.d (ig l)],[a,b],[]⟩) (by
  rintro _ _ ⟨rfl,a,b,rfl⟩;exact⟨3,5,⟨dF rfl,dF rfl⟩,⟨dF rfl,dF rfl⟩,rfl,rfl,a,b,rfl⟩)
 refine uT 4 2 0 ⟨dF rfl,dF rfl,dF rfl⟩ (fa f ?_);rintro _ _ ⟨rfl,a,b,rfl⟩;exact⟨_,SV.le_refl _,rfl,rfl,a,b,rfl⟩
end Sx
namespace Sx
attribute [local irreducible] b6 eF ez eH eB eM dC ec dU dx
def zbP(l:List (Int×Ow))(h:Int)(w:Ow):qA (l++[(h,w)])=qA l++[.z .i64 h]:=by unfold qA qL;rw[je,je];rfl
def zbQ(l:List (Int×Ow))(h:Int)(w:Ow):qB (l++[(h,w)])=qB l++[lH w]:=je
def Ra{O:Ro}{J:Bl}{A B:SV}{X Y:D}{c:List Value}(i:A.B9=.d X)(j:B.B9=.d Y)(h:eX O J (.H A (.H B (.d .un))) c):eX O J (.d (.H X (.H Y .un))) c:=by obtain⟨d,k,rfl,a,⟨e,f,rfl,b,g⟩⟩:=h;have a:=SV.E8 a;have b:=SV.E8 b;rw[i]at a;rw[j]at b;exact⟨d,_,rfl,a,⟨e,f,rfl,b,g⟩⟩
def JA:∀{L:List D} {i:Nat} {x:D},i<L.length->a7 (c7 L) i x=c7 (L.set i x)
 |[],_,_,h=>b3 h (jm _)
 |d::L,0,x,_=>by
  funext j
  cases j with
  |zero=>exact if_pos rfl
  |succ j=>exact if_neg (Nat.succ_ne_zero j)
 |d::L,i+1,x,h=>by
  funext j
  cases j with
  |zero=>exact if_neg (Nat.succ_ne_zero i).symm
  |succ j=>
   have:=congrFun (JA (L:=L) (i:=i) (x:=x) (Nat.lt_of_succ_lt_succ h)) j;show _=c7 (L.set i x) j;rw[<-this];unfold a7;by_cases c:j=i
   .rw[if_pos c,if_pos (dE (·+1) c)]
   .rw[if_neg c,if_neg λe=>c (Nat.succ.inj e)];rfl
def RN{l:List (Int×Ow)}(m:l.length<=1000000)(h:Int)(w:Ow):c5 a6 210 [.d (mc l),I h,.d (lH w)] (.d (mc (jJ l h w))):=by
 have d:=Ru m h;refine zu func210 ?_;cases g:py l h with
 |none=>
  rw[show tS l h= -1 by unfold tS;rw[g]]at d;rw[(Hl g).1];refine zcC m ?_;refine lL (eJ nT (bo (d) (lL (lL (eJ nT (dA (l:=(20,B true)::WS h) (by exact⟨rfl,rfl,rfl,rfl,rfl,rfl,trivial⟩) rfl ?_))))));refine(QF (b:=true) rfl (λ_=>?_) ef);refine lL (eJ nT (Or.inl (a4 ⟨rfl,by show(qA l).length+1<=2147483648;unfold qA;rw[dD,dD];omega⟩ (lL (eJ nT (Or.inl (a4 ⟨rfl,by show(qB l).length+1<=2147483648;unfold qB;rw[dD];omega⟩ (dA (l:=[(6,.B 2 []),(7,.B 3 [])]) (U:=⟨[.d (mc l),.d (lH w),AO.zero.sv,.H (.ow 1 1 ((qA l).length+1) .c (c7 (qA l++[.z .i64 h]))) (.H (.ow 2 1 ((qB l).length+1) ql (c7 (qB l++[lH w]))) (.d .un))],[1,1],[]⟩) (by exact⟨rfl,rfl,trivial⟩) (g9 (ce rfl (ce rfl (ce rfl (ce (by rw[<-rO,<-rO];rfl) rfl)))) rfl rfl) ?_))))))));refine Bk 3 (v':=.d (mc (l++[(h,w)]))) rfl rfl (λO J q k=>?_) ?_
  .refine Ra (A:=.ow 1 1 ((qA l).length+1) .c (c7 (qA l++[.z .i64 h]))) (B:=.ow 2 1 ((qB l).length+1) ql (c7 (qB l++[lH w]))) ?_ ?_ k
   .show SV.d _=SV.d (fq .c (qA (l++[(h,w)])));rw[zbP];unfold fq;rw[ew];rfl
   .show SV.d _=SV.d (fq ql (qB (l++[(h,w)])));rw[zbQ];unfold fq;rw[ew];rfl
  exact eJ nT b7
 |some i=>
  obtain⟨e,v,o,_⟩:=Hn (w:=w) g;have p:=(iA.1 o).1;rw[show tS l h=(i:Int) by unfold tS;rw[g]]at d;rw[e];refine zcD m a3 ?_;refine lL (eJ nT (bo (d) (lL (lL (eJ nT (dA (l:=(8,I i)::(20,B (decide ((i:Int)<0)))::WS h) (by exact⟨rfl,rfl,rfl,rfl,rfl,rfl,rfl,trivial⟩) rfl ?_))))));rw[fe (a3:¬(i:Int)<0)];refine QF (b:=false) rfl ef λ_=>?_;refine eJ nT (lL (eJ nT ?_));conv=>whnf
  have a:i<(qB l).length:=by unfold qB;rw[dD];exact p
  refine⟨⟨rfl,(a3:(0:Int)<=(i:Int)),by show(i:Int)<((qB l).length:Int);omega⟩,?_⟩;conv=>whnf
  refine⟨⟨rfl,a⟩,c7 (qB (l.set i (h,w))),?_,?_⟩
  .unfold qB at a ⊢;rw[List.map_set];exact JA a
  conv=>whnf
  have r:(qB l).length=(qB (l.set i (h,w))).length:=by unfold qB;rw[dD,dD,wU]
  have s:qA l=qA (l.set i (h,w)):=by
   unfold qA;rw[List.map_set]
   congr 1
   refine z4 λj=>?_;rw[Cx];by_cases c:i=j
   .subst c;rw[if_pos rfl,if_pos (by rw[dD];exact p),pr,o];rfl
   .rw[if_neg c]
  refine dA (l:=[(6,.B 2 []),(7,.B 3 [])]) (U:=⟨[.d (mc l),.d (lH w),AO.zero.sv,.H (.ow 1 0 (qA l).length .c (c7 (qA l))) (.H (.ob (.mr 0 1)) (.d .un))],[0],[.row 1 (qB l).length ql (c7 (qB (l.set i (h,w))))]⟩) (by exact⟨rfl,rfl,trivial⟩) rfl ?_;rw[r,s];generalize l.set i (h,w)=L;refine zbb 3 [1] (id:=0) (v:=1) (n:=(qB L).length) (t:=ql) (f:=c7 (qB L)) (Y:=.H (.ow 1 0 (qA L).length .c (c7 (qA L))) (.H (.d (fq ql (qB L))) (.d .un))) rfl rfl rfl ⟨_,_,rfl⟩ rfl ?_;refine Bk 3 (v':=.d (mc L)) rfl rfl (λO J q k=>Ra (A:=.ow 1 0 (qA L).length .c (c7 (qA L))) (B:=.d (fq ql (qB L))) rfl rfl k) ?_;exact eJ nT b7
end Sx
namespace Sx
variable{M h t x:Int}{d:Int->Nat}{o:Nat->Sd}
def De(c:0<=t)(d:t<8):dC .and .i64 t 7=t:=by
 obtain⟨a,rfl⟩:=sS c;have b:∀a:Fin 8,dC .and .i64 ((a.val:Nat):Int) 7=(a.val:Nat):=a8
 exact b ⟨a,a3⟩
def uh{i:Nat}(h:i<8):iV x i=kf x i:=by unfold iV;rw[show Nat.blt i 8=true by simpa using h];rfl
def YX(d:0<=t)(f:t<8):(λi=>D.I (iV (jC t) i))=a7 (λ_=>D.I false) t.toNat (.I true):=by
 obtain⟨a,rfl⟩:=sS d
 funext i
 unfold a7;by_cases b:i<8
 .rw[uh b,(Nm ⟨a,a3⟩ ⟨i,b⟩).1];by_cases c:i=a
  .subst c;rw[nE,if_pos rfl,eI rfl]
  .rw[nE,if_neg c,fe λe=>c e.symm]
 .rw[if_neg (by rw[nE];omega)];unfold iV;rw[show Nat.blt i 8=false from vF.2 λe=>b (b8 e)];rfl
def YY(f:0<=x/\x<256)(g:0<=t)(h:t<8):(λi=>D.I (iV (dC .xor .u8 x (jC t)) i))=a7 (λi=>D.I (iV x i)) t.toNat (.I (!iV x t.toNat)):=by
 obtain⟨a,rfl⟩:=sS g
 funext i
 unfold a7;by_cases d:i<8
 .rw[uh d,(Cd f.1 f.2 (a:=a) (b:=i) a3 d).1];by_cases c:i=a
  .subst c;rw[nE,if_pos rfl,eI rfl,uh d];simp
  .rw[nE,if_neg c,fe λe=>c e.symm];show _=D.I (iV x i);rw[uh d];simp
 .rw[if_neg (by rw[nE];omega)];unfold iV;show D.I (Nat.blt i 8&&_)=D.I (Nat.blt i 8&&_);rw[show Nat.blt i 8=false from vF.2 λe=>d (b8 e)];rfl
def Y4{x:Ow}(b:0<=t)(c:t<8):gA t x=((x.kind==3)&&iV x.hold t.toNat):=by obtain⟨a,rfl⟩:=sS b;unfold gA;rw[nE,uh a3,eI b,eI c,tD,tD];rfl
def sk(x:Int)(n:Nat):Nat:=((List.range n).filter (iV x)).length
def Xu(x:Int)(n:Nat):sk x (n+1)=sk x n+bif iV x n then 1 else 0:=by unfold sk;rw[mC,r9,ew,oR,Cv];cases iV x n<;>rfl
def Xt(x:Int)(n:Nat):sk x n<=n:=by unfold sk;exact eY (sU _ _) (by rw[tJ];exact a9 _)
def Xs(h:0<=x/\x<256):sk x 8=0↔kY x.toNat=0:=by rw[Q9 h.1 h.2];unfold sk;rw[ym,List.filter_eq_nil_iff];exact⟨λg a b=>by have:=g a (gZ.2 b);rw[uh b]at this;simpa using this,λg a b=>by have b:=gZ.1 b;rw[uh b,g a b];decide⟩
attribute [local irreducible] b6 eF ez eH eB eM dC ec dU dx
def mY(A M:Int):Ow:=⟨A,bif A==1 then M else 0,bif A==3 then jC M else 0⟩
def Ss{t:Tb}(b:TInv t d)(a:gi t h):zE t h=0:=by unfold zE;rw[a.1.2,(rW b a.1).2 a.2];simp
def zx{t:Tb}(k:TInv t d){l:List (Int×Ow)}(n:l.length<=1000000){A:Int}(j:gi t h)(g:0<=M)(i:M<8)(m:A=1\/A=2\/A=3):c5 a6 143 [.d (mc l),.d (gU t),I h,I M,I A] (T2 (.d (mc (jJ l h (mY A M)))) (I 0)):=by
 have a:=RN n h (mY A M);have c:=RK k j.1.1;rw[Ss k j]at c;have b:(decide (M<0)||decide (M>7))=false:=by rw[fe a3,fe a3];rfl
 rcases m with rfl|rfl|rfl
 .have e:lH (mY 1 M)=.H (.z .i64 1) (.H (.z .i64 M) (.H (.ar 8 .c λ_=>.I false) .un)):=by unfold lH mY;rw[show(bif (1:Int)==3 then jC M else 0)=0 from rfl,IE];rfl
  rw[e]at a;refine dq func143 ?_;refine bo (c) (a4 (λf=>b3 (b.symm.trans f) a8) λ_=>?_);exact b0 (ej (b0 (bo (a) b7)))
 .have e:lH (mY 2 M)=.H (.z .i64 2) (.H (.z .i64 0) (.H (.ar 8 .c λ_=>.I false) .un)):=by unfold lH mY;rw[show(bif (2:Int)==3 then jC M else 0)=0 from rfl,IE];rfl
  rw[e]at a;refine dq func143 ?_;exact bo (c) (b0 (b0 (b0 (b0 (bo (a) b7)))))
 .have e:lH (mY 3 M)=.H (.z .i64 3) (.H (.z .i64 0) (.H (.ar 8 .c (a7 (λ_=>.I false) M.toNat (.I true))) .un)):=by unfold lH mY;rw[show(bif (3:Int)==3 then jC M else 0)=jC M from rfl,YX g i];rfl
  rw[e]at a;refine dq func143 ?_;refine bo (c) (a4 (λf=>b3 (b.symm.trans f) a8) λ_=>?_);refine b0 (b0 (ej (a4 ⟨g,i⟩ ?_)));conv=>whnf
  refine⟨_,rfl,?_⟩;exact bo (a) b7
def J9{t:Tb}(j:TInv t d){l:List (Int×Ow)}(E:OwS t o l)(C:l.length<=1000000)(g:gi t h)(m:0<=M)(n:M<8)(A:(dy o t h).kind=3)(b:Bool):c5 a6 150 [.d (mc l),.d (gU t),I h,I M,B b]
 (bif iV (dy o t h).hold M.toNat==b then T3 (.d (mc l)) (I 0) (I (bif b then 7 else 5))else T3 (.d (mc (jJ l h (jQ o t h M)))) (I (sk (jQ o t h M).hold 8)) (I 0)):=by
 have z:=RN C h (jQ o t h M);have y:=RK j g.1.1;rw[Ss j g]at y;have v:=zw j E C g.1.1;have J:=wA j E g.1.1;have p:(decide (M<0)||decide (M>7))=false:=by rw[fe a3,fe a3];rfl
 have L:=YY J m n;generalize k:jQ o t h M=w at z;have q:w.kind=(dy o t h).kind:=by rw[<-k];rfl
 have r:w.task=(dy o t h).task:=by rw[<-k];rfl
 have s:(λi=>D.I (iV w.hold i))=a7 (λi=>D.I (iV (dy o t h).hold i)) M.toNat (.I (!iV (dy o t h).hold M.toNat)):=by rw[<-k];exact L
 generalize dy o t h=x at v A q r s;refine dq func150 ?_;refine bo (y) (bo (v) (a4 (λa=>?_) λ_=>?_))
 .have a:(x.kind != 3)=true:=a;rw[A]at a;exact b3 a a8
 refine a4 (λa=>b3 (p.symm.trans a) a8) λ_=>?_;refine a4 (λ_=>⟨m,n⟩) ?_;apply a4<;>intro a
 .have a:(iV x.hold M.toNat==b)=true:=a;rw[a];conv=>whnf
  cases b with
  |true=>
   exact ej (ej b7)
  |false=>
   exact b0 (ej b7)
 .have a:(iV x.hold M.toNat==b)=false:=a;rw[a];have F:(!iV x.hold M.toNat)=b:=by cases K:iV x.hold M.toNat<;>cases b<;>simp[K]at a ⊢
  refine b0 (a4 ⟨m,n⟩ ?_);conv=>whnf
  refine⟨.d (lH w),?_,?_⟩
  .unfold lH;rw[s,q,r,F];rfl
  refine dX c6 (λi:Nat=>i<=8) (λi=>8 - i) (λi=>[(16,I i),(15,I (sk w.hold i))]) (λ_=>⟨[.d (mc l),.d (gU t),.d (ZT.d LI),.d (lH w)],[],[]⟩) 0 (dG _) ⟨rfl,rfl,trivial⟩ rfl (λi=>⟨a9 _,a9 _,a9 _⟩) ?_;intro i N;apply a4<;>intro u
  .have c:i<8:=eZ u
   have f:=Xu w.hold i;have G:=Xt w.hold i;refine a4 ⟨(a3:(0:Int)<=(i:Int)),(a3:(i:Int)<8)⟩ ?_;apply a4<;>intro e
   .have e:iV w.hold i=true:=e;rw[e]at f;refine b2 (x:=(sk w.hold i:Int)+1) (b2 (x:=(i:Int)+1) ?_);conv=>whnf
    exact⟨i+1,c,a3,⟨rfl,by rw[f];rfl,trivial⟩,⟨rfl,rfl⟩,rfl⟩
   .have e:iV w.hold i=false:=e;rw[e]at f;refine b2 (x:=(i:Int)+1) ?_;conv=>whnf
    exact⟨i+1,c,a3,⟨rfl,by rw[f];rfl,trivial⟩,⟨rfl,rfl⟩,rfl⟩
  .have c:i=8:=e9 u
   subst c;exact bo (z) b7
def r5(a:Bool)(M:Int):Ow->Bool:=bif a then gA M else gf M
def zep{a:Bool}(b:0<=M)(c:M<8)(x:Ow):((!a&&((x.kind==1)&&(x.task==M)))||(a&&((((x.kind==3)&&decide (M>=0))&&decide (M<8))&&iV x.hold M.toNat)))=r5 a M x:=by
 unfold r5;cases a with
 |false=>show((x.kind==1)&&(x.task==M)||false)=gf M x;rw[wP];rfl
 |true=>
  show(false||_)=gA M x;rw[Y4 b c,eI b,eI c,tD,tD,tE];rfl
def RL{t:Tb}(f:TInv t d){l:List (Int×Ow)}(C:OwS t o l)(z:l.length<=1000000)(k:0<=M)(p:M<8)(a:Bool):c5 a6 220 [.d (mc l),.d (gU t),I M,B a] (.d (fq .c (qL (fj o t (r5 a M) (dW t.b))))):=by
 have r:=(J6 f.r.Q t.r).out (iE .c (λx=>D.z .i64 x) 0 (dW t.b));have A:=oV t.b;have g:∀x∈dW t.b,di x/\bk t.b x=true:=λx E=>(mM f.r.Q f.r.ret).1 E;have n:=De k p;generalize dW t.b=q at r A g ⊢;refine dq func220 ?_;refine bo (r) (oA 9 .c (c7 []) rfl ?_);refine dX c6 (λi:Nat×Nat=>i.1<=q.length) (λi=>q.length - i.1) (λi=>[(11,I i.1),(9,gx 1 i.2 .c (qL (fj o t (r5 a M) (q.take i.1))))]) (λi=>⟨[.d (mc l),.d (gU t)],[i.2],[]⟩) (0,0) (dG _) ⟨rfl,rfl,trivial⟩ rfl (λi=>⟨a9 _,a9 _,a9 _⟩) ?_;rintro⟨i,v⟩ w;have w:i<=q.length:=w;have y:(qL (fj o t (r5 a M) (q.take i))).length<=32:=by
  have m:=x9 o t (r5 a M) (q.take i);have F:(q.take i).length<=q.length:=by simp;omega
  rw[dD];omega
 refine b2 (x:=(q.length:Int)) ?_;apply a4<;>intro m
 .have c:i<q.length:=eZ m
  have j:=K7 o t (r5 a M) c;have u:=g _ (qG c);have b:(0:Int)<=(i:Int)/\(i:Int)<(q.length:Int):=⟨a3,a3⟩;have e:∀x,((fl t x==x)&&((!a&&(((dy o t x).kind==1)&&((dy o t x).task==M)))||(a&&(((((dy o t x).kind==3)&&decide (M>=0))&&decide (M<8))&&iV (dy o t x).hold (dC .and .i64 M 7).toNat))))=((fl t x==x)&&r5 a M (dy o t x)):=λx=>by rw[n,zep k p]
  refine fg (List.range 9) [(7,127),(8,0)] (a4 b (c9 (zw f C z u.1) (λ_ h=>h) (iF (by first|exact(show _/\_ from⟨rfl,rfl⟩)|exact(show _/\_ from⟨b,rfl,rfl⟩)) (kT ?_ ?_))));rotate_left
  .repeat' (first|exact trivial|refine iF (by first|exact(show _/\_ from⟨rfl,rfl⟩)|exact(show _/\_ from⟨b,rfl,rfl⟩)) ?_)
  refine a4 (λ_=>⟨(by rw[n];exact k),(by rw[n];exact p)⟩) (dL 24 (a4 b (c9 (pe f.r f.rk u.1) (λ_ h=>h) (a4 b ?_))));apply a4<;>intro s
  .rw[if_pos ((e (q.getD i 0)).symm.trans s)]at j;refine a4 b (Or.inl (a4 ⟨rfl,by show(qL (fj o t (r5 a M) (q.take i))).length+1<=2147483648;omega⟩ (b2 (x:=(i:Int)+1) ?_)));conv=>whnf
   refine⟨(i+1,v+1),c,by show q.length -(i+1)<q.length - i;omega,⟨rfl,?_,trivial⟩,⟨rfl,rfl⟩,rfl⟩;show _=some (gx 1 (v+1) .c (qL (fj o t (r5 a M) (q.take (i+1)))));rw[j,EU,<-kA];rfl
  .rw[if_neg ((by rw[(e (q.getD i 0)).symm.trans s];simp)),gk]at j;refine b2 (x:=(i:Int)+1) ?_;conv=>whnf
   refine⟨(i+1,v),c,by show q.length -(i+1)<q.length - i;omega,⟨rfl,?_,trivial⟩,⟨rfl,rfl⟩,rfl⟩;show _=some (gx 1 v .c (qL (fj o t (r5 a M) (q.take (i+1)))));rw[j];rfl
 .have c:i=q.length:=e9 m
  subst c;rw[gv];exact b7
end Sx
end Go.Proofs.YtfbhkfhbnkncoaaGreatDoor
