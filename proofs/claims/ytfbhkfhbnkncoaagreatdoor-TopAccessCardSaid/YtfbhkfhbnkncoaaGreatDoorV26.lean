import Derived.Test.YtfbhkfhbnkncoaaGreatDoorV25
set_option linter.all false
namespace Go.Proofs.YtfbhkfhbnkncoaaGreatDoor
open Go.RowKit
namespace Sx
variable{b:fG}{e h r y:Int}{d:Int->Nat}{F:List Int}{A:Nat->Bool}{o:Nat->Sd}{t:Tb}{k:Toks}
def oG(l:Line)(t:Int):Int:=oz l.wait (iz t) l.n.toNat
def tB(l:Line)(t:Int):Line:=
 bif decide (oG l t<0)then l
 else⟨l.has,l.n - 1,a7 (λj=>bif Nat.ble (oG l t).toNat j&&Nat.blt j 7 then l.wait (j+1)else l.wait j) (l.n - 1).toNat 0⟩
def zO(l:Line)(t:Int):Bool:=(l.has==0)&&((l.n==0)||(oG l t==0))
def tA(m:Nat->Line)(s t:Int):Nat->Line:=
 bif pa s t then
  (bif (m s.toNat).has==t+1 then m
  else bif zO (m s.toNat) t then a7 m s.toNat {tB (m s.toNat) t with has:=IntKind.u8.wrap (t+1)}
  else bif decide (oG (m s.toNat) t<0)then a7 m s.toNat ⟨(m s.toNat).has,(m s.toNat).n+1,a7 (m s.toNat).wait (m s.toNat).n.toNat (iz t)⟩
  else m)
 else m
def th(m:Nat->Line)(s t:Int):Bool:=pa s t&&(((m s.toNat).has==t+1)||zO (m s.toNat) t)
def tg(t:Int)(m:Nat->Line)(i:Nat):Nat->Line:=
 bif pa i t then a7 (ue m i t) i (tB (ue m i t i) t)else ue m i t
def Pd(m:Nat->Line)(t:Int):Nat->Line:=(List.range 32).foldl (tg t) m
structure Pl where
 n:Int
 K:List Rn
 V:Nat->Nat->Int
def pl0(n:Int):Pl:=⟨n,wz n,λ_ _=>0⟩
def kP(p:Pl)(n:Int):Int:=bif decide (n<1)then 2 else bif (nu p.K n).isSome then 0 else 6
def s9(p:Pl)(n:Int):Int:=bif kP p n==0 then u0 p.K n else 0
def KV(l:List Rn)(x:Rn):List Rn:=(tx l x).getD l
def pZ(p:Pl)(n:Int):Pl:=bif kP p n==0 then{p with K:=KV p.K ⟨u0 p.K n,n⟩}else p
def kg(p:Pl)(a:Int):Int:=bif decide (a<0)||decide (a>=p.n)then 2 else bif p9 p.K a then 12 else 0
def yI(g:Nat->Int):Nat->Int:=λj=>bif Nat.blt j 32 then 0 else g j
def p0(p:Pl)(a:Int):Pl:=bif kg p a==0 then{p with V:=a7 p.V a.toNat (yI (p.V a.toNat))}else p
def Iv(l:List Rn)(x:Rn):List Rn:=(o7 l x).getD l
def uR(p:Pl)(a:Int):Pl:=bif kg p a==0 then{p with K:=Iv p.K ⟨a,1⟩}else p
def kX(x:Int):Int:=IntKind.i64.wrap (x.tdiv 32)
def sE(x:Int):Int:=x.tmod 32
def kF(p:Pl)(a:Int):Int:=bif decide (a<0)then 2 else kg p (kX a)
def pf(p:Pl)(a:Int):Int:=bif kF p a==0 then p.V (kX a).toNat (sE a).toNat else 0
def nV(p:Pl)(a b:Int):Pl:=bif kF p a==0 then{p with V:=a7 p.V (kX a).toNat (a7 (p.V (kX a).toNat) (sE a).toNat b)}else p
def iH(s:St)(c:Call):List Int:=
 bif (c.C==6)||(c.C==7)||(c.C==9)||(c.C==11)then dJ s.t c.r
 else bif c.C==8 then(bif ((dJ s.t c.r).length==0)||!bk s.t.b c.s then[]else bif (dJ s.t c.r).contains c.s then dJ s.t c.r else dJ s.t c.r++[c.s])
 else bif c.C==13 then(bif bk s.k.b c.s then qQ s (dr s.k c.s).D else[])
 else bif c.C==14 then(bif c.b==1 then qQ s c.r else dJ s.t c.r)
 else bif (decide (1<=c.C)&&decide (c.C<=5))||(c.C==10)||(c.C==12)||(c.C==18)||(c.C==19)then qQ s c.r
 else[]
def c4:Rn:=⟨0,0⟩
noncomputable def nk(s:St)(M:Int)(c:Call):Int:=bif decide (dv s M c>0)then 0 else(dz s M c c4).2.1.e
noncomputable def vD(s:St)(M:Int)(c:Call):Bool:=(c.C==15)&&(nk s M c==10)
def oF(s:St)(c:Call):Int:=
 bif !bk s.t.b c.r then 4 else bif ((c.C != 3)&&(c.C != 4))||(decide (c.b<1)||decide (c.b>8))then 2
 else bif decide (c.a>(b1 s.t c.r).len - c.b)then 9 else 0
def jS(s:St)(c:Call):List Int:=
 bif oF s c==0 then(List.range c.b.toNat).map λi:Nat=>(tp (b1 s.t c.r).rs (c.a+(i:Int))).getD 0 else[]
structure Rt where
 task:Int
 c:Call
 E4:Bool
 G:List Int
 run:Rn
 S:Int
structure Cr where
 s:St
 p:Pl
 m:Nat->Line
 q:List Int
def nP:Rs:=⟨0,0,0⟩
def dS(x:Cr)(r:Rn):Cr:={x with q:=x.q++pg r}
def jO(x:Cr)(c:Rt):Cr:={dS x c.run with m:=Pd x.m c.task}
structure Sp where
 x:Cr
 c:Rt
 r:Rs
 e:Bool
def rC(x:Cr)(c:Rt)(r:Rs):Sp:=⟨jO x c,c,r,true⟩
noncomputable def ou(x:Cr)(c:Rt):Sp:=
 bif vD x.s c.task c.c then⟨x,c,nP,false⟩
 else bif nk x.s c.task c.c != 0 then rC x c ⟨nk x.s c.task c.c,0,0⟩
 else⟨x,{c with E4:=true,G:=iH x.s c.c},nP,false⟩
def wv(x:Cr)(c:Rt)(h:Int)(l:List Int):Sp:=
 ⟨{x with m:=tA x.m (ny h) c.task},{c with G:=bif th x.m (ny h) c.task then l else c.G},nP,false⟩
def lS(x:Cr)(c:Rt)(n:Int):Sp:=
 bif kP x.p n != 0 then rC x c ⟨kP x.p n,0,0⟩
 else⟨{x with p:=pZ x.p n},{c with run:=⟨s9 x.p n,n⟩},nP,false⟩
def sj(x:Cr)(c:Rt):Sp:=⟨{x with p:=p0 x.p (c.run.at_+c.S)},{c with S:=c.S+1},nP,false⟩
def jr(v:Int):Pl->List Int->Nat->Pl
 |p,[],_=>p
 |p,a::l,i=>jr v (nV p a (IntKind.u8.wrap (dU .u64 v (8*(i:Int))))) l (i+1)
def mU(p:Pl):Int->List Int->Nat->Int
 |v,[],_=>v
 |v,a::l,i=>mU p (dC .or .u64 v (ec .u64 (pf p a) (8*(i:Int)))) l (i+1)
noncomputable def vY(x:Cr)(c:Rt)(r:Rs)(W:St)(a:List Rn):Sp:=
 rC (a.foldl dS {x with s:=W,p:=bif c.c.C==4 then jr c.c.v x.p (jS x.s c.c) 0 else x.p}) {c with run:=c4}
  (bif c.c.C==3 then{r with v:=mU x.p r.v (jS x.s c.c) 0}else r)
noncomputable def gO(x:Cr)(c:Rt):Sp:=
 bif (dz x.s c.task c.c c.run).2.1.e != 0 then rC x c (dz x.s c.task c.c c.run).2.1
 else vY x c (dz x.s c.task c.c c.run).2.1 (dz x.s c.task c.c c.run).1 (dz x.s c.task c.c c.run).2.2
noncomputable def lg(x:Cr)(c:Rt):Sp:=
 bif decide (c.run.n>0)&&(dv x.s c.task c.c != c.run.n)then gO (dS x c.run) {c with run:=c4}else gO x c
noncomputable def fh(x:Cr)(c:Rt):Sp:=
 bif !c.E4 then ou x c
 else match c.G with
 |h::l=>wv x c h l
 |[]=>bif (dv x.s c.task c.c != 0)&&decide (c.run.n<=0)then lS x c (dv x.s c.task c.c)
  else bif decide (c.S<c.run.n)then sj x c else lg x c
def kM(x:Cr):Cr:=match x.q with
 |[]=>x
 |a::l=>{x with p:=uR x.p a,q:=l}
structure Ins where
 op:Int
 a:Int
 b:Int
 c:Int
 n:Int
structure Tsk where
 code:List Ins
 next:Int
 G:Nat->Int
def lW:Ins:=⟨0,0,0,0,0⟩
def mg(t:Tsk):Bool:=!(decide (t.next<0)||decide (t.next>=t.code.length))
def fU(t:Tsk):Ins:=bif mg t then t.code.getD t.next.toNat lW else lW
def j7(t:Tsk)(n:Int):Int:=t.G (n.tmod 8).toNat
def kZ(t:Tsk):Bool:=(!mg t||((fU t).op==0))||!decide ((fU t).op<=16)
def fO(d:Int):Call:=⟨d,0,0,0,0,0⟩
def jI(t:Tsk):Call:=
 bif !mg t||((fU t).op==0)then fO 20
 else bif decide ((fU t).op<=16)then fO 0
 else⟨IntKind.u8.wrap ((fU t).op - 16),IntKind.u32.wrap (j7 t (fU t).b),IntKind.u32.wrap (j7 t (fU t).c),IntKind.u32.wrap (t.G 6),IntKind.u32.wrap (fU t).n,t.G 5⟩
def Fq(t:Tsk)(x:Int):Nat->Int:=a7 t.G ((fU t).a.tmod 8).toNat x
def zdQ(t:Tsk):Nat->Int:=
 bif (fU t).op==1 then Fq t (fU t).n
 else bif (fU t).op==2 then Fq t (IntKind.u64.wrap (j7 t (fU t).b+j7 t (fU t).c))
 else bif (fU t).op==3 then Fq t (IntKind.u64.wrap (j7 t (fU t).b - j7 t (fU t).c))
 else bif (fU t).op==4 then Fq t (ec .u64 (j7 t (fU t).b) (fU t).n)
 else t.G
def FC(t:Tsk):Int:=
 bif ((fU t).op==5)||(((fU t).op==6)&&(j7 t (fU t).a != 0))then(fU t).n else t.next+1
def rZ(t:Tsk):Tsk:=bif kZ t then t else⟨t.code,FC t,zdQ t⟩
def qm(t:Tsk)(r:Rs):Tsk:=
 bif !mg t||!kZ t then t
 else⟨t.code,t.next+1,a7 (a7 (a7 t.G ((fU t).a.tmod 8).toNat r.v) 4 r.w) 7 (IntKind.u64.wrap r.e)⟩
structure Rr where
 t:Tsk
 c:Rt
 busy:Bool
 J:Int
structure Ev where
 task:Int
 c:Call
 run:Rn
 r:Rs
 J:Int
 W:Int
structure Mc where
 x:Cr
 ts:Nat->Rr
 now:Int
 M:List Ev
def iT:Rt:=⟨0,fO 0,false,[],c4,0⟩
def jW(m:Mc)(t:Int):Bool:=(decide (t>=0)&&decide (t<8))&&m.x.s.alive t.toNat
def kp(m:Mc)(i:Nat):Mc:=
 bif (m.ts i).busy&&!jW m i then{m with x:=jO m.x (m.ts i).c,ts:=a7 m.ts i {m.ts i with c:=iT,busy:=false}}else m
def p4(m:Mc):Mc:=(List.range 8).foldl kp m
def ky(a:Rn)(A b:Int):Rn:=bif decide (b - A>=a.n)&&decide (a.n>0)then c4 else a
def pC(m:Mc)(t:Nat)(c:Rt)(G:Rn)(r:Rs):Mc:=
 {m with M:=m.M++[⟨t,c.c,G,r,(m.ts t).J,m.now⟩],ts:=a7 m.ts t {m.ts t with t:=qm (m.ts t).t r,c:=iT,busy:=false}}
def Du(m:Mc)(t:Nat)(p:Sp):Mc:=
 bif p.e then pC {m with x:=p.x,ts:=a7 m.ts t {m.ts t with c:=p.c}} t p.c
  (ky (bif (p.r.e != 0)||(p.c.c.C != 2)then c4 else(m.ts t).c.run) m.x.q.length p.x.q.length) p.r
 else{m with x:=p.x,ts:=a7 m.ts t {m.ts t with c:=p.c}}
noncomputable def mO(m:Mc)(t:Nat):Mc:=Du m t (fh m.x (m.ts t).c)
def qw(m:Mc)(t:Nat):Mc:={m with ts:=a7 m.ts t {m.ts t with c:={iT with task:=t,c:=jI (m.ts t).t},busy:=true,J:=m.now}}
noncomputable def mw(m:Mc)(t:Nat):Mc:=
 bif (m.ts t).busy then mO m t
 else bif kZ (m.ts t).t then mO (qw m t) t
 else{m with ts:=a7 m.ts t {m.ts t with t:=rZ (m.ts t).t}}
noncomputable def oK(m:Mc)(t:Nat):Mc:=
 {m with x:=(dz m.x.s t (fO 20) c4).2.2.foldl dS {m.x with s:=(dz m.x.s t (fO 20) c4).1},M:=m.M++[⟨t,fO 20,c4,(dz m.x.s t (fO 20) c4).2.1,m.now,m.now⟩]}
def mJ(m:Mc):Mc:={m with now:=m.now+1}
def lM(m:Mc)(b:Int):Int:=
 bif (decide (b>8)&&decide (b<16))||decide (b>=24)then 2
 else bif b==8 then(bif m.x.q.length==0 then 10 else 0)
 else bif !jW m (b.tmod 8)then 12 else 0
noncomputable def jo(m:Mc)(b:Int):Mc:=
 bif lM m b != 0 then m
 else p4 (bif b==8 then mJ {m with x:=kM m.x}else bif decide (b>=16)then oK (mJ m) (b.tmod 8).toNat else mw (mJ m) (b.tmod 8).toNat)
def CR(k:Toks):Prop:=∀y∈dI k.b,(dr k y).A≠0->dU .u32 (dr k y).A 8<=(k.b (a5 (dr k y).A)).gen/\((k.b (a5 (dr k y).A)).L=false->(k.b (a5 (dr k y).A)).ret=false->dU .u32 (dr k y).A 8<(k.b (a5 (dr k y).A)).gen)
def IA{x:Int}(h:bk b x=true):(b (a5 x)).gen=dU .u32 x 8/\(b (a5 x)).L=true/\(b (a5 x)).ret=false:=by unfold bk at h;simp only[dH,gG]at h;exact⟨h.2.1,h.2.2.1,h.2.2.2⟩
def Th(h:Int)(i:Nat):e8 b h i=b i\/((b i).L=true/\(e8 b h i).L=false/\(((e8 b h i).ret=true/\(e8 b h i).gen=(b i).gen)\/(e8 b h i).gen=IntKind.u32.wrap ((b i).gen+1))):=by
 unfold e8;cases d:bk b h with
 |false=>exact .inl rfl
 |true=>
  simp only[dZ];obtain⟨e,a,f⟩:=IA d;by_cases c:i=a5 h
  .subst c
   right
   rw[dN];cases g:((b (a5 h)).gen==8388607)with
   |true=>exact⟨a,rfl,.inl ⟨rfl,rfl⟩⟩
   |false=>exact⟨a,rfl,.inr rfl⟩
  .exact .inl (dP c)
def YC(b:y∈dI (e8 k.b h))(a:bk (e8 k.b h) y=true):y∈dI k.b/\dr ⟨e8 k.b h,k.s⟩ y=dr k y:=by refine⟨IW b,?_⟩;unfold dr;rw[a,(Ph a).1]
def CR.void(h:CR k)(M:j8 k.b)(y:Int):CR ⟨e8 k.b y,k.s⟩:=by
 intro z P A;have C:bk (e8 k.b y) z=true:=by
  cases O:bk (e8 k.b y) z with
  |true=>rfl
  |false=>
   exfalso;apply A;unfold dr;rw[O];rfl
 obtain⟨K,L⟩:=YC P C;rw[L]at A ⊢;obtain⟨u,E⟩:=h z K A;show dU .u32 (dr k z).A 8<=(e8 k.b y (a5 (dr k z).A)).gen/\((e8 k.b y (a5 (dr k z).A)).L=false->(e8 k.b y (a5 (dr k z).A)).ret=false->dU .u32 (dr k z).A 8<(e8 k.b y (a5 (dr k z).A)).gen);generalize N:a5 (dr k z).A=i at u E ⊢;have f:i<32:=N▸iq _;have F:=M i f;rcases Th (b:=k.b) y i with e|⟨Q,R,⟨j,J⟩|j⟩
 .rw[e];exact⟨u,E⟩
 .rw[J];exact⟨u,λ_ G=>by rw[j]at G;cases G⟩
 .have:(e8 k.b y i).gen=(k.b i).gen+1:=by rw[j];exact l5 (iL (by simp only[eU];omega) (λ_=>a3) (by simp only[eU];omega))
  rw[this];exact⟨a3,λ_ _=>a3⟩
structure TkI (k:Toks):Prop where
 Q:j8 k.b
 rt:m8 k.b
 ok:l8 k
 t:TkT k
 g:CR k
def TkI.void(h:TkI k)(u:di y):TkI ⟨e8 k.b y,k.s⟩:=by obtain⟨f,j,_⟩:=BZ h.Q h.rt u;exact⟨f,j,S5 h.ok y,h.t.void y,h.g.void h.Q y⟩
def TkI.wo:∀(l:List Int) {k:Toks},(∀y∈l,di y)->TkI k->TkI (kD k l)
 |[],_,_,h=>h
 |y::l,k,f,h=>TkI.wo l (k:=⟨e8 k.b y,k.s⟩) (λz j=>f z (fA _ j)) (h.void (f y (fQ ..)))
def wk(a:j8 b)(c:m8 b)(h:y∈dI b):di y:=((mM a c).1 h).1
def TkI.gone:∀(l:List Int) {k:Toks},TkI k->TkI (ke k l)
 |[],_,h=>h
 |y::l,k,h=>by have g:=TkI.gone l (TkI.wo (eg k (gq y) (dI k.b)) (λz f=>wk h.Q h.rt (jM.1 f).1) h);unfold ke at g ⊢;rw[uN];exact g
def TkI.ret(h:TkI k)(y:Int):TkI (gI k y):=by
 unfold gI;cases bk k.b y with
 |true=>exact TkI.wo _ (λz f=>wk h.Q h.rt (jM.1 f).1) h
 |false=>exact h
def TkI.F0:∀(l:List Int) {k:Toks},TkI k->TkI (l.foldl gI k)
 |[],_,h=>h
 |y::l,_,h=>TkI.F0 l (h.ret y)
def TkI.E1(h:TkI k){x:Tk}(M:iM k x=0):TkI (lI k x):=by
 have hK:lI k x=⟨fK k.b,a7 k.s (a5 (dY k.b)) x⟩:=by unfold lI;rw[M];rfl
 have K:mK k x=0:=by
  unfold iM at M;cases E:(mK k x != 0)with
  |false=>simpa using E
  |true=>rw[E]at M;simp at E;exact b3 M E
 have S:nN k=false:=by
  unfold iM at M;rw[K]at M;cases E:nN k with
  |false=>rfl
  |true=>rw[E]at M;cases M
 have A:ll k x.A=true:=by
  unfold mK at K;cases E:ll k x.A with
  |true=>rfl
  |false=>rw[E]at K;cases K
 have F:mv (dY k.b)=false/\ny (dY k.b)<16:=by unfold nN at S;simp only[gX,Cj,kq]at S;exact⟨S.1,a3⟩
 have T:(kH k.b).isSome=true:=by
  cases E:(kH k.b).isSome with
  |true=>rfl
  |false=>
   exfalso;have:dY k.b=0:=by
    unfold dY;cases hf:kH k.b with
    |none=>rfl
    |some i=>rw[hf]at E;cases E
   have u:=F.1;rw[this]at u;exact b3 u a8
 obtain⟨i,f1,f2,f3,f4,f5,f6,f7,f8,f9,U,ac⟩:=AN h.Q h.rt T;have V:=(Iq f1).2.2;have ag:i<16:=by have:=F.2;have h3:a5 (dY k.b)=i:=f3;unfold a5 at h3;have:=nR (dY k.b);omega
 have f:fK k.b=a7 k.b i {k.b i with L:=true}:=by unfold fK;rw[f1]
 have C:∀z,di z->(bk (fK k.b) z=true↔bk k.b z=true\/z=dY k.b):=ac;have O:∀z,z∈dI (fK k.b)->z∈dI k.b\/z=dY k.b:=λz hz=>by
  have:=(mM f9 U).1 hz;rcases(C z this.1).1 this.2 with g|g
  .exact .inl ((mM h.Q h.rt).2 ⟨this.1,g⟩)
  .exact .inr g
 have P:dr ⟨fK k.b,a7 k.s (a5 (dY k.b)) x⟩ (dY k.b)=x:=by unfold dr;simp only[f8,dZ,dN]
 have Q:∀z,z∈dI k.b->dr ⟨fK k.b,a7 k.s (a5 (dY k.b)) x⟩ z=dr k z/\z≠dY k.b:=λz hz=>by
  have G:=(mM h.Q h.rt).1 hz;have ab:z≠dY k.b:=λe=>by have:=G.2;rw[e,f7]at this;cases this
  have aa:bk (fK k.b) z=true:=(C z G.1).2 (.inl G.2);have hs:a5 z≠a5 (dY k.b):=λe=>ab (rH f9 G.1 f6 aa f8 e);refine⟨?_,ab⟩;unfold dr;simp only[aa,G.2,dZ,dP hs]
 have L:∀y,y∈dI k.b->(dr k y).A≠dY k.b:=λy J R=>by
  have ad:dY k.b≠0:=λe=>by have u:=F.1;rw[e]at u;exact b3 u a8
  have:=(h.g y J (by rw[R];exact ad)).2;rw[R,f3]at this;have Z:=this f5 V;have h3:=(IA f8).1;rw[f3,f,dN]at h3;have h3:(k.b i).gen=dU .u32 (dY k.b) 8:=h3;omega
 have N:∀z y,y∈nC ⟨fK k.b,a7 k.s (a5 (dY k.b)) x⟩ z->(y∈nC k z/\y≠dY k.b)\/(y=dY k.b/\z=x.A):=λz y J=>by
  unfold nC eg at J;obtain⟨u,Z⟩:=jM.1 J;rcases O y u with g|g
  .obtain⟨g1,W⟩:=Q y g;rw[g1]at Z;exact .inl ⟨jM.2 ⟨g,Z⟩,W⟩
  .rw[g,P]at Z;exact .inr ⟨g,by simpa using(gG.1 Z).symm⟩
 have ae:x.A≠dY k.b:=λe=>by unfold ll at A;rw[e,f7]at A;simp only[wP,gG]at A;have u:=F.1;rw[A]at u;exact b3 u a8
 rw[hK];refine⟨f9,U,λj hj=>?_,⟨?_,λz y J=>?_⟩,λy J R=>?_⟩
 .show(fK k.b j).L=false;rw[f,dP a3];exact h.ok j hj
 .obtain⟨tr,Bd,hB,hT⟩:=h.t.ex;refine⟨λy=>if y=dY k.b then tr x.A+1 else tr y,Bd+1,λy=>?_,λz y hz J=>?_⟩
  .show(if y=dY k.b then tr x.A+1 else tr y)<Bd+1;by_cases c:y=dY k.b
   .rw[if_pos c];have:=hB x.A;omega
   .rw[if_neg c];have:=hB y;omega
  .rcases N z y J with⟨g,gn⟩|⟨g,W⟩
   .have af:z≠dY k.b:=λe=>by have u:=jM.1 g;exact L y u.1 (by rw[gG.1 u.2,e])
    simp only[if_neg gn,if_neg af];exact hT z y hz g
   .subst W;simp only[g,if_neg ae,xw];omega
 .rcases N z y J with⟨g,gn⟩|⟨g,W⟩
  .exact h.t.z z y g
  .intro e;have u:=F.1;rw[<-g,e]at u;exact b3 u a8
 .rcases O y J with g|g
  .obtain⟨g1,W⟩:=Q y g;rw[g1]at R ⊢;have hk:=h.g y g R;show _<=(fK k.b (a5 (dr k y).A)).gen/\((fK k.b (a5 (dr k y).A)).L=false->(fK k.b (a5 (dr k y).A)).ret=false->_<(fK k.b (a5 (dr k y).A)).gen);by_cases c:a5 (dr k y).A=i
   .rw[f,c,dN];refine⟨?_,ef⟩;have:=hk.1;rw[c]at this;exact this
   .rw[f,dP c];exact hk
  .rw[g,P]at R ⊢;show _<=(fK k.b (a5 x.A)).gen/\((fK k.b (a5 x.A)).L=false->(fK k.b (a5 x.A)).ret=false->_<(fK k.b (a5 x.A)).gen);have hg:bk k.b x.A=true:=by unfold ll at A;rw[fc.2 R]at A;simpa using A
   obtain⟨q1,q2,q3⟩:=IA hg;have c:a5 x.A≠i:=λe=>by rw[e,f5]at q2;cases q2
   rw[f,dP c,q1];exact⟨i6 _,λhf=>by rw[q2]at hf;cases hf⟩
structure SInv (s:St):Prop where
 t:∃d,TInv s.t d
 k:TkI s.k
 o:OInv s.t s.o s.box s.alive s.alive []
def la(s:St)(A:List Int)(R:Ex):Prop:=∀W r b,R=.ok (W,r,b)->SInv W/\(eG s.t++A).Perm (eG W.t++dm b)
def jd{α:Type}{k:Except Int α}{x:α}(h:dV e k=.ok x):e=0/\k=.ok x:=by
 unfold dV at h;cases a:(e==0)with
 |true=>rw[a]at h;exact⟨b8 a,h⟩
 |false=>rw[a]at h;cases h
def mX{b:Bool}(a:e≠0)(h:no b e=0):b=true:=by
 cases b with
 |true=>rfl
 |false=>exact b3 h a
def gD{s:St}{A:List Int}{R:Ex}(h:e=0->la s A R):la s A (dV e R):=λW r b f=>by obtain⟨a,d⟩:=jd f;exact h a W r b d
def mh{s W:St}{A:List Int}{r:Rs}{b:List Rn}(h:SInv W)(d:(eG s.t++A).Perm (eG W.t++dm b)):la s A (.ok (W,r,b)):=λ_ _ _ a=>by cases a;exact⟨h,d⟩
def x1{t':Tb}(h:eG t'=eG t):(eG t++[]).Perm (eG t'++dm []):=by rw[h];exact .refl _
section
variable {s:St} {M:Int} {c:Call} {G:Rn}
def za1(b:SInv s)(a:CallOk s M c)(k:s.alive M.toNat=true):la s [] (sC s M c):=by
 refine gD λ_=>gD λf=>?_;obtain⟨d,h⟩:=b.t;obtain⟨e,i,_,_,_,_,_,_,j⟩:=Be h a.r f;obtain⟨l,m⟩:=PP h b.o a.r f a.t0 a.t1 k;cases g:(c.r==0)with
 |true=>exact gD λ_=>mh ⟨⟨e,i⟩,b.k,(m (b8 g)).2⟩ (x1 (xX j))
 |false=>exact mh ⟨⟨e,i⟩,b.k,l (b8 g)⟩ (x1 (xX j))
def Re{r:Rg}{A:List Int}(f:SInv s)(a:∀y∈r.rs,dw y)(b:dK r.rs<=r.E)(e:(dm r.rs).Perm (dm (s.t.r (a5 c.r)).rs++A)):la s A (lu s c r):=by
 refine gD λg=>?_;obtain⟨d,n⟩:=f.t;obtain⟨_,h,i,j⟩:=BK g;refine mh ⟨⟨d,SA n λ_=>⟨i,j,a,b,h⟩⟩,f.k,IS (wK _ _) f.o⟩ ?_;have k:=SD g;have l:(eG s.t++dm r.rs).Perm ((eG s.t++A)++dm (s.t.r (a5 c.r)).rs):=by rw[iJ];exact(e.trans sW).append_left _
 have m:=(Gy _).1 (k.trans l);rw[show dm ([]:List Rn)=[] from rfl,gk];exact m.symm
def MY(p:SInv s)(z:dv s M c>0->G.n=dv s M c->dw G)(hd:c.C=2):la s (bif decide (dv s M c>0)then pg G else[]) (mN s M c G)/\(∀x,mN s M c G=.ok x->dv s M c>0->G.n=dv s M c):=by
 have k:∀x,mN s M c G=.ok x->bk s.t.b c.r=true/\((jv (b1 s.t c.r).rs (b1 s.t c.r).len (dn c.a 129) (dn c.b 9)=true/\lu s c (b1 s.t c.r)=.ok x/\dv s M c=0)\/(lu s c (iR (b1 s.t c.r) G)=.ok x/\dK (b1 s.t c.r).rs+G.n<=(b1 s.t c.r).E/\G.n=dv s M c/\dv s M c>0)):=by
  intro x h;have C:=h;unfold mN at h;have f:dv s M c=(match jX s M c with
   | .ok n=>n
   | .error _=>0):=by unfold dv;rw[hd];rfl
  have a:jX s M c=dV (no (lq (dn c.a 129) (dn c.b 9)) 2) (dV (eh s M c.r 1) (dV (no (bk s.t.b c.r) 4) (bif jv (b1 s.t c.r).rs (b1 s.t c.r).len (dn c.a 129) (dn c.b 9)then(match lu s c (b1 s.t c.r)with
   | .ok _=>.ok (0:Int)
   | .error e=>.error e)
   else dV (no (decide (dK (b1 s.t c.r).rs+jb (dn c.a 129) (dn c.b 9)<=(b1 s.t c.r).E)) 6) (.ok (jb (dn c.a 129) (dn c.b 9)))))):=rfl
  obtain⟨q,h⟩:=jd h;obtain⟨v,h⟩:=jd h;obtain⟨t,h⟩:=jd h;rw[q,v,t]at a;refine⟨mX a8 t,?_⟩;cases g:jv (b1 s.t c.r).rs (b1 s.t c.r).len (dn c.a 129) (dn c.b 9)with
  |true=>
   rw[g]at h a;have h:lu s c (b1 s.t c.r)=.ok x:=h;rw[h]at a;have a:jX s M c=.ok 0:=a;exact .inl ⟨rfl,h,by rw[f,a]⟩
  |false=>
   rw[g]at h a;obtain⟨l,h⟩:=jd h;obtain⟨i,h⟩:=jd h;rw[l]at a;have a:jX s M c=.ok (jb (dn c.a 129) (dn c.b 9)):=a;have l:=gM (mX a8 l);have i:=mX a8 i;simp only[dH,gG]at i;have w:=Bc (mX a8 q);refine .inr ⟨h,by rw[i.1];exact l,by rw[f,a];exact i.1,by rw[f,a];show jb _ _>0;omega⟩
 obtain⟨d,A⟩:=p.t;refine⟨λW r b h=>?_,λx h o=>?_⟩
 .obtain⟨u,g⟩:=k _ h;have m:=pF A c.r;have e:=(su u).1;rcases g with⟨_,h,f⟩|⟨h,E,f,o⟩
  .rw[f];exact Re (A:=[]) p m.ok m.pg (by rw[e,gk]) W r b h
  .rw[eI o];refine Re (r:=iR (b1 s.t c.r) G) (A:=pg G) p (λy j=>?_) ?_ ?_ W r b h
   .rcases eP.1 j with j|j
    .exact m.ok y j
    .rw[nZ.1 j];exact z o f
   .show dK ((b1 s.t c.r).rs++[G])<=(b1 s.t c.r).E;rw[zq];have:dK [G]=G.n:=by simp[dK]
    omega
   .show(dm ((b1 s.t c.r).rs++[G])).Perm _;rw[oE,e];simp[dm]
 .obtain⟨u,g⟩:=k _ h;rcases g with⟨_,_,f⟩|⟨_,_,f,_⟩
  .omega
  .exact f
def P4(b:SInv s)(a:Int):la s [] (lJ s M c a):=
 gD λ_=>gD λ_=>gD λ_=>gD λ_=>mh b (.refl _)
def zcV(a:SInv s):la s [] (zB s M c):=by refine gD λ_=>gD λi=>gD λe=>?_;obtain⟨d,k⟩:=a.t;obtain⟨_,f,b,g⟩:=BK e;have j:=mX a8 i;refine mh ⟨⟨d,SA k λ_=>⟨b,g,(λy l=>by cases l),b,f⟩⟩,a.k,IS (wK _ _) a.o⟩ ?_;have h:=SD e;rw[(su j).1];exact h.symm
def YM(b:SInv s)(a:eW s.t h)(i:h∉[]++FL s.box):SInv (jG s h)/\(eG s.t).Perm (eG (jG s h).t++dm (j3 s h)):=by obtain⟨d,e⟩:=b.t;obtain⟨_,g,f,_⟩:=tf e a;exact⟨⟨⟨g,f⟩,TkI.gone _ b.k,Eo e b.o a i⟩,AE e a⟩
def XS(a:SInv s)(g:CallOk s M c):la s [] (yO s M c):=by refine gD λf=>?_;obtain⟨d,j⟩:=a.t;obtain⟨h,i⟩:=Bb (.inr rfl) f;obtain⟨b,e⟩:=YM a ⟨g.r,h⟩ (xJ j a.o i a8);exact mh b (by rw[gk];exact e)
def JL(a:0<=M)(b:M<8)(d:A M.toNat=true):s6 A F h ⟨1,iz M,0⟩:=
 .inl ⟨rfl,by simp only;rw[r6 a a3];exact⟨a,b⟩,by simp only;rw[r6 a a3];exact d⟩
def YB(g:0<=M)(i:M<8)(f:A M.toNat=true):s6 A F h ⟨3,0,jC M⟩:=by
 have a:∀b:Nat,b<8->kf (jC M) b=decide (M.toNat=b)/\0<=jC M/\jC M<256:=λb d=>by have:=Nm ⟨M.toNat,a3⟩ ⟨b,d⟩;simp only at this;rw[show((M.toNat:Nat):Int)=M by omega]at this;exact this
 refine .inr (.inr ⟨rfl,⟨(a 0 a8).2.1,(a 0 a8).2.2⟩,⟨M.toNat,a3,?_⟩,λb d e=>?_⟩)
 .rw[(a _ a3).1];simp
 .simp only at e;rw[(a b d).1]at e;rw[<-gM e];exact f
def XN(a:SInv s)(e:CallOk s M c)(m:s.alive M.toNat=true):la s [] (yN s M c):=by refine gD λl=>gD λ_=>gD λ_=>gD λo=>?_;obtain⟨d,g⟩:=a.t;obtain⟨j,p⟩:=Bb (.inr rfl) l;obtain⟨_,n,k,b,i,f⟩:=v5 g ⟨e.r,j⟩;have q:=xJ g a.o p a8;refine mh ⟨⟨k,b⟩,a.k,?_⟩ (x1 (xX f));show OInv (fC s.t c.r) (iI s.o (fC s.t c.r) c.r M ⟨1,iz M,0⟩) s.box s.alive s.alive [];rw[rY o];exact Ep g b a.o ⟨e.r,j⟩ n i (λ_ h _=>h) (λ_ h _=>h) (JL e.t0 e.t1 m) (λh=>b3 h q) a.o.nd (λ_ _ h=>h) a.o.dead a.o.bx
def Yz(a:SInv s)(e:CallOk s M c)(m:s.alive M.toNat=true):la s [] (y8 s M c):=by refine gD λl=>gD λ_=>gD λo=>?_;obtain⟨d,g⟩:=a.t;obtain⟨j,p⟩:=Bb (.inr rfl) l;obtain⟨_,n,k,b,i,f⟩:=v5 g ⟨e.r,j⟩;have q:=xJ g a.o p a8;refine mh ⟨⟨k,b⟩,a.k,?_⟩ (x1 (xX f));show OInv (fC s.t c.r) (iI s.o (fC s.t c.r) c.r M ⟨3,0,jC M⟩) s.box s.alive s.alive [];rw[rY o];exact Ep g b a.o ⟨e.r,j⟩ n i (λ_ h _=>h) (λ_ h _=>h) (YB e.t0 e.t1 m) (λh=>b3 h q) a.o.nd (λ_ _ h=>h) a.o.dead a.o.bx
def YR(b:SInv s)(a:CallOk s M c):la s [] (za s M c):=by refine gD λj=>gD λ_=>gD λh=>?_;obtain⟨d,f⟩:=b.t;obtain⟨l,k⟩:=Bb (.inr rfl) j;obtain⟨_,_,_,i,g,_,e⟩:=Ed f a.r a.s' h;exact mh ⟨⟨i,g⟩,b.k,M2 f b.o a.r a.s' h (xJ f b.o k a8)⟩ (x1 (xX e))
def u9(k:TInv t d)(m:di r){b:Bool}(a:iw o t r M b=0):gi t r/\(0<=M/\M<8)/\(dy o t r).kind=3/\qK (dy o t r) M=!b/\gL o t r M b=a7 o (a5 r) ⟨r,jQ o t r M⟩:=by
 have p:gL o t r M b=iI (iI o t r M (dy o t r)) t r M (jQ o t r M):=by unfold gL;rw[a];rfl
 unfold iw at a;have n:tj t r M=false:=by
  cases e:tj t r M with
  |false=>rfl
  |true=>
   exfalso;rw[e]at a;have a:gR t r M=0:=a;obtain⟨⟨h,i⟩,_⟩:=Sw k m a;have:=(rW k h).2 i;unfold tj at e;rw[a,h.2,this]at e;simp at e
 rw[n]at a;have l:((dy o t r).kind != 3)=false:=by
  cases e:((dy o t r).kind != 3)with
  |false=>rfl
  |true=>rw[e]at a;cases a
 rw[l]at a;have g:(gR t r M != 0)=false:=by
  cases e:(gR t r M != 0)with
  |false=>rfl
  |true=>rw[e]at a;have a:gR t r M=0:=a;rw[a]at e;cases e
 have f:gR t r M=0:=b8 g
 rw[g]at a;obtain⟨h,i⟩:=Sw k m f;refine⟨h,i,b8 l,?_,?_⟩
 .cases q:qK (dy o t r) M<;>cases b<;>rw[q]at a<;>first|rfl|exact b3 (show(5:Int)=0 from a) a8|exact b3 (show(7:Int)=0 from a) a8
 .rw[p,rY f,rY f]
  funext j
  by_cases c:j=a5 r
  .rw[c,dN,dN]
  .rw[dP c,dP c,dP c]
def ID{x:Ow}(a:0<=M):qK x M=kf x.hold M.toNat:=by unfold qK kf;rw[show((M.toNat:Nat):Int)=M by omega]
def Pv(l:TInv t d){box:Nat->MBox}{F:Nat->Bool}{P:List Int}(h:OInv t o box F A P)(E:di r)(y:A M.toNat=true)(z:iw o t r M true=0):OInv t (gL o t r M true) box F A P:=by
 obtain⟨g,u,i,v,w⟩:=u9 l E z;have q:=xK l g (h.rt r g).1;have e:=(h.rt r g).2;rw[<-q]at e;have n:Gp A (dy o t r).hold:=by
  rcases e with⟨k,_⟩|⟨k,_⟩|⟨_,k⟩
  .rw[i]at k;cases k
  .rw[i]at k;cases k
  .exact k
 have m:∀b,b<8->kf (jQ o t r M).hold b=(kf (dy o t r).hold b != decide (M.toNat=b))/\0<=(jQ o t r M).hold/\(jQ o t r M).hold<256:=λb j=>by have:=Cd n.1.1 n.1.2 (a:=M.toNat) a3 j;rw[show((M.toNat:Nat):Int)=M by omega]at this;exact this
 have j:=ID (x:=dy o t r) u.1;rw[v]at j;have C:=xJ l h i a8;rw[w];refine Er l h g (λ_ h _=>h) (λ_ h _=>h) (.inr (.inr ⟨i,⟨(m 0 a8).2.1,(m 0 a8).2.2⟩,⟨M.toNat,a3,?_⟩,λb f p=>?_⟩)) (λh=>b3 h C) h.nd (λ_ _ h=>h) h.dead h.bx
 .rw[(m _ a3).1,<-j];simp
 .rw[(m b f).1]at p;by_cases c:M.toNat=b
  .rw[<-c];exact y
  .rw[fe c]at p;exact n.2.2 b f (b8 p)
def zdt(a:SInv s)(f:CallOk s M c):la s [] (vz s M c):=by
 refine gD λe=>gD λ_=>gD λg=>?_;obtain⟨d,b⟩:=a.t;have h:s.alive c.a.toNat=true:=by have:=mX a8 e;simp only[dH]at this;exact this.2
 exact mh ⟨⟨d,b⟩,a.k,Pv b a.o f.r h g⟩ (.refl _)
def zak(a:SInv s):la s [] (wt s M c):=by refine gD λ_=>gD λ_=>gD λ_=>gD λ_=>gD λb=>?_;exact mh ⟨a.t,a.k.E1 b,a.o⟩ (.refl _)
def Wo(a:SInv s):la s [] (w9 s M c):=by refine gD λ_=>gD λ_=>?_;exact mh ⟨a.t,a.k.ret _,a.o⟩ (.refl _)
def W8(f:SInv s)(h:CallOk s M c):la s [] (yG s M):=by
 refine gD λ_=>?_;have g:M.toNat<8:=by have:=h.t0;have:=h.t1;omega
 have j:∀a,gd (a7 s.box M.toNat {s.box M.toNat with cl:=true} a)=gd (s.box a):=λa=>by
  by_cases c:a=M.toNat
  .rw[c,dN];rfl
  .rw[dP c]
 have e:FL (a7 s.box M.toNat {s.box M.toNat with cl:=true})=FL s.box:=wb λa _=>by rw[j]
 refine mh ⟨f.t,f.k,?_⟩ (.refl _);show OInv s.t s.o (a7 s.box M.toNat {s.box M.toNat with cl:=true}) s.alive s.alive [];have b:=f.o;refine⟨by rw[e];exact b.rt,by rw[e];exact b.nd,by rw[e];exact b.K,λa d i=>?_,λa d=>?_⟩
 .by_cases c:a=M.toNat
  .rw[c,dN];exact b.dead _ (c▸d) (c▸i)
  .rw[dP c];exact b.dead a d i
 .rw[j];refine⟨?_,(b.bx a d).2⟩;by_cases c:a=M.toNat
  .rw[c,dN];have:=(b.bx _ g).1;exact⟨this.f0,this.f1,this.n0,this.n1⟩
  .rw[dP c];exact(b.bx a d).1
def zcN(b:SInv s):la s [] (xW s M c):=by refine gD λ_=>gD λ_=>gD λ_=>?_;obtain⟨d,f⟩:=b.t;have a:=Sz s.t c.r (a7 (b1 s.t c.r).cells (dn c.a 8).toNat c.s) (b1 s.t c.r).up;exact mh ⟨⟨d,a.inv f⟩,b.k,IS a.toAlike b.o⟩ (x1 (xX λi e=>a.rs e))
def XU(a:SInv s):la s [] (yP s M c):=
 gD λ_=>gD λ_=>mh a (.refl _)
def zdN(b:SInv s):la s [] (x6 s c):=by
 refine gD λ_=>?_;refine mh ⟨b.t,b.k,?_⟩ (.refl _);show OInv s.t s.o s.box (a7 s.alive c.a.toNat true) (a7 s.alive c.a.toNat true) [];have d:∀a,a<8->s.alive a=true->a7 s.alive c.a.toNat true a=true:=λa _ h=>by
  by_cases c:a=c.a.toNat
  .rw[c,dN]
  .rw[dP c];exact h
 refine⟨λx g=>⟨(b.o.rt x g).1,(b.o.rt x g).2.sub d λh=>h⟩,b.o.nd,b.o.K,λa e f=>b.o.dead a e ?_,b.o.bx⟩;cases i:s.alive a with
 |false=>rfl
 |true=>rw[d a e i]at f;cases f
end
end Sx
end Go.Proofs.YtfbhkfhbnkncoaaGreatDoor
