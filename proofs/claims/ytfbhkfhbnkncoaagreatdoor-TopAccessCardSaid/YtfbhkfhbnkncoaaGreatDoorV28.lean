import Derived.Test.YtfbhkfhbnkncoaaGreatDoorV27
set_option linter.all false
namespace Go.Proofs.YtfbhkfhbnkncoaaGreatDoor
open Go.RowKit
namespace Sx
variable{c:Call}{n:Int}{l:Line}{i:Nat}{C:Nat->Rr}{r:Rr}{s:St}
structure RrI (i:Nat) (r:Rr):Prop where
 busy:r.busy=true->CtOk i r.c
 idle:r.busy=false->r.c=iT
def nj(C:Nat->Rr):List Int:=(List.range 8).flatMap λi=>pg (C i).c.run
structure MI (N:Int) (m:Mc):Prop where
 hN:1<=N/\N<=64
 n:m.x.p.n=N
 K:FreeOk m.x.p.K
 s:SInv m.x.s
 run:∀i,i<8->ko (m.ts i).c.run
 rr:∀i,i<8->RrI i (m.ts i)
 pp:(dm m.x.p.K++(eG m.x.s.t++(nj m.ts++m.x.q))).Perm (mH N)
def tL(m:Mc):Prop:=∀i,i<8->(m.ts i).busy=true->m.x.s.alive i=true
def WB(a:i<8)(r:Rr):(nj (a7 C i r)++pg (C i).c.run).Perm (nj C++pg r.c.run):=by
 have:nj (a7 C i r)=(List.range 8).flatMap (a7 (λj=>pg (C j).c.run) i (pg r.c.run)):=wb λj b=>by
  by_cases c:j=i
  .subst c;rw[dN,dN]
  .rw[dP c,dP c]
 rw[this];exact DS a
def NA(C:Nat->Rr)(b:i<8):(nj C).Perm (pg (C i).c.run++nj (a7 C i {C i with c:=iT})):=by have:=WB (C:=C) b {C i with c:=iT};have a:pg ({C i with c:=iT}:Rr).c.run=[]:=rfl;rw[a,gk]at this;exact this.symm.trans sW
section
variable {N:Int} {m:Mc} {t:Nat}
def MI.ci(h:MI N m)(f:t<8):CI N (nj (a7 m.ts t {m.ts t with c:=iT})) m.x (m.ts t).c.run:=by refine⟨h.n,h.K,h.s,h.run t f,xO λa=>?_⟩;have j:=ru h.pp a;have u:=ru (NA m.ts f) a;simp only[yj]at j u ⊢;omega
def MI.go{x:Cr}(M:1<=N/\N<=64)(u:∀i,i<8->i≠t->ko (C i).c.run/\RrI i (C i))(P:t<8)(O:RrI t r)(f:CI N (nj (a7 C t {C t with c:=iT})) x r.c.run){E:Int}{K:List Ev}:MI N ⟨x,a7 C t r,E,K⟩:=by
 refine⟨M,f.n,f.K,f.s,λi A=>?_,λi A=>?_,xO λa=>?_⟩
 .show ko (a7 C t r i).c.run;by_cases c:i=t
  .rw[c,dN];exact f.rn
  .rw[dP c];exact(u i A c).1
 .show RrI i (a7 C t r i);by_cases c:i=t
  .rw[c,dN];exact O
  .rw[dP c];exact(u i A c).2
 .have L:=ru f.pp a;have F:=ru (NA (a7 C t r) P) a;have G:a7 (a7 C t r) t {a7 C t r t with c:=iT}=a7 C t {r with c:=iT}:=by
   funext j
   by_cases c:j=t
   .rw[c,dN,dN,dN]
   .rw[dP c,dP c,dP c]
  have J:nj (a7 C t {r with c:=iT})=nj (a7 C t {C t with c:=iT}):=wb λj Q=>by
   by_cases c:j=t
   .rw[c,dN,dN]
   .rw[dP c,dP c]
  rw[G,J,dN]at F;show List.count a (dm x.p.K++(eG x.s.t++(nj (a7 C t r)++x.q)))=_;simp only[yj]at L F ⊢;omega
def MI.rest(h:MI N m):∀i,i<8->i≠t->ko (m.ts i).c.run/\RrI i (m.ts i):=λi f _=>⟨h.run i f,h.rr i f⟩
def Fj(i:Nat)(a:r.busy=false)(b:r.c=iT):RrI i r:=⟨λh=>(by rw[a]at h;cases h),λ_=>b⟩
def BY{α:Type}(f:Nat->α)(i:Nat)(x y:α):a7 (a7 f i x) i y=a7 f i y:=by
 funext j
 by_cases c:j=i
 .rw[c,dN,dN]
 .rw[dP c,dP c,dP c]
def NC(h:MI N m)(a:t<8)(f:(m.ts t).busy=true):MI N (mO m t):=by
 have b:=zdU (h.ci a) a ((h.rr t a).busy f);have d:=SQ (x:=m.x) (c:=(m.ts t).c);have e:=(h.rr t a).busy f;unfold mO Du;unfold se at b;cases g:(fh m.x (m.ts t).c).e with
 |true=>
  rw[g]at b;show MI N (pC {m with x:=(fh m.x (m.ts t).c).x,ts:=a7 m.ts t {m.ts t with c:=(fh m.x (m.ts t).c).c}} t _ _ _);unfold pC;show MI N ⟨_,a7 (a7 m.ts t _) t _,_,_⟩;rw[BY];exact MI.go h.hN h.rest a (Fj t rfl rfl) b
 |false=>
  rw[g]at b;show MI N ⟨_,a7 m.ts t {m.ts t with c:=(fh m.x (m.ts t).c).c},_,_⟩;exact MI.go h.hN h.rest a ⟨λ_=>⟨by rw[show({m.ts t with c:=(fh m.x (m.ts t).c).c}:Rr).c=(fh m.x (m.ts t).c).c from rfl,d.2];exact e.t,by show di (fh m.x (m.ts t).c).c.c.r;rw[d.1];exact e.r,by show di (fh m.x (m.ts t).c).c.c.s;rw[d.1];exact e.s,by show di (fh m.x (m.ts t).c).c.c.a;rw[d.1];exact e.a,by show di (fh m.x (m.ts t).c).c.c.b;rw[d.1];exact e.b⟩,λi=>by rw[show({m.ts t with c:=(fh m.x (m.ts t).c).c}:Rr).busy=(m.ts t).busy from rfl,f]at i;cases i⟩ b
def FW(x:Int):di (IntKind.u32.wrap x):=by obtain⟨_,a,b⟩:=xx (rJ .u32 x);have a:=a rfl;simp only[eU]at b;exact⟨a,a3⟩
def zeJ(k:Tsk):di (jI k).r/\di (jI k).s/\di (jI k).a/\di (jI k).b:=by
 have z:di 0:=⟨a8,a8⟩;unfold jI;cases(!mg k||((fU k).op==0))with
 |true=>exact⟨z,z,z,z⟩
 |false=>
  cases decide ((fU k).op<=16)with
  |true=>exact⟨z,z,z,z⟩
  |false=>exact⟨FW _,FW _,FW _,FW _⟩
def Dr(h:MI N m)(a:t<8)(c:(m.ts t).busy=false):MI N (qw m t):=by have b:=h.ci a;have d:=(h.rr t a).idle c;obtain⟨e,f,g,i⟩:=zeJ (m.ts t).t;unfold qw;refine MI.go h.hN h.rest a ⟨λ_=>⟨rfl,e,f,g,i⟩,ef⟩ ?_;rw[d]at b;exact b
def sL(h:MI N m):MI N (mJ m):=⟨h.hN,h.n,h.K,h.s,h.run,h.rr,h.pp⟩
def SS(h:MI N m)(a:t<8):MI N (mw m t):=by
 unfold mw;cases b:(m.ts t).busy with
 |true=>exact NC h a b
 |false=>
  cases kZ (m.ts t).t with
  |true=>exact NC (Dr h a b) a (by unfold qw;simp only[dN])
  |false=>
   show MI N ⟨m.x,a7 m.ts t {m.ts t with t:=rZ (m.ts t).t},m.now,m.M⟩;have c:=(h.rr t a).idle b;refine MI.go (r:={m.ts t with t:=rZ (m.ts t).t}) h.hN h.rest a (Fj t b c) ?_;exact h.ci a
def SL(h:MI N m)(o:t<8)(l:m.x.s.alive t=true):MI N (oK m t)/\(oK m t).x.s.alive=a7 m.x.s.alive t false/\(oK m t).x.p=m.x.p:=by
 obtain⟨W,b,g,i,j,k⟩:=Yk (G:=c4) h.s (M:=(t:Int)) a3 a3 l;unfold oK;rw[g];obtain⟨n,c,d,p⟩:=rR b {m.x with s:=W};refine⟨⟨h.hN,?_,?_,?_,h.run,h.rr,?_⟩,?_,?_⟩
 .show(b.foldl dS {m.x with s:=W}).p.n=N;rw[c];exact h.n
 .show FreeOk (b.foldl dS {m.x with s:=W}).p.K;rw[c];exact h.K
 .show SInv (b.foldl dS {m.x with s:=W}).s;rw[d];exact i
 .show(dm (b.foldl dS {m.x with s:=W}).p.K++(eG (b.foldl dS {m.x with s:=W}).s.t++(nj m.ts++(b.foldl dS {m.x with s:=W}).q))).Perm (mH N);rw[n,c,d];refine xO λa=>?_;have e:=ru h.pp a;have f:=ru j a;simp only[yj]at e f ⊢;omega
 .show(b.foldl dS {m.x with s:=W}).s.alive=_;rw[d];exact k
 .show(b.foldl dS {m.x with s:=W}).p=_;rw[c]
def Xa(h:MI N m)(a:t<8):MI N (kp m t):=by
 unfold kp;cases b:((m.ts t).busy&&!jW m t)with
 |false=>exact h
 |true=>
  show MI N ⟨jO m.x (m.ts t).c,a7 m.ts t {m.ts t with c:=iT,busy:=false},m.now,m.M⟩;exact MI.go h.hN h.rest a (Fj t rfl rfl) (h.ci a).cut
def NS(m:Mc)(t:Nat):(kp m t).x.s=m.x.s/\(kp m t).x.p=m.x.p/\(kp m t).M=m.M/\(kp m t).now=m.now/\(∀i,((kp m t).ts i).busy=true->(m.ts i).busy=true):=by
 unfold kp;cases((m.ts t).busy&&!jW m t)with
 |false=>exact⟨rfl,rfl,rfl,rfl,λ_ h=>h⟩
 |true=>
  refine⟨rfl,rfl,rfl,rfl,λi a=>?_⟩;have a:(a7 m.ts t {m.ts t with c:=iT,busy:=false} i).busy=true:=a;by_cases c:i=t
  .rw[c,dN]at a;cases a
  .rw[dP c]at a;exact a
def Xb(m:Mc)(t:Nat)(e:t<8):((kp m t).ts t).busy=true->m.x.s.alive t=true:=λa=>by
 have d:=(NS m t).2.2.2.2 t a;unfold kp at a;cases b:((m.ts t).busy&&!jW m t)with
 |false=>
  rw[d,po]at b;have b:jW m t=true:=b8 b
  unfold jW at b;simp only[dH]at b;exact b.2
 |true=>
  rw[b]at a;have a:(a7 m.ts t {m.ts t with c:=iT,busy:=false} t).busy=true:=a;rw[dN]at a;cases a
def HA:∀(l:List Nat) (m:Mc),(∀i∈l,i<8)->(MI N m->MI N (l.foldl kp m))/\(l.foldl kp m).x.s=m.x.s/\(l.foldl kp m).x.p=m.x.p/\(l.foldl kp m).M=m.M/\(l.foldl kp m).now=m.now/\(∀i,((l.foldl kp m).ts i).busy=true->(m.ts i).busy=true)/\∀i∈l,((l.foldl kp m).ts i).busy=true->m.x.s.alive i=true
 |[],m,_=>⟨λh=>h,rfl,rfl,rfl,rfl,λ_ h=>h,λi a=>by cases a⟩
 |t::l,m,d=>by
  obtain⟨g,j,k,n,o,b,p⟩:=HA l (kp m t) λi a=>d i (fA _ a);obtain⟨f,q,r,s,u⟩:=NS m t;have e:=d t (fQ ..);refine⟨λh=>g (Xa h e),j.trans f,k.trans q,n.trans r,o.trans s,λi a=>u i (b i a),λi a c=>?_⟩;rcases iB.1 a with rfl|a
  .exact Xb m i e (b i c)
  .have:=p i a c;rw[f]at this;exact this
def NT(h:MI N m):MI N (p4 m)/\tL (p4 m):=by obtain⟨b,c,_,_,_,_,d⟩:=HA (N:=N) (List.range 8) m λi a=>gZ.1 a;exact⟨b h,λi a e=>by show(List.foldl kp m (List.range 8)).x.s.alive i=true;rw[c];exact d i (gZ.2 a) e⟩
def HB(m:Mc):(p4 m).x.s=m.x.s/\(p4 m).x.p=m.x.p/\(p4 m).M=m.M/\(p4 m).now=m.now:=by obtain⟨_,a,b,c,d,_⟩:=HA (N:=0) (List.range 8) m λi e=>gZ.1 e;exact⟨a,b,c,d⟩
def Kl(h:MI N m){a:Int}{l:List Int}(d:m.x.q=a::l):MI N {m with x:=kM m.x}/\(kM m.x).q=l/\(kM m.x).s=m.x.s:=by
 have e:a∈mH N:=h.pp.mem_iff.1 (by rw[d];simp);have C:=vh.1 e;have g:=h.pp.nodup_iff.2 (IQ N);have f:a∉dm m.x.p.K:=λi=>by rw[mB]at g;exact g.2.2 a i a (by rw[d];simp) rfl
 have A:p9 m.x.p.K a=false:=by
  cases d:p9 m.x.p.K a with
  |false=>rfl
  |true=>exact b3 ((Pq h.K.ok).1 d) f
 have w:kg m.x.p a=0:=by unfold kg;rw[A,h.n,fe a3,fe a3];rfl
 have c:pg ⟨a,1⟩=[a]:=by simp[pg]
 have z:dw ⟨a,1⟩:=by unfold dw;have:=h.hN;simp only;omega
 obtain⟨k,r,s,u⟩:=Pc h.K z (λp n i=>by
  rw[c,nZ]at n;exact f (n▸i))
 have y:uR m.x.p a={m.x.p with K:=k}:=by unfold uR;rw[w];show{m.x.p with K:=Iv m.x.p.K ⟨a,1⟩}=_;unfold Iv;rw[r];rfl
 have v:kM m.x={m.x with p:={m.x.p with K:=k},q:=l}:=by unfold kM;rw[d,<-y]
 rw[v];refine⟨⟨h.hN,h.n,s,h.s,h.run,h.rr,xO λb=>?_⟩,rfl,rfl⟩;have j:=ru h.pp b;have o:=ru u b;rw[c]at o;rw[d]at j;show List.count b (dm k++(eG m.x.s.t++(nj m.ts++l)))=_;rw[show a::l=[a]++l from rfl]at j;simp only[yj]at j o ⊢;omega
def EI(h:MI N m)(hL:tL m){b:Int}(i:0<=b):MI N (jo m b)/\tL (jo m b):=by
 unfold jo;cases k:(lM m b != 0)with
 |true=>exact⟨h,hL⟩
 |false=>
  have c:lM m b=0:=b8 k
  unfold lM at c;have f:((decide (b>8)&&decide (b<16))||decide (b>=24))=false:=by
   cases f:((decide (b>8)&&decide (b<16))||decide (b>=24))with
   |false=>rfl
   |true=>rw[f]at c;exact b3 (show(2:Int)=0 from c) a8
  rw[f]at c;have j:0<=b.tmod 8/\b.tmod 8<8:=by rw[vI i];omega
  cases g:(b==8)with
  |true=>
   rw[g]at c;refine NT ?_;cases e:m.x.q with
   |nil=>rw[e]at c;exact b3 (show(10:Int)=0 from c) a8
   |cons a l=>exact sL (m:={m with x:=kM m.x}) (Kl h e).1
  |false=>
   rw[g]at c;have d:jW m (b.tmod 8)=true:=by
    cases d:jW m (b.tmod 8)with
    |true=>rfl
    |false=>rw[d]at c;exact b3 (show(12:Int)=0 from c) a8
   unfold jW at d;simp only[dH]at d;refine NT ?_;show MI N (bif decide (b>=16)then oK (mJ m) (b.tmod 8).toNat else mw (mJ m) (b.tmod 8).toNat);cases decide (b>=16)with
   |true=>exact(SL (sL h) a3 d.2).1
   |false=>exact SS (sL h) a3
end
section
variable {N:Int} {m:Mc} {t:Nat}
def Q2{b:Int}(j:0<=b):jo m b=m\/(b=8/\(∃a l,m.x.q=a::l)/\lM m b=0/\jo m b=p4 (mJ {m with x:=kM m.x}))\/∃t:Nat,t<8/\b.tmod 8=t/\m.x.s.alive t=true/\lM m b=0/\((b>=16/\jo m b=p4 (oK (mJ m) t))\/(b<16/\jo m b=p4 (mw (mJ m) t))):=by
 unfold jo;cases n:(lM m b != 0)with
 |true=>exact .inl rfl
 |false=>
  right
  have e:lM m b=0:=b8 n
  have d:=e;unfold lM at d;have g:((decide (b>8)&&decide (b<16))||decide (b>=24))=false:=by
   cases g:((decide (b>8)&&decide (b<16))||decide (b>=24))with
   |false=>rfl
   |true=>rw[g]at d;exact b3 (show(2:Int)=0 from d) a8
  rw[g]at d;have k:0<=b.tmod 8/\b.tmod 8<8:=by rw[vI j];omega
  cases h:(b==8)with
  |true=>
   rw[h]at d;cases i:m.x.q with
   |nil=>rw[i]at d;exact b3 (show(10:Int)=0 from d) a8
   |cons a l=>exact .inl ⟨b8 h,⟨a,l,rfl⟩,e,rfl⟩
  |false=>
   rw[h]at d;have f:jW m (b.tmod 8)=true:=by
    cases f:jW m (b.tmod 8)with
    |true=>rfl
    |false=>rw[f]at d;exact b3 (show(12:Int)=0 from d) a8
   unfold jW at f;simp only[dH]at f;refine .inr ⟨(b.tmod 8).toNat,a3,a3,f.2,e,?_⟩;by_cases c:b>=16
   .refine .inl ⟨c,?_⟩;rw[eI c];rfl
   .refine .inr ⟨a3,?_⟩;rw[fe c];rfl
def za7(g:SInv s)(hd:∀i,i<8->s.alive i=false):(∀x,¬eW s.t x)/\eG s.t=[]:=by
 obtain⟨d,h⟩:=g.t;have e:∀x,¬eW s.t x:=λx r=>by
  obtain⟨q,_⟩:=Kz h r;rcases(g.o.rt _ q).2 with⟨_,u,l⟩|⟨_,k⟩|⟨_,_,⟨a,b,n⟩,k⟩
  .rw[hd _ a3]at l;cases l
  .rw[lE]at k;unfold FL at k;obtain⟨a,b,j⟩:=om.1 k;have o:=g.o.dead a (gZ.1 b) (hd a (gZ.1 b));have:gd (s.box a)=[]:=by unfold gd;rw[o];rfl
   rw[this]at j;cases j
  .have:=k a b n;rw[hd a b]at this;cases this
 refine⟨e,?_⟩;unfold eG;rw[Mk];intro i f;have f:=gZ.1 f;have c:(s.t.b i).L=false:=by
  cases p:(s.t.b i).L with
  |false=>rfl
  |true=>exact b3 (AJ h.ok f p).1 (e _)
 rw[h.K i f c];rfl
def WD(h:MI N m)(hL:tL m)(hd:∀i,i<8->m.x.s.alive i=false):nj m.ts=[]:=by
 unfold nj;rw[Mk];intro i a;have a:=gZ.1 a;have b:(m.ts i).busy=false:=by
  cases c:(m.ts i).busy with
  |false=>rfl
  |true=>have:=hL i a c;rw[hd i a]at this;cases this
 rw[(h.rr i a).idle b];rfl
def zeL(h:MI N m)(hL:tL m)(hd:∀i,i<8->m.x.s.alive i=false)(b:m.x.q=[]):m.x.p.K=[⟨0,N⟩]:=by have a:=h.pp;rw[(za7 h.s hd).2,WD h hL hd,b,lE,gk,gk]at a;exact zeM h.K h.hN.1 λp=>(a.mem_iff).trans vh
def QY(h:MI N m):(dm m.x.p.K++(dm (g7 m.x.s.t (dW m.x.s.t.b))++(nj m.ts++m.x.q))).Perm (mH N):=by
 obtain⟨d,b⟩:=h.s.t;have a:∀x∈dW m.x.s.t.b,eW m.x.s.t x:=λx g=>(mM b.ok.Q b.ok.ret).1 g;have e:=GV b.ok.Q;have j:=HV b.ok.Q b.ok.ret e a;have hD:=HU b.ok.Q b.ok.ret e a;have n:eG (gT m.x.s.t (dW m.x.s.t.b))=[]:=by
  unfold eG;rw[Mk];intro i f;have f:=gZ.1 f;by_cases c:i∈(dW m.x.s.t.b).map a5
  .rw[(hD.H5 i c).1];rfl
  .rw[(hD.E3 i c).1];have:(m.x.s.t.b i).L=false:=by
    cases o:(m.x.s.t.b i).L with
    |false=>rfl
    |true=>
     obtain⟨k,l⟩:=AJ b.ok f o;exact b3 (l6.2 ⟨_,(mM b.ok.Q b.ok.ret).2 k,l⟩) c
   rw[b.K i f this];rfl
 rw[n,lE,<-Pe λx g=>(a x g).2]at j;exact((j.symm.append_right _).append_left _).trans h.pp
end
def vA:Slot:=⟨0,false,false⟩
def jU:St:=⟨⟨λ_=>vA,λ_=>iY⟩,λ_=>⟨0,xN⟩,⟨λ_=>vA,λ_=>sM⟩,λ_=>⟨λ_=>mz,0,0,false⟩,a7 (λ_=>false) 0 true,a7 (λ_=>false) 0 true⟩
def Jy(x:Int):bk (λ_=>vA) x=false:=by unfold bk;simp[vA]
def EA:dI (λ_=>vA)=[]:=by rw[vb];decide
def zdP:SInv jU:=by
 have e:∀x,A0 jU.t x=0:=λx=>by unfold A0;show(bif bk (λ_=>vA) _ then _ else(0:Int))=0;rw[Jy];rfl
 have d:RgI iY:=⟨a8,a8,(λy b=>by cases b),a8,rfl⟩;have f:j8 (λ_=>vA):=λi _=>(show(0:Int)<=0/\(0:Int)<=8388607 by decide);have j:m8 (λ_=>vA):=λi _ h=>by cases h
 refine⟨⟨λ_=>0,⟨⟨f,j,λi _=>(show(0:Int)<=0/\(0:Int)<4294967296 by decide)⟩,λ_ _ _=>rfl,λ_ _=>.inl rfl,λ_=>dG _,λx c=>b3 (e x) c,λ_ _=>rfl,λ_ _=>d⟩⟩,⟨f,j,λ_ _=>rfl,⟨⟨λ_=>0,1,λ_=>mL _,λx y _ b=>?_⟩,λx y b=>?_⟩,λy b=>?_⟩,⟨λx c=>?_,?_,?_,λ_ _ _=>rfl,λa _=>⟨⟨(show(0:Int)<=0 by decide),(show(0:Int)<4 by decide),(show(0:Int)<=0 by decide),(show(0:Int)<=4 by decide)⟩,λm g=>?_⟩⟩⟩
 .unfold nC eg at b;have b:=(jM.1 b).1;rw[show dI jU.k.b=[] from EA]at b;cases b
 .unfold nC eg at b;have b:=(jM.1 b).1;rw[show dI jU.k.b=[] from EA]at b;cases b
 .rw[show dI jU.k.b=[] from EA]at b;cases b
 .have:=c.1.2;rw[show bk jU.t.b x=false from Jy x]at this;cases this
 .rw[lE,show FL jU.box=[] from rfl];exact wV
 .intro x c;rw[lE,show FL jU.box=[] from rfl]at c;cases c
 .rw[show gd (jU.box a)=[] from rfl]at g;cases g
def fo(n:Int)(a:Nat->List Ins):Mc:=⟨⟨jU,pl0 n,λ_=>⟨0,0,λ_=>0⟩,[]⟩,λi=>⟨⟨a i,0,λ_=>0⟩,iT,false,0⟩,0,[]⟩
def QA(h:1<=n/\n<=64):wz n=[⟨0,n⟩]:=by unfold wz;rw[fe (show¬(64:Int)<n by omega)];show(bif decide (n<1)then[]else[(⟨0,n⟩:Rn)])=_;rw[fe (show¬n<1 by omega)];rfl
def Jl(h:1<=n/\n<=64)(a:Nat->List Ins):MI n (fo n a)/\tL (fo n a):=by
 have b:dw ⟨0,n⟩:=by unfold dw;simp only;omega
 refine⟨⟨h,rfl,?_,zdP,λ_ _=>.inl rfl,λi _=>Fj i rfl rfl,?_⟩,λi _ c=>by cases c⟩
 .show FreeOk (wz n);rw[QA h];exact⟨List.pairwise_singleton _ _,λy d=>by rw[nZ.1 d];exact b⟩
 .show(dm (wz n)++(eG jU.t++(nj (fo n a).ts++[]))).Perm (mH n);rw[QA h,show eG jU.t=[] from rfl,show nj (fo n a).ts=[] from rfl,gk,gk,gk];unfold dm pg mH;simp
def wO(l:Line):List Int:=(List.range l.n.toNat).map l.wait
structure LnOk (l:Line):Prop where
 n0:0<=l.n
 n1:l.n<=8
 nd:(wO l).Nodup
 el:∀x∈wO l,0<=x/\x<8
def PG{x:Nat->Int}{v:Int}:∀{k i:Nat},(n9 x v i k= -1/\∀j,i<=j->j<i+k->x j≠v)\/∃j,n9 x v i k=(j:Nat)/\i<=j/\j<i+k/\x j=v
 |0,i=>.inl ⟨rfl,λj a b=>a3⟩
 |k+1,i=>by
  unfold n9;cases f:(v==x i)with
  |true=>exact .inr ⟨i,rfl,a9 _,a3,(gG.1 f).symm⟩
  |false=>
   have d:x i≠v:=λe=>by rw[e]at f;simp at f
   rcases PG (x:=x) (v:=v) (k:=k) (i:=i+1)with⟨a,b⟩|⟨j,a,b,m,g⟩
   .refine .inl ⟨a,λj h l=>?_⟩;by_cases c:j=i
    .rw[c];exact d
    .exact b j a3 a3
   .exact .inr ⟨j,a,a3,a3,g⟩
def EL(l:Line){t:Int}(c:0<=t)(m:t<8):(oG l t= -1/\t∉wO l)\/∃j:Nat,oG l t=j/\j<l.n.toNat/\l.wait j=t:=by
 unfold oG oz;rw[r6 c a3];rcases PG (x:=l.wait) (v:=t) (k:=l.n.toNat) (i:=0)with⟨a,b⟩|⟨j,a,b,h,d⟩
 .refine .inl ⟨a,λg=>?_⟩;obtain⟨j,f,e⟩:=l6.1 g;exact b j (dG _) (by have:=gZ.1 f;omega) e
 .exact .inr ⟨j,a,a3,d⟩
def P2(d:0<=l.n)(f:l.n<=8)(i:∀a b,a<l.n.toNat->b<l.n.toNat->l.wait a=l.wait b->a=b)(h:∀a,a<l.n.toNat->0<=l.wait a/\l.wait a<8):LnOk l:=
 ⟨d,f,Bg (λa c b g e=>i a b (gZ.1 c) (gZ.1 g) e) Gx,λx j=>by
  obtain⟨a,c,rfl⟩:=l6.1 j;exact h a (gZ.1 c)⟩
def P0(h:LnOk l){a b:Nat}(i:a<l.n.toNat)(g:b<l.n.toNat)(e:l.wait a=l.wait b):a=b:=by
 have d:=h.nd;unfold wO at d;unfold List.Nodup at d;rw[List.pairwise_iff_getElem]at d;have c:∀a b,a<b->b<l.n.toNat->l.wait a≠l.wait b:=λa b f g e=>by refine d a b (by simp;omega) (b8 g) f ?_;simp[e]
 rcases Nat.lt_trichotomy a b with h|h|h
 .exact b3 e (c a b h g)
 .exact h
 .exact b3 e.symm (c b a h i)
def PZ(h:LnOk l){a:Nat}(b:a<l.n.toNat):0<=l.wait a/\l.wait a<8:=h.el _ (l6.2 ⟨a,gZ.2 b,rfl⟩)
def Tp(h:LnOk l){t:Int}(k:0<=t)(m:t<8):LnOk (tB l t):=by
 unfold tB;rcases EL l k m with⟨e,_⟩|⟨j,e,r,s⟩
 .rw[e];exact h
 .rw[e,fe a3];have o:=h.n0;have p:=h.n1;show LnOk ⟨l.has,l.n - 1,a7 (λi=>bif Nat.ble ((j:Int)).toNat i&&Nat.blt i 7 then l.wait (i+1)else l.wait i) (l.n - 1).toNat 0⟩;generalize n:a7 (λi=>bif Nat.ble ((j:Int)).toNat i&&Nat.blt i 7 then l.wait (i+1)else l.wait i) (l.n - 1).toNat 0=W;have g:∀a,a<(l.n - 1).toNat->W a=l.wait (if j<=a then a+1 else a):=λa d=>by
   rw[<-n,dP a3,nE];show(bif Nat.ble j a&&Nat.blt a 7 then l.wait (a+1)else l.wait a)=_;by_cases c:j<=a
   .rw[qq c,show Nat.blt a 7=true from qq a3,if_pos c];rfl
   .have:Nat.ble j a=false:=by
     cases q:Nat.ble j a with
     |false=>rfl
     |true=>exact b3 (dF q) c
    rw[this,if_neg c];rfl
  refine P2 (by show 0<=l.n - 1;omega) (by show l.n - 1<=8;omega) (λa b d f e=>?_) λa d=>?_
  .have d:a<(l.n - 1).toNat:=d;have f:b<(l.n - 1).toNat:=f;have e:W a=W b:=e;rw[g a d,g b f]at e;have:=P0 h (a:=if j<=a then a+1 else a) (b:=if j<=b then b+1 else b) (by split<;>omega) (by split<;>omega) e;split at this<;>split at this<;>omega
  .have d:a<(l.n - 1).toNat:=d;show 0<=W a/\W a<8;rw[g a d];exact PZ h (by split<;>omega)
def P1(h:LnOk l){t:Int}(b:0<=t)(g:t<8)(i:t∉wO l):l.n<8:=by
 have c:(t::wO l).Nodup:=pW.2 ⟨i,h.nd⟩;have d:=EB (m:=mH 8) c λx a=>by
  rcases iB.1 a with rfl|a
  .exact vh.2 ⟨b,g⟩
  .exact vh.2 (h.el x a)
 have e:(wO l).length=l.n.toNat:=by unfold wO;simp
 have f:(mH 8).length=8:=a8
 rw[jV,e,f]at d;have:=h.n0;omega
def Pr(h:LnOk l)(k:Int):LnOk {l with has:=k}:=⟨h.n0,h.n1,h.nd,h.el⟩
def gE(m:Nat->Line):Prop:=∀i,i<32->LnOk (m i)
def Ey{m:Nat->Line}(h:gE m)(b:LnOk l):gE (a7 m i l):=λj a=>by
 by_cases c:j=i
 .rw[c,dN];exact b
 .rw[dP c];exact h j a
def Ba{s t:Int}(h:pa s t=true):(0<=s/\s<32)/\0<=t/\t<8:=by unfold pa at h;simp only[dH,fY]at h;omega
def zeD{m:Nat->Line}(h:gE m)(s t:Int):gE (tA m s t):=by
 unfold tA;cases v:pa s t with
 |false=>exact h
 |true=>
  obtain⟨y,f,k⟩:=Ba v;have g:=h s.toNat a3;show gE (bif (m s.toNat).has==t+1 then m else _);cases((m s.toNat).has==t+1)with
  |true=>exact h
  |false=>
   show gE (bif zO (m s.toNat) t then _ else _);cases zO (m s.toNat) t with
   |true=>exact Ey h (Pr (Tp g f k) _)
   |false=>
    show gE (bif decide (oG (m s.toNat) t<0)then _ else m);rcases EL (m s.toNat) f k with⟨e,r⟩|⟨j,e,x,z⟩
    .rw[e];have u:=P1 g f k r;have w:=g.n0;refine Ey h ?_;rw[r6 f a3];generalize p:a7 (m s.toNat).wait (m s.toNat).n.toNat t=W;have o:∀a,a<(m s.toNat).n.toNat+1->W a=if a=(m s.toNat).n.toNat then t else(m s.toNat).wait a:=λa d=>by
      by_cases c:a=(m s.toNat).n.toNat
      .rw[<-p,if_pos c,c,dN]
      .rw[<-p,if_neg c,dP c]
     have i:∀a,a<(m s.toNat).n.toNat->(m s.toNat).wait a≠t:=λa d e=>r (l6.2 ⟨a,gZ.2 d,e⟩);refine P2 (by show 0<=(m s.toNat).n+1;omega) (by show(m s.toNat).n+1<=8;omega) (λa b d q e=>?_) λa d=>?_
     .have d:a<((m s.toNat).n+1).toNat:=d;have q:b<((m s.toNat).n+1).toNat:=q;have e:W a=W b:=e;rw[o a a3,o b a3]at e;by_cases l:a=(m s.toNat).n.toNat<;>by_cases n:b=(m s.toNat).n.toNat
      .omega
      .rw[if_pos l,if_neg n]at e;exact b3 e.symm (i b a3)
      .rw[if_neg l,if_pos n]at e;exact b3 e (i a a3)
      .rw[if_neg l,if_neg n]at e;exact P0 g a3 a3 e
     .have d:a<((m s.toNat).n+1).toNat:=d;show 0<=W a/\W a<8;rw[o a a3];by_cases c:a=(m s.toNat).n.toNat
      .rw[if_pos c];exact⟨f,k⟩
      .rw[if_neg c];exact PZ g a3
    .rw[e,fe a3];exact h
def DU{m:Nat->Line}(h:gE m)(s t:Int):gE (ue m s t):=by
 unfold ue;cases a:zd m s t with
 |false=>exact h
 |true=>
  unfold zd at a;simp only[dH]at a;exact Ey h (Pr (h _ (by have:=Ba a.1;omega)) _)
def YI{m:Nat->Line}(h:gE m)(t:Int)(i:Nat):gE (tg t m i):=by
 unfold tg;cases c:pa i t with
 |false=>exact DU h _ _
 |true=>
  obtain⟨d,a,b⟩:=Ba c;exact Ey (DU h _ _) (Tp (DU h _ _ i a3) a b)
def AD(t:Int):∀(l:List Nat) {m:Nat->Line},gE m->gE (l.foldl (tg t) m)
 |[],_,h=>h
 |i::l,_,h=>AD t l (YI h t i)
structure InsOk (x:Ins):Prop where
 op:0<=x.op/\x.op<256
 a:0<=x.a/\x.a<256
 b:0<=x.b/\x.b<256
 c:0<=x.c/\x.c<256
 n:0<=x.n/\x.n<65536
structure TskOk (t:Tsk):Prop where
 len:t.code.length<=64
 ins:∀x∈t.code,InsOk x
 n0:0<=t.next
 n1:t.next<=65536
structure RtX (c:Rt):Prop where
 rg:c.G.length<=64
 c0:0<=c.S
 c1:c.S<=c.run.n
structure MX2 (a b:Int) (m:Mc):Prop where
 C5:gE m.x.m
 ts:∀i,i<8->TskOk (m.ts i).t
 rt:∀i,i<8->RtX (m.ts i).c
 M:m.M.length<=a
 now:0<=m.now/\m.now<=b
def zD:RtX iT:=⟨a8,a8,a8⟩
def En{t:Tsk}(h:TskOk t):InsOk (fU t):=by
 unfold fU;cases d:mg t with
 |false=>exact(show InsOk lW from⟨a8,a8,a8,a8,a8⟩)
 |true=>
  unfold mg at d;simp only[jL,gX,kq]at d;have c:t.next.toNat<t.code.length:=a3
  show InsOk (t.code.getD t.next.toNat lW);rw[eu,ed c];exact h.ins _ (oi c)
def PJ{t:Tsk}(h:TskOk t)(c:mg t=true):0<=t.next/\t.next<t.code.length/\t.next<64:=by unfold mg at c;simp only[jL,gX,kq]at c;have:=h.len;omega
def zdR{t:Tsk}(h:TskOk t):TskOk (rZ t):=by
 unfold rZ;cases d:kZ t with
 |true=>exact h
 |false=>
  have e:mg t=true:=by unfold kZ at d;simp only[gX,lD]at d;exact d.1.1
  have g:=PJ h e;have f:=(En h).n;have c:0<=FC t/\FC t<=65536:=by
   unfold FC;cases(((fU t).op==5)||(((fU t).op==6)&&(j7 t (fU t).a != 0)))with
   |true=>show 0<=(fU t).n/\(fU t).n<=65536;omega
   |false=>show 0<=t.next+1/\t.next+1<=65536;omega
  exact⟨h.len,h.ins,c.1,c.2⟩
def zed{t:Tsk}(h:TskOk t)(r:Rs):TskOk (qm t r):=by
 unfold qm;cases c:(!mg t||!kZ t)with
 |true=>exact h
 |false=>
  simp only[gX,lD]at c;have d:=PJ h c.1;exact⟨h.len,h.ins,by show 0<=t.next+1;omega,by show t.next+1<=65536;omega⟩
def zcR(h:∃d,TInv s.t d)(j:di c.r):(iH s c).length<=64:=by
 obtain⟨d,g⟩:=h;have f:(dJ s.t c.r).length<=33:=by
  unfold dJ;cases i:bk s.t.b c.r with
  |true=>exact ra g.ok g.rk (g8 i)
  |false=>exact dG _
 have e:∀x,(qQ s x).length<=1:=λx=>by
  unfold qQ;cases bk s.t.b x with
  |true=>exact a9 1
  |false=>exact dG 1
 unfold iH;cases(((c.C==6)||(c.C==7)||(c.C==9))||(c.C==11))with
 |true=>exact eY f a8
 |false=>
  show(bif c.C==8 then _ else _:List Int).length<=64;cases(c.C==8)with
  |true=>
   show(bif ((dJ s.t c.r).length==0)||!bk s.t.b c.s then[]else bif (dJ s.t c.r).contains c.s then dJ s.t c.r else dJ s.t c.r++[c.s]:List Int).length<=64;cases(((dJ s.t c.r).length==0)||!bk s.t.b c.s)with
   |true=>exact dG 64
   |false=>
    cases(dJ s.t c.r).contains c.s with
    |true=>exact eY f a8
    |false=>show(dJ s.t c.r++[c.s]).length<=64;rw[ew,CA];omega
  |false=>
   show(bif c.C==13 then _ else _:List Int).length<=64;cases(c.C==13)with
   |true=>
    show(bif bk s.k.b c.s then qQ s (dr s.k c.s).D else[]:List Int).length<=64;cases bk s.k.b c.s with
    |true=>exact eY (e _) a8
    |false=>exact dG 64
   |false=>
    show(bif c.C==14 then _ else _:List Int).length<=64;cases(c.C==14)with
    |true=>
     show(bif c.b==1 then qQ s c.r else dJ s.t c.r:List Int).length<=64;cases(c.b==1)with
     |true=>exact eY (e _) a8
     |false=>exact eY f a8
    |false=>
     show(bif _ then qQ s c.r else[]:List Int).length<=64;cases(((((decide (1<=c.C)&&decide (c.C<=5))||(c.C==10))||(c.C==12))||(c.C==18))||(c.C==19))with
     |true=>exact eY (e _) a8
     |false=>exact dG 64
def zd4{x:Cr}{c:Rt}(h:gE x.m)(u:∃d,TInv x.s.t d)(v:di c.c.r)(f:RtX c)(w:ko c.run):gE (fh x c).x.m/\((fh x c).e=false->RtX (fh x c).c):=by
 have e:∀(y:Cr) (d:Rt) (r:Rs),gE y.m->gE (rC y d r).x.m/\((rC y d r).e=false->RtX (rC y d r).c):=λy d r j=>⟨AD d.task _ j,ef⟩;have i:∀(y:Cr) (d:Rt),gE y.m->gE (gO y d).x.m/\((gO y d).e=false->RtX (gO y d).c):=λy d j=>by
  unfold gO;cases((dz y.s d.task d.c d.run).2.1.e != 0)with
  |true=>exact e y d _ j
  |false=>
   show gE (vY y d _ _ _).x.m/\((vY y d _ _ _).e=false->RtX (vY y d _ _ _).c);unfold vY;refine e _ _ _ ?_;rw[(rR _ _).2.2.2];exact j
 unfold fh;cases c.E4 with
 |false=>
  show gE (ou x c).x.m/\((ou x c).e=false->RtX (ou x c).c);unfold ou;cases vD x.s c.task c.c with
  |true=>exact⟨h,λ_=>f⟩
  |false=>
   cases(nk x.s c.task c.c != 0)with
   |true=>exact e _ _ _ h
   |false=>exact⟨h,λ_=>⟨zcR u v,f.c0,f.c1⟩⟩
 |true=>
  cases s:c.G with
  |cons g l=>
   refine⟨zeD h _ _,λ_=>⟨?_,f.c0,f.c1⟩⟩;have p:=f.rg;rw[s]at p;show(bif th x.m (ny g) c.task then l else c.G).length<=64;cases th x.m (ny g) c.task with
   |true=>rw[jV]at p;show l.length<=64;omega
   |false=>exact f.rg
  |nil=>
   show gE (bif _ then lS x c (dv x.s c.task c.c)else bif _ then sj x c else lg x c).x.m/\((bif _ then lS x c (dv x.s c.task c.c)else bif _ then sj x c else lg x c).e=false->RtX (bif _ then lS x c (dv x.s c.task c.c)else bif _ then sj x c else lg x c).c);cases q:((dv x.s c.task c.c != 0)&&decide (c.run.n<=0))with
   |true=>
    show gE (lS x c (dv x.s c.task c.c)).x.m/\((lS x c (dv x.s c.task c.c)).e=false->RtX (lS x c (dv x.s c.task c.c)).c);simp only[dH,fY]at q;unfold lS;cases k:(kP x.p (dv x.s c.task c.c) != 0)with
    |true=>exact e _ _ _ h
    |false=>
     refine⟨h,λ_=>⟨f.rg,f.c0,?_⟩⟩;have n:kP x.p (dv x.s c.task c.c)=0:=b8 k
     have:¬dv x.s c.task c.c<1:=λo=>by unfold kP at n;rw[eI o]at n;exact b3 (show(2:Int)=0 from n) a8
     have:=f.c1;show c.S<=dv x.s c.task c.c;omega
   |false=>
    cases k:decide (c.S<c.run.n)with
    |true=>
     have:=gM k;exact⟨h,λ_=>⟨f.rg,by have:=f.c0;show 0<=c.S+1;omega,by show c.S+1<=c.run.n;omega⟩⟩
    |false=>
     show gE (lg x c).x.m/\((lg x c).e=false->RtX (lg x c).c);unfold lg;cases(decide (c.run.n>0)&&(dv x.s c.task c.c != c.run.n))with
     |true=>exact i _ _ h
     |false=>exact i _ _ h
section
variable {N:Int} {m:Mc} {t:Nat}
def vC{Q:Rr->Prop}(h:∀i,i<8->Q (C i))(e:Q r):∀i,i<8->Q (a7 C t r i):=λi d=>by
 by_cases c:i=t
 .rw[c,dN];exact e
 .rw[dP c];exact h i d
variable {a b:Int}
def ND(h:MI N m)(d:MX2 a b m)(f:t<8)(k:(m.ts t).busy=true):MX2 (a+1) b (mO m t):=by
 obtain⟨g,j⟩:=zd4 d.C5 h.s.t ((h.rr t f).busy k).r (d.rt t f) (h.run t f);have n:=d.M;unfold mO Du;cases l:(fh m.x (m.ts t).c).e with
 |true=>
  refine⟨g,λi e=>?_,λi e=>?_,?_,d.now⟩
  .show TskOk (a7 (a7 m.ts t _) t _ i).t;rw[BY];exact vC (Q:=λr=>TskOk r.t) d.ts (by show TskOk (qm (a7 m.ts t {m.ts t with c:=(fh m.x (m.ts t).c).c} t).t (fh m.x (m.ts t).c).r);exact zed (by rw[dN];exact d.ts t f) _) i e
  .show RtX (a7 (a7 m.ts t _) t _ i).c;rw[BY];exact vC (Q:=λr=>RtX r.c) d.rt zD i e
  .show(((m.M++[_]:List Ev).length:Nat):Int)<=a+1;rw[ew,CA];omega
 |false=>
  refine⟨g,λi e=>vC (r:={m.ts t with c:=(fh m.x (m.ts t).c).c}) (Q:=λr=>TskOk r.t) d.ts (d.ts t f) i e,λi e=>vC (r:={m.ts t with c:=(fh m.x (m.ts t).c).c}) (Q:=λr=>RtX r.c) d.rt (j l) i e,?_,d.now⟩;show((m.M.length:Nat):Int)<=a+1;omega
def Hp(d:MX2 a b m)(f:t<8):MX2 a b (qw m t):=
 ⟨d.C5,λi e=>vC (r:={m.ts t with c:={iT with task:=t,c:=jI (m.ts t).t},busy:=true,J:=m.now}) (Q:=λr=>TskOk r.t) d.ts (d.ts t f) i e,λi e=>vC (r:={m.ts t with c:={iT with task:=t,c:=jI (m.ts t).t},busy:=true,J:=m.now}) (Q:=λr=>RtX r.c) d.rt ⟨zD.rg,zD.c0,zD.c1⟩ i e,d.M,d.now⟩
def MX2.more(f:MX2 a b m):MX2 (a+1) b m:=⟨f.C5,f.ts,f.rt,by have:=f.M;omega,f.now⟩
def ya(c:MX2 a b m):MX2 a (b+1) (mJ m):=⟨c.C5,c.ts,c.rt,c.M,by have:=c.now;show 0<=m.now+1/\m.now+1<=b+1;omega⟩
def SU(h:MI N m)(c:MX2 a b m)(d:t<8):MX2 (a+1) b (mw m t):=by
 unfold mw;cases f:(m.ts t).busy with
 |true=>exact ND h c d f
 |false=>
  cases kZ (m.ts t).t with
  |true=>exact ND (Dr h d f) (Hp c d) d (by unfold qw;simp only[dN])
  |false=>exact MX2.more ⟨c.C5,λi e=>vC (r:={m.ts t with t:=rZ (m.ts t).t}) (Q:=λr=>TskOk r.t) c.ts (zdR (c.ts t d)) i e,λi e=>vC (r:={m.ts t with t:=rZ (m.ts t).t}) (Q:=λr=>RtX r.c) c.rt (c.rt t d) i e,c.M,c.now⟩
def SM(c:MX2 a b m):MX2 (a+1) b (oK m t):=by
 refine⟨?_,c.ts,c.rt,?_,c.now⟩
 .show gE (List.foldl dS _ _).m;rw[(rR _ _).2.2.2];exact c.C5
 .show(((m.M++[_]:List Ev).length:Nat):Int)<=a+1;rw[ew,CA];have:=c.M;omega
def Xc(d:MX2 a b m)(t:Nat):MX2 a b (kp m t):=by
 unfold kp;cases((m.ts t).busy&&!jW m t)with
 |false=>exact d
 |true=>exact⟨AD _ _ d.C5,λi e=>by
  show TskOk (a7 m.ts t _ i).t;by_cases c:i=t
  .rw[c,dN];exact d.ts t (c▸e)
  .rw[dP c];exact d.ts i e,λi e=>vC (Q:=λr=>RtX r.c) d.rt zD i e,d.M,d.now⟩
def Dy:∀(l:List Nat) {m:Mc},MX2 a b m->MX2 a b (l.foldl kp m)
 |[],_,h=>h
 |t::l,_,h=>Dy l (Xc h t)
def EJ(h:MI N m)(c:MX2 a b m){k:Int}(d:0<=k):MX2 (a+1) (b+1) (jo m k):=by
 rcases Q2 (m:=m) d with e|⟨_,⟨a,l,f⟩,_,e⟩|⟨t,g,_,i,_,⟨_,e⟩|⟨_,e⟩⟩
 .rw[e];exact⟨c.C5,c.ts,c.rt,by have:=c.M;omega,by have:=c.now;omega⟩
 .rw[e];refine Dy _ (MX2.more (ya (m:={m with x:=kM m.x}) ⟨?_,c.ts,c.rt,c.M,c.now⟩));show gE (kM m.x).m;unfold kM;rw[f];exact c.C5
 .rw[e];exact Dy _ (SM (ya c))
 .rw[e];exact Dy _ (SU (sL h) (ya c) g)
end
def OW{f:Nat->List Int}{k:Nat}:∀{n:Nat},(∀i,i<n->(f i).length<=k)->((List.range n).flatMap f).length<=n*k
 |0,_=>dG _
 |n+1,h=>by
  rw[mC,mA,ew];have a:=OW (n:=n) λi d=>h i a3;have b:=h n a3;have c:([n].flatMap f).length=(f n).length:=eA
  rw[iO];omega
def zcP{t:Tb}{d:Int->Nat}(h:TInv t d):(eG t).length<=2048/\∀p∈eG t,0<=p/\p<64:=by
 refine⟨?_,λp a=>?_⟩
 .refine OW (n:=32) (k:=64) λi b=>?_;have c:=h.rg i b;have e:=Bs c.ok;have f:=c.pg;have j:=c.q1;omega
 .unfold eG at a;obtain⟨i,b,a⟩:=om.1 a;obtain⟨y,g,a⟩:=vi.1 a;have e:=(h.rg i (gZ.1 b)).ok y g;have f:=iS.1 a;unfold dw at e;omega
def DG{M:Int}{G:Rn}(j:SInv s)(q:CallOk s M c)(n:dv s M c>0->G.n=dv s M c->dw G):
 SInv (dz s M c G).1/\(∀y∈(dz s M c G).2.2,y.n<=0\/dw y)/\(dm (dz s M c G).2.2).length<=3000:=by
 obtain⟨v,w⟩:=NG j q n;unfold dz;cases m:fr s M c G with
 |error e=>exact⟨j,(λy g=>by cases g),dG 3000⟩
 |ok x=>
  obtain⟨W,r,b⟩:=x;obtain⟨o,k⟩:=v W r b m;obtain⟨d,u⟩:=j.t;obtain⟨C,z⟩:=zcP u;have i:(bif decide (dv s M c>0)then pg G else[]).length<=64/\∀p∈(bif decide (dv s M c>0)then pg G else[]),0<=p/\p<64:=by
   by_cases a:dv s M c>0
   .rw[eI a];have l:=n a (w _ m a);unfold dw at l;refine⟨?_,λp a=>?_⟩
    .show(pg G).length<=64;have:(pg G).length=G.n.toNat:=by simp[pg]
     omega
    .have:=iS.1 (show p∈pg G from a);omega
   .rw[fe a];exact⟨dG _,λp a=>by cases a⟩
  have f:∀p∈dm b,0<=p/\p<64:=λp a=>by
   have:p∈eG s.t++(bif decide (dv s M c>0)then pg G else[]):=k.mem_iff.2 (eP.2 (.inr a));rcases eP.1 this with h|h
   .exact z p h
   .exact i.2 p h
  refine⟨o,λy g=>?_,?_⟩
  .by_cases t:y.n<=0
   .exact .inl t
   .refine .inr ?_;have l:=f y.at_ (vi.2 ⟨y,g,iS.2 a3⟩);have A:=f (y.at_+y.n - 1) (vi.2 ⟨y,g,iS.2 a3⟩);unfold dw;omega
  .have:=k.length_eq;rw[ew,ew]at this;show(dm b).length<=3000;omega
def FD(v:Int)(a:Int):∀(l:List Int) (p:Pl) (i:Nat),jr v p (l++[a]) i=nV (jr v p l i) a (IntKind.u8.wrap (dU .u64 v (8*((i+l.length:Nat):Int))))
 |[],p,i=>rfl
 |x::l,p,i=>by show jr v (nV p x _) (l++[a]) (i+1)=_;rw[FD v a l];show nV (jr v (nV p x _) l (i+1)) a _=nV (jr v (nV p x _) l (i+1)) a _;rw[jV,show i+1+l.length=i+(l.length+1) by omega]
def Eu(p:Pl)(a:Int):∀(l:List Int) (v:Int) (i:Nat),mU p v (l++[a]) i=dC .or .u64 (mU p v l i) (ec .u64 (pf p a) (8*((i+l.length:Nat):Int)))
 |[],v,i=>rfl
 |x::l,v,i=>by show mU p _ (l++[a]) (i+1)=_;rw[Eu p a l];show dC .or .u64 (mU p _ l (i+1)) _=dC .or .u64 (mU p _ l (i+1)) _;rw[jV,show i+1+l.length=i+(l.length+1) by omega]
end Sx
end Go.Proofs.YtfbhkfhbnkncoaaGreatDoor
