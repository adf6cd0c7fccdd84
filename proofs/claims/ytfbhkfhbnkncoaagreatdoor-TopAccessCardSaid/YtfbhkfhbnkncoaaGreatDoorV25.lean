import Derived.Test.YtfbhkfhbnkncoaaGreatDoorV24
set_option linter.all false
set_option maxRecDepth 100000
set_option maxHeartbeats 8000000
namespace Go.Proofs.YtfbhkfhbnkncoaaGreatDoor
open Go.RowKit Tryz
open Tryz renaming prog→a6
namespace Sx
variable{x':Cl}{h x:Int}{K:Out->MS->Prop}{r:Rg}
def Wc{y:Int}(b:0<=x)(f:x<=4611686018427387904):0<=dC .andNot .i64 x y/\dC .andNot .i64 x y<=x:=by
 unfold dC;have g:(BitVec.ofInt IntKind.i64.bits x&&& ~~~(BitVec.ofInt IntKind.i64.bits y)).toNat<=(BitVec.ofInt IntKind.i64.bits x).toNat:=by rw[Gg];exact Nat.and_le_left
 have h:((BitVec.ofInt IntKind.i64.bits x).toNat:Int)=x:=by have e:(BitVec.ofInt IntKind.i64.bits x).toNat=(x %((2 ^ 64:Nat):Int)).toNat:=BitVec.toNat_ofInt ..;rw[e];omega
 have:=l5 (k:=.i64) (x:=((BitVec.ofInt IntKind.i64.bits x&&& ~~~(BitVec.ofInt IntKind.i64.bits y)).toNat:Int)) (iL (by simp only[eU];omega) (λ_=>a3) (by simp only[eU];omega));show 0<=IntKind.i64.wrap _/\IntKind.i64.wrap _<=x;rw[this];omega
def V3{a:Int}(h:vR a=true):1<=a/\a<=8:=by
 unfold vR at h;have k:oz (λi=>([1,2,4,8]:List Int).getD i 0) a 4>=0:=b8 h
 by_cases c:a=1\/a=2\/a=4\/a=8
 .omega
 .exfalso;have e:oz (λi=>([1,2,4,8]:List Int).getD i 0) a 4= -1:=by have b:¬a=1:=λh=>c (.inl h);have f:¬a=2:=λh=>c (.inr (.inl h));have g:¬a=4:=λh=>c (.inr (.inr (.inl h)));have j:¬a=8:=λh=>c (.inr (.inr (.inr h)));simp[oz,n9,b,f,g,j,fc.2 b,fc.2 f,fc.2 g,fc.2 j]
  omega
def Td{F s a:Int}(b:lq s a=true)(f:0<=F)(g:F<=1000000):0<=oN F a/\oN F a<=2000000:=by
 have e:vR a=true:=by unfold lq at b;simp only[dH]at b;exact b.2
 have h:=V3 e;have i:=Wc (x:=F+a - 1) (y:=a - 1) a3 a3;unfold oN;omega
def Qp{b:Int}(f:di x)(e:0<=b):0<=dn x b/\dn x b<=b:=by
 have:=f.1;unfold dn;cases h:decide (b<x)with
 |true=>exact⟨e,i6 b⟩
 |false=>
  have:¬b<x:=b8 h
  show 0<=x/\x<=b;omega
def Bc{s a:Int}(b:lq s a=true):1<=jb s a/\jb s a<=4:=by
 have f:1<=s/\s<=128:=by unfold lq at b;simp only[dH,fY]at b;exact b.1
 have e:((s+32 - 1).tdiv 32)=(s+31) / 32:=by rw[Gq a3];congr 1;omega
 unfold jb;rw[b,dZ,e,l5 (k:=.i64) (iL (by simp only[eU];omega) (λ_=>a3) (by simp only[eU];omega))];omega
def zaY(s a:Int):0<=jb s a/\jb s a<=4:=by
 cases b:lq s a with
 |true=>have:=Bc b;omega
 |false=>unfold jb;rw[b];exact⟨i6 0,(a8:(0:Int)<=4)⟩
def Se(h:RgI r):0<=r.len/\r.len<=dK r.rs*32:=by have:=h.mx;unfold mV at this;simp only[dH,fY]at this;exact this.2
def AX(n:Int)(a:Bool)(s:St)(M:Int)(c:Call)(G:Rn)(o:Out)(m:MS):Prop:=∃g f,m=⟨[eE f g],[g],[]⟩/\
 (a=false->match mN s M c G with
  | .ok (W,r,b)=>o=.ret (.d (fu r))/\f.s=W/\f.back=b
  | .error e=>o=lZ e)/\
 (a=true->match jX s M c with
  | .ok k=>(∃r:Rs,r.e=0/\o=.ret (.d (fu r)))/\f.C7=(bif k==0 then n else k)
  | .error e=>o=lZ e/\f.C7=n)
attribute [local irreducible] b6 eF fR ez eH eB eM fx dC ec dU dx
section
variable {s:St} {M:Int} {c:Call} {G:Rn} {n:Int} {a:Bool} {v:Nat} {d:Int->Nat}
def Ho{v:Nat}{r:Rs}(e:a=false->mN s M c G=.ok (x'.s,r,x'.back))(f:a=true->∃k,jX s M c=.ok k/\x'.C7=(bif k==0 then n else k))(b:r.e=0:=by rfl):AX n a s M c G (.ret (.d (fu r))) ⟨[eE x' v],[v],[]⟩:=
 ⟨v,x',rfl,(λh=>by rw[e h];exact⟨rfl,rfl,rfl⟩),λh=>by
  obtain⟨k,g,i⟩:=f h;rw[g];exact⟨⟨r,b,rfl⟩,i⟩⟩
def w8{v:Nat}{e:Int}(b:a=false->mN s M c G=.error e)(f:a=true->jX s M c=.error e/\x'.C7=n):AX n a s M c G (lZ e) ⟨[eE x' v],[v],[]⟩:=
 ⟨v,x',rfl,(λh=>by rw[b h]),λh=>by
  obtain⟨g,i⟩:=f h;rw[g];exact⟨rfl,i⟩⟩
def zdq{x:Cl}{v:Nat}(f:vO r):b6 a6 322 [.B 0 [],H h,.d (lU r)] ⟨[eE x v],[v],[]⟩ λo m=>∃b,m=⟨[b],[v],[]⟩/\((hQ x.s.t h r=0/\o=.ret (.tu (.d .un))/\b=eE (my x (hZ x.s.t h r)) v)\/(hQ x.s.t h r≠0/\o=lZ (hQ x.s.t h r)/\b=eE x v)):=by
 refine fm func322 ?_;refine fg (List.range 15) [(12,4095),(13,2048)] (c9 (CO x.s.t h r f) (λ_ h=>h) (fy ?_))
 refine kv (hQ x.s.t h r) _ (λe=>?_) λe=>?_
 .conv=>whnf
  exact⟨rfl,_,rfl,.inl ⟨e,rfl,rfl⟩⟩
 .conv=>whnf
  exact⟨rfl,_,rfl,.inr ⟨e,rfl,rfl⟩⟩
def Nk{x:Cl}{v:Nat}(t:vO r){f:List SV}{t2:List Nat}{g:List Ob}(l:hQ x.s.t h r=0->K (.ret (.tu (.d .un))) ⟨eE (my x (hZ x.s.t h r)) v::f,v::t2,g⟩)(p:hQ x.s.t h r≠0->K (lZ (hQ x.s.t h r)) ⟨eE x v::f,v::t2,g⟩):b6 a6 322 [.B 0 [],H h,.d (lU r)] ⟨eE x v::f,v::t2,g⟩ K:=
 yA (zdq (x:=x) (v:=v) t) rfl (zg x v) (λo m ⟨i,b,_⟩=>⟨i,v,b⟩) λo i w ⟨u,b,q⟩=>by
  have j:=dE MS.c b;have k:=dE MS.t b;simp only[oP,px]at j k;subst j k;rcases q with⟨e,rfl,rfl⟩|⟨e,rfl,rfl⟩
  .exact l e
  .exact p e
def zbG:lu s c r=dV (hQ s.t c.r {r with len:=mZ r.rs r.len (dn c.a 129) (dn c.b 9)}) (.ok ({s with t:=hZ s.t c.r {r with len:=mZ r.rs r.len (dn c.a 129) (dn c.b 9)}},⟨0,IntKind.u64.wrap (rD r.rs r.len (dn c.a 129) (dn c.b 9)),0⟩,[])):=rfl
def V2:mN s M c G=dV (no (lq (dn c.a 129) (dn c.b 9)) 2) (dV (eh s M c.r 1) (dV (no (bk s.t.b c.r) 4) (bif jv (b1 s.t c.r).rs (b1 s.t c.r).len (dn c.a 129) (dn c.b 9)then lu s c (b1 s.t c.r)
 else dV (no (decide (dK (b1 s.t c.r).rs+jb (dn c.a 129) (dn c.b 9)<=(b1 s.t c.r).E)) 6) (dV (no ((G.n==jb (dn c.a 129) (dn c.b 9))&&mV (iR (b1 s.t c.r) G).rs (iR (b1 s.t c.r) G).len) 2) (lu s c (iR (b1 s.t c.r) G)))))):=rfl
def Wk:jX s M c=dV (no (lq (dn c.a 129) (dn c.b 9)) 2) (dV (eh s M c.r 1) (dV (no (bk s.t.b c.r) 4) (bif jv (b1 s.t c.r).rs (b1 s.t c.r).len (dn c.a 129) (dn c.b 9)then(match lu s c (b1 s.t c.r)with
  | .ok _=>.ok (0:Int)
  | .error e=>.error e)
 else dV (no (decide (dK (b1 s.t c.r).rs+jb (dn c.a 129) (dn c.b 9)<=(b1 s.t c.r).E)) 6) (.ok (jb (dn c.a 129) (dn c.b 9)))))):=rfl
def nQ{P:Program}{tb:TT}{N:Nat}{F:Bool}{a b:Code}{V:List Ent}{m:MS}{K:X->List Ent->MS->Prop}(h:∀K0:X->List Ent->MS->Prop,(∀A U,ji P tb N F b A U K->K0 .U A U)->(∀x A U,(match x with
  | .U=>False
  |_=>True)->K x A U->K0 x A U)->ji P tb N F a V m K0):ji P tb N F (.seq a b) V m K:=
 h (λx A U=>match x with
  | .U=>ji P tb N F b A U K
  |x=>K x A U) (λ_ _ h=>h) λx V m e h=>by cases x<;>first|exact h|cases e
def HE{f:FuncId}{a T:List SV}{m:MS}(h:a=T)(b:b6 a6 f T m K):b6 a6 f a m K:=h▸b
def V7(hs:StOk s d)(E:CallOk s M c)(hr:dw G\/G.n=0):b6 a6 292 [.B 0 []] ⟨[eE (dp s M c G n a) v],[v],[]⟩ (AX n a s M c G):=by
 have aw:=Qp E.a (b:=129) a8;have aa:=Qp E.b (b:=9) a8;have k:=pF hs.t c.r;have Z:=Se k;have ax:=wq k.ok;have ay:=k.pg;have az:=k.q1;refine fm func292 ?_;refine nQ λK0 ad aA=>?_;refine ad _ _ ?_;refine nQ λK1 ae aB=>?_;refine dL 16 (a4 ⟨wj E.a,rfl⟩ (a4 ⟨wj E.b,rfl⟩ (ae _ _ ?_)));refine nQ λK2 af aC=>?_;conv=>whnf
 generalize j:(bif decide (129<(dp s M c G n a).c.a)then(129:Int)else(dp s M c G n a).c.a)=W;generalize i:(bif decide (9<(dp s M c G n a).c.b)then(9:Int)else(dp s M c G n a).c.b)=al;have j:W=dn c.a 129:=j.symm;have i:al=dn c.b 9:=i.symm;rw[<-j]at aw;rw[<-i]at aa;have f:=V2 (s:=s) (M:=M) (c:=c) (G:=G);have g:=Wk (s:=s) (M:=M) (c:=c);have Y:=λr=>zbG (s:=s) (c:=c) (r:=r);rw[<-j,<-i]at f g;simp only[<-j,<-i]at Y;refine bo (Vw W al) (af _ _ ?_);refine nQ λK3 ag ao=>?_;refine nv (lq W al) 2 _ (λu=>?_) λu=>?_
 .have e1:no (lq W al) 2=0:=by rw[u];rfl
  have L:=Bc u;have P:=Td u Z.1 a3;rw[b9 e1]at f g;refine ag _ _ ?_;refine nQ λK4 ah ap=>?_;refine qy (x:=dp s M c G n a) hs E.t0 E.r 1 (.inr (.inl rfl)) (λR=>?_) λR=>?_
  .rw[b9 R]at f g;refine ah _ _ ?_;refine nQ λK5 ai aq=>?_;refine DB (x:=dp s M c G n a) (λS=>?_) λS=>?_
   .have e3:no (bk s.t.b c.r) 4=0:=by rw[S];rfl
    rw[b9 e3]at f g;refine ai _ _ ?_;refine nQ λK6 K A=>?_;refine bo (LY (l:=(b1 s.t c.r).rs) (F:=(b1 s.t c.r).len) (s:=W) (a:=al) k.ok a3 a3 a3 a3 P) ?_;apply a4<;>intro q
    .have q:jv (b1 s.t c.r).rs (b1 s.t c.r).len W al=false:=by rw[jL]at q;exact q
     rw[q,eQ]at f g;refine nQ λKa aj au=>?_;refine dL 8 (c9 (GJ k.ok a3 (b1 s.t c.r).len) (λ_ h=>h) (b2 (x:=dK (b1 s.t c.r).rs+jb W al) (nv (decide (dK (b1 s.t c.r).rs+jb W al<=(b1 s.t c.r).E)) 6 _ (λC=>?_) λC=>?_)))
     .have e5:no (decide (dK (b1 s.t c.r).rs+jb W al<=(b1 s.t c.r).E)) 6=0:=by rw[C];rfl
      have C:dK (b1 s.t c.r).rs+jb W al<=(b1 s.t c.r).E:=b8 C
      rw[b9 e5]at f g;refine aj _ _ ?_;refine nQ λKb ak aD=>?_;refine ak _ _ ?_;refine nQ λKc am av=>?_;apply a4<;>intro t
      .have t:a=true:=t;have ac:(jb W al==0)=false:=by
        have:¬jb W al=0:=a3
        simpa using this
       refine nQ λKe L aF=>?_;refine L _ _ ?_;refine av _ _ _ trivial ?_;refine A _ _ _ trivial ?_;exact a4 rfl (Ho (x':=dp s M c G (jb W al) a) (r:=⟨0,0,0⟩) (λh=>by rw[t]at h;cases h) λ_=>⟨jb W al,g,by rw[ac];rfl⟩)
      .have t:a=false:=t;refine am _ _ ?_;refine nQ λKd an aE=>?_;refine dL 8 (c9 (U6 k.ok a3 (b1 s.t c.r).len G) (λ_ h=>h) (an _ _ ?_));conv=>whnf
       have w:((b1 s.t c.r).rs++[G]).length<=1000:=by rw[ew,CA];omega
       have J:∀y∈(b1 s.t c.r).rs++[G],dx y.n:=λy hy=>by
        rcases eP.1 hy with h|h
        .have:=k.ok y h;unfold dw at this;exact eD a3 a3
        .rw[nZ.1 h];unfold dw at hr;exact eD a3 a3
       have Q:=Td u (F:=dK (b1 s.t c.r).rs*32) a3 a3;refine c9 (Mr J w (dK (b1 s.t c.r).rs*32)) (λ_ h _=>h) (nv ((G.n==jb W al)&&mV (iR (b1 s.t c.r) G).rs (iR (b1 s.t c.r) G).len) 2 _ (λF=>?_) λF=>?_)
       .have e7:no ((G.n==jb W al)&&mV (iR (b1 s.t c.r) G).rs (iR (b1 s.t c.r) G).len) 2=0:=by rw[F];rfl
        have ab:∀y∈(b1 s.t c.r).rs++[G],dw y:=λy hy=>by
         rcases eP.1 hy with h|h
         .exact k.ok y h
         .rw[nZ.1 h];have h8:G.n=jb W al:=by rw[dH]at F;simpa using F.1
          rcases hr with e|e
          .exact e
          .omega
        rw[b9 e7,Y]at f;refine K _ _ ?_;refine nQ λK9 z ar=>?_;refine bo (LW (F:=(iR (b1 s.t c.r) G).len) (s:=W) (a:=al) ab w (by show 0<=dK (b1 s.t c.r).rs*32/\dK (b1 s.t c.r).rs*32<=1000000;omega) a3 a3 Q) (z _ _ ?_);refine nQ λT l N=>?_;refine l _ _ ?_;refine nQ λU m p=>?_;refine dL 7 (Nk (x:=dp s M c G (jb W al) a) (h:=c.r) (r:={(iR (b1 s.t c.r) G)with len:=mZ (iR (b1 s.t c.r) G).rs (iR (b1 s.t c.r) G).len W al}) ⟨J,w⟩ (λe=>?_) λe=>?_)
        .have e:hQ s.t c.r {(iR (b1 s.t c.r) G)with len:=mZ (iR (b1 s.t c.r) G).rs (iR (b1 s.t c.r) G).len W al}=0:=e;rw[b9 e]at f;refine m _ _ ?_;refine nQ λV o O=>?_;refine o _ _ ?_;exact a4 rfl (Ho (x':=my (dp s M c G (jb W al) a) (hZ s.t c.r {(iR (b1 s.t c.r) G)with len:=mZ (iR (b1 s.t c.r) G).rs (iR (b1 s.t c.r) G).len W al})) (r:=⟨0,IntKind.u64.wrap (rD (iR (b1 s.t c.r) G).rs (iR (b1 s.t c.r) G).len W al),0⟩) (λ_=>f) λ_=>(by rename_i h;rw[t]at h;cases h))
        .have e:hQ s.t c.r {(iR (b1 s.t c.r) G)with len:=mZ (iR (b1 s.t c.r) G).rs (iR (b1 s.t c.r) G).len W al}≠0:=e;refine p _ _ _ trivial ?_;exact a4 rfl (w8 (x':=dp s M c G (jb W al) a) (λ_=>f.trans (eR e)) λ_=>(by rename_i h;rw[t]at h;cases h))
       .refine A _ _ _ trivial ?_;exact a4 rfl (w8 (x':=dp s M c G (jb W al) a) (λ_=>f.trans (by rw[F];rfl)) λh=>by rw[t]at h;cases h)
     .refine au _ _ _ trivial ?_;refine A _ _ _ trivial ?_;exact a4 rfl (w8 (x':=dp s M c G n a) (λ_=>f.trans (by rw[C];rfl)) λ_=>⟨g.trans (by rw[C];rfl),rfl⟩)
    .have q:jv (b1 s.t c.r).rs (b1 s.t c.r).len W al=true:=by rw[lD]at q;exact q
     rw[q,dZ,Y]at f g;refine K _ _ ?_;refine nQ λK9 z ar=>?_;refine bo (LW (l:=(b1 s.t c.r).rs) (F:=(b1 s.t c.r).len) (s:=W) (a:=al) k.ok a3 a3 a3 a3 P) (z _ _ ?_);refine nQ λT l N=>?_;refine l _ _ ?_;refine nQ λU m p=>?_;refine dL 7 (Nk (x:=dp s M c G n a) (h:=c.r) (r:={(b1 s.t c.r)with len:=mZ (b1 s.t c.r).rs (b1 s.t c.r).len W al}) k.I6 (λe=>?_) λe=>?_)
     .have e:hQ s.t c.r {(b1 s.t c.r)with len:=mZ (b1 s.t c.r).rs (b1 s.t c.r).len W al}=0:=e;rw[b9 e]at f g;refine m _ _ ?_;refine nQ λV o O=>?_;refine o _ _ ?_;exact a4 rfl (Ho (x':=my (dp s M c G n a) (hZ s.t c.r {(b1 s.t c.r)with len:=mZ (b1 s.t c.r).rs (b1 s.t c.r).len W al})) (r:=⟨0,IntKind.u64.wrap (rD (b1 s.t c.r).rs (b1 s.t c.r).len W al),0⟩) (λ_=>f) λ_=>⟨0,g,rfl⟩)
     .have e:hQ s.t c.r {(b1 s.t c.r)with len:=mZ (b1 s.t c.r).rs (b1 s.t c.r).len W al}≠0:=e;refine p _ _ _ trivial ?_;exact a4 rfl (w8 (x':=dp s M c G n a) (λ_=>f.trans (eR e)) λ_=>⟨by rw[g,eR e],rfl⟩)
   .refine aq _ _ _ trivial ?_;exact a4 rfl (w8 (x':=dp s M c G n a) (λ_=>f.trans (by rw[S];rfl)) λ_=>⟨g.trans (by rw[S];rfl),rfl⟩)
  .refine ap _ _ _ trivial ?_;exact a4 rfl (w8 (x':=dp s M c G n a) (λ_=>f.trans (eR R)) λ_=>⟨g.trans (eR R),rfl⟩)
 .refine ao _ _ _ trivial ?_;exact a4 rfl (w8 (x':=dp s M c G n a) (λ_=>f.trans (by rw[u];rfl)) λ_=>⟨g.trans (by rw[u];rfl),rfl⟩)
end
end Sx
namespace Sx
variable {r:Option Nat} {nn:Nat}
variable {P:Program} {tb:TT}
variable{C a b:Array Oper}{i x y:Nat}
def kb:List Oper->Nat->Nat->List Oper
 |[],_,_=>[]
 |o::l,0,x=>{o with after:=o.after.push ⟨x,.phase⟩}::l
 |o::l,y+1,x=>o::kb l y x
def CT:∀(l:List Oper) (y x:Nat),(kb l y x).length=l.length
 |[],_,_=>rfl
 |o::l,0,x=>rfl
 |o::l,y+1,x=>by rw[kb,jV,CT l y x,jV]
def CU:∀(l:List Oper) (y x i:Nat),i≠y->(kb l y x)[i]?=l[i]?
 |[],_,_,_,_=>rfl
 |o::l,0,x,0,h=>b3 rfl h
 |o::l,0,x,i+1,_=>rfl
 |o::l,y+1,x,0,_=>rfl
 |o::l,y+1,x,i+1,h=>by rw[kb,Cw,Cw];exact CU l y x i λe=>h (by rw[e])
def CV:∀(l:List Oper) (y x:Nat),(kb l y x)[y]?=(l[y]?).map λo=>{o with after:=o.after.push ⟨x,.phase⟩}
 |[],_,_=>rfl
 |o::l,0,x=>rfl
 |o::l,y+1,x=>by rw[kb,Cw,Cw];exact CV l y x
def Lw:∀(l:List Oper) (y x:Nat),lB (kb l y x)=lB l
 |[],_,_=>rfl
 |o::l,0,x=>rfl
 |o::l,y+1,x=>by unfold kb lB;rw[Lw l y x]
def Um(o o':Oper):Prop:=o'.dst=o.dst/\o'.op=o.op/\o'.type=o.type/\o'.pos=o.pos/\o'.guard=o.guard
def VZ(l:List Oper)(y x i:Nat):(l[i]?=none/\(kb l y x)[i]?=none)\/∃o o',l[i]?=some o/\(kb l y x)[i]?=some o'/\Um o o':=by
 by_cases h:i=y
 .subst h;rw[CV];cases a:l[i]? with
  |none=>exact .inl ⟨rfl,rfl⟩
  |some o=>exact .inr ⟨o,_,rfl,rfl,rfl,rfl,rfl,rfl,rfl⟩
 .rw[CU l y x i h];cases a:l[i]? with
  |none=>exact .inl ⟨rfl,rfl⟩
  |some o=>exact .inr ⟨o,o,rfl,rfl,rfl,rfl,rfl,rfl,rfl⟩
def vK(a:Array Oper):Nat->Array Bool->List Nat->Prop
 |0,_,l=>l=[]
 |f+1,b,l=>match l with
  |[]=>Region.ready .any a b=[]
  |i::c=>i∈Region.ready .any a b/\vK a f (b.setIfInBounds i true) c
def Jd(b:Array Oper):∀(f t:Nat) (c:Array Bool),vK b f c (Region.linearise.go .any b f t c [])
 |0,_,_=>rfl
 |f+1,t,c=>by
  simp only[Region.linearise.go]
  change vK b (f+1) c (match(Region.ready .any b c)[t %(Region.ready .any b c).length]? with
   |some i=>Region.linearise.go .any b f (t /(Region.ready .any b c).length) (c.setIfInBounds i true) [i]
   |none=>[].reverse)
  cases d:(Region.ready .any b c)[t %(Region.ready .any b c).length]? with
  |none=>
   show Region.ready .any b c=[];cases e:Region.ready .any b c with
   |nil=>rfl
   |cons a l=>
    rw[e]at d;have:=List.getElem?_eq_none_iff.1 d;have g:=Nat.mod_lt t (show 0<(a::l).length by simp);omega
  |some i=>
   simp only;rw[linearise_go_acc];exact⟨oU d,Jd b f _ _⟩
def zT(y x:Nat):Array Bool->List Nat->Prop
 |_,[]=>True
 |a,i::l=>(i=y->a.getD x false=true)/\zT y x (a.setIfInBounds i true) l
def GR:∀{l:List Nat} {a:Array Bool} {y x:Nat},a.getD x false=true->zT y x a l
 |[],_,_,_,_=>trivial
 |i::l,a,y,x,h=>⟨λ_=>h,GR (by
  simp only[oO,uH]at h ⊢;split
  .rename_i e;split
   .rfl
   .rename_i b;subst e;rw[Up a3]at h;cases h
  .exact h)⟩
def R4{b:Array Bool}(h:i∈Region.ready .any a b):i<a.size/\b.getD i true=false:=by unfold Region.ready at h;rw[jM]at h;simp only[dH,jL]at h;exact⟨gZ.1 h.1,h.2.1⟩
def SC{a:Array Bool}(h:a.getD i true=false):(a.setIfInBounds i true).getD i false=true:=by
 have c:i<a.size:=by
  rcases jB i a.size with b|b
  .exact b
  .rw[oO,Up b]at h;cases h
 simp[oO,uH,c]
def HW{d:Array Oper}(x y:Nat)(a:x≠y):∀{f:Nat} {b:Array Bool} {l:List Nat},vK d f b l->zT y x b l\/zT x y b l
 |0,b,l,h=>by have:l=[]:=h;subst this;exact .inl trivial
 |f+1,b,[],_=>.inl trivial
 |f+1,b,i::l,h=>by
  by_cases g:i=x
  .subst g;exact .inl ⟨λe=>b3 e a,GR (SC (R4 h.1).2)⟩
  .by_cases j:i=y
   .subst j;exact .inr ⟨λe=>b3 e.symm a,GR (SC (R4 h.1).2)⟩
   .rcases HW x y a h.2 with c|c
    .exact .inl ⟨λe=>b3 e j,c⟩
    .exact .inr ⟨λe=>b3 e g,c⟩
def R3(l:C.toList=kb a.toList y x)(k:Array Bool)(i:Nat):i∈Region.ready .any C k↔i∈Region.ready .any a k/\(i=y->k.getD x false=true):=by
 have g:C.size=a.size:=by have:=dE List.length l;rw[CT]at this;simpa using this
 have b:∀j,C[j]?=(kb a.toList y x)[j]?:=λj=>by rw[<-l,pN]
 unfold Region.ready;rw[jM,jM,g,b];by_cases h:i=y
 .subst h;rw[CV,pN];cases m:a[i]? with
  |none=>simp
  |some o=>
   simp[Region.binds];constructor
   .rintro⟨c,d,e,f⟩;exact⟨⟨c,d,e⟩,f⟩
   .rintro⟨⟨c,d,e⟩,f⟩;exact⟨c,d,e,f⟩
 .rw[CU _ _ _ _ h,pN];simp[h]
def AR{b C:Array Oper}{y x:Nat}(c:C.toList=kb b.toList y x):∀{f:Nat} {a:Array Bool} {l:List Nat},vK b f a l->zT y x a l->vK C f a l
 |0,_,_,h,_=>h
 |f+1,a,[],h,_=>by have h:Region.ready .any b a=[]:=h;show Region.ready .any C a=[];refine List.eq_nil_iff_forall_not_mem.2 λi e=>?_;have:=((R3 c a i).1 e).1;rw[h]at this;cases this
 |f+1,a,i::l,h,d=>⟨(R3 c a i).2 ⟨h.1,d.1⟩,AR c h.2 d.2⟩
def Df{F:Fence}{n:Nat}{b:Array Oper}{Q:Exit->Act->World->Prop}:∀{f:Nat} {d:Array Bool} {l:List Nat} {a:Act} {w:World},wpAnyIn F n P .any b Q f d a w->vK b f d l->wpOpsIn F n P b Q l a w
 |0,d,l,a,w,h,c=>by have:l=[]:=c;subst this;exact h.2
 |f+1,d,[],a,w,h,c=>h.1 c
 |f+1,d,i::l,a,w,h,c=>by rw[wpOpsIn_cons];exact wpOpIn_mono (λa w e=>Df e c.2) (h.2 i c.1)
end Sx
namespace Sx
variable {P:Program} {tb:TT}
variable{C a b:Array Oper}{Q:Exit->Act->World->Prop}{F:Fence}{V:List Ent}{N n x y:Nat}{K:X->List Ent->MS->Prop}
def zfe(h:C.toList=kb a.toList y x)(d:Array Value):yielded C d=yielded a d:=by
 funext j
 have f:C[j]?=(kb a.toList y x)[j]?:=by rw[<-h,pN]
 have g:a[j]?=a.toList[j]?:=by rw[pN]
 unfold yielded;rw[f,g];rcases VZ a.toList y x j with⟨b,c⟩|⟨o,i,b,c,e⟩
 .rw[b,c]
 .rw[b,c];simp only[sd,e.1]
def zbg(d:C.toList=kb b.toList y x){i:Nat}{K:Act->World->Prop}{a:Act}{w:World}(h:wpOpIn F n P C Q i K a w):wpOpIn F n P b Q i K a w:=by
 have f:C[i]?=(kb b.toList y x)[i]?:=by rw[<-d,pN]
 have g:b[i]?=b.toList[i]?:=by rw[pN]
 unfold wpOpIn at h ⊢;rw[f,zfe d]at h;rw[g];by_cases c:i=y
 .subst c;rw[CV]at h;cases e:b.toList[i]? with
  |none=>rw[e]at h;exact h
  |some o=>rw[e]at h;exact h
 .rw[CU _ _ _ _ c]at h;exact h
def EF{F:Fence}{n:Nat}{b C:Array Oper}{Q:Exit->Act->World->Prop}{y x:Nat}(c:C.toList=kb b.toList y x):∀{l:List Nat} {a:Act} {w:World},wpOpsIn F n P C Q l a w->wpOpsIn F n P b Q l a w
 |[],_,_,h=>h
 |i::l,a,w,h=>by rw[wpOpsIn_cons]at h ⊢;exact wpOpIn_mono (λ_ _ d=>EF c d) (zbg c h)
def On(hP:tb.ok P)(hm:P.follows .mixedOrders=true){id:Nat}{F:Bool}{e:Array Oper}(he:C.toList=kb e.toList y x){q:List Nat}{Y:List (Nat×Nat)}{m:MS}{sw:Nat->Nat}(R:xh sw C.toList q Y=true)(h:nA P tb N C.toList Y V q [] [] m (λA U=>K .U A U) λd U=>K (.P d) V U){E:Gh}{r:Option Nat}{nn:Nat}{O:Ro}{J:Bl}{g:Act}{c:World}(b:Sim E O J V m N g c):wpAnyIn (FR r) nn P .any C (QK E O J N F (jK (.region id e true)) g c K) C.size (Array.replicate C.size false) g {c with drawn:=c.drawn+1}:=by
 have Z:=HR R;have f:∀j,kK (Array.replicate C.size false) j=false:=λj=>by unfold kK;simp only[oO,LN];split<;>rfl
 have n:rq C.size (kK (Array.replicate C.size false))=C.size:=by unfold rq;rw[Mg.2 λj _=>by simp[f],tJ]
 have l:Gr O J c O J {c with drawn:=c.drawn+1}:=⟨rfl,rfl,rfl,a9 _,λ_ _ _=>⟨rfl,rfl⟩,Le.refl _ _,λ_ h=>.inl h,rfl⟩;have L:Mem E O J m {c with drawn:=c.drawn+1}:=b.m.to l ⟨b.m.len,b.m.A6,b.m.box,b.m.inj,b.m.tail,b.m.A3,b.m.known,b.m.R,λi y x hy hx=>(b.m.obj i y x hy hx).to (Le.refl _ _) λ_ _=>⟨rfl,rfl⟩,b.m.A2,b.m.I⟩;have W:lB C.toList=jK (.region id e true):=by rw[he,Lw];rfl
 exact Aw hP Z b.l (Q:=QK E O J N F (jK (.region id e true)) g c K) (K:=λA U=>K .U A U) (Kp:=λd U=>K (.P d) V U)
  ⟨λS t A U T M u s v w z G=>QK.put (x:=.U) u trivial v (λ_=>s) s.size w z (W▸G),
   λS t U T M d x u s v w z G h7=>QK.put (x:=.P d) u ⟨x,rfl,s⟩ v (λhd=>b3 rfl (hd d)) z w G (W▸h7)⟩
  C.size (Array.replicate C.size false) O J g _ 0 (λ_=>([],.d .un)) [] m eA n λj o ho p=>by rw[f]at p;cases p
  ⟨dG _,λk _ _ a=>b3 a (jm _),λk _ _ _ a=>b3 a (jm _),λk _ _ a=>b3 a (jm _),λk _ _ a=>b3 a (jm _)⟩
  ⟨L,l,b.l.size,rfl,gN.refl _ _,λk _ a=>b3 a (jm _),(λj p=>by rw[f]at p;cases p),λk _ _ _ a=>b3 a (jm _),λk _ _ _ a=>b3 a (jm _),λ_ _=>rfl,λk _ _ a=>b3 a (jm _)⟩ h
def HT(p:tb.ok P)(l:P.follows .mixedOrders=true)(x y:Nat)(n:x≠y)(b:List Nat)(h:List (Nat×Nat))(c:List Nat)(i:List (Nat×Nat)){id:Nat}{F:Bool}{m:MS}(e:yS (kb a.toList y x) b h=true)(f:xh (swP x y) (kb a.toList x y) c i=true)(v:nA P tb N (kb a.toList y x) h V b [] [] m (λA U=>K .U A U) λd U=>K (.P d) V U)(w:nA P tb N (kb a.toList x y) i V c [] [] m (λA U=>K .U A U) λd U=>K (.P d) V U):eB P N F id a V m K:=by
 intro E r u O J G L C q;refine wpIn_region_draw λt=>?_;simp only[Region.schedule,l,Bool.true_or,xw];have k:=Jd a a.size t (Array.replicate a.size false);have s:∀z o,(⟨kb a.toList z o⟩:Array Oper).size=a.size:=λz o=>by show(kb a.toList z o).length=_;rw[CT];rfl
 rcases HW x y n k with j|j
 .have g:=On p l (C:=⟨kb a.toList y x⟩) rfl (id:=id) (F:=F) e v (r:=r) (nn:=u) q;rw[s]at g;exact EF rfl (Df g (AR rfl k j))
 .have g:=On p l (C:=⟨kb a.toList x y⟩) rfl (id:=id) (F:=F) f w (r:=r) (nn:=u) q;rw[s]at g;exact EF rfl (Df g (AR rfl k j))
end Sx
namespace Sx
attribute [local irreducible] b6 eF fR ez eH eB eM fx dC ec dU dx
section
variable {s:St} {M:Int} {c:Call} {G:Rn} {n:Int} {a:Bool} {v:Nat} {d:Int->Nat}
def R5(l:StOk s d)(j:BoxOk (s.box M.toNat))(k:CallOk s M c):b6 a6 305 [.B 0 []] ⟨[eE (dp s M c G n a) v],[v],[]⟩ (MX (pJ s M)):=by
 have e:0<=M/\M<8:=⟨k.t0,k.t1⟩;refine fm func305 ?_;refine HT c6 ey 15 16 a8 (List.range 20) [(15,32767),(16,32767),(17,24576),(18,16384)] [0,1,2,3,4,5,6,7,8,9,10,11,12,13,14,16,15,17,18,19] [(15,32767),(16,32767),(17,24576),(18,16384)] ey ey ?_ ?_
 .refine a4 e (c9 (MJ (s.box M.toNat) j) (λ_ h=>h) (iF (by first|exact(show _/\_ from⟨rfl,rfl⟩)|exact(show _/\_ from⟨e,rfl,rfl⟩)) (kT ?_ ?_)));rotate_left
  .repeat' (first|exact trivial|refine iF (by first|exact(show _/\_ from⟨rfl,rfl⟩)|exact(show _/\_ from⟨e,rfl,rfl⟩)) ?_)
  refine iF (by first|exact(show _/\_ from⟨rfl,rfl⟩)|exact(show _/\_ from⟨e,rfl,rfl⟩)) (kT ?_ ?_);rotate_left
  .repeat' (first|exact trivial|refine iF (by first|exact(show _/\_ from⟨rfl,rfl⟩)|exact(show _/\_ from⟨e,rfl,rfl⟩)) ?_)
  refine kv (lA (s.box M.toNat)) _ (λf=>?_) λf=>?_
  .refine dL 10 (a4 e ?_);conv=>whnf
   refine⟨eE (nD (dp s M c G n a) M.toNat (ia (s.box M.toNat))) _,vV (dp s M c G n a) _ _ _,?_⟩;apply a4<;>intro b
   .have b:(((gJ (s.box M.toNat)).D != 0)&&!(gJ (s.box M.toNat)).sh)=true:=b;refine dL 7 (qv (Bo (x:=nD (dp s M c G n a) M.toNat (ia (s.box M.toNat))) l.t (h:=(gJ (s.box M.toNat)).D) (M:=M)) rfl (λg i=>?_) λg m i=>?_)
    .exact a4 rfl (kL (r:=⟨0,(gJ (s.box M.toNat)).word,(gJ (s.box M.toNat)).D⟩) (x':=nU (nD (dp s M c G n a) M.toNat (ia (s.box M.toNat))) (iI s.o s.t (gJ (s.box M.toNat)).D M ⟨1,iz M,0⟩)) (by rw[pJ,b9 f,b,dZ];exact b9 g))
    .exact a4 rfl (fL (by rw[pJ,b9 f,b,dZ];exact eR g))
   .have b:(((gJ (s.box M.toNat)).D != 0)&&!(gJ (s.box M.toNat)).sh)=false:=b;exact a4 rfl (kL (r:=⟨0,(gJ (s.box M.toNat)).word,(gJ (s.box M.toNat)).D⟩) (x':=nD (dp s M c G n a) M.toNat (ia (s.box M.toNat))) (by rw[pJ,b9 f,b];rfl))
  .exact a4 rfl (fL (x':=dp s M c G n a) (eR f))
 .refine a4 e (c9 (MJ (s.box M.toNat) j) (λ_ h=>h) (iF (by first|exact(show _/\_ from⟨rfl,rfl⟩)|exact(show _/\_ from⟨e,rfl,rfl⟩)) (kT ?_ ?_)));rotate_left
  .repeat' (first|exact trivial|refine iF (by first|exact(show _/\_ from⟨rfl,rfl⟩)|exact(show _/\_ from⟨e,rfl,rfl⟩)) ?_)
  refine iF (by first|exact(show _/\_ from⟨rfl,rfl⟩)|exact(show _/\_ from⟨e,rfl,rfl⟩)) (kT ?_ ?_);rotate_left
  .repeat' (first|exact trivial|refine iF (by first|exact(show _/\_ from⟨rfl,rfl⟩)|exact(show _/\_ from⟨e,rfl,rfl⟩)) ?_)
  refine kv (lA (s.box M.toNat)) _ (λf=>?_) λf=>?_
  .refine dL 10 (a4 e ?_);conv=>whnf
   refine⟨eE (nD (dp s M c G n a) M.toNat (ia (s.box M.toNat))) _,vV (dp s M c G n a) _ _ _,?_⟩;apply a4<;>intro b
   .have b:(((gJ (s.box M.toNat)).D != 0)&&!(gJ (s.box M.toNat)).sh)=true:=b;refine dL 7 (qv (Bo (x:=nD (dp s M c G n a) M.toNat (ia (s.box M.toNat))) l.t (h:=(gJ (s.box M.toNat)).D) (M:=M)) rfl (λg i=>?_) λg m i=>?_)
    .exact a4 rfl (kL (r:=⟨0,(gJ (s.box M.toNat)).word,(gJ (s.box M.toNat)).D⟩) (x':=nU (nD (dp s M c G n a) M.toNat (ia (s.box M.toNat))) (iI s.o s.t (gJ (s.box M.toNat)).D M ⟨1,iz M,0⟩)) (by rw[pJ,b9 f,b,dZ];exact b9 g))
    .exact a4 rfl (fL (by rw[pJ,b9 f,b,dZ];exact eR g))
   .have b:(((gJ (s.box M.toNat)).D != 0)&&!(gJ (s.box M.toNat)).sh)=false:=b;exact a4 rfl (kL (r:=⟨0,(gJ (s.box M.toNat)).word,(gJ (s.box M.toNat)).D⟩) (x':=nD (dp s M c G n a) M.toNat (ia (s.box M.toNat))) (by rw[pJ,b9 f,b];rfl))
  .exact a4 rfl (fL (x':=dp s M c G n a) (eR f))
end
end Sx
namespace Sx
attribute [local irreducible] b6 eF fR ez eH eB eM fx dC ec dU dx s0 vH uI vG
variable{K:MS->Prop}{v:Nat}
def WM{C:SV}{r:Rs}(h:K ⟨[C,.d (fu r)],[v],[]⟩):uI a6 97 [.B 1 []] ⟨[C,.d (fu r)],[v],[]⟩ K:=by
 refine HM c6 func97 rfl rfl rfl rfl rfl rfl rfl rfl rfl rfl (dF rfl) (dF rfl) (dF rfl) ?_;exact b0 (a4 (.inl rfl) h)
def Hv{C:SV}{r:Rs}{e:Int}(h:K ⟨[C,.d (fu ⟨e,0,0⟩)],[v],[]⟩):vH a6 97 [.B 1 []] (.ic 62 (.z .i64 e)) ⟨[C,.d (fu r)],[v],[]⟩ K:=by
 refine xf c6 func97 rfl rfl rfl rfl rfl rfl rfl rfl rfl rfl (dF rfl) (dF rfl) (dF rfl) ?_;exact ej (b0 (a4 (.inl rfl) h))
end Sx
namespace Sx
variable{K:Option SV->Prop}{o:Out}
def CX(n:Int)(a:Bool)(s:St)(M:Int)(c:Call)(G:Rn)(x':Cl)(r:Rs):Prop:=
 (a=false->match fr s M c G with
  | .ok (W,A,b)=>r=A/\x'.s=W/\x'.back=b
  | .error e=>r=⟨e,0,0⟩)/\
 (a=true->s.alive M.toNat=true->c.C=2->match jX s M c with
  | .ok k=>r.e=0/\x'.C7=(bif k==0 then n else k)
  | .error e=>r.e=e)
def CZ(n:Int)(a:Bool)(s:St)(M:Int)(c:Call)(G:Rn)(o:Out)(m:MS):Prop:=
 ∃f b,m=⟨[eE b f],[f],[]⟩/\((∃r,o=.ret (.d (fu r))/\CX n a s M c G b r)\/∃e,o=lZ e/\CX n a s M c G b ⟨e,0,0⟩)
def M5{t:Int}(h:0<=t/\t<8):dC .and .i64 t 7=t:=by
 have:t=0\/t=1\/t=2\/t=3\/t=4\/t=5\/t=6\/t=7:=a3
 rcases this with h|h|h|h|h|h|h|h<;>subst h<;>rfl
def P9{n:Int}{K:Option SV->Prop}:∀{l:List (Int×FuncId)},(∀f,mF l n=some f->K (some (.fn (.func f) (.d .un))))->(mF l n=none->K none)->xA n K (l.map λe=>(e.1,.fn (.func e.2) (.d .un)))
 |[],_,b=>b rfl
 |(k,f)::l,g,b=>by
  refine⟨λh=>?_,λh=>P9 (λi j=>g i ?_) λm=>b ?_⟩
  .exact g f (by unfold mF;rw[if_pos h.symm])
  .unfold mF;rw[if_neg λe=>h e.symm];exact j
  .unfold mF;rw[if_neg λe=>h e.symm];exact m
def zas{n:Int}(b:∀f,mF nI n=some f->K (some (.fn (.func f) (.d .un))))(e:mF nI n=none->K none):xA n K xg:=P9 (l:=nI) b e
def zat{n:Int}{A:Prop}(g:A=K (some (.fn (.func 291) (.d .un))))(b:∀f,mF nI n=some f->K (some (.fn (.func f) (.d .un))))(e:mF nI n=none->K none):(n=1->A)/\(n≠1->xA n K xg.tail):=by subst g;exact zas b e
attribute [local irreducible] b6 eF fR ez eH eB eM fx dC ec dU dx s0 vH uI vG
section
variable {s:St} {M:Int} {c:Call} {G:Rn} {n:Int} {a:Bool} {v:Nat} {d:Int->Nat}
def XP{m:MS}{R:Ex}(g:fr s M c G=R)(hd:c.C≠2)(h:MX R o m):CZ n a s M c G o m:=by
 obtain⟨p,q,l,h⟩:=h;refine⟨p,q,l,?_⟩;cases f:R with
 |ok y=>
  obtain⟨W,r,b⟩:=y;rw[f]at h;obtain⟨i,j,k⟩:=h;exact .inl ⟨r,i,(λ_=>by rw[g,f];exact⟨rfl,j,k⟩),λ_ _ e=>b3 e hd⟩
 |error e=>
  rw[f]at h;exact .inr ⟨e,h,(λ_=>by rw[g,f]),λ_ _ e=>b3 e hd⟩
def XO{m:MS}(j:fr s M c G=mN s M c G)(h:AX n a s M c G o m):CZ n a s M c G o m:=by
 obtain⟨u,w,p,g,i⟩:=h;refine⟨u,w,p,?_⟩;cases a with
 |false=>
  have g:=g rfl;cases f:mN s M c G with
  |ok y=>
   obtain⟨W,r,b⟩:=y;rw[f]at g;exact .inl ⟨r,g.1,(λ_=>by rw[j,f];exact⟨rfl,g.2⟩),ef⟩
  |error e=>
   rw[f]at g;exact .inr ⟨e,g,(λ_=>by rw[j,f]),ef⟩
 |true=>
  have i:=i rfl;cases f:jX s M c with
  |ok k=>
   rw[f]at i;obtain⟨⟨r,l,t⟩,q⟩:=i;exact .inl ⟨r,t,ef,λ_ _ _=>by rw[f];exact⟨l,q⟩⟩
  |error e=>
   rw[f]at i;exact .inr ⟨e,i.1,ef,λ_ _ _=>by rw[f]⟩
def zaN(u:StD s)(x:wY s)(r:CallOk s M c)(F:dw G\/G.n=0)(C:s.alive M.toNat=true){f:FuncId}(p:mF nI c.C=some f):b6 a6 f [.B 0 []] ⟨[eE (dp s M c G n a) v],[v],[]⟩ (CZ n a s M c G):=by
 obtain⟨d,t⟩:=u.ok;have i:no ((decide (M>=0)&&decide (M<8))&&s.alive M.toNat) 12=0:=by rw[eI r.t0,eI r.t1,C];rfl
 have J:∀{k:Int} {R:Ex},c.C=k->(fr s M c G=dV 0 R)->fr s M c G=R:=λ_ h=>h.trans (b9 rfl);have j:∀{k:Int} {g:FuncId} {l:List (Int×FuncId)},mF ((k,g)::l) c.C=some f->(c.C=k/\f=g)\/(c.C≠k/\mF l c.C=some f):=λ{k g l} h=>by
  unfold mF at h;by_cases e:k=c.C
  .rw[if_pos e]at h;cases h;exact .inl ⟨e.symm,rfl⟩
  .rw[if_neg e]at h;exact .inr ⟨λh=>e h.symm,h⟩
 have w:=λb E=>(x b E).1;have q:∀{R:Ex},c.C≠2->fr s M c G=R->b6 a6 f [.B 0 []] ⟨[eE (dp s M c G n a) v],[v],[]⟩ (MX R)->b6 a6 f [.B 0 []] ⟨[eE (dp s M c G n a) v],[v],[]⟩ (CZ n a s M c G):=λy z A=>fa A λo m h=>XP z y h;rcases j p with⟨e,rfl⟩|⟨_,p⟩
 .exact q a3 (by unfold fr;rw[i,e];rfl) (za0 t r)
 rcases j p with⟨e,rfl⟩|⟨_,p⟩
 .exact fa (V7 t r F) λo m h=>XO (by unfold fr;rw[i,e];rfl) h
 rcases j p with⟨e,rfl⟩|⟨_,p⟩
 .exact q a3 (by unfold fr;rw[i,e];rfl) (zap t r)
 rcases j p with⟨e,rfl⟩|⟨_,p⟩
 .exact q a3 (by unfold fr;rw[i,e];rfl) (zd7 t r)
 rcases j p with⟨e,rfl⟩|⟨_,p⟩
 .exact q a3 (by unfold fr;rw[i,e];rfl) (zcU t r)
 rcases j p with⟨e,rfl⟩|⟨_,p⟩
 .exact q a3 (by unfold fr;rw[i,e];rfl) (XR t r)
 rcases j p with⟨e,rfl⟩|⟨_,p⟩
 .exact q a3 (by unfold fr;rw[i,e];rfl) (XL t r)
 rcases j p with⟨e,rfl⟩|⟨_,p⟩
 .exact q a3 (by unfold fr;rw[i,e];rfl) (YQ t r)
 rcases j p with⟨e,rfl⟩|⟨_,p⟩
 .exact q a3 (by unfold fr;rw[i,e];rfl) (Yy t r)
 rcases j p with⟨e,rfl⟩|⟨_,p⟩
 .exact q a3 (by unfold fr;rw[i,e];rfl) (zds t r)
 rcases j p with⟨e,rfl⟩|⟨_,p⟩
 .exact q a3 (by unfold fr;rw[i,e];rfl) (Yc t r)
 rcases j p with⟨e,rfl⟩|⟨_,p⟩
 .exact q a3 (by unfold fr;rw[i,e];rfl) (zai t r)
 rcases j p with⟨e,rfl⟩|⟨_,p⟩
 .exact q a3 (by unfold fr;rw[i,e];rfl) (YD t u.r r)
 rcases j p with⟨e,rfl⟩|⟨_,p⟩
 .exact q a3 (by unfold fr;rw[i,e];rfl) (zdm t w r)
 rcases j p with⟨e,rfl⟩|⟨_,p⟩
 .exact q a3 (by unfold fr;rw[i,e];rfl) (R5 t (w _ (by have:=r.t0;have:=r.t1;omega)) r)
 rcases j p with⟨e,rfl⟩|⟨_,p⟩
 .exact q a3 (by unfold fr;rw[i,e];rfl) (R5 t (w _ (by have:=r.t0;have:=r.t1;omega)) r)
 rcases j p with⟨e,rfl⟩|⟨_,p⟩
 .exact q a3 (by unfold fr;rw[i,e];rfl) (W7 r)
 rcases j p with⟨e,rfl⟩|⟨_,p⟩
 .exact q a3 (by unfold fr;rw[i,e];rfl) (zcM t r)
 rcases j p with⟨e,rfl⟩|⟨_,p⟩
 .exact q a3 (by unfold fr;rw[i,e];rfl) (XT t r)
 rcases j p with⟨e,rfl⟩|⟨_,p⟩
 .exact q a3 (by unfold fr;rw[i,e];rfl) (Yj u x r)
 rcases j p with⟨e,rfl⟩|⟨_,p⟩
 .exact q a3 (by unfold fr;rw[i,e];rfl) (WP u x r)
 rcases j p with⟨e,rfl⟩|⟨_,p⟩
 .exact q a3 (by unfold fr;rw[i,e];rfl) (zdM r)
 cases p
def Qv{k:Int}(h:mF nI k=none):∀i:Int,1<=i->i<=22->k≠i:=by
 intro i f g e;subst e;have:k=1\/k=2\/k=3\/k=4\/k=5\/k=6\/k=7\/k=8\/k=9\/k=10\/k=11\/k=12\/k=13\/k=14\/k=15\/k=16\/k=17\/k=18\/k=19\/k=20\/k=21\/k=22:=a3
 rcases this with b|b|b|b|b|b|b|b|b|b|b|b|b|b|b|b|b|b|b|b|b|b<;>subst b<;>cases h
def NH(J:StD s)(E:wY s)(k:CallOk s M c)(F:dw G\/G.n=0):b6 a6 50 [.B 0 []] ⟨[eE (dp s M c G n a) v],[v],[]⟩ λo m=>∃v' x' r,o=.ret (.d (fu r))/\m=⟨[eE x' v'],[v'],[]⟩/\CX n a s M c G x' r:=by
 refine Dz (fa (K:=λo m=>∃v' x' r,o=.ret (.d (fu r))/\m=⟨[eE x' v',.d (fu r)],[v'],[]⟩/\CX n a s M c G x' r) ?_ ?_)
 .refine HN func50 rfl ey rfl rfl (g:=97) func97 ey rfl (List.range' 3 60) ?_;conv=>whnf
  refine⟨_,_,rfl,XQ (t:=2) (u:=5) rfl rfl rfl a8 rfl rfl rfl rfl rfl rfl,?_⟩;refine Bj (eJ c6 ?_) ey;refine dL 25 (a4 (λ_=>⟨(GY M).1,Int.lt_of_le_of_lt (GY M).2 a8⟩) ?_);conv=>whnf
  have z:(0<=M/\M<8):=⟨k.t0,k.t1⟩;refine nv ((decide (M>=0)&&decide (M<8))&&s.alive (dC .and .i64 M 7).toNat) 12 _ (λj=>?_) λj=>?_
  .rw[M5 z]at j;have p:s.alive M.toNat=true:=(iZ.1 j).2;refine fg (List.range 12) [(6,0)] (zat rfl (λf q=>?_) λq=>?_)
   .refine nv true 2 _ (λ_=>?_) ef;refine yA (zaN J E k F p q) rfl (zg _ v) (λo m ⟨v',x',w,_⟩=>⟨_,_,w⟩) λo L v' ⟨N,x',w,l⟩=>?_;have x:=dE MS.c w;have y:=dE MS.t w;simp only[oP,px]at x y;subst x y;rcases l with⟨r,rfl,l⟩|⟨e,rfl,l⟩
    .refine WM (r:=r) ?_;exact⟨_,rfl,v',x',r,rfl,rfl,l⟩
    .refine Hv (r:=⟨0,0,0⟩) ?_;exact⟨_,rfl,v',x',⟨e,0,0⟩,rfl,rfl,l⟩
   .refine nv false 2 _ ef λ_=>?_;refine Hv (r:=⟨0,0,0⟩) ?_;refine⟨_,rfl,v,dp s M c G n a,⟨2,0,0⟩,rfl,rfl,λ_=>?_,λ_ _ e=>b3 e (Qv q 2 a8 a8)⟩;have b:∀i:Int,1<=i->i<=22->(c.C==i)=false:=λi A C=>fc.2 (Qv q i A C);have:fr s M c G=.error 2:=by unfold fr;rw[eI k.t0,eI k.t1,p,b 1 a8 a8,b 2 a8 a8,b 3 a8 a8,b 4 a8 a8,b 5 a8 a8,b 6 a8 a8,b 7 a8 a8,b 8 a8 a8,b 9 a8 a8,b 10 a8 a8,b 11 a8 a8,b 12 a8 a8,b 13 a8 a8,b 14 a8 a8,b 15 a8 a8,b 16 a8 a8,b 17 a8 a8,b 18 a8 a8,b 19 a8 a8,b 20 a8 a8,b 21 a8 a8,b 22 a8 a8];rfl
    rw[this]
  .rw[M5 z]at j;refine Hv (r:=⟨0,0,0⟩) ?_;refine⟨_,rfl,v,dp s M c G n a,⟨12,0,0⟩,rfl,rfl,λ_=>?_,λ_ p _=>?_⟩
   .have:fr s M c G=.error 12:=by unfold fr;rw[j];rfl
    rw[this]
   .rw[p,eI k.t0,eI k.t1]at j;cases j
 .rintro o U ⟨v',x',r,rfl,rfl,l⟩;exact⟨.d (fu r),λ_ _ _ h=>h,rfl,v',x',r,rfl,rfl,l⟩
end
end Sx
end Go.Proofs.YtfbhkfhbnkncoaaGreatDoor
