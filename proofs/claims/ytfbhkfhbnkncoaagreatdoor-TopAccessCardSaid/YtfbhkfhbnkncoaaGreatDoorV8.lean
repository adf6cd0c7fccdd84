import Derived.Test.YtfbhkfhbnkncoaaGreatDoorV7
import Derived.RangeFuncRecord
import Derived.Laws.MakeOwn
set_option linter.all false
namespace Go.Proofs.YtfbhkfhbnkncoaaGreatDoor
open Go.RowKit
namespace Sx
variable {E:Gh} {r:Option Nat} {nn:Nat}
variable {P:Program} {tb:TT} {O:Ro} {J:Bl} {m:MS} {w:World}
variable{a:Act}{next:Act->World->Prop}{args:Array Operand}{Kp:D->MS->Prop}{Q:Exit->Act->World->Prop}{vs:List Value}{cap n:Nat}{f:Nat->D}{A:Option Addr}{o:Option Operand}{q:Option Prop}{G:Prop->Prop}{t:Ty}{α:Type}{T e:TypeId}{x:Value}
def SV.B4:∀{v:SV},v.nt=true->v.agg=v.shape.agg
 | .d _,_=>D.B4
 | .B ..,_| .el _,_| .fn ..,_| .ow ..,_| .H ..,_| .ob _,_| .ar ..,_| .fb ..,_=>rfl
 | .tu _,h=>by cases h
def eX.nt:∀{v:SV} {cs:List Value},eX O J v cs->v.nt=true
 | .d _,_,_| .B ..,_,_| .el _,_,_| .fn ..,_,_| .ow ..,_,_| .H ..,_,_| .ob _,_,_| .ar ..,_,_| .fb ..,_,_=>rfl
 | .tu _,_,h=>h.elim
def du.fb{k:FuncId}{v:SV}(h:du O J (.fb k v) x):∃y,du O J v y/\x=.func (.func k) #[y] #[]:=by obtain⟨y,f,u⟩:=h.2 rfl;exact⟨y,fJ.v ⟨(λj=>by rw[f.2]at j;cases j),λ_=>f.1⟩,b8 u⟩
def yz{ρ:Operand->Option SV}(c:∀x v,ρ x=some v->du O J v (a.eval x)){u:SV}(d:nb ρ args.toList=some [u]):∃x,args.map a.eval= #[x]/\du O J u x:=by
 have h:=s8 c d
 match b:args.toList.map a.eval,h with
 |[x],h=>exact⟨x,nW (b8 b),h.1⟩
 |[],h=>cases h
 |_::_::_,h=>exact h.2.elim
def Ah{ρ:Operand->Option SV}(c:∀x v,ρ x=some v->du O J v (a.eval x)){u v:SV}(d:nb ρ args.toList=some [u,v]):∃x y,args.map a.eval= #[x,y]/\du O J u x/\du O J v y:=by obtain⟨x,y,b,e,f⟩:=Dm (s8 c d);exact⟨x,y,nW (b8 b),e,f⟩
def jf.len{O:Ro}{J:Bl}:∀{args:List SV} {G:List Value},jf O J args G->args.length=G.length
 |[],[],_=>rfl
 |_::_,_::_,⟨_,h⟩=>by simp[h.len]
 |[],_::_,h=>h.elim
 |_::_,[],h=>h.elim
def zj{l:Array α}{x:α}(h:l.toList=[x]):l= #[x]:=nW (b8 h)
def AT{l:Array α}{x y:α}(h:l.toList=[x,y]):l= #[x,y]:=nW (b8 h)
def Nr{ρ:Operand->Option SV}{z:Operand->Value}(e:∀x v,ρ x=some v->du O J v (z x)){n:Nat}{t:Ty}:∀{l:List (Nat×Operand)} {v u:SV} {C:List Value},tU ρ n t l v=some u->eX O J v C->v.shape=.ar n t->
 ∃out,Instr.fill (λi=>some (i*t.size,t.size)) C.toArray (l.map λx=>(x.1,z x.2))=some out/\eX O J u out.toList/\u.shape=.ar n t
 |[],v,u,C,h,j,b=>by simp only[tU,fW]at h;subst h;exact⟨C.toArray,rfl,b8 j,b⟩
 |(k,x)::r,v,u,C,h,j,b=>by
  unfold tU at h;split at h
  .rename_i q g K;have g:=dF g;split at h
   .rename_i f;simp only[dH,fY]at f;split at h
    .rename_i L y;have c:=((e _ _ K).a (SV.D6 f.2)).cells;have d:=c.length;rw[f.1]at d;have a:=j.length;rw[b]at a;have o:k*t.size+t.size<=n*t.size:=by rw[<-iO];exact gF _ g
     obtain⟨s,p⟩:=SV.A4 j (by rw[b];exact ED g) c f.1 y;obtain⟨out,A,F,G⟩:=Nr e (l:=r) h p (s.trans b);refine⟨out,?_,F,G⟩;rw[oT,Ib (off:=k*t.size) (F:=t.size) rfl (b8 d) (by rw[a];exact o)];exact A
    .cases h
   .cases h
  .cases h
def Gb{z:Array Value}{i:Nat}(d:i<n):((Builtin.zeroCells z n).toList.drop (i*z.size)).take z.size=z.toList:=by
 have e:i*z.size+z.size<=n*z.size:=by rw[<-iO];exact gF _ d
 apply z4;intro j;rcases jB j z.size with a|a
 .rw[tI a,sT];unfold Builtin.zeroCells;have b:i*z.size+j<n*z.size:=a3
  have c:(i*z.size+j) % z.size=j:=by rw[Nat.add_comm,Nat.add_mul_mod_self_right,CG a]
  rw[pN,Array.getElem?_map,Array.getElem?_range];simp[b,c,a]
 .rw[wT (by rw[kO];omega),wT (b8 a)]
def vT{ρ:Operand->Option SV}(h:ot ρ o=some none):o.map a.eval=none:=by
 cases o with
 |none=>rfl
 |some x=>simp only[ot]at h;split at h<;>cases h
def Hr{ρ:Operand->Option SV}(c:∀x v,ρ x=some v->du O J v (a.eval x)){i:Int}(h:ot ρ o=some (some i)):∃k,o.map a.eval=some (.int k i):=by
 rcases tT c h with⟨b,_⟩|⟨_,k,b,e⟩
 .cases b
 .cases b;exact⟨k,e⟩
def No{lo g:Option Value}{l h:Option Int}(c:(l=none/\lo=none)\/∃i k,l=some i/\lo=some (.int k i))(b:(h=none/\g=none)\/∃i k,h=some i/\g=some (.int k i))(d:0<=l.getD 0)(e:l.getD 0<=h.getD n)(f:h.getD n<=n):
 (Instr.sliceBounds false n n lo g none).run P w=.ok ((l.getD 0).toNat,(h.getD n).toNat,n) w:=by
 rcases c with⟨rfl,rfl⟩|⟨j,u,rfl,rfl⟩<;>rcases b with⟨rfl,rfl⟩|⟨a,t,rfl,rfl⟩<;>simp only[Option.getD_none,tO]at d e f ⊢
 .simp[Instr.sliceBounds]
 .simp[Instr.sliceBounds,Instr.sliceBound,asIntOf,e,f]
 .simp[Instr.sliceBounds,Instr.sliceBound,asIntOf,d,e]
 .have o:0<=a:=a3
  have p:j<=((a.toNat:Nat):Int):=a3
  have q:((0:Int)<=a/\a<=(n:Int)):=⟨o,f⟩;have s:((0:Int)<=j/\j<=((a.toNat:Nat):Int)):=⟨d,p⟩;simp only[Instr.sliceBounds,Instr.sliceBound,asIntOf,jt,m9,lQ,if_pos q,if_pos s]
def Uj(x:tb.ok P){b:TI}(h:tb.get e=some b):∃c:Value,(zeroValue e).run P w=.ok c w/\dM O b.zero.d c.cells.toList/\c.cells.size=b.zero.d.shape.size/\∀n,∀v∈(Builtin.zeroCells c.cells n).toList,v.oneCell'=true:=by
 obtain⟨o,⟨F,q,f,g⟩⟩:=x _ _ h;obtain⟨i,s,A⟩:=fB.1 o.1;simp only[s,qs,fW]at q g;have a:=(fJ.Z (O:=O) (J:=⟨[],[],[],[],0⟩) (v:=.d b.zero.d) (b.zero.rep O)).cells;rw[show(SV.d b.zero.d).agg=b.ag from f]at a;generalize C:(if b.ag then Value.agg b.zero.cells.toArray else b.zero.cells.headD undef)=c at q a;refine⟨c,by simp[zeroValue,typeInfo,s,q],a,by have:=a.length;show _=(SV.d b.zero.d).shape.size;simpa using this,λn v p=>?_⟩;have u:=a.one;unfold Builtin.zeroCells at p;rw[Gf]at p;obtain⟨j,y,rfl⟩:=l6.1 p;have k:j<n*c.cells.size:=b8 y
 have d:0<c.cells.size:=by
  rcases pt c.cells.size with t|z
  .rw[t]at k;omega
  .exact z
 have l:=Nat.mod_lt j d;rw[getElem!_pos c.cells (j % c.cells.size) l];exact u _ eA
def NQ(d:P.underlying T=some (.slice e)){f:Value}(k:(zeroValue e).run P w=.ok f w){ty:TypeId}{M:World}(b:∀a,A=some a->(storeCells a (Builtin.zeroCells f.cells n).toList).run P w=.ok () M)(c:A=none->M=w):
 (Builtin.clear_ #[T] ty #[.slice A n cap]).run P w=.ok (.tuple #[]) M:=by
 cases A with
 |none=>rw[c rfl];cases n<;>simp[Builtin.clear_,run_underlying d]
 |some a=>
  cases n with
  |zero=>
   have h:=b a rfl;have g:(Builtin.zeroCells f.cells 0).toList=[]:=by simp[Builtin.zeroCells]
   rw[g]at h;have j:M=w:=by
    have i:(storeCells a ([]:List Value)).run P w=.ok () w:=rfl;rw[i]at h;injection h with _ h
    exact h.symm
   rw[j];simp[Builtin.clear_,run_underlying d]
  |succ n=>simp[Builtin.clear_,run_underlying d,k,b a rfl]
def zc5(x:Mem E O J m w){id v:Nat}(hr:lz m id=some (v,n,t,f)){lo:Nat}{S:Nat}(hx:du O J (.ob (.mq id v lo)) (.slice A S cap)){z:D}(G:z.shape=t)(R:vs.length=(n - lo)*t.size)(p:∀v∈vs,v.oneCell'=true)(W:∀i,i<n - lo->dM O z ((vs.drop (i*t.size)).take t.size)):
 ∃o M,S=n - lo/\(∀a,A=some a->(storeCells a vs).run P w=.ok () M)/\(A=none->M=w)/\Mem E O o ⟨m.c,m.t,m.o.set id (.row v n t (mQ lo (n - lo) (λ_=>z) f))⟩ M/\Gr O J w O o M:=by
 obtain⟨b,c,d⟩:=x.A8 hr;obtain⟨ac,N⟩:=d.mq hx;have l:=d.nc;unfold sliced at N;cases N;rcases pt (n - lo)with u|hp
 .have F:vs=[]:=vN (by rw[R,u];omega);subst F;have V:mQ lo (n - lo) (λ_=>z) f=f:=by
   funext i
   rw[Ar,if_neg a3]
  obtain⟨h,g⟩:=x.B6 (y':=.row v b n c t.size) (x':=.row v n t f) (M:=w) d.I (BO.le_refl _) (λb s=>.inl s) rfl rfl rfl (a9 _) (λ_ _ _=>rfl) λZ=>qf l d.nil d.N;rw[V];exact⟨_,w,rfl,λa _=>rfl,λ_=>rfl,h,g⟩
 .obtain⟨k,rfl⟩:=d.some a3;obtain⟨u,C,T,K,h2,U⟩:=d.N k rfl;have y:¬c=lo:=a3
  rw[if_neg y];have ab:lo*t.size+(n - lo)*t.size=n*t.size:=by rw[<-nG];congr 1;omega
  have aa:n*t.size<=c*t.size:=gF _ l;have q:=run_storeCells_at P k (lo*t.size) T vs 0 C w K a3 p;simp only[wZ]at q;obtain⟨h,g⟩:=x.B6 (y':=.row v (some k) n c t.size) (x':=.row v n t (mQ lo (n - lo) (λ_=>z) f)) (M:=w.setRow k (C.toList.take (lo*t.size)++vs++C.toList.drop (lo*t.size+vs.length)).toArray) d.I (BO.le_refl _) (λb s=>.inl s) rfl rfl rfl eA
   (λb s hn=>setRow_other _ _ _ _ λe=>hn (by rw[e];rfl)) (λZ=>qf l ef λk' Y=>by
    cases Y;refine⟨u,_,T,setRow_heap _ _ _ _ _ _ K,by simp;omega,λj Q=>?_⟩;rw[CD,JO (n:=n) (k:=n - lo) (by rw[pO];omega) R a3 Q,Ar];split
    .exact⟨G,W _ a3⟩
    .exact U j Q)
  refine⟨_,_,rfl,λa L=>?_,ef,h,g⟩;simp only[kC,qs,na,ld,fW]at L;subst L;exact q
def zc6(K:Mem E O J m w){id v:Nat}(hr:lz m id=some (v,n,t,f))(hx:du O J (.ob (.mr id v)) x){k:Nat}(W:k<=n){g:Nat->D}(hv:vs.length=k*t.size)(y:∀v∈vs,v.oneCell'=true)(V:∀i,i<k->(g i).shape=t/\dM O (g i) ((vs.drop (i*t.size)).take t.size)):
 ∃A cap u M,x=.slice A n cap/\(∀a,A=some a->(storeCells a vs).run P w=.ok () M)/\(A=none->M=w)/\Mem E O u ⟨m.c,m.t,m.o.set id (.row v n t (mQ 0 k g f))⟩ M/\Gr O J w O u M:=by
 obtain⟨b,c,d⟩:=K.A8 hr;have p:=d.nc;rw[d.mr hx];cases b with
 |none=>
  have hc:=d.nil rfl;have U:mQ 0 k g f=f:=by
   funext i
   rw[Ar,if_neg a3]
  obtain⟨o,h⟩:=K.B6 (y':=.row v none n c t.size) (x':=.row v n t f) (M:=w) d.I (BO.le_refl _) (λb G=>.inl G) rfl rfl rfl (a9 _) (λ_ _ _=>rfl) λZ=>qf p d.nil d.N;rw[U];exact⟨_,_,_,w,rfl,(λa F=>by cases F),λ_=>rfl,o,h⟩
 |some q=>
  obtain⟨S,C,R,N,h2,T⟩:=d.N q rfl;have aa:n*t.size<=c*t.size:=gF _ p;have Y:k*t.size<=n*t.size:=gF _ W;have z:=run_storeCells_at P q 0 R vs 0 C w N a3 y;simp only[wZ]at z;obtain⟨o,h⟩:=K.B6 (y':=.row v (some q) n c t.size) (x':=.row v n t (mQ 0 k g f)) (M:=w.setRow q (C.toList.take 0++vs++C.toList.drop (0+vs.length)).toArray) d.I (BO.le_refl _) (λb G=>.inl G) rfl rfl rfl eA (λb G hn=>setRow_other _ _ _ _ λe=>hn (by rw[e];rfl)) (λZ=>qf p ef λk' L=>by
   cases L;refine⟨S,_,R,setRow_heap _ _ _ _ _ _ N,by simp;omega,λj Q=>?_⟩;have:=JO (l:=C.toList) (vs:=vs) (s:=t.size) (n:=n) (lo:=0) (k:=k) (i:=j) (by rw[pO];omega) hv a3 Q;rw[Nat.zero_mul]at this;rw[CD,this,Ar];split
   .exact V _ a3
   .exact T j Q)
  refine⟨_,_,_,_,rfl,λa F=>?_,ef,o,h⟩;simp only[kC,qs,fW]at F;subst F;exact z
def GU{n:Int}{v:SV}:∀{l:List (Int×SV)},Dc l=true->iy l n=some v->v.nt=true
 |[],_,h=>by cases h
 |(a,b)::r,c,h=>by
  simp only[Dc,dH]at c;unfold iy at h;split at h
  .cases h;exact c.1
  .exact GU c.2 h
def Tu(f:tb.ok P){j:Bool}{K:SV->MS->Prop}{x k y:Option SV}(h:zQ tb m j K T x k y):∃id a n u l Z b,x=some (.ob (.mo id))/\k=some (.d (.z a n))/\y=some u/\P.underlying T=some (.map Z b)/\P.underlying Z=some (.int a)/\xC m id=some (a,l)/\K (.tu (.d .un)) ⟨m.c,m.t,m.o.set id (.map a (pH l n u))⟩:=by
 unfold zQ at h;split at h
 .rename_i id a n u s o p z t g;obtain⟨Z,b,d,e,_⟩:=(f T _ g).2.1;split at h
  .rename_i q l i;split at h
   .rename_i c;simp only[dH,fY]at c;obtain⟨rfl,rfl,_⟩:=c;rw[sJ]at h;exact⟨id,_,n,u,l,Z,b,rfl,rfl,rfl,d,e,i,h⟩
   .cases h
  .cases h
 .cases h
def YH(o:Mem E O J m w){n:Int}:∃c b,w.heap[J.g]?=some (.map c b)/\((Instr.findNow (.int .u8) (.int .u8 n) c.toList 0=some none/\iy xg n=none)\/∃i v x,Instr.findNow (.int .u8) (.int .u8 n) c.toList 0=some (some (i,x))/\iy xg n=some v/\du O J v x):=by
 obtain⟨c,b,j,k⟩:=o.B1.map;refine⟨c,b,j,?_⟩;have h:∀(l:List (Int×FuncId)),iy (l.map λp=>(p.1,SV.fn (.func p.2) (.d .un))) n=(mF l n).map λf=>SV.fn (.func f) (.d .un):=λl=>by
  induction l with
  |nil=>rfl
  |cons p r u=>
   obtain⟨a,f⟩:=p;simp only[oT];unfold iy mF;by_cases d:a=n
   .rw[show ng a n=true from pY.2 d,if_pos d];rfl
   .have q:ng a n=false:=by
     cases t:ng a n with
     |false=>rfl
     |true=>exact b3 (pY.1 t) d
    rw[q,if_neg d];exact u
 have s:xg=nI.map λp=>(p.1,SV.fn (.func p.2) (.d .un)):=rfl;rw[s,h];rcases k n with⟨e,g⟩|⟨i,f,e,g⟩
 .exact .inl ⟨e,by rw[g];rfl⟩
 .exact .inr ⟨i,SV.fn (.func f) (.d .un),.func (.func f) #[] #[],e,by rw[g];rfl,⟨ef,λ_=>⟨[],rfl,rfl⟩⟩⟩
def BA{v:SV}{b:Bool}(d:du O J v x)(c:v.nt=true):du O J (.tu (.H v (.H (.d (.I b)) (.d .un)))) (.tuple #[x,.bool b]):=
 ⟨[x,.bool b],⟨x,_,rfl,d.a (SV.D6 c),⟨_,_,rfl,(lY b).a (λa e=>by cases e),rfl⟩⟩,rfl⟩
def za8{k:Prop}(h:tn (λp=>p) q k):(∀p,q=some p->p)/\k:=by
 unfold tn at h;cases q with
 |none=>exact⟨(λp a=>by cases a),h⟩
 |some p=>exact⟨(λb a=>by cases a;exact h.1),h.2⟩
def Wf(b:Mem E O J m w)(c:P.underlying T=some (.slice e)){id:Nat}{y:SV}{a:Nat}{t':Ty}{f':Nat->D}(h:He m id y=some (q,a,t',f'))(g:∀p,q=some p->p)(d:du O J y x):
 ∃L,Src P t'.size T x a L w/\L.length=a*t'.size/\∀i,i<a->(f' i).shape=t'/\dM O (f' i) ((L.drop (i*t'.size)).take t'.size):=by
 unfold He at h;split at h
 .split at h
  .rename_i n l t2 k j;cases h;obtain⟨rfl,_⟩:=g _ rfl;exact zda b c j d
  .cases h
 .split at h
  .rename_i f;cases h;exact KL b c (d.B9 f).X
  .cases h
set_option maxHeartbeats 2000000 in
def zfa(hP:tb.ok P){o:Oper}(hM:Mem E O J m w){ρ:Operand->Option SV}(hρ:∀x v,ρ x=some v->du O J v (a.eval x))(hG:∀p,G p->p){H:Bool}{K:SV->MS->Prop}(h:ib P tb o.op m ρ G H K Kp)(g:Goes E P O J w o a next Q K Kp):o.wpIn (FR r) nn P a w next Q:=by
 obtain⟨aC,op,ae,aD,ah,ai⟩:=o;have skip:∀{M:World} {bx au U},(∀c,op≠.defer c)->(execOp a.eval {dst:=aC,op:=op,type:=ae,pos:=aD,after:=ah,guard:=ai}).run P w=.ok .skip M->K (.tu (.d .un)) U->Mem E bx au U M->Gr O J w bx au M->Oper.wpIn (FR r) nn P {dst:=aC,op:=op,type:=ae,pos:=aD,after:=ah,guard:=ai} a w next Q:=λhd hr hK ab aa=>by refine wB hd ?_;rw[hr];exact g.ok _ _ _ _ _ _ hK Fe ab aa
 cases op with
 |store T x y=>
  simp only[ib]at h;split at h
  .rename_i id aN i u hx hy;split at h
   .rename_i d hd;split at h
    .rename_i v n t f ie hr hT;split at h
     .rename_i hc;simp only[dH,fY]at hc;obtain⟨h1,f2,rfl,hK⟩:=h;obtain⟨rfl,_⟩:=hG _ h1;obtain⟨A,au,M,ad,F,ab,aa⟩:=zdb (P:=P) hM hr (hρ _ _ hx) (T:=T) (by rw[fp hc.2];exact(hP _ _ hT).1.1) ((hρ _ _ hy).B9 hd) hc.1;rw[sJ]at hK;exact skip (by intro c h;cases h) (by simp[execOp,Instr.storeAt,Instr.sureAddr,ad,F]) hK ab aa
     .exact h.elim
    .exact h.elim
   .exact h.elim
  .exact h.elim
 |load T x=>
  simp only[ib]at h;split at h
  .rename_i id aN i hx;split at h
   .rename_i v n t f ie hr hT;split at h
    .rename_i hc;simp only[od,dH,gG]at hc;obtain⟨rfl,_⟩:=hG _ h.1;obtain⟨A,y,ad,F,hy⟩:=zc9 (P:=P) hM hr (hρ _ _ hx) (T:=T) (by rw[fp hc.1,hc.2];exact(hP _ _ hT).1);exact g.val (M:=w) (by simp[execOp,Instr.loadAt,Instr.sureAddr,ad,F]) h.2 hy hM (Gr.refl _ _ _)
    .exact h.elim
   .exact h.elim
  .rename_i g0 hx;split at h
   .rename_i ie bN hT;have bN:=fp bN;subst bN;split at h
    .rename_i hc;simp only[od,dH,gG]at hc;have ad:a.eval x=.pointer (some ⟨0,0,none⟩):=(hρ _ _ hx).hd;obtain⟨C,ty,fz,aQ,ci⟩:=hM.B1.var;have al:0<C.size:=(nX.1 ci).1;have bA:TF P T 1 false:=by
      have:=(hP _ _ hT).1
      rwa [<-fp hc.1,<-hc.2]at this
     have F:=Fo (P:=P) bA aQ (o:=0) (by omega) (λ_=>rfl);have e1:((C.toList.drop 0).take 1).headD undef=.map (some J.g):=by
      have:C.toList[0]?=some (.map (some J.g)):=by simpa using ci
      cases hq:C.toList with
      |nil=>rw[hq]at this;cases this
      |cons y r=>rw[hq]at this;simpa using this
     rw[if_neg (by decide),e1]at F;exact g.val (M:=w) (by simp[execOp,Instr.loadAt,Instr.sureAddr,ad,F]) h (ka.v rfl) hM (Gr.refl _ _ _)
    .exact h.elim
   .exact h.elim
  .exact h.elim
 |indexAddr T x ix=>
  simp only[ib]at h;split at h
  .rename_i id aN k i ie hx bq hT;have bp:=(hρ _ _ bq).z.1;obtain⟨e,hu,R⟩:=ox hP hT;split at h
   .rename_i v n t f hr;split at h
    .rename_i hs;have hs:=fp hs;obtain⟨rfl,h0,h1⟩:=hG _ h.1;obtain⟨b,c,hR⟩:=hM.A8 hr;have ad:=hR.mr (hρ _ _ hx);obtain⟨q,rfl⟩:=hR.some (by omega);refine g.val (M:=w) (x:=.pointer (some ⟨q,i.toNat*t.size,none⟩)) ?_ h.2 (ka.v ⟨rfl,_,_,_,_,_,hR.I,a9 _,λ_=>⟨by omega,q,rfl,rfl⟩⟩) hM (Gr.refl _ _ _);have F:(Instr.indexAt T (.slice (kC (some q)) n c) (.int k i)).run P w=.ok (.pointer (some (({block:=q,off:=0}:Addr).add (i.toNat*ie.size)))) w:=by simp[kC,Instr.indexAt,asIntOf,run_underlying hu,h0,h1,(hP _ _ R).1.sizeOf]
     rw[na,ld,<-hs]at F;simp[execOp,ad,bp,F]
    .exact h.elim
   .exact h.elim
  .rename_i id bd lo n k i ie hx bq hT;have bp:=(hρ _ _ bq).z.1;obtain⟨e,hu,R⟩:=ox hP hT;split at h
   .rename_i n' t f aP;split at h
    .rename_i hs;have hs:=fp hs;obtain⟨h0,h1⟩:=hG _ h.1;obtain⟨aj,da,o,c,t',hb,ho,aA,A,cap,ad,ba,hA⟩:=(hρ _ _ hx).hd;obtain⟨ht,_⟩:=Dl hM aP hb ho;cases ht;cases hA (by omega);have cq:=zn ho (s:=[lo+i.toNat]) (ED (by omega));refine g.val (M:=w) (x:=.pointer (some ⟨aj,o+(lo+i.toNat)*t.size,none⟩)) ?_ h.2 ⟨(λh=>by cases h),λ_=>⟨aj,_,_,_,hb,cq,rfl⟩⟩ hM (Gr.refl _ _ _);have F:(Instr.indexAt T (.slice (some ⟨aj,o+lo*t.size,none⟩) n cap) (.int k i)).run P w=.ok (.pointer (some (({block:=aj,off:=o+lo*t.size}:Addr).add (i.toNat*ie.size)))) w:=by simp[Instr.indexAt,asIntOf,run_underlying hu,h0,h1,(hP _ _ R).1.sizeOf]
     rw[na,<-hs,sa,<-nG]at F;simp[execOp,ad,bp,F]
    .exact h.elim
   .exact h.elim
  .exact h.elim
 |index T x ix=>
  simp only[ib]at h;split at h
  .rename_i n t f k i s ag n' e z hx bq hT;have bp:=(hρ _ _ bq).z.1;have hu:P.underlying T=some (.array n' e):=(hP T _ hT).2.1;split at h
   .rename_i ie R;split at h
    .rename_i hs;simp only[dH,od,gG]at hs;have h1:=fp hs.1;have h2:=fp hs.2.1;subst h1;have hi:=hG _ h.1;obtain⟨C,⟨gg,cj,bO⟩,ad⟩:=(hρ _ _ hx).1 rfl;have bR:i.toNat<n:=by omega
     obtain⟨g1,g2⟩:=bO _ bR;have hk:∀j,j<n->(gg j).length=t.size:=λj hj=>by rw[(bO j hj).2.length,(bO j hj).1]
     have ar:C.length=n*t.size:=by rw[cj];exact u5 hk
     have bt:=xp hk bR;rw[<-cj]at bt;have bg:i.toNat*t.size+t.size<=n*t.size:=by rw[<-iO];exact gF _ bR
     have bA:=(hP _ _ R).1;rw[<-h2,<-hs.2.2]at bA;have F:=KE (P:=P) (w:=w) bA (C:=C) (o:=i.toNat*t.size) (by omega) (λh=>by cases t<;>first|rfl|cases h);rw[bt]at F;have hr:=fJ.Z (J:=J) (v:=f i.toNat) g2;rw[show(f i.toNat).agg=t.agg from by rw[<-g1];exact SV.B4 g2.nt]at hr;refine g.val (M:=w) ?_ h.2 hr.v hM (Gr.refl _ _ _);simp[execOp,Instr.index,asIntOf,ad,bp,run_underlying hu,hi,(hP _ _ R).1.sizeOf,<-h2,F]
    .exact h.elim
   .exact h.elim
  .exact h.elim
 |slice T x lo hi mx=>
  simp only[ib]at h;split at h
  .rename_i id aN l hh mm hx aA aJ aK;split at h
   .rename_i v n t f ie hr hT;obtain⟨e,hu,R⟩:=ox hP hT;split at h
    .rename_i hs;have hs:=fp hs;have bm:P.elem T=e:=by simp[Program.elem,hu]
     have aZ:P.underlying T=some (.slice (P.elem T)):=by rw[bm];exact hu
     have bc:(sizeOf (P.elem T)).run P w=.ok t.size w:=by rw[bm,hs];exact(hP _ _ R).1.sizeOf w
     unfold Jp at h;split at h
     .rename_i ih;split at h
      .exact h.elim
      .obtain⟨rfl,h0,h1⟩:=hG _ h.1;obtain⟨b,c,au,ad,de,hy,ab,aa⟩:=zc7 hM hr (hρ _ _ hx) (h:=ih.toNat) (by omega);have bi:=vT (a:=a) aA;obtain⟨kh,bh⟩:=Hr hρ aJ;have aF:=vT (a:=a) aK;have F:=run_slice_h (P:=P) w T (kC b) n c aZ kh ih h0 (by omega);rw[bc]at F;have e1:sliced (kC b) 0 ih.toNat c t.size=.slice (kC b) ih.toNat c:=by
        unfold sliced;cases b with
        |none=>simp[kC]
        |some q=>simp[kC,na]
       rw[sJ]at h;refine g.val (M:=w) (x:=.slice (kC b) ih.toNat c) ?_ h.2 hy ab aa;have:(execOp a.eval {dst:=aC,op:=.slice T x lo hi mx,type:=ae,pos:=aD,after:=ah,guard:=ai}).run P w=((Instr.slice T (.slice (kC b) n c) (lo.map a.eval) (hi.map a.eval) (mx.map a.eval)).run P w).andThen λv w=>.ok (.value v) w:=by rw[<-run_sliceAt_slice (P:=P) w T _ _ _ _ aZ,<-ad];cases lo<;>cases hi<;>cases mx<;>simp[execOp]
       rw[this,bi,bh,aF,F,<-e1];rfl
     .rename_i il;obtain⟨rfl,h0,h1⟩:=hG _ h.1;obtain⟨b,c,hR⟩:=hM.A8 hr;have ad:=hR.mr (hρ _ _ hx);obtain⟨kl,bi⟩:=Hr hρ aA;have bh:=vT (a:=a) aJ;have aF:=vT (a:=a) aK;have F:=run_slice_l (P:=P) w T (kC b) n c aZ kl il h0 h1;rw[bc]at F;refine g.val (M:=w) (x:=sliced (kC b) il.toNat n c t.size) ?_ h.2 (ka.v ⟨rfl,_,_,_,_,_,hR.I,a9 _,λ_=>⟨by omega,rfl⟩⟩) hM (Gr.refl _ _ _);have:(execOp a.eval {dst:=aC,op:=.slice T x lo hi mx,type:=ae,pos:=aD,after:=ah,guard:=ai}).run P w=((Instr.slice T (.slice (kC b) n c) (lo.map a.eval) (hi.map a.eval) (mx.map a.eval)).run P w).andThen λv w=>.ok (.value v) w:=by rw[<-run_sliceAt_slice (P:=P) w T _ _ _ _ aZ,<-ad];cases lo<;>cases hi<;>cases mx<;>simp[execOp]
      rw[this,bi,bh,aF,F];rfl
     .exact h.elim
    .exact h.elim
   .exact h.elim
  .rename_i s l hh hx aA aJ aK;split at h
   .rename_i W ag z hT;have hu:P.underlying T=some .string:=(hP T _ hT).2.1;have ad:a.eval x=.string s:=by have:=(hρ _ _ hx).2 rfl;simpa[eX,dM]using this
    obtain⟨h0,h1,h2⟩:=hG _ h.1;have aF:=vT (a:=a) aK;have hb:=No (P:=P) (w:=w) (tT hρ aA) (tT hρ aJ) h0 h1 h2;refine g.val (M:=w) (x:=.string (s.extract (l.getD 0).toNat (hh.getD s.size).toNat)) ?_ h.2 ⟨(λh=>by cases h),λ_=>rfl⟩ hM (Gr.refl _ _ _);have:(execOp a.eval {dst:=aC,op:=.slice T x lo hi mx,type:=ae,pos:=aD,after:=ah,guard:=ai}).run P w=((Instr.slice T (.string s) (lo.map a.eval) (hi.map a.eval) none).run P w).andThen λv w=>.ok (.value v) w:=by rw[<-run_sliceAt_string (P:=P) w T _ _ _ _ hu,<-ad,<-aF];cases lo<;>cases hi<;>cases mx<;>simp[execOp]
    rw[this];simp only[Instr.slice,jt,run_underlying hu,lQ,Option.isSome_none,if_neg Bool.false_ne_true,hb,m9]
   .exact h.elim
  .rename_i id bd l hh hx aA aJ aK;split at h
   .rename_i n' t f n ie aP hT;split at h
    .rename_i hc;simp only[dH]at hc;have hn:=fp hc.1;have hs:=fp hc.2;subst hn;obtain⟨h0,h1,h2⟩:=hG _ h.1;obtain⟨aj,da,o,t',hb,ho,ad⟩:=(hρ _ _ hx).B;obtain⟨ht,_⟩:=Dl hM aP hb ho;subst ht;have aF:=vT (a:=a) aK;have ch:=No (P:=P) (w:=w) (tT hρ aA) (tT hρ aJ) h0 h1 h2;have F:(Instr.sliceAt T (.pointer (some ⟨aj,o,none⟩)) (lo.map a.eval) (hi.map a.eval) none).run P w=.ok (.slice (some (if n=(l.getD 0).toNat then⟨aj,o,none⟩else(⟨aj,o,none⟩:Addr).add ((l.getD 0).toNat*t.size))) ((hh.getD n).toNat -(l.getD 0).toNat) (n -(l.getD 0).toNat)) w:=by
      unfold Nf at hT;split at hT
      .rename_i s ag n0 e z aO;obtain⟨cX,R,hq⟩:=fB.1 hT;cases hq;have hu:P.underlying T=some (.array n e):=(hP T _ aO).2.1;simp[Instr.sliceAt,Instr.sureAddr,run_underlying hu,ch,(hP _ _ R).1.sizeOf,<-hs]
      .rename_i s ag q z aO;have hu:P.underlying T=some (.pointer q):=(hP T _ aO).2.1;split at hT
       .rename_i s2 cd n0 e z2 cC;obtain⟨cX,R,hq⟩:=fB.1 hT;cases hq;have bY:P.underlying q=some (.array n e):=(hP q _ cC).2.1;simp[Instr.sliceAt,Instr.slice,Instr.sureAddr,asAddr,run_underlying hu,run_underlying bY,ch,(hP _ _ R).1.sizeOf,<-hs]
       .cases hT
      .cases hT
     refine g.val (M:=w) (x:=_) (by
      have:(execOp a.eval {dst:=aC,op:=.slice T x lo hi mx,type:=ae,pos:=aD,after:=ah,guard:=ai}).run P w=((Instr.sliceAt T (.pointer (some ⟨aj,o,none⟩)) (lo.map a.eval) (hi.map a.eval) none).run P w).andThen λv w=>.ok (.value v) w:=by rw[<-ad,<-aF];cases lo<;>cases hi<;>cases mx<;>simp[execOp]
      rw[this,F];rfl) h.2 (ka.v ⟨aj,_,o,n,t,hb,ho,by omega,_,_,rfl,by omega,λhp=>?_⟩) hM (Gr.refl _ _ _)
     rw[if_neg (by omega),na]
    .exact h.elim
   .exact h.elim
  .rename_i t f h0 hx aA aJ aK;split at h
   .rename_i ie hT;obtain⟨e,hu,R⟩:=ox hP hT;have bm:P.elem T=e:=by simp[Program.elem,hu]
    have aZ:P.underlying T=some (.slice (P.elem T)):=by rw[bm];exact hu
    have bc:(sizeOf (P.elem T)).run P w=.ok ie.size w:=by rw[bm];exact(hP _ _ R).1.sizeOf w
    obtain rfl:0=h0:=hG _ h.1;obtain⟨x',en,dg,aS,_,aY,av⟩:=(hρ _ _ hx).2 rfl;cases av;cases aS;obtain⟨A,hA⟩:∃A,a.eval x=.slice A 0 0:=by
     rcases aY rfl with h1|⟨_,_,_,_,h1,_⟩
     .exact h1
     .cases h1
    have bi:=vT (a:=a) aA;obtain⟨kh,bh⟩:=Hr hρ aJ;have aF:=vT (a:=a) aK;have F:=run_slice_h (P:=P) w T A 0 0 aZ kh 0 (i6 _) (i6 _);rw[bc]at F;refine g.val (M:=w) (x:=.slice A 0 0) ?_ h.2 (hA▸hρ _ _ hx) hM (Gr.refl _ _ _);have:(execOp a.eval {dst:=aC,op:=.slice T x lo hi mx,type:=ae,pos:=aD,after:=ah,guard:=ai}).run P w=((Instr.slice T (.slice A 0 0) (lo.map a.eval) (hi.map a.eval) (mx.map a.eval)).run P w).andThen λv w=>.ok (.value v) w:=by rw[<-run_sliceAt_slice (P:=P) w T _ _ _ _ aZ,<-hA];cases lo<;>cases hi<;>cases mx<;>simp[execOp]
    rw[this,bi,bh,aF,F];rfl
   .exact h.elim
  .exact h.elim
 |convert S T x=>
  simp only[ib]at h;split at h
  .rename_i s W ag z dh cd z2 hx hS hT;obtain⟨e,hu,R⟩:=ox hP hT;have cQ:P.underlying e=some (.int .u8):=(hP e _ R).2.1;have cR:P.underlying S=some .string:=(hP S _ hS).2.1;have ad:a.eval x=.string s:=by have:=(hρ _ _ hx).2 rfl;simpa[eX,dM]using this
   split at h
   .exact h.elim
   .have F:=Lib.run_convert_string_bytes (P:=P) w S T e s cR hu cQ;have bF:=Lib.bytesWorld_at_new w e s;have aB:=λj hj=>Lib.bytesWorld_at_old w e s j hj;have al:w.heap.size<=(Lib.bytesWorld w e s).heap.size:=by have:=(nX.1 bF).1;omega
    have hk:∀b Y,O b=some Y->b<w.heap.size:=λb Y hr=>hM.A9 hr;have aI:∀b,b<w.heap.size->(a7 O w.heap.size (some (s.data.toList.map λb=>Value.int .u8 b.toNat))) b=O b:=λb hb=>by unfold a7;rw[if_neg (by omega)]
    have bu:(a7 O w.heap.size (some (s.data.toList.map λb=>Value.int .u8 b.toNat))) w.heap.size=some (s.data.toList.map λb=>Value.int .u8 b.toNat):=by unfold a7;exact if_pos rfl
    have bg:Le O J (a7 O w.heap.size (some (s.data.toList.map λb=>Value.int .u8 b.toNat))) J:=⟨λb r hr=>⟨r,by rw[aI b (hk b r hr)];exact hr,wX _⟩,λ_ _ h=>h,λid e' he=>⟨e',he,a9 _,λ_=>⟨rfl,λaj hb=>by
     obtain⟨r,_,_,h1,_⟩:=hM.tail id e' aj he hb;exact aI aj (hk aj r h1)⟩⟩,λ_ x h=>⟨x,h,x.le_refl⟩,rfl⟩
    have bV:(Lib.bytesWorld w e s).os=w.os/\(Lib.bytesWorld w e s).tape=w.tape/\(Lib.bytesWorld w e s).output=w.output:=by unfold Lib.bytesWorld World.freeze;rw[if_neg (by decide)];exact⟨rfl,rfl,rfl⟩
    have aa:Gr O J w (a7 O w.heap.size (some (s.data.toList.map λb=>Value.int .u8 b.toNat))) J (Lib.bytesWorld w e s):=⟨bV.1,bV.2.1,bV.2.2,al,λb hb _=>⟨aB b hb,aI b hb⟩,bg,λ_ h=>.inl h,rfl⟩;have ab:=hM.to aa ⟨hM.len,hM.A6,λid aj t u hb hc=>by
     obtain⟨cl,e',h1,h2,h3,h4⟩:=hM.box id aj t u hb hc;exact⟨cl,e',(aB _ (hM.lt hb)).trans h1,h2.mono bg,h3,by rw[aI aj (hM.lt hb)];exact h4⟩,hM.inj,λid e' aj hi he=>by
     obtain⟨r,cl,ty,h1,h2,h3⟩:=hM.tail id e' aj hi he;exact⟨r,cl,ty,by rw[aI aj (hk _ _ h1)];exact h1,(aB _ (hk _ _ h1)).trans h2,h3⟩,hM.A3,λb r hr=>by
     by_cases hb:b=w.heap.size
     .subst hb;rw[bu]at hr;cases hr;exact⟨_,e,_,bF,by unfold Lib.bytesCells;rw[Ge,Gf];exact Gz _ _⟩
     .have cr:O b=some r:=by unfold a7 at hr;rwa [if_neg hb]at hr
      obtain⟨cl,e',fz,h1,h2⟩:=hM.known b r cr;exact⟨cl,e',fz,(aB _ (hk _ _ cr)).trans h1,h2⟩,hM.R,λid y x hy hx=>(hM.obj id y x hy hx).to bg λb hb=>⟨aB b ((hM.obj id y x hy hx).N hb),aI b ((hM.obj id y x hy hx).N hb)⟩,hM.A2,hM.I⟩
    refine g.val (x:=.slice (some ⟨w.heap.size,0,none⟩) s.size (grownCap w s.size 0 e)) (M:=Lib.bytesWorld w e s) (by simp[execOp,ad,F]) h ⟨(λh=>by cases h),λ_=>?_⟩ ab aa;refine⟨_,_,rfl,grownCap_ge w s.size 0 e,λ_=>⟨_,_,_,λi=>[.int .u8 (fF s i)],rfl,bu,by simp[Ty.size],λi hi=>⟨rfl,⟨rfl,Nx⟩,?_⟩⟩⟩;have:=Nz hi;simpa[Ty.size]using this
  .exact h.elim
 |call c=>
  obtain⟨bz,an,aE⟩:=c;cases bz with
  |value f=>
   simp only[ib]at h;split at h
   .rename_i id l hf hl;split at h
    .rename_i ps as bD N V cp;rw[wc]at cp;split at h
     .exact h.elim
     .obtain⟨lb,bI,bM⟩:=(hρ _ _ hf).yl;obtain⟨fn,aM,df,dd,I,bW,al,cI⟩:=hM.obj id _ _ bI cp;cases bW;have aG:=s8 hρ hl;have ar:=aG.len;obtain⟨cD,bC⟩:=h;refine wB (by intro c h;cases h) ?_;have F:(execOp a.eval {dst:=aC,op:=.call ⟨.value f,an,aE⟩,type:=ae,pos:=aD,after:=ah,guard:=ai}).run P w=.ok (.round lb fn ((ps.toArray.zip (an.toList.map a.eval).toArray).foldl (λaM (t,a)=>aM.setIfInBounds t a) aM) as bD) w:=by
       have ac:(an.toList.map a.eval).toArray=an.map a.eval:=nW (by simp);have ct:(an.map a.eval).size=ps.toArray.size:=by have h1:(an.toList.map a.eval).length=ps.length:=ar.symm.trans cD;simpa using h1
       have hy:=run_yield (P:=P) (args:=an.map a.eval) (show w.heap[lb]?=some (.loop {state:=.ready,pending:=none,fn:=fn,tmps:=aM,params:=ps.toArray,assign:=as,body:=bD,defers:=df}) from I) ct;rw[ac];simp only[execOp,resolve,jt,m9,lQ,bM,Deferred.ofValue,invoke,Array.empty_append,Array.append_empty];exact hy
      rw[F];refine⟨λh=>(by cases h),?_⟩;refine RoundIn.mono (bC E (nn - 1) O J w _ lb fn aM df hM aG bI I al (cI (by simp))) ?_;rintro e M ⟨bx,au,U,v,x,rfl,hx,ab,aa,hK⟩;exact g.ok _ _ _ _ _ _ hK hx ab aa
    .exact h.elim
   .rename_i k v l hf hl;obtain⟨y,hy,bM⟩:=(hρ _ _ hf).fb;have aG:=s8 hρ hl;have hA:jf O J (v::l) (y::an.toList.map a.eval):=⟨hy,aG⟩;have F:∀(hE:uJ P k),(execOp a.eval {dst:=aC,op:=.call ⟨.value f,an,aE⟩,type:=ae,pos:=aD,after:=ah,guard:=ai}).run P w=.ok (.enter k (y::an.toList.map a.eval).toArray) w:=λhE=>by simp[execOp,resolve,bM,Deferred.ofValue,invoke,hE _ _]
    split at h
    .obtain⟨u,hv,hK⟩:=h;exact Ao g hM hA (F (hG _ hv).1) (mD (hG _ hv) hK)
    .exact Ao g hM hA (F h.1) h
   .exact h.elim
  |invoke r s=>exact h.elim
  |builtin b=>
   cases b with
   |len=>
    simp only[ib]at h;split at h
    .rename_i id aN T hl hT;obtain⟨x,ac,hx⟩:=yz hρ hl;have af:=zj hT;split at h
     .rename_i v n t f ie hr R;obtain⟨e,hu,_⟩:=ox hP R;obtain⟨rfl,hi⟩:=hG _ h.1;obtain⟨b,c,hR⟩:=hM.A8 hr;cases hR.mr hx;refine g.val (M:=w) ?_ h.2 (oc (nM hi)) hM (Gr.refl _ _ _);simp[execOp,resolve,invoke,builtin,Builtin.len_,ac,af,run_underlying hu,goInt]
     .exact h.elim
    .rename_i id aN lo T hl hT;obtain⟨x,ac,hx⟩:=yz hρ hl;have af:=zj hT;split at h
     .rename_i v n t f ie hr R;obtain⟨e,hu,_⟩:=ox hP R;obtain⟨rfl,hi⟩:=hG _ h.1;obtain⟨b,c,hR⟩:=hM.A8 hr;obtain⟨aA,av⟩:=hR.mq hx;subst av;refine g.val (M:=w) ?_ h.2 (oc (nM hi)) hM (Gr.refl _ _ _);simp[execOp,resolve,invoke,builtin,Builtin.len_,ac,af,run_underlying hu,goInt,sliced]
     .exact h.elim
    .rename_i id bd lo n T hl hT;obtain⟨x,ac,hx⟩:=yz hρ hl;have af:=zj hT;split at h
     .rename_i ie R;obtain⟨e,hu,_⟩:=ox hP R;obtain⟨_,_,_,_,_,_,_,_,A,cap,rfl,_⟩:=hx.hd;refine g.val (M:=w) ?_ h.2 (oc (nM (hG _ h.1))) hM (Gr.refl _ _ _);simp[execOp,resolve,invoke,builtin,Builtin.len_,ac,af,run_underlying hu,goInt]
     .exact h.elim
    .exact h.elim
   |cap=>
    simp only[ib]at h;split at h
    .rename_i n t f T hl hT;obtain⟨x,ac,hx⟩:=yz hρ hl;have af:=zj hT;split at h
     .rename_i ie R;obtain⟨e,hu,_⟩:=ox hP R;obtain⟨y,en,_,aS,_,aY,av⟩:=hx.2 rfl;cases av;cases aS;obtain⟨A,rfl⟩:∃A,x=.slice A n n:=by
       rcases aY rfl with h1|⟨_,_,_,_,h1,_⟩
       .exact h1
       .cases h1
      refine g.val (M:=w) ?_ h.2 (oc (nM (hG _ h.1))) hM (Gr.refl _ _ _);simp[execOp,resolve,invoke,builtin,Builtin.cap_,ac,af,run_underlying hu,goInt]
     .exact h.elim
    .exact h.elim
   |append=>
    simp only[ib]at h;split at h
    .exact h.elim
    split at h
    .rename_i id aN yv T T' hl hT;obtain⟨x,y,ac,hx,hy⟩:=Ah hρ hl;have af:=AT hT;split at h
     .rename_i v n t f ie q n' t' f' hr R cE;obtain⟨e,hu,R⟩:=ox hP R;split at h
      .rename_i hc;simp only[dH,fY]at hc;obtain⟨⟨bJ,ak⟩,bf,rfl⟩:=hc;have aO:=fp bJ;subst aO;obtain⟨hq,⟨rfl,hb⟩,hK⟩:=za8 h;obtain⟨L,bb,aU,bT⟩:=Wf (P:=P) hM hu cE hq hy;obtain⟨au,M,v',F,bw,ab,aa⟩:=Sm (P:=P) (ty:=ae) hP hM hu R hr (fp ak) (fp bf) hx bb aU bT hb;rw[sJ]at hK;refine g.val (M:=M) ?_ hK bw ab aa;simp only[execOp,resolve,invoke,builtin,ac,af,jt,m9,lQ,F]
      .exact h.elim
     .exact h.elim
    .rename_i t f k T T' hl hT;obtain⟨x,y,ac,hx,hy⟩:=Ah hρ hl;have af:=AT hT;split at h
     .rename_i ie s2 cd k2 z2 R cP;obtain⟨e,hu,R⟩:=ox hP R;have bY:P.underlying T'=some (.int k2):=(hP T' _ cP).2.1;split at h
      .rename_i hc;have hc:=fp hc;obtain⟨⟨cn,aH⟩,hK⟩:=h;obtain⟨rfl,_⟩:=hy.z;obtain⟨x',en,_,aS,_,aY,av⟩:=hx.2 rfl;cases av;cases aS;obtain⟨A,rfl⟩:∃A,x=.slice A 0 0:=by
        rcases aY rfl with h1|⟨_,_,_,_,h1,_⟩
        .exact h1
        .cases h1
       obtain⟨kn,rfl⟩:∃kn:Nat,k=kn:=⟨k.toNat,by omega⟩;obtain⟨al,⟨hk,hz,be,ao⟩⟩:=hP _ _ R;obtain⟨i,hi,aW⟩:=fB.1 al.1;simp only[hi,qs,fW]at hz ao;have ao:=dF ao;have ba:=grownCap_ge w kn 0 e;have aq:=(fJ.Z (O:=O) (J:=J) (v:=.d ie.zero.d) (ie.zero.rep O)).cells;rw[show(SV.d ie.zero.d).agg=ie.ag from be]at aq;generalize cb:(if ie.ag then Value.agg ie.zero.cells.toArray else ie.zero.cells.headD undef)=zv at hz aq;have aw:zv.cells.size=ie.zero.d.shape.size:=by have:=aq.length;show _=(SV.d ie.zero.d).shape.size;simpa using this
       have cH:Builtin.nextslicecap kn 0*i.bytes<=281474976710656:=growslice_fits (by omega) (eY (z7 (show kn<=2147483648 by omega) ao) (by decide));have cT:IntKind.i64.wrap (kn:Int)=kn:=l5 (nM ⟨by omega,by omega⟩);have F:(Builtin.append_ #[T,T'] ae #[.slice A 0 0,.int .i64 kn]).run P w=.ok (.slice (some ⟨w.heap.size,0,none⟩) kn (grownCap w kn 0 e)) (w.drew.alloc (.cells (Builtin.zeroCells zv.cells kn++Builtin.zeroCells zv.cells (grownCap w kn 0 e - kn)) e)):=by
        have cA:¬((kn:Int)<0):=by omega
        have Q:¬((kn:Int)*(i.bytes:Int)>2 ^ 48):=by
         have h1:kn*i.bytes<=140737488355328:=eY (z7 (show kn<=2147483648 by omega) ao) (by decide);have h2:((kn*i.bytes:Nat):Int)<=140737488355328:=by omega
         rw[Int.natCast_mul]at h2;omega
        have ck:¬(Builtin.nextslicecap kn 0*i.bytes>2 ^ 48):=by omega
        have h0:¬(kn<=0):=by omega
        have db:¬((kn:Int)>9223372036854775807):=by omega
        have aB:(Builtin.firstCells i.size 0 (.slice A 0 0)).run P w.drew=.ok #[] w.drew:=by cases A<;>simp[Builtin.firstCells,loadCells,loadCellsFrom]
        have bH:¬(281474976710656<(kn:Int)*(i.bytes:Int)):=Q;have bL:¬(281474976710656<Builtin.nextslicecap kn 0*i.bytes):=ck;have cz:¬kn=0:=by omega
        have bS:¬(9223372036854775807<(kn:Int)):=by omega
        simp[Builtin.append_,run_underlying hu,run_underlying bY,sizeOf,typeInfo,zeroValue,hi,hz,asInt,asIntOf,cT,cA,bH,bL,cz,bS,aB,Question.forced,newRow,grownCap];intro hh;have he:Builtin.zeroCells zv.cells kn= #[]:=Array.eq_empty_of_size_eq_zero (by rw[size_zeroCells,aw,hc,<-aW];exact hh);rw[he,Array.empty_append]
       generalize grownCap w kn 0 e=gc at F ba;obtain⟨ab,aa⟩:=hM.A7 (y:=.row 0 (some w.heap.size) kn gc ie.zero.d.shape.size) (x:=.row 0 kn ie.zero.d.shape λ_=>ie.zero.d) (M:=w.drew.alloc (.cells (Builtin.zeroCells zv.cells kn++Builtin.zeroCells zv.cells (gc - kn)) e)) (λb hb=>by cases hb;exact a9 _) rfl rfl rfl (by simp) (λb hb=>Below.heap_alloc w.drew _ _ hb)
        (λhl=>qf ba (λe=>by cases e) λq hq=>by
         cases hq;refine⟨?_,_,e,heap_alloc_new w.drew _,?_,λj hj=>⟨rfl,?_⟩⟩
         .cases hq:O w.heap.size with
          |none=>rfl
          |some Y=>exact b3 (hM.A9 hq) (ri _)
         .rw[LO,size_zeroCells,size_zeroCells,aw,<-nG,show kn+(gc - kn)=gc by omega]
         .have h1:j*zv.cells.size+zv.cells.size<=kn*zv.cells.size:=by rw[<-iO];exact gF _ hj
          rw[Ge,<-aw,r8 (by rw[pO,size_zeroCells];omega),qp (by rw[oS,pO,size_zeroCells];omega),Gb hj];exact aq)
       have e0:(kn:Int).toNat=kn:=by omega
       rw[e0]at hK;refine g.val (M:=_) ?_ hK (ka.v ⟨rfl,_,_,_,_,_,by rw[<-hM.R];exact rE,a9 _,λ_=>rfl⟩) ab aa;simp only[execOp,resolve,invoke,builtin,ac,af,jt,m9,lQ,F];rfl
      .exact h.elim
     .exact h.elim
    .rename_i t f yv T T' _ hl hT;obtain⟨x,y,ac,hx,hy⟩:=Ah hρ hl;have af:=AT hT;split at h
     .rename_i n' t' f' ie cW R;have cu:=(hy.B9 cW).X;obtain⟨e,hu,R⟩:=ox hP R;split at h
      .rename_i hc;simp only[dH]at hc;obtain⟨⟨bJ,ak⟩,bf⟩:=hc;have aO:=fp bJ;subst aO;have ak:=fp ak;have bf:=fp bf;obtain⟨x',en,cJ,aS,bg,aY,av⟩:=hx.2 rfl;cases av;cases aS;obtain⟨A,rfl⟩:∃A,x=.slice A 0 0:=by
        rcases aY rfl with h1|⟨_,_,_,_,h1,_⟩
        .exact h1
        .cases h1
       obtain⟨hb,hK|⟨dc,hK⟩⟩:=h
       .have cU:du O J (.ow 0 0 0 t' f) (.slice A 0 0):=⟨(λh=>by cases h),λ_=>⟨_,_,cJ.C8,rfl,bg,λ_=>.inl ⟨A,rfl⟩,rfl⟩⟩;obtain⟨bx,au,M,v',hr,bw,ab,aa⟩:=Nd (P:=P) (ty:=ae) hP hM hu R ak bf cU (show AB m.t 0=some 0 from rfl) cu (by omega);refine g.val (M:=M) ?_ hK bw ab aa;simp only[execOp,resolve,invoke,builtin,ac,af,jt,m9,lQ,hr]
       .obtain⟨cg,cf⟩:=hM.A7 (y:=.row 0 none 0 0 t'.size) (x:=.row 0 0 t' (c7 [])) (M:=w) (λb hb=>by cases hb) rfl rfl rfl (a9 _) (λ_ _=>rfl) (λhl=>qf (a9 _) (λ_=>rfl) λk hk=>by cases hk);obtain⟨L,bb,aU,bT⟩:=KL cg hu (cu.mono cf.le.r);have cN:lz ⟨m.c,m.t,m.o++[.row 0 0 t' (c7 [])]⟩ m.o.length=some (0,0,t',c7 []):=by
         unfold lz;rw[wc];show(match(m.o++[Ob.row 0 0 t' (c7 [])])[m.o.length]? with
          |some (.row v n t f)=>some (v,n,t,f)
          |_=>none)=_
         rw[rE]
        have cV:du O (J.A7 (.row 0 none 0 0 t'.size)) (.ob (.mr m.o.length 0)) (.slice none 0 0):=ka.v ⟨rfl,_,_,_,_,_,by rw[<-hM.R];exact rE,a9 _,λ_=>rfl⟩;obtain⟨au,M,v',hr,bw,ab,aa⟩:=Sm (P:=P) (ty:=ae) hP cg hu R cN ak bf cV bb aU bT (by omega);have cy:(Builtin.append_ #[T,T] ae #[.slice A 0 0,y]).run P w=(Builtin.append_ #[T,T] ae #[.slice none 0 0,y]).run P w:=by
         obtain⟨al,⟨hk,hz,be,ao⟩⟩:=hP _ _ R;obtain⟨i,hi,aW⟩:=fB.1 al.1;simp only[hi,qs,fW]at hz ao;have ao:=dF ao;have cm:i.size=t'.size:=by rw[ak,aW]
         have bB:(0+n')*i.bytes<=140737488355328:=eY (z7 (show 0+n'<=2147483648 by omega) ao) (by decide);have cx:∀B:Option Addr,(Builtin.append_ #[T,T] ae #[.slice B 0 0,y]).run P w=_:=λB=>run_append_grow_src (P:=P) w T T ae e i _ hu hi hz B 0 0 [] (by cases B<;>simp[Builtin.firstCells,loadCells,loadCellsFrom]) y n' L (by rw[cm];exact bb) (by omega) (by omega) (growslice_fits (by omega) bB);exact(cx A).trans (cx none).symm
        have eo:(m.o++[Ob.row 0 0 t' (c7 [])]).set m.o.length (.row (0+1) (0+n') t' (fE 0 (c7 []) f'))=m.o++[.row 1 (0+n') t' (fE 0 (c7 []) f')]:=by rw[Vp _ _ (a9 _),tM];rfl
        rw[eo]at ab;refine g.val (M:=M) ?_ hK bw ab (cf.trans aa);simp only[execOp,resolve,invoke,builtin,ac,af,jt,m9,lQ,cy,hr]
      .exact h.elim
     .exact h.elim
    .exact h.elim
   |copy=>
    simp only[ib]at h;split at h
    .exact h.elim
    split at h
    .rename_i id bd lo n yv T T' hl hT;obtain⟨x,y,ac,hx,hy⟩:=Ah hρ hl;have af:=AT hT;split at h
     .rename_i c t f ie n2 t2 bE aP R bX;obtain⟨e,hu,R⟩:=ox hP R;split at h
      .rename_i hc;simp only[dH,fY]at hc;obtain⟨rfl,ak⟩:=hc;have ak:=fp ak;obtain⟨hI,h⟩:=h;unfold Fp at h;split at h
       .rename_i cc bK;obtain⟨f2,rfl,h⟩:=h;split at h
        .rename_i c2 bv;obtain⟨L,ar,aU,bs,ax,ap⟩:=SO (P:=P) hM bX hy;obtain⟨_,_,_,_,_,_,_,_,A,cap,rfl,_⟩:=hx.hd;have aH:Nat.min n2 n<=n2:=Nat.min_le_left _ _;have bP:Nat.min n2 n<=n:=Nat.min_le_right _ _;have bQ:Nat.min n2 n*t2.size<=n2*t2.size:=gF _ aH;obtain⟨M,aX,aV,ab,aa⟩:=Sy (P:=P) hM aP hx (k:=Nat.min n2 n) bP (vs:=L.take (Nat.min n2 n*t2.size)) (by rw[kO,aU];exact sY bQ) (λv hv=>bs v (sV hv)) (λi hi=>⟨(ax i (by omega)).1,by
          have h1:i*t2.size+t2.size<=Nat.min n2 n*t2.size:=by rw[<-iO];exact gF _ hi
          have:=qn (l:=L) (a:=0) (b:=Nat.min n2 n*t2.size) (o:=i*t2.size) (k:=t2.size) h1;simp only[vM,ld]at this;rw[this];exact(ax i (by omega)).2⟩) bK bv
         refine g.val (M:=M) ?_ h (oc (nM (hG _ hI))) ab aa;have aR:(Builtin.copy_ #[T,T'] ae #[.slice A n cap,y]).run P w=.ok (.int .i64 (Nat.min n2 n:Nat)) M:=by
          have al:=(hP _ _ R).1.sizeOf w;rw[<-ak]at al;cases A with
          |none=>
           have:=aV rfl;subst this;simp[Builtin.copy_,run_underlying hu,ar,al,ap _ aH,goInt]
          |some q=>
           have:=aX q rfl;simp[Builtin.copy_,run_underlying hu,ar,al,ap _ aH,goInt,this]
         simp only[execOp,resolve,invoke,builtin,ac,af,jt,m9,lQ,aR]
        .exact h.elim
       .exact h.elim
      .exact h.elim
     .exact h.elim
    .rename_i id aN yv T T' hl hT;obtain⟨x,y,ac,hx,hy⟩:=Ah hρ hl;have af:=AT hT;split at h
     .rename_i v n t f ie n2 t2 bE hr R bX;obtain⟨e,hu,R⟩:=ox hP R;split at h
      .rename_i hc;simp only[dH,fY]at hc;obtain⟨rfl,ak⟩:=hc;have ak:=fp ak;obtain⟨cB,hK⟩:=h;obtain⟨rfl,hI⟩:=hG _ cB;rw[sJ]at hK;obtain⟨L,ar,aU,bs,ax,ap⟩:=SO (P:=P) hM bX hy;have aH:Nat.min n2 n<=n2:=Nat.min_le_left _ _;have bP:Nat.min n2 n<=n:=Nat.min_le_right _ _;have bQ:Nat.min n2 n*t2.size<=n2*t2.size:=gF _ aH;obtain⟨A,cap,au,M,rfl,aX,aV,ab,aa⟩:=zc6 (P:=P) hM hr hx (k:=Nat.min n2 n) bP (vs:=L.take (Nat.min n2 n*t2.size)) (by rw[kO,aU];exact sY bQ) (λv hv=>bs v (sV hv)) (g:=bE) (λi hi=>by
        have h1:i*t2.size+t2.size<=Nat.min n2 n*t2.size:=by rw[<-iO];exact gF _ hi
        have:=qn (l:=L) (a:=0) (b:=Nat.min n2 n*t2.size) (o:=i*t2.size) (k:=t2.size) h1;simp only[vM,ld]at this;rw[this];exact ax i (by omega))
       refine g.val (M:=M) ?_ hK (oc (nM hI)) ab aa;have aR:(Builtin.copy_ #[T,T'] ae #[.slice A n cap,y]).run P w=.ok (.int .i64 (Nat.min n2 n:Nat)) M:=by
        have al:=(hP _ _ R).1.sizeOf w;rw[<-ak]at al;cases A with
        |none=>
         have:=aV rfl;subst this;simp[Builtin.copy_,run_underlying hu,ar,al,ap _ aH,goInt]
        |some q=>
         have:=aX q rfl;simp[Builtin.copy_,run_underlying hu,ar,al,ap _ aH,goInt,this]
       simp only[execOp,resolve,invoke,builtin,ac,af,jt,m9,lQ,aR]
      .exact h.elim
     .exact h.elim
    .exact h.elim
   |clear=>
    simp only[ib]at h;split at h
    .exact h.elim
    split at h
    .rename_i id bd lo n T hl hT;obtain⟨x,ac,hx⟩:=yz hρ hl;have af:=zj hT;split at h
     .rename_i c t f ie aP R;obtain⟨e,hu,R⟩:=ox hP R;split at h
      .rename_i hc;simp only[dH,fY]at hc;obtain⟨rfl,ak⟩:=hc;have ak:=fp ak;obtain⟨zv,aL,aq,aw,bZ⟩:=Uj (P:=P) (O:=O) (w:=w) hP R;unfold Fp at h;split at h
       .rename_i cc bK;obtain⟨f2,rfl,h⟩:=h;split at h
        .rename_i c2 bv;obtain⟨_,_,_,_,_,_,_,_,A,cap,rfl,ba,hA⟩:=hx.hd;obtain⟨M,aX,aV,ab,aa⟩:=Sy (P:=P) hM aP hx (k:=n) (a9 _) (vs:=(Builtin.zeroCells zv.cells n).toList) (by rw[pO,size_zeroCells,aw]) (λv hv=>bZ _ _ hv) (λi hi=>⟨rfl,by rw[<-aw,Gb hi];exact aq⟩) bK bv;refine g.val (M:=M) (x:=.tuple #[]) ?_ h Fe ab aa;have F:=NQ (P:=P) (ty:=ae) (cap:=cap) hu aL aX aV;simp only[execOp,resolve,invoke,builtin,ac,af,jt,m9,lQ,F]
        .exact h.elim
       .exact h.elim
      .exact h.elim
     .exact h.elim
    .rename_i id aN lo T hl hT;obtain⟨x,ac,hx⟩:=yz hρ hl;have af:=zj hT;split at h
     .rename_i v n t f ie hr R;obtain⟨e,hu,R⟩:=ox hP R;split at h
      .rename_i hc;simp only[dH,fY]at hc;obtain⟨rfl,ak⟩:=hc;have:=hG _ h.1;subst this;obtain⟨zv,aL,aq,aw,bZ⟩:=Uj (P:=P) (O:=O) (w:=w) hP R;obtain⟨b,c,hR⟩:=hM.A8 hr;obtain⟨aA,av⟩:=hR.mq hx;unfold sliced at av;subst av;obtain⟨au,M,_,aX,aV,ab,aa⟩:=zc5 (P:=P) hM hr hx (z:=ie.zero.d) rfl (vs:=(Builtin.zeroCells zv.cells (n - lo)).toList) (by rw[pO,size_zeroCells,aw]) (λv hv=>bZ _ _ hv) (λi hi=>by rw[<-aw,Gb hi];exact aq);have hK:=h.2;rw[sJ]at hK;refine g.val (M:=M) (x:=.tuple #[]) ?_ hK Fe ab aa;have F:=NQ (P:=P) (ty:=ae) (cap:=c - lo) hu aL aX aV;simp only[execOp,resolve,invoke,builtin,ac,af,jt,m9,lQ,F]
      .exact h.elim
     .exact h.elim
    .exact h.elim
   |_=>exact h.elim
 |buildSlice T n ps=>
  simp only[ib]at h;split at h
  .exact h.elim
  split at h
  .rename_i ie R;obtain⟨e,hu,R⟩:=ox hP R;split at h
   .rename_i l hc hl;simp only[dH]at hc;split at h
    .rename_i co;rcases h with h|h
     .obtain⟨bx,M,x,hr,hx,ab,aa⟩:=Ns hP hM hu R (fp hc.2) (dF hc.1) hρ hl (fp co);exact g.val (M:=M) (by simp[execOp,hr]) h hx ab aa
     .have hs:=fp hc.2;obtain⟨cs,hr,h1,h2⟩:=Nt (P:=P) (w:=w) (J:=J) hP hu R hs (dF hc.1) hρ hl (fp co);obtain⟨ab,aa⟩:=hM.A7 (y:=.row 0 (some w.heap.size) n n ie.zero.d.shape.size) (x:=.row 0 n ie.zero.d.shape (c7 l)) (M:=w.alloc (.cells cs.toArray e)) (λb hb=>by cases hb;exact a9 _) rfl rfl rfl (by simp) (λb hb=>Below.heap_alloc w _ _ hb)
       (λhl=>qf (a9 _) (λe=>by cases e) λq hq=>by
        cases hq;refine⟨?_,_,e,World.alloc_heap_new w _,by simpa using h1,λj hj=>by simpa using h2 j hj⟩;cases hq:O w.heap.size with
        |none=>rfl
        |some Y=>exact b3 (hM.A9 hq) (ri _))
      exact g.val (M:=_) (x:=.slice (some ⟨w.heap.size,0,none⟩) n n) (by simp[execOp,hr]) h (ka.v ⟨rfl,_,_,_,_,_,by rw[<-hM.R];exact rE,a9 _,λ_=>rfl⟩) ab aa
    .exact h.elim
   .exact h.elim
  .exact h.elim
 |makeSlice T x y=>
  simp only[ib]at h;split at h
  .exact h.elim
  split at h
  .rename_i k1 k k2 k' ie hx hy R;obtain⟨e,hu,R⟩:=ox hP R;split at h
   .rename_i hc;have hc:=fp hc;obtain⟨⟨rfl,cn,aH,cK⟩,hK⟩:=h;have e1:=(hρ _ _ hx).z.1;have e2:=(hρ _ _ hy).z.1;obtain⟨al,⟨hk,hz,be,ao⟩⟩:=hP _ _ R;obtain⟨i,hi,aW⟩:=fB.1 al.1;simp only[hi,qs,fW]at hz ao;have ao:=dF ao;have aq:=(fJ.Z (O:=O) (J:=J) (v:=.d ie.zero.d) (ie.zero.rep O)).cells;rw[show(SV.d ie.zero.d).agg=ie.ag from be]at aq;generalize cb:(if ie.ag then Value.agg ie.zero.cells.toArray else ie.zero.cells.headD undef)=zv at hz aq;have aw:zv.cells.size=ie.zero.d.shape.size:=by have:=aq.length;show _=(SV.d ie.zero.d).shape.size;simpa using this
    obtain⟨kn,rfl⟩:∃kn:Nat,k'=kn:=⟨k'.toNat,by omega⟩;have Q:(i.bytes:Int)*(kn:Int)<=281474976710656:=by
     have h1:i.bytes*kn<=65536*65536:=z7 ao (by omega);have h2:((i.bytes*kn:Nat):Int)<=65536*65536:=by omega
     rw[Int.natCast_mul]at h2;omega
    have aQ:kn*i.size<=16777216:=by
     have h2:((kn*ie.size:Nat):Int)<=65536:=by rw[Int.natCast_mul];exact cK
     rw[aW];omega
    have cL:madeCells zv.cells (kn*i.size)=Builtin.zeroCells zv.cells kn:=by rw[aW,<-hc,<-aw];rfl
    have F:=run_makeSlice (P:=P) (w:=w) T e i zv hu hi hz k1 k2 kn kn cn (i6 _) aQ Q (by omega);rw[nE]at F hK;obtain⟨ab,aa⟩:=hM.A7 (y:=.row 0 (some w.heap.size) kn kn ie.zero.d.shape.size) (x:=.row 0 kn ie.zero.d.shape λ_=>ie.zero.d) (M:=w.alloc (.cells (madeCells zv.cells (kn*i.size)) e)) (λb hb=>by cases hb;exact a9 _) rfl rfl rfl (by simp) (λb hb=>Below.heap_alloc w _ _ hb)
     (λhl=>qf (a9 _) (λe=>by cases e) λq hq=>by
      cases hq;refine⟨?_,_,e,World.alloc_heap_new w _,by rw[size_madeCells,aW,hc],λj hj=>⟨rfl,?_⟩⟩
      .cases hq:O w.heap.size with
       |none=>rfl
       |some Y=>exact b3 (hM.A9 hq) (ri _)
      .rw[cL,<-aw,Gb hj];exact aq)
    exact g.val (M:=_) (x:=.slice (some ⟨w.heap.size,0,none⟩) kn kn) (by simp[execOp,e1,e2,F]) hK (ka.v ⟨rfl,_,_,_,_,_,by rw[<-hM.R];exact rE,a9 _,λ_=>rfl⟩) ab aa
   .exact h.elim
  .exact h.elim
 |build T ps=>
  simp only[ib]at h;split at h
  .rename_i s ag n e z hT;have hu:P.underlying T=some (.array n e):=(hP T _ hT).2.1;split at h
   .rename_i ie R;split at h
    .rename_i hc;simp only[dH,fY]at hc;split at h
     .rename_i v hv;obtain⟨cZ,ho,aI,cO⟩:=Nr hρ hv (z.B2 O J).1 hc.2;have cw:=(hP T _ hT).2.2;have be:ag=true:=by have h1:=cw.2.1;rw[<-(z.B2 O J).2.2]at h1;rw[show z.D7.agg=true from by rw[SV.B4 (z.B2 O J).1.nt,hc.2];rfl]at h1;exact h1.symm
      subst be;obtain⟨i,hi,br⟩:=fB.1 cw.1;have cb:(zeroValue T).run P w=.ok (.agg z.cells.toArray) w:=by simp[zeroValue,typeInfo,hi,br]
      have bn:=(hP e _ R).1.sizeOf w;have hs:ie.zero.d.shape.size=ie.size:=fp hc.1;refine g.val (M:=w) (x:=.agg cZ) ?_ h ?_ hM (Gr.refl _ _ _)
      .have cM:(ps.map λx=>(x.1,a.eval x.2)).toList=ps.toList.map λx=>(x.1,a.eval x.2):=by simp
       rw[<-hs]at bn;simp only[execOp,Instr.build,jt,cb,lQ,run_underlying hu,bn,Value.cells,cM,ho,m9]
      .have h1:=fJ.Z aI;rw[SV.B4 aI.nt,cO]at h1;simpa[Ty.agg]using h1.v
     .exact h.elim
    .exact h.elim
   .exact h.elim
  .exact h.elim
 |makeMap T q=>
  simp only[ib]at h;split at h
  .rename_i s ag k z zz hT;split at h
   .exact h.elim
   .obtain⟨ab,aa⟩:=hM.A7 (y:=.map w.heap.size) (x:=.map k []) (M:=w.alloc (.map #[] 0)) (λb hb=>by cases hb;exact a9 _) rfl rfl rfl (by simp) (λb hb=>Below.heap_alloc w _ _ hb) (λhl=>⟨#[],0,World.alloc_heap_new w _,trivial⟩);refine g.val (M:=w.alloc (.map #[] 0)) (x:=.map (some w.heap.size)) (by simp[execOp,Instr.makeMap]) h (ka.v ⟨_,by rw[<-hM.R];exact rE,rfl⟩) ab aa
  .exact h.elim
 |insert T x kx y=>
  simp only[ib]at h;obtain⟨id,kk,n,u,l,Z,et,hx,aT,hy,hu,am,hr,hK⟩:=Tu hP h;have az:=(hρ _ _ aT).z.1;obtain⟨au,M,F,ab,aa⟩:=Qg (P:=P) hM hr (hρ _ _ hx) hu am (n:=n) (hρ _ _ hy);exact skip (by intro c h;cases h) (by simp[execOp,az,F]) hK ab aa
 |mapUpdate T x kx y=>
  simp only[ib]at h;obtain⟨id,kk,n,u,l,Z,et,hx,aT,hy,hu,am,hr,hK⟩:=Tu hP h;have az:=(hρ _ _ aT).z.1;obtain⟨au,M,F,ab,aa⟩:=Qg (P:=P) hM hr (hρ _ _ hx) hu am (n:=n) (hρ _ _ hy);exact skip (by intro c h;cases h) (by simp[execOp,az,F]) hK ab aa
 |lookup T x kx ok=>
  simp only[ib]at h;split at h
  .rename_i k n s ag k' zz hx aT hT;obtain⟨Z,et,hu,am,hz,_⟩:=(hP T _ hT).2.1;have az:=(hρ _ _ aT).z.1;split at h
   .rename_i hc;simp only[dH,fY]at hc;obtain⟨rfl,rfl⟩:=hc;split at h
    .exact h.elim
    .have ad:a.eval x=.map (some J.g):=(hρ _ _ hx).hd;have hL:=Je h;have ay:MapKept.IsKey (.int .u8) (.int .u8 n):=rfl;obtain⟨es,bG,hg,hf⟩:=YH hM (n:=n);rcases hf with⟨hf,hm⟩|⟨i,v,y,hf,hm,hv⟩
     .rw[hm]at hL;obtain⟨cY,hi,br⟩:=fB.1 hz;refine g.val (M:=w) (x:=.tuple #[.nilFunc,.bool false]) ?_ hL (BA ⟨(λh=>by cases h),λ_=>rfl⟩ rfl) hM (Gr.refl _ _ _);have aL:(zeroValue et).run P w=.ok .nilFunc w:=by simp[zeroValue,typeInfo,hi,br,ZT.cells]
      simp[execOp,ad,az,Instr.lookup,run_underlying hu,MapKept.run_getObj_map hg,MapKept.run_checkKey am ay,MapKept.run_findKey am hf,Result.andThen,aL]
     .rw[hm]at hL;have bU:v.nt=true:=by refine GU (l:=xg) rfl hm
      refine g.val (M:=w) (x:=.tuple #[y,.bool true]) ?_ hL (BA hv bU) hM (Gr.refl _ _ _);simp[execOp,ad,az,Instr.lookup,run_underlying hu,MapKept.run_getObj_map hg,MapKept.run_checkKey am ay,MapKept.run_findKey am hf,Result.andThen]
   .exact h.elim
  .rename_i id k n s ag k' z zz hx aT hT;obtain⟨Z,et,hu,am,hz,cv⟩:=(hP T _ hT).2.1;have az:=(hρ _ _ aT).z.1;split at h
   .rename_i k2 l hr;split at h
    .rename_i hc;simp only[dH,fY]at hc;obtain⟨rfl,rfl⟩:=hc;obtain⟨q,es,bG,bI,ad,hg,bn⟩:=hM.G8 hr (hρ _ _ hx);have ay:MapKept.IsKey (.int k) (.int k n):=rfl;obtain⟨cY,hi,br⟩:=fB.1 hz;have aL:(zeroValue et).run P w=.ok (z.cells.headD undef) w:=by simp[zeroValue,typeInfo,hi,br]
     have ca:du O J (.d z.d) (z.cells.headD undef):=by have:=fJ.Z (O:=O) (J:=J) (v:=.d z.d) (z.rep O);rw[show(SV.d z.d).agg=false from cv]at this;exact this.v
     split at h
     .split at h
      .rename_i bU;have hL:=Je h;rcases bn.find (n:=n) (i:=0)with⟨hm,hf⟩|⟨j,v,e,hm,hf,hv,he,cG⟩
       .rw[hm]at hL;refine g.val (M:=w) (x:=.tuple #[z.cells.headD undef,.bool false]) ?_ hL (BA ca rfl) hM (Gr.refl _ _ _);simp[execOp,ad,az,Instr.lookup,run_underlying hu,MapKept.run_getObj_map hg,MapKept.run_checkKey am ay,MapKept.run_findKey am hf,Result.andThen,aL]
       .rw[hm]at hL;rw[ld]at hf;refine g.val (M:=w) (x:=.tuple #[e.val,.bool true]) ?_ hL (BA hv (GU bU hm)) hM (Gr.refl _ _ _);simp[execOp,ad,az,Instr.lookup,run_underlying hu,MapKept.run_getObj_map hg,MapKept.run_checkKey am ay,MapKept.run_findKey am hf,Result.andThen]
      .exact h.elim
     .split at h
      .obtain⟨bj,b,hb,hK⟩:=h;have bj:=hG _ bj;rcases bn.find (n:=n) (i:=0)with⟨hm,hf⟩|⟨j,v,e,hm,hf,hv,he,cG⟩
       .rw[hm]at hb;subst hb;refine g.val (M:=w) (x:=.bool false) ?_ hK (lY _) hM (Gr.refl _ _ _);simp[execOp,ad,az,Instr.lookup,run_underlying hu,MapKept.run_getObj_map hg,MapKept.run_checkKey am ay,MapKept.run_findKey am hf,Result.andThen,aL,ZT.cells]
       .obtain⟨b',rfl⟩:=MP bj hm;rw[hm]at hb;subst hb;rw[ld]at hf;have cS:=hv.I;refine g.val (M:=w) (x:=.bool b') ?_ hK (lY _) hM (Gr.refl _ _ _);rw[cS]at hf;simp[execOp,ad,az,Instr.lookup,run_underlying hu,MapKept.run_getObj_map hg,MapKept.run_checkKey am ay,MapKept.run_findKey am hf,Result.andThen]
      .exact h.elim
    .exact h.elim
   .exact h.elim
  .exact h.elim
 |typeAssert x xT T ok=>
  simp only[ib]at h;split at h
  .rename_i T' k n s ag k2 z hx hT;have hu:P.underlying T=some (.int k2):=(hP T _ hT).2.1;split at h
   .rename_i he;have he:=fp he;subst he;obtain⟨y,hy,ad⟩:∃y,du O J (.d (.z k n)) y/\a.eval x=.iface T y:=by obtain⟨y,h1,h2⟩:=(hρ _ _ hx).2 rfl;exact⟨y,⟨(λh=>by cases h),λ_=>h1⟩,by simpa using h2⟩
    split at h
    .exact g.val (M:=w) (x:=.tuple #[y,.bool true]) (by simp[execOp,Instr.typeAssert,ad,run_underlying hu]) h (BA hy rfl) hM (Gr.refl _ _ _)
    .exact g.val (M:=w) (x:=y) (by simp[execOp,Instr.typeAssert,ad,run_underlying hu]) h hy hM (Gr.refl _ _ _)
   .exact h.elim
  .exact h.elim
 |panic x=>
  simp only[ib]at h;split at h
  .exact h.elim
  split at h
  .rename_i T d hx;obtain⟨y,hy,ad⟩:∃y,dM O d [y]/\a.eval x=.iface T y:=by obtain⟨y,h1,h2⟩:=(hρ _ _ hx).2 rfl;exact⟨y,h1,by simpa using h2⟩
   refine wB (by intro c h;cases h) ?_;have F:(execOp a.eval {dst:=aC,op:=.panic x,type:=ae,pos:=aD,after:=ah,guard:=ai}).run P w=.halt (.panic (.iface T y)) w:=by simp[execOp,Instr.panic,ad,goPanic]
   rw[F];exact g.P _ _ _ _ _ _ h ⟨(λh=>by cases h),λ_=>⟨y,hy,rfl⟩⟩ hM (Gr.refl _ _ _)
  .exact h.elim
 |_=>exact h.elim
def Cc(e:tb.ok P){o:Oper}(d:Mem E O J m w){ρ:Operand->Option SV}(b:∀x v,ρ x=some v->du O J v (a.eval x))(c:∀p,G p->p){f:Bool}{K:SV->MS->Prop}(h:lN P tb o.op m ρ G f K Kp)(g:Goes E P O J w o a next Q K Kp):o.wpIn (FR r) nn P a w next Q:=by
 unfold lN at h;split at h
 .exact zfa e d b c h g
 .exact ze7 e d b c h g
end Sx
end Go.Proofs.YtfbhkfhbnkncoaaGreatDoor
