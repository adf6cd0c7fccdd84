import Derived.Test.YtfbhkfhbnkncoaaGreatDoorV15
set_option linter.all false
namespace Go.Proofs.YtfbhkfhbnkncoaaGreatDoor
open Go.RowKit Tryz
open Tryz renaming prog→a6
namespace Sx
variable{b:fG}{c:Code}{a g h x y z:Int}{d f:Int->Nat}{V:List Ent}{l:List Int}{ps:List Nat}{args:List SV}{m:MS}{N i:Nat}{P:Program}{t:Tb}{K:X->List Ent->MS->Prop}
def di(h:Int):Prop:=0<=h/\h<4294967296
def Wb(a:di h):dC .and .u32 h 255=h % 256:=by
 obtain⟨n,rfl⟩:∃n:Nat,h=n:=⟨h.toNat,by have:=a.1;omega⟩;obtain⟨_,d⟩:=a;unfold dC;have e:(BitVec.ofInt IntKind.u32.bits (n:Int)&&& BitVec.ofInt IntKind.u32.bits 255).toNat=n % 256:=by
  show(BitVec.ofInt 32 (n:Int)&&& BitVec.ofInt 32 255).toNat=_;rw[Gg];have b:(BitVec.ofInt 32 (n:Int)).toNat=n:=by rw[BitVec.toNat_ofInt];omega
  have c:(BitVec.ofInt 32 255).toNat=255:=a8
  rw[b,c];exact Nat.and_two_pow_sub_one_eq_mod n 8
 simp only[e];rw[l5 (iL (by simp only[eU];omega) (λ_=>a3) (by simp only[eU];omega))];omega
def KH(h:Int):dU .u32 h 8=h / 256:=by unfold dU;show h.fdiv (2 ^(min (8:Int).toNat 32))=_;rw[Vg _ a8];rfl
def KI(a:di h):x5 h=h % 256 - 1:=by unfold x5;rw[Wb a]
def BL(a:di h):mv h=(decide (h % 256=0)||decide (h % 256>32)||decide (h / 256>8388607)):=by
 unfold mv;rw[KI a,KH]
 congr 1
 congr 1<;>(rw[decide_eq_decide];omega)
def j8(b:fG):Prop:=∀i,i<32->0<=(b i).gen/\(b i).gen<=8388607
def Eg{i:Int}(d:0<=i/\i<32)(c:0<=g/\g<=8388607):fT i g=g*256+i+1:=by
 unfold fT;have w:∀{x:Int},0<=x->x<=4294967295->IntKind.u32.wrap x=x:=λa b=>l5 (iL (by simp only[eU];omega) (λ_=>a) (by simp only[eU];omega));have e:ec .u32 g 8=g*256:=by unfold ec;show IntKind.u32.wrap (g*2 ^(min (8:Int).toNat 32))=_;rw[show(2:Int) ^(min (8:Int).toNat 32)=256 from rfl,w a3 a3]
 rw[e,w (x:=i) a3 a3,w (x:=g*256+i) a3 a3,w (x:=g*256+i+1) a3 a3]
def wh{i:Int}(b:0<=i/\i<32)(a:0<=g/\g<=8388607):di (fT i g):=by rw[Eg b a];constructor<;>omega
def Pg(d:di h)(a:bk b h=true):h=fT (a5 h) (b (a5 h)).gen/\(b (a5 h)).ret=false:=by
 unfold bk at a;simp only[dH,jL,gG]at a;obtain⟨c,e,k,f⟩:=a;have i:ny h=x5 h:=by unfold ny;rw[c];rfl
 have l:=nR h;have g:((a5 h:Nat):Int)=h % 256 - 1:=by unfold a5;rw[i,KI d]at*;omega
 rw[BL d]at c;simp only[gX,kq]at c;rw[KH]at e;refine⟨?_,f⟩;have j:=d.1;rw[e,g,Eg a3 a3];omega
def tw(e:i<32)(c:0<=g/\g<=8388607):a5 (fT i g)=i/\mv (fT i g)=false/\dU .u32 (fT i g) 8=g:=by
 have d:=wh (i:=(i:Int)) ⟨a3,a3⟩ c;have a:=Eg (i:=(i:Int)) ⟨a3,a3⟩ c;have b:mv (fT i g)=false:=by rw[BL d,a];simp only[gX,kq];omega
 refine⟨?_,b,?_⟩
 .unfold a5 ny;rw[b];simp only[eQ];rw[KI d,a];omega
 .rw[KH,a];omega
def m8(b:fG):Prop:=∀i,i<32->(b i).L=true->(b i).ret=false
def Et{b:fG}{x:Int}:∀{n:Nat},x∈ga b n↔∃i:Nat,i<n/\mj b i=false/\x=fT i (b i).gen
 |0=>by simp[ga]
 |n+1=>by
  simp only[ga,eP];rw[Et];constructor
  .rintro(⟨i,f,a⟩|h)
   .exact⟨i,a3,a⟩
   .cases c:mj b n with
    |true=>rw[c]at h;simp at h
    |false=>rw[c]at h;simp at h;exact⟨n,a3,c,h⟩
  .rintro⟨i,f,a,d⟩;rcases jB i n with e|e
   .exact .inl ⟨i,e,a,d⟩
   .have:i=n:=a3
    subst this
    right;rw[a];simp[d]
def Ad:x∈dW b↔∃i:Nat,i<32/\mj b i=false/\x=fT i (b i).gen:=by unfold dW;rw[vb];exact Et
def vm(a:i<32):mj b i=!(b i).L:=by unfold mj;rw[show decide ((i:Int)<0)=false by simp,show decide ((i:Int)>=32)=false by simp;omega];simp
def mM(e:j8 b)(l:m8 b):x∈dW b↔di x/\bk b x=true:=by
 rw[Ad];constructor
 .rintro⟨i,c,g,rfl⟩;rw[vm c]at g;have a:(b i).L=true:=b8 g
  obtain⟨h,j,k⟩:=tw c (e i c);refine⟨wh ⟨a3,a3⟩ (e i c),?_⟩;unfold bk;rw[h,j,k,a,l i c a];simp
 .rintro⟨m,f⟩;obtain⟨d,a⟩:=p7 f;exact⟨a5 x,d,by rw[vm d,a];rfl,(Pg m f).1⟩
def PO{b:fG}(g:j8 b):∀{n:Nat},n<=32->(ga b n).Nodup
 |0,_=>by simp[ga]
 |n+1,l=>by
  simp only[ga];refine mB.2 ⟨PO g a3,?_,?_⟩
  .cases mj b n<;>simp
  .intro x j y f e;subst e;obtain⟨i,k,_,h⟩:=Et.1 j;cases d:mj b n with
   |true=>rw[d]at f;simp at f
   |false=>
    rw[d]at f;simp at f;have a:=(tw (i:=i) a3 (g i a3)).1;have c:=(tw (i:=n) a3 (g n a3)).1;rw[<-h]at a;rw[<-f]at c;omega
def GV(a:j8 b):(dW b).Nodup:=by unfold dW;rw[vb];exact PO a (a9 _)
structure TbOk (t:Tb):Prop where
 Q:j8 t.b
 ret:m8 t.b
 up:∀i,i<32->di (t.r i).up
def g8(a:bk b h=true):h≠0:=by
 intro e;subst e;have:mv 0=true:=by rw[BL ⟨a8,a8⟩];decide
 unfold bk at a;rw[this]at a;simp at a
def vc(c:TbOk t):y∈iG t x↔(di y/\bk t.b y=true)/\A0 t y=x:=by
 unfold iG;rw[jM,mM c.Q c.ret];constructor
 .rintro⟨a,b⟩;refine⟨a,?_⟩;unfold kW b1 at b;rw[a.2]at b;simpa using b
 .rintro⟨a,b⟩;refine⟨a,?_⟩;unfold kW b1;rw[a.2];simpa using b
inductive Anc (t:Tb):Int->Int->Prop
 |refl (x:Int):Anc t x x
 |up {a z:Int}:A0 t z≠0->Anc t a (A0 t z)->Anc t a z
def Anc.rk(j:Rk t f)(h:Anc t a z):f a<=f z:=by
 induction h with
 |refl=>exact a9 _
 |up u _ A=>exact eY A (uP (j.lt _ u))
def Anc.trans{b:Int}(h:Anc t a b)(k:Anc t b z):Anc t a z:=by
 induction k with
 |refl=>exact h
 |up f _ j=>exact .up f j
def Anc.or{b:Int}(h:Anc t a z):Anc t b z->Anc t a b\/Anc t b a:=by
 induction h with
 |refl=>exact λk=>.inr k
 |up f h j=>
  intro k;cases k with
  |refl=>exact .inl (.up f h)
  |up _ k=>exact j k
def pre(t:Tb):Nat->Int->List Int
 |0,_=>[]
 |k+1,x=>x::(iG t x).flatMap (pre t k)
def eT(t:Tb)(h:Int):List Int:=pre t 40 h
def zh(c:TbOk t){a:Int->Nat}(b:Rk t a)(d:x≠0)(e:y∈iG t x):a x<a y:=by
 obtain⟨_,h⟩:=(vc c).1 e;have:=b.lt y (by rw[h];exact d)
 rwa [h]at this
def vd(a:TbOk t)(b:y∈iG t x):y≠0:=g8 ((vc a).1 b).1.2
def Ij{α β:Type}{f g:α->List β}:∀{l:List α},(∀y∈l,f y=g y)->l.flatMap f=l.flatMap g
 |[],_=>rfl
 |y::l,h=>by rw[rh,rh,h y eA,Ij (l:=l) λz a=>h z (by simp[a])]
def Rb{t:Tb}(b:TbOk t){d:Int->Nat}(a:Rk t d):∀{k:Nat} {x:Int},x≠0->40<=k+d x->pre t (k+1) x=pre t k x
 |0,x,_,h=>by have:=a.le x;omega
 |k+1,x,e,h=>by show x::(iG t x).flatMap (pre t (k+1))=x::(iG t x).flatMap (pre t k);rw[Ij λy c=>Rb b a (k:=k) (x:=y) (vd b c) (by have:=zh b a e c;omega)]
def zP(a:TbOk t){e:Int->Nat}(b:Rk t e)(d:x≠0):eT t x=x::(iG t x).flatMap (eT t):=by unfold eT;show x::(iG t x).flatMap (pre t 39)=x::(iG t x).flatMap (pre t 40);rw[Ij λy c=>(Rb a b (k:=39) (x:=y) (vd a c) (by have:=zh a b d c;omega)).symm]
def Bt{t:Tb}(a:TbOk t):∀{k:Nat} {x z:Int},x≠0->z∈pre t k x->Anc t x z
 |0,_,_,_,h=>by cases h
 |k+1,x,z,e,h=>by
  rcases iB.1 h with rfl|h
  .exact .refl _
  .obtain⟨y,c,f⟩:=om.1 h;have b:=((vc a).1 c).2;have d:Anc t x y:=.up (by rw[b];exact e) (by rw[b];exact .refl _);exact d.trans (Bt a (vd a c) f)
def xQ{t:Tb}(a:TbOk t):∀{k:Nat} {x z:Int},z∈pre t k x->z=x\/(di z/\bk t.b z=true)
 |0,_,_,h=>by cases h
 |k+1,x,z,h=>by
  rcases iB.1 h with rfl|h
  .exact .inl rfl
  .obtain⟨y,b,c⟩:=om.1 h;rcases xQ a c with rfl|h
   .exact .inr ((vc a).1 b).1
   .exact .inr h
def wG{t:Tb}(c:TbOk t){p:Int->Nat}(i:Rk t p):∀{k:Nat} {x:Int},x≠0->(pre t k x).Nodup
 |0,_,_=>List.Pairwise.nil
 |k+1,x,o=>by
  refine pW.2 ⟨λh=>?_,List.pairwise_flatMap.2 ⟨λy l=>wG c i (vd c l),?_⟩⟩
  .obtain⟨y,l,m⟩:=om.1 h;have:=(Bt c (vd c l) m).rk i;have:=zh c i o l;omega
  .refine List.Pairwise.imp_of_mem (R:=λa b=>a≠b) (λ{a b} f g d z m q n e=>?_) ((GV c.Q).filter _);subst e;have j:∀{a b:Int},a∈iG t x->b∈iG t x->a≠b->Anc t a b->False:=λ{a b} f g d h=>by
    cases h with
    |refl=>exact d rfl
    |up _ h=>
     rw[((vc c).1 g).2]at h;have:=h.rk i;have:=zh c i o f;omega
   rcases(Bt c (vd c f) m).or (Bt c (vd c g) n)with h|h
   .exact j f g d h
   .exact j g f (sZ d) h
def EB{m:List Int}(h:l.Nodup)(a:∀x∈l,x∈m):l.length<=m.length:=by
 induction l generalizing m with
 |nil=>exact dG _
 |cons x l g=>
  obtain⟨d,f⟩:=pW.1 h;have b:=a x eA;have:=g (m:=m.erase x) f λy c=>(List.mem_erase_of_ne λe=>d (by rw[<-e];exact c)).2 (a y (by simp[c]));rw[List.length_erase_of_mem b]at this;have:0<m.length:=List.length_pos_of_mem b;simp only[jV];omega
def ra(a:TbOk t)(c:Rk t f)(d:x≠0):(eT t x).length<=33:=by
 have b:(eT t x).length<=(x::dW t.b).length:=EB (wG a c d) λz e=>by
  rcases xQ a e with rfl|h
  .simp
  .exact fA _ ((mM a.Q a.ret).2 h)
 have:=oV t.b;simp only[jV]at b;omega
def uB(t:Tb)(l:List Int):List Int:=l.reverse.flatMap (eT t)
def SR(b:TbOk t)(a:Rk t d)(c:x≠0):uB t (l++[x])=x::uB t (l++(iG t x).reverse):=by unfold uB;rw[Vo,Vo,List.reverse_reverse,List.reverse_singleton,List.singleton_append,rh,zP b a c,mA];rfl
def Fa{f:Operand}{ps:Array Nat}{b:Code}(id:Nat)(a:List Nat)(ty:Ty)(F:Nat->D){e:Ty}{g:Nat->D}{v v':SV}(i:kI m.c id=some v)(j:v.B0 a=some (.ow 0 0 0 e g))(k:v.set a (.ow (m.t.length+1) 0 0 ty F)=some v')(d:∃o t',v.shape.off a=some (o,t'))(h:eH P N f ps c b V ⟨oJ m.c id v',m.t++[0],m.o⟩ K):eH P N f ps c b V m K:=Bm id a ty F i j k d h
def Qc{F:Bool}(id:Nat){v n:Nat}{t:Ty}{f:Nat->D}(f':Nat->D)(z:ss m.o id=some (.row v n t f))(x:∀i,i<n->f i=f' i)(h:ez P N F c V ⟨m.c,m.t,m5 m.o id (.row v n t f')⟩ K):ez P N F c V m K:=by
 intro E r G O J a w A g;have j:lz m id=some (v,n,t,f):=by unfold lz;rw[z]
 obtain⟨b,Z,e⟩:=g.m.A8 j;obtain⟨d,_⟩:=g.m.B6 (y':=.row v b n Z t.size) (x':=.row v n t f') (M:=w) e.I (BO.le_refl _) (λb u=>.inl u) rfl rfl rfl (a9 _) (λ_ _ _=>rfl) (λM=>qf e.nc e.nil λk y=>by
  obtain⟨s,C,L,o,p,q⟩:=e.N k y;exact⟨s,C,L,o,p,λi l=>by rw[<-x i l];exact q i l⟩)
 rw[Bn e.I]at d;rw[sJ]at h;exact h E r G O J a w A ⟨g.l,d⟩
def BE{id:Nat}{b a:Code}{K:SV->MS->Prop}(h:fx P id ps b a N V args m λv U=>(v.ids m.c.length m.t.length m.o.length&&(eV m.c.length m.t.length m.o.length (U.c.take m.c.length)&&gV m.c.length m.t.length m.o.length (U.o.take m.o.length)))=true/\K v (U.take m.c.length m.t.length m.o.length)):fx P id ps b a N V args m K:=by
 refine⟨h.1,λE A O J w G l k c j i n o p q r=>RoundIn.mono (h.2 E A O J w G l k c j i n o p q r) ?_⟩;rintro e M ⟨g,f,U,v,x,y,z,u,s,d,t⟩;simp only[dH]at d;obtain⟨C,F,L⟩:=i.lens;exact⟨g,f.take m.c.length m.t.length m.o.length,_,v,x,y,z.drop d.1,u.drop d.2.1 d.2.2,s.drop a3 a3 a3,t⟩
def zC{id:Nat}{b a:Code}{K C:SV->MS->Prop}(h:fx P id ps b a N V args m K)(s:∀v U,K v U->C v U):fx P id ps b a N V args m C:=
 ⟨h.1,λE A O J w G l i c g j k n o p q=>RoundIn.mono (h.2 E A O J w G l i c g j k n o p q) λe M ⟨f,d,U,v,x,u,z,t,r,y⟩=>⟨f,d,U,v,x,u,z,t,r,s _ _ y⟩⟩
def Bv{tb:TT}{a:List SV}{ρ:Operand->Option SV}{T:TypeId}{x:Operand}{id:Nat}{v:SV}{i:TI}(b:ρ x=some (.B id []))(c:kI a id=some v)(f:tb.get T=some i)(g:od v.shape v.agg i=true):pv tb a ρ (.load T x)=some v:=by
 have e:v.B0 []=some v:=by cases v<;>first|rfl|(rename_i d;cases d<;>rfl)
 simp only[pv,b,c,e,f,g]
def OV{t:Tb}:∀l:List Int,l.length<=(l.flatMap (eT t)).length
 |[]=>a9 _
 |x::l=>by have:=OV (t:=t) l;rw[rh,ew,jV];have:0<(eT t x).length:=Nat.succ_pos _;omega
def zd6(l:List Int):l.length<=(uB t l).length:=by
 have:=OV (t:=t) l.reverse
 rwa [Vn]at this
abbrev lF(l:List Int):Nat->D:=λi=>hD (l.getD i 0)
def PT(a:i<l.length):lF l i=c7 (hL l) i:=(qe hD 0 a).symm
def zab(l:List Int)(x:Int)(k:List Int):(fE l.length (lF (l++[x])) λi=>hD (if i<k.length then k.getD (k.length - 1 - i) 0 else k.getD i 0))=lF (l++k.reverse):=by
 funext i
 unfold fE lF;cases a:Nat.blt i l.length with
 |true=>
  have:=dF a;simp only[dZ]
  congr 1
  simp[eu,pV (show i<l.length from this)]
 |false=>
  have b:l.length<=i:=by
   rcases jB i l.length with h|h
   .rw[show Nat.blt i l.length=true from qq h]at a;cases a
   .exact h
  simp only[eQ]
  congr 1
  simp only[eu,oh b];split
  .rename_i h;rw[List.getElem?_reverse h]
  .rename_i h;rw[wT (by simpa using CH.1 h),wT (by simpa using CH.1 h)]
attribute [local irreducible] b6 eF fR ez eH eB eM fx dC ec dU dx
def FM(E:TbOk t){rk:Int->Nat}(R:Rk t rk)(Z:bk t.b h=true)(hu:di h){f d:Code}{σ:Type}(e:σ->List SV)(C:σ->List Nat)(out:σ->List Int)(g:σ->Prop)(a b T Y:Nat)(j:σ)(ha:∀s,kI (e s) a=some (H h))(hb:∀s,kI (e s) b=some (.d (eN t)))(F:∀s,(e s).length=T/\(C s).length=Y/\eV T Y 2 (e s)=true)(L:g j)(Q:out j=[]){K:Out->MS->Prop}(G:gV T Y 2 [.loop ps f d N V .ready]=true)(n:∀s x r,g s->eT t h=out s++x::r->bk t.b x=true->∀rv rn rf,fx a6 0 ps f d N V [H x] ⟨e s,C s,[.loop ps f d N V .ready,.row rv rn .c rf]⟩ λv U=>v=B true/\∃W,(g W/\out W=out s++[x])/\U=⟨e W,C W,[.loop ps f d N V .ready,.row rv rn .c rf]⟩)(hK:∀s os,g s->out s=eT t h->K (.ret (.tu (.d .un))) ⟨e s,C s,.loop ps f d N V .ready::os⟩):
 b6 a6 225 [.ob (.yl 0),.B a [],.B b []] ⟨e j,C j,[.loop ps f d N V .ready]⟩ K:=by
 refine ev func225 ?_;conv=>whnf
 have e0:pv ff (e j) (iQ [] (kc 0 [SV.ob (Hd.yl 0),SV.B a [],SV.B b []]) []) (.load 69 (.tmp 1))=some (H h):=Bv rfl (ha j) rfl rfl;rw[e0];refine Or.inr ?_;refine Qc 1 (lF [h]) rfl (λi o=>by
  cases i with
  |zero=>rfl
  |succ i=>omega) ?_
 refine wu c6 (λ(q:σ×List Int×Nat)=>(g q.1/\eT t h=out q.1++uB t q.2.1)/\(∀x∈q.2.1,di x/\bk t.b x=true)/\q.2.1.length<=33) (λq=>(uB t q.2.1).length) (λq=>[(4,.ob (.mr 1 q.2.2))]) (λq=>⟨e q.1,C q.1,[.loop ps f d N V .ready,.row q.2.2 q.2.1.length .c (lF q.2.1)]⟩) (j,[h],0) ⟨⟨L,?_⟩,?_,eA⟩ ⟨rfl,trivial⟩ ?_ ?_ ?_
 .rw[Q];show eT t h=[]++([h].reverse.flatMap (eT t));simp
 .intro x hx;simp at hx;subst hx;exact⟨hu,Z⟩
 .rfl
 .rintro⟨s,l,v⟩;obtain⟨w,h2,_⟩:=F s;obtain⟨h3,h4,_⟩:=F j;exact⟨by show(e j).length<=(e s).length;omega,by show(C j).length<=(C s).length;omega,a9 _⟩
 rintro⟨s,l,v⟩ ⟨⟨o,p⟩,M,hn⟩;simp only at o p M hn;refine a4 ⟨rfl,eD (x:=(l.length:Int)) a3 a3⟩ ?_;apply a4<;>intro z
 .have m:l≠[]:=by rintro rfl;simp at z
  obtain⟨c,x,rfl⟩:∃c x,l=c++[x]:=⟨l.dropLast,l.getLast m,(List.dropLast_concat_getLast m).symm⟩;have A:(c++[x]).getD (((c++[x]).length:Int) - 1).toNat 0=x:=by rw[show(((c++[x]).length:Int) - 1).toNat=c.length by simp];simp[eu]
  have aa:(c++[x]).length=c.length+1:=eA
  obtain⟨ac,k⟩:=M x eA;rw[SR E R (g8 k)]at p;refine a4 ⟨rfl,eD (x:=((c++[x]).length:Int)) a3 a3⟩ ?_;refine b2 (x:=((c++[x]).length:Int) - 1) ?_;refine a4 ⟨rfl,(a3:(0:Int)<=((c++[x]).length:Int) - 1),(a3:((c++[x]).length:Int) - 1<((c++[x]).length:Int))⟩ ?_;refine a4 ⟨rfl,(a3:(((c++[x]).length:Int) - 1).toNat<(c++[x]).length)⟩ ?_;conv=>whnf
  have es:SV.d (lF (c++[x]) (((c++[x]).length:Int) - 1).toNat)=H x:=dE (λy=>SV.d (hD y)) A;rw[es];refine zC (n s x _ o p k _ _ _) ?_;rintro _ _ ⟨rfl,W,⟨J,P⟩,rfl⟩;refine a4 (λz=>b3 z eA) λ_=>?_;conv=>whnf
  have S:∀ρ:Operand->Option SV,ρ (.tmp 2)=some (.B b [])->pv ff (e W) ρ (.load 96 (.tmp 2))=some (.d (eN t)):=λρ w=>Bv w (hb W) rfl rfl;rw[S];rotate_left
  .rfl
  refine Ir rfl ((Vj t x k).fn (F':=lF (iG t x)) λi o=>(PT o).symm) _ _ λvk=>?_;conv=>whnf
  have ab:(iG t x).length<=32:=eY (sU _ _) (oV t.b);refine fa (VL (e W) (C W) (.loop ps f d N V .ready) (.row v (c++[x]).length .c (lF (c++[x]))) vk (iG t x).length (λi=>(iG t x).getD i 0) a3) ?_;rintro _ _ ⟨rfl,rfl⟩;refine a4 ⟨rfl,eD (x:=((c++[x]).length:Int)) a3 a3⟩ ?_;refine b2 (x:=((c++[x]).length:Int) - 1) ?_;refine a4 ⟨rfl,(a3:(0:Int)<=((c++[x]).length:Int) - 1),(a3:((c++[x]).length:Int) - 1<=((c++[x]).length:Int))⟩ ?_;refine a4 ⟨rfl,(a8:(1:Nat)≠2)⟩ (a4 ⟨rfl,(a3:(((c++[x]).length:Int) - 1).toNat+(iG t x).length<=2147483648)⟩ ?_);conv=>whnf
  have O:(uB t (c++(iG t x).reverse)).length<=33:=by have w:=dE List.length p;have h2:=ra E R (g8 Z);simp only[ew,jV]at w;omega
  have e1:(((c++[x]).length:Int) - 1).toNat=c.length:=a3
  obtain⟨c1,c2,c3⟩:=F W;refine⟨(W,c++(iG t x).reverse,v+1+1),⟨⟨J,?_⟩,?_,?_⟩,?_,⟨rfl,trivial⟩,.inr ⟨⟨?_,?_⟩,?_⟩⟩
  .simp only;rw[P,p,iJ];rfl
  .intro y u;rcases eP.1 u with u|u
   .exact M y (by simp[u])
   .exact((vc E).1 (b8 u)).1
  .exact eY (zd6 _) O
  .show(uB t (c++(iG t x).reverse)).length<(uB t (c++[x])).length;rw[SR E R (g8 k)];simp
  .show(⟨(e W).take (e W).length,(C W).take (C W).length,[_,.row (v+1+1) ((((c++[x]).length:Int) - 1).toNat+(iG t x).length) .c (fE (((c++[x]).length:Int) - 1).toNat (lF (c++[x])) λi=>hD (if i<(iG t x).length then(iG t x).getD ((iG t x).length - 1 - i) 0 else(iG t x).getD i 0))]⟩:MS)=⟨e W,C W,[_,.row (v+1+1) (c++(iG t x).reverse).length .c (lF (c++(iG t x).reverse))]⟩;rw[e1,zab,gv,gv,ew,Vn]
  .show(eV (e W).length (C W).length 2 (e W)&&gV (e W).length (C W).length 2 [.loop ps f d N V .ready,.row _ _ _ _])=true;rw[c1,c2,c3];exact G
  .rfl
 .have m:l=[]:=by
   cases l with
   |nil=>rfl
   |cons x r=>simp at z
  subst m;exact hK s _ o (by rw[p];simp[uB])
def dJ(t:Tb)(h:Int):List Int:=bif bk t.b h then eT t h else[]
def yu(f:TbOk t){k:Int->Nat}(d:Rk t k)(j:di h):c5 a6 110 [.d (eN t),H h] (HS (dJ t h)):=by
 refine dq func110 ?_;refine bo (jA t.b h) ?_;apply a4<;>intro c
 .have a:bk t.b h=false:=b8 c
  refine a4 rfl (a4 ⟨_,rfl,?_⟩ rfl);rw[dJ,a];exact pd _ _ _ _
 .have a:bk t.b h=true:=b8 c
  refine ev func184 ?_;refine ev func183 ?_;refine ev func224 ?_;refine Fa 3 [] .c (c7 []) rfl rfl rfl ⟨_,_,rfl⟩ (rS rfl rfl ?_);refine FM f d a j (σ:=List Int) (λo=>[.d (eN t),.d (eN t),H h,gx 1 (hL o).length .c (hL o)]) (λo=>[(hL o).length]) id (λ_=>True) 2 1 4 1 [] (λ_=>rfl) (λ_=>rfl) (λ_=>⟨rfl,rfl,rfl⟩) trivial rfl rfl ?_ ?_
  .intro s x r _ b i v u q;have n:s.length<=33:=by have g:=dE List.length b;have m:=ra f d (g8 a);simp only[ew,jV,id]at g;omega
   refine rX c6 rfl a8 ?_;refine Or.inl (a4 ⟨rfl,by simp;omega⟩ ?_);conv=>whnf
   refine⟨rfl,s++[x],⟨trivial,rfl⟩,?_⟩;show(⟨[.d (eN t),.d (eN t),H h,.ow 1 ((hL s).length+1) ((hL s).length+[hD x].length) .c (fE (hL s).length (c7 (hL s)) (c7 [hD x]))],[(hL s).length+1],_⟩:MS)=⟨[.d (eN t),.d (eN t),H h,gx 1 (hL (s++[x])).length .c (hL (s++[x]))],[(hL (s++[x])).length],_⟩;rw[kA,show hL s++[hD x]=hL (s++[x]) by simp,show(hL s).length+1=(hL (s++[x])).length by simp];rfl
  .intro s p _ b;have b:s=eT t h:=b;subst b;have e:dJ t h=eT t h:=by rw[dJ,a];rfl
   rw[e];generalize eT t h=l;exact b7
def oL(t:Tb)(h:Int)(n:Int):List Int->Int
 |[]=>n
 |x::l=>oL t h (bif decide (fk t x - fk t h+1>n)then fk t x - fk t h+1 else n) l
def nB(t:Tb)(h:Int):Int:=oL t h 0 (eT t h)
def HP{t:Tb}:∀(k:Nat) (x:Int),qC t k x<=k
 |0,_=>a9 _
 |k+1,x=>by
  unfold qC;cases(A0 t x==0)with
  |true=>exact dG _
  |false=>have:=HP (t:=t) k (A0 t x);simp only[eQ];omega
def Au(t:Tb)(x:Int):0<=fk t x/\fk t x<=41:=by
 unfold fk;have:=HP (t:=t) 40 x;cases bk t.b x with
 |true=>simp only[dZ];omega
 |false=>simp only[eQ];omega
def S3(t:Tb)(h:Int):∀(l:List Int) (n:Int) (x:Int),oL t h n (l++[x])=(bif decide (fk t x - fk t h+1>oL t h n l)then fk t x - fk t h+1 else oL t h n l)
 |[],_,_=>rfl
 |y::l,n,x=>S3 t h l _ x
def KZ(t:Tb)(h:Int):∀(l:List Int) (n:Int),0<=n/\n<=42->0<=oL t h n l/\oL t h n l<=42
 |[],_,a=>a
 |x::l,n,a=>by
  refine KZ t h l _ ?_;have:=Au t x;have:=Au t h;cases b:decide (fk t x - fk t h+1>n)with
  |true=>simp only[fY]at b;simp only[dZ];omega
  |false=>exact a
def zel(d:TbOk t)(b:Rk t f)(e:di h)(c:bk t.b h=true):c5 a6 353 [.d (eN t),H h] (I (nB t h)):=by
 refine dq func353 ?_;refine ev func184 ?_;refine rS rfl rfl ?_;refine FM d b c e (σ:=List Int) (λo=>[.d (eN t),H h,I (oL t h 0 o),.d (eN t),H h]) (λ_=>[]) id (λ_=>True) 4 3 5 0 [] (λ_=>rfl) (λ_=>rfl) (λ_=>⟨rfl,rfl,rfl⟩) trivial rfl rfl ?_ ?_
 .intro s x r _ _ _ n m l;have g:=Au t x;have i:=Au t h;have j:=KZ t h s 0 a3;refine rX c6 rfl a8 ?_;refine dL 10 (c9 (Cm t x b) (λ_ h=>h) (c9 (Cm t h b) (λ_ h=>h) (a4 (eD a3 a3) (a4 (eD a3 a3) (a4 ⟨eD a3 a3,eD a3 a3⟩ ?_)))));conv=>whnf
  refine⟨rfl,s++[x],⟨trivial,rfl⟩,?_⟩;show _=(⟨[.d (eN t),H h,I (oL t h 0 (s++[x])),.d (eN t),H h],[],_⟩:MS);rw[S3];rfl
 .intro s k _ a;have a:s=eT t h:=a;subst a;exact b7
end Sx
namespace Sx
variable{h:Int}{c:Int->Nat}{t:Tb}
def GM{a b d c:SV}(h:∀O J x,fJ O J b x->fJ O J d x):(T3 a b c).le (T3 a d c):=λO J x ⟨o,i,j⟩=>by obtain⟨k,m,rfl,e,l,n,rfl,f,g⟩:=i;exact⟨_,⟨k,_,rfl,e,l,_,rfl,h _ _ _ f,g⟩,j⟩
attribute [local irreducible] b6 eF fR ez eH eB eM fx dC ec dU dx
def gT(t:Tb)(l:List Int):Tb:=l.foldl jZ t
def OJ(t:Tb)(h:Int):Int:=bif (dJ t h).length==0 then 4 else 0
abbrev LS(l:List Int):SV:=.d (.X l.length .c (lF l))
def UU(g:TbOk t){o:Int->Nat}(f:Rk t o)(m:di h):c5 a6 350 [.d (eN t),H h] (T3 (.d (eN (gT t (dJ t h)))) (LS (dJ t h)) (I (OJ t h))):=by
 have k:(dJ t h).length<=33:=by
  unfold dJ;cases j:bk t.b h with
  |true=>exact ra g f (g8 j)
  |false=>exact dG _
 have d:=(yu g f m).out (iE .c hD 0 (dJ t h));unfold OJ;generalize dJ t h=l at k d ⊢;refine dq func350 ?_;refine bo (d) (b2 (x:=(l.length:Int)) ?_);apply a4<;>intro b
 .have c:l=[]:=by have:((l.length:Int)==0)=true:=b;simpa using this
  subst c;exact a4 rfl (a4 ⟨_,rfl,GM λO J x h=>pd .c .c _ _ O J x h⟩ rfl)
 .have c:(l.length==0)=false:=by have:((l.length:Int)==0)=false:=b;simpa using this
  refine b2 (x:=(l.length:Int)) (dX c6 (λi=>i<=l.length) (λi=>l.length - i) (λi=>[(19,I i)]) (λi=>⟨[.d (eN (gT t (l.take i))),.d (ZT.d uG)],[],[]⟩) 0 (dG _) ⟨rfl,trivial⟩ rfl (λi=>⟨a9 _,a9 _,a9 _⟩) ?_);intro i p;apply a4<;>intro b
  .have a:i<l.length:=eZ b
   refine fS (i:=i) (n:=l.length) (bo (UR (gT t (l.take i)) (l.getD i 0)) (b2 (x:=(i:Int)+1) ?_));conv=>whnf
   have e:jZ (gT t (l.take i)) (l.getD i 0)=gT t (l.take (i+1)):=by unfold gT;rw[js,pq,ed a,eu,ed a];rfl
   refine⟨i+1,a,a3,⟨rfl,trivial⟩,⟨?_,rfl⟩,rfl⟩;rw[<-e];rfl
  .have a:i=l.length:=e9 b
   subst a;refine b7 ?_;rw[gv,c];rfl
def pc(t:Tb)(E n:Int):Bool:=((jR t E n==0)||(jR t E n==7))&&decide (fk t E>=6)
def ik(t:Tb)(E n:Int):Tb:=bif pc t E n then t else oC t E n
def jg(t:Tb)(E n:Int):Int:=bif pc t E n then 0 else qd t E n
def mW(t:Tb)(E n:Int):Int:=bif pc t E n then 8 else jR t E n
def LX{d:Int->Nat}(c:Rk t d)(E n:Int):c5 a6 313 [.d (eN t),H E,I n] (T3 (.d (eN (ik t E n))) (H (jg t E n)) (I (mW t E n))):=by
 refine dq func313 ?_;refine bo (Vz t E n) ?_;conv=>whnf
 refine c9 (Cm t E c) (λ_ h _=>h) ?_;apply a4<;>intro b
 .have a:pc t E n=true:=b;refine b7 ?_;rw[ik,jg,mW,a];rfl
 .have a:pc t E n=false:=b;refine b7 ?_;rw[ik,jg,mW,a];rfl
def nL(t:Tb)(h E:Int):Int:=bif !bk t.b h||!bk t.b E then 4 else bif (fl t h != h)||kz t h E then 12 else bif decide (fk t E+nB t h>6)then 8 else lx t h E
def ln(t:Tb)(h E:Int):Tb:=bif !bk t.b h||!bk t.b E then t else bif (fl t h != h)||kz t h E then t else bif decide (fk t E+nB t h>6)then t else iW t h E
def U3(g:TbOk t){j:Int->Nat}(c:Rk t j)(i:di h)(E:Int):c5 a6 327 [.d (eN t),H h,H E] (T2 (.d (eN (ln t h E))) (I (nL t h E))):=by
 refine dq func327 ?_;refine bo (jA t.b h) (c9 (jA t.b E) (λ_ h _=>h) ?_);apply a4<;>intro a
 .have b:(!bk t.b h||!bk t.b E)=true:=a;refine b7 ?_;rw[ln,nL,b];rfl
 .have b:(!bk t.b h||!bk t.b E)=false:=a;have f:bk t.b h=true:=by
   revert b;cases bk t.b h<;>simp
  refine bo (vP t h c) (c9 (GH t h E c) (λ_ h _=>h) ?_);apply a4<;>intro a
  .have d:((fl t h != h)||kz t h E)=true:=a;refine b7 ?_;rw[ln,nL,b,d];rfl
  .have d:((fl t h != h)||kz t h E)=false:=a;refine dL 9 (c9 (Cm t E c) (λ_ h=>h) (c9 (zel g c i f) (λ_ h=>h) ?_));conv=>whnf
   have k:=Au t E;have l:=KZ t h (eT t h) 0 a3;refine⟨eD (x:=fk t E+nB t h) (by unfold nB;omega) (by unfold nB;omega),?_⟩;apply a4<;>intro a
   .have e:decide (fk t E+nB t h>6)=true:=a;refine b7 ?_;rw[ln,nL,b,d,e];rfl
   .have e:decide (fk t E+nB t h>6)=false:=a;refine bo (MD t h E c) (b7 ?_);rw[ln,nL,b,d,e];rfl
structure Ow where
 kind:Int
 task:Int
 hold:Int
structure Sd where
 root:Int
 own:Ow
def Ax(x:Ow):D:=.H (.z .u8 x.kind) (.H (.z .u8 x.task) (.H (.z .u8 x.hold) .un))
def SZ:Ty:=.p .c (.p (.p .c (.p .c (.p .c .u))) .u)
def OE(s:Sd):D:=.H (.z .u32 s.root) (.H (Ax s.own) .un)
def ns(o:Nat->Sd):D:=.H (.ar 32 SZ λi=>OE (o i)) .un
def xN:Ow:=⟨0,0,0⟩
def dy(o:Nat->Sd)(t:Tb)(h:Int):Ow:=bif (!!mv (fl t h))||((o (a5 (fl t h))).root != fl t h)then xN else(o (a5 (fl t h))).own
def tN(o:Nat->Sd)(t:Tb)(h:Int)(b:Rk t c):c5 a6 39 [.d (ns o),.d (eN t),H h] (.d (Ax (dy o t h))):=by
 refine dq func39 ?_;refine bo (vP t h b) (bo (rm (fl t h)) (a4 (λ_=>nR _) ?_));apply a4<;>intro a
 .have a:((!!mv (fl t h))||((o (a5 (fl t h))).root != fl t h))=true:=a;refine b7 ?_;rw[dy,a];rfl
 .have a:((!!mv (fl t h))||((o (a5 (fl t h))).root != fl t h))=false:=a;refine a4 (nR _) (b7 ?_);rw[dy,a];rfl
def gR(t:Tb)(a M:Int):Int:=bif !bk t.b a then 4 else bif fl t a != a then 12 else bif decide (M<0)||decide (M>=8)then 2 else 0
def iI(o:Nat->Sd)(t:Tb)(a M:Int)(x:Ow):Nat->Sd:=bif gR t a M==0 then a7 o (a5 a) ⟨a,x⟩else o
def BH(o:Nat->Sd)(t:Tb)(a M:Int)(x:Ow){h:Int->Nat}(g:Rk t h):c5 a6 355 [.d (ns o),.d (eN t),H a,I M,.d (Ax x)] (T2 (.d (ns (iI o t a M x))) (I (gR t a M))):=by
 refine dq func355 ?_;refine bo (jA t.b a) ?_;apply a4<;>intro b
 .have c:(!bk t.b a)=true:=b;refine b7 ?_;rw[iI,gR,c];rfl
 .have c:(!bk t.b a)=false:=b;refine bo (vP t a g) ?_;apply a4<;>intro b
  .have d:(fl t a != a)=true:=b;refine b7 ?_;rw[iI,gR,c,d];rfl
  .have d:(fl t a != a)=false:=b;apply a4<;>intro b
   .have e:(decide (M<0)||decide (M>=8))=true:=b;refine b7 ?_;rw[iI,gR,c,d,e];rfl
   .have e:(decide (M<0)||decide (M>=8))=false:=b;refine bo (rm a) (a4 (nR _) ?_);conv=>whnf
    refine⟨.d (ns (a7 o (a5 a) ⟨a,x⟩)),dE (λf=>SV.d (.H (.ar 32 SZ f) .un)) (iU OE o (a5 a) ⟨a,x⟩),?_⟩;refine b7 ?_;rw[iI,gR,c,d,e];rfl
def iz(M:Int):Int:=IntKind.u8.wrap M
def U1(o:Nat->Sd)(t:Tb)(a M:Int)(b:Rk t c):c5 a6 344 [.d (ns o),.d (eN t),H a,I M] (T2 (.d (ns (iI o t a M ⟨1,iz M,0⟩))) (I (gR t a M))):=by
 refine dq func344 ?_;exact bo (BH o t a M ⟨1,iz M,0⟩ b) b7
def UX(o:Nat->Sd)(t:Tb)(a:Int)(b:Rk t c):c5 a6 335 [.d (ns o),.d (eN t),H a] (T2 (.d (ns (iI o t a 0 ⟨2,0,0⟩))) (I (gR t a 0))):=by
 refine dq func335 ?_;exact bo (BH o t a 0 ⟨2,0,0⟩ b) b7
def UZ(o:Nat->Sd)(t:Tb)(a M:Int)(b:Rk t c):c5 a6 328 [.d (ns o),.d (eN t),H a,I M] (T2 (.d (ns (iI o t a M ⟨3,0,jC M⟩))) (I (gR t a M))):=by
 refine dq func328 ?_;exact dL 10 (c9 (Ds M) (λ_ h=>h) (c9 (BH o t a M ⟨3,0,jC M⟩ b) (λ_ h=>h) b7))
def qK(x:Ow)(M:Int):Bool:=dC .and .u8 x.hold (jC M) != 0
def jQ(o:Nat->Sd)(t:Tb)(a M:Int):Ow:={dy o t a with hold:=dC .xor .u8 (dy o t a).hold (jC M)}
def tj(t:Tb)(a M:Int):Bool:=(gR t a M==4)||(bk t.b a&&(fl t a != a))
def iw(o:Nat->Sd)(t:Tb)(a M:Int)(b:Bool):Int:=bif tj t a M then gR t a M else bif (dy o t a).kind != 3 then 12 else bif gR t a M != 0 then gR t a M else bif qK (dy o t a) M&&b then 7 else bif !qK (dy o t a) M&&!b then 5 else 0
def gL(o:Nat->Sd)(t:Tb)(a M:Int)(b:Bool):Nat->Sd:=bif iw o t a M b==0 then iI (iI o t a M (dy o t a)) t a M (jQ o t a M)else o
def jH(o:Nat->Sd)(t:Tb)(a M:Int)(b:Bool):Int:=bif iw o t a M b==0 then(jQ o t a M).hold else 0
def zdk(t:Tb)(a M:Int):gR t a M=4\/gR t a M=12\/gR t a M=2\/gR t a M=0:=by unfold gR;cases bk t.b a<;>cases(fl t a != a)<;>cases(decide (M<0)||decide (M>=8))<;>simp
def Ps(o:Nat->Sd)(t:Tb)(a M:Int)(c:Bool){p:Int->Nat}(k:Rk t p):c5 a6 356 [.d (ns o),.d (eN t),H a,I M,B c] (T3 (.d (ns (gL o t a M c))) (.d (.z .u8 (jH o t a M c))) (I (iw o t a M c))):=by
 have n:∀{b:Int},b=12\/b=7\/b=5->(b==0)=false:=by rintro b (rfl|rfl|rfl)<;>rfl
 refine dq func356 ?_;conv=>whnf
 refine bo (tN o t a k) ?_;conv=>whnf
 refine bo (BH o t a M (dy o t a) k) ?_;conv=>whnf
 refine dL 7 ?_;conv=>whnf
 refine c9 (Ds M) (λ_ h=>h) ?_;conv=>whnf
 refine c9 (jA t.b a) (λ_ h _=>h) ?_;conv=>whnf
 refine c9 (vP t a k) (λ_ h _ _=>h) ?_;conv=>whnf
 apply a4<;>intro d
 .have f:tj t a M=true:=d;have e:(gR t a M==0)=false:=by
   unfold tj at f;rcases zdk t a M with h|h|h|h<;>rw[h]at f ⊢<;>first|rfl|skip
   unfold gR at h
   revert h f
   cases bk t.b a<;>cases(fl t a != a)<;>simp
  conv=>whnf
  refine b7 ?_;rw[gL,jH,iw,f];simp only[dZ,e,eQ];rfl
 .have f:tj t a M=false:=d;conv=>whnf
  apply a4<;>intro d
  .have i:((dy o t a).kind != 3)=true:=d;conv=>whnf
   refine b7 ?_;rw[gL,jH,iw,f,i];rfl
  .have i:((dy o t a).kind != 3)=false:=d;conv=>whnf
   apply a4<;>intro d
   .have g:(gR t a M != 0)=true:=d;have e:(gR t a M==0)=false:=b8 g
    conv=>whnf
    refine b7 ?_;rw[gL,jH,iw,f,i,g];simp only[dZ,e,eQ];rfl
   .have g:(gR t a M != 0)=false:=d;have m:gR t a M=0:=b8 g
    conv=>whnf
    apply a4<;>intro d
    .have j:(qK (dy o t a) M&&c)=true:=d;conv=>whnf
     refine b7 ?_;rw[gL,jH,iw,f,i,g,j];rfl
    .have j:(qK (dy o t a) M&&c)=false:=d;conv=>whnf
     apply a4<;>intro d
     .have l:(!qK (dy o t a) M&&!c)=true:=d;conv=>whnf
      refine b7 ?_;rw[gL,jH,iw,f,i,g,j,l];rfl
     .have l:(!qK (dy o t a) M&&!c)=false:=d;conv=>whnf
      refine dL 6 ?_;conv=>whnf
      refine c9 (Ds M) (λ_ h=>h) ?_;conv=>whnf
      refine bo (BH (iI o t a M (dy o t a)) t a M (jQ o t a M) k) ?_;conv=>whnf
      refine fg (List.range 7) [(4,14)] ?_;conv=>whnf
      repeat' (first|(refine⟨(show _/\_ from⟨rfl,rfl⟩),?_⟩;conv=>whnf))
      refine b7 ?_;rw[gL,jH,iw,f,i,g,j,l,m];rfl
def L8(o:Nat->Sd)(t:Tb)(a M:Int)(b:Rk t c):c5 a6 331 [.d (ns o),.d (eN t),H a,I M] (T2 (.d (ns (gL o t a M true))) (I (iw o t a M true))):=by
 refine dq func331 ?_;exact bo (Ps o t a M true b) b7
end Sx
end Go.Proofs.YtfbhkfhbnkncoaaGreatDoor
