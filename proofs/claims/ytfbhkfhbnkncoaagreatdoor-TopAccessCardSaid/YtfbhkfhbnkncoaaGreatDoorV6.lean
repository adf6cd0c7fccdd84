import Derived.Test.YtfbhkfhbnkncoaaGreatDoorV5
import Derived.Laws.Small
set_option linter.all false
namespace Go.Proofs.YtfbhkfhbnkncoaaGreatDoor
open Go.RowKit
namespace Sx
variable {E:Gh} {r:Option Nat} {nn:Nat}
variable {P:Program} {tb:TT} {O:Ro} {J:Bl} {m:MS} {w:World}
variable{a:Act}{next:Act->World->Prop}{g:Bool}{Q:Exit->Act->World->Prop}{i:Int}{k:IntKind}{G:List Value}{n s:Nat}{ρ:Operand->Option SV}{K:SV->MS->Prop}{t:Ty}{T e:TypeId}{x:Value}{z:ZT}
def du.X{f:Nat->D}(h:du O J (.d (.X n t f)) x):dM O (.X n t f) [x]:=h.2 rfl
def du.ow{id j:Nat}{f:Nat->D}(h:du O J (.ow id j n t f) x):dM O (.X n t f) [x]:=by obtain⟨y,e,u,_,_,_,A⟩:=h.2 rfl;cases A;exact u
def SH{f:Nat->D}(h:dM O (.X n t f) [x])(y:0<=i/\i<n):∃A c,x=.slice (some A) n c/\du O J (.el (f i.toNat)) (.pointer (some (A.add (i.toNat*t.size)))):=by
 obtain⟨A,c,v,_,s⟩:=h;obtain⟨d,e,Y,g,o,u,z,p⟩:=s a3;subst o;cases v;have b:i.toNat<n:=a3
 obtain⟨k,j,l⟩:=p _ b;have q:i.toNat*t.size+t.size<=n*t.size:=by rw[<-iO];exact gF _ b
 have a:=j.length;rw[k]at a;refine⟨_,c,rfl,ef,λ_=>⟨d,e+i.toNat*t.size,Y,_,u,j,a3,by rw[a];exact l,by rw[na]⟩⟩
def QE(t:Ty):t.off []=some (0,t):=by unfold Ty.off;rfl
def ED{i:Nat}(h:i<n):(Ty.ar n t).off [i]=some (i*t.size,t):=by simp[Ty.off,h]
def UV(a:tb.ok P)(h:tb.get T=some {size:=s,ag:=g,k:=.int k,zero:=z}):P.underlying T=some (.int k):=(a _ _ h).2.1
def Su{c:TI}(b:tb.ok P)(h:tb.get T=some {size:=s,ag:=g,k:=.array n e,zero:=z})(d:tb.get e=some c){a o:Nat}(f:0<=i/\i<n):
 (Instr.indexAt T (.pointer (some ⟨a,o,none⟩)) (.int k i)).run P w=.ok (.pointer (some ⟨a,o+i.toNat*c.size,none⟩)) w:=by
 have j:P.underlying T=some (.array n e):=(b _ _ h).2.1;simp[Instr.indexAt,asIntOf,run_underlying j,Instr.sureAddr,f,(b _ _ d).1.sizeOf,na]
def Sv{b:TI}(a:tb.ok P)(h:tb.get T=some {size:=s,ag:=g,k:=.slice e,zero:=z})(d:tb.get e=some b){A:Addr}{c:Nat}(f:0<=i/\i<n):
 (Instr.indexAt T (.slice (some A) n c) (.int k i)).run P w=.ok (.pointer (some (A.add (i.toNat*b.size)))) w:=by
 have j:P.underlying T=some (.slice e):=(a _ _ h).2.1;simp[Instr.indexAt,asIntOf,run_underlying j,f,(a _ _ d).1.sizeOf]
def fJ.F5{d:D}(h:du O J (.d d) x)(A:d.agg=true):∃f,dM O d f/\x=.agg f.toArray:=by obtain⟨f,j,u⟩:=h.1 A;exact⟨f,j,u⟩
def D.B4:∀{d:D},d.agg=d.shape.agg
 | .z .. | .I _| .st _| .np| .nf| .ni| .nm| .ic .. | .X .. | .un| .H .. | .ar .. =>rfl
def Dm{u v:SV}(h:jf O J [u,v] G):∃x y,G=[x,y]/\du O J u x/\du O J v y:=by
 match G,h with
 |[x,y],⟨a,b,_⟩=>exact⟨x,y,rfl,a,b⟩
def Wi{u v s:SV}(h:jf O J [u,v,s] G):∃x y z,G=[x,y,z]/\du O J u x/\du O J v y/\du O J s z:=
 match G,h with
 |[x,y,z],⟨a,b,c,_⟩=>⟨x,y,z,rfl,a,b,c⟩
def tT(b:∀x v,ρ x=some v->du O J v (a.eval x)):∀{o:Option Operand} {q:Option Int},ot ρ o=some q->(q=none/\o.map a.eval=none)\/∃i k,q=some i/\o.map a.eval=some (.int k i)
 |none,q,h=>by simp only[ot,fW]at h;exact .inl ⟨h.symm,rfl⟩
 |some x,q,h=>by
  simp only[ot]at h;split at h
  .rename_i k i d;cases h;obtain⟨c,_⟩:=(b _ _ d).z;exact .inr ⟨i,k,rfl,by rw[qs,c]⟩
  .cases h
def SJ(hP:tb.ok P)(hu:P.underlying T=some (.slice e)){ie:TI}(hie:tb.get e=some ie){f:Nat->D}(hsz:t.size=ie.size){x lo hi mx}(hx:dM O (.X n t f) [a.eval x]){q:Unit ⊕(Nat×Nat)}(hq:∀{id A6},q=.inr (id,A6)->du O J (.ow id A6 n t f) (a.eval x))(hM:Mem E O J m w)(hρ:∀x v,ρ x=some v->du O J v (a.eval x)){l hh mm:Option Int}(hlo:ot ρ lo=some l)(hhi:ot ρ hi=some hh)(hmx:ot ρ mx=some mm){G:Prop->Prop}(hG:∀p,G p->p){dst type pos after guard}{Kp:D->MS->Prop}(g:Goes E P O J w {dst:=dst,op:=.slice T x lo hi mx,type:=type,pos:=pos,after:=after,guard:=guard} a next Q K Kp)(h:qW G K m q n t f (l.getD 0) hh mm):Oper.wpIn (FR r) nn P {dst:=dst,op:=.slice T x lo hi mx,type:=type,pos:=pos,after:=after,guard:=guard} a w next Q:=by
 obtain⟨A,c,hxv,hnc,_⟩:=id hx;cases hxv':a.eval x<;>rw[hxv']at hxv<;>cases hxv;have hel:P.elem T=e:=by simp[Program.elem,hu]
 have hu':P.underlying T=some (.slice (P.elem T)):=by rw[hel];exact hu
 have hsz':(sizeOf (P.elem T)).run P w=.ok t.size w:=by rw[hel,hsz];exact(hP _ _ hie).1.sizeOf w
 rw[hxv']at hx hq;have hexec:(execOp a.eval {dst:=dst,op:=.slice T x lo hi mx,type:=type,pos:=pos,after:=after,guard:=guard}).run P w=((Instr.slice T (.slice A n c) (lo.map a.eval) (hi.map a.eval) (mx.map a.eval)).run P w).andThen λv w=>.ok (.value v) w:=by rw[<-run_sliceAt_slice (P:=P) w T _ _ _ _ hu',<-hxv'];cases lo<;>cases hi<;>cases mx<;>simp[execOp]
 have fin:∀(l h mm:Nat) (v:SV),(Instr.slice T (.slice A n c) (lo.map a.eval) (hi.map a.eval) (mx.map a.eval)).run P w=((sizeOf (P.elem T)).run P w).andThen (λs w=>.ok (sliced A l h mm s) w)->du O J v (sliced A l h mm t.size)->K v m->Oper.wpIn (FR r) nn P {dst:=dst,op:=.slice T x lo hi mx,type:=type,pos:=pos,after:=after,guard:=guard} a w next Q:=λl h mm v hr hv hK=>
  g.val (M:=w) (by rw[hexec,hr,hsz'];rfl) hK hv hM (Gr.refl _ _ _)
 have repD:∀{N F y},dM O (.X N t F) [y]->du O J (.d (.X N t F)) y:=λh=>⟨(λh=>by cases h),λ_=>h⟩;rcases tT hρ hhi with⟨rfl,ehi⟩|⟨ih,kh,rfl,ehi⟩<;>rcases tT hρ hmx with⟨rfl,emx⟩|⟨im,km,rfl,emx⟩
 .have hl:qW G K m q n t f (l.getD 0) none none->(0<=l.getD 0/\l.getD 0<=n)/\∀{v},du O J (.d (.X (n -(l.getD 0).toNat) t (jT f (l.getD 0).toNat))) v->v=sliced A (l.getD 0).toNat n c t.size->∃u,du O J u v/\K u m:=λh=>by
   unfold qW at h;cases q with
   |inl _=>exact⟨hG _ h.1,λhv _=>⟨_,hv,h.2⟩⟩
   |inr p=>
    refine⟨hG _ h.1,λ{v} hv he=>⟨_,?_,h.2⟩⟩;obtain⟨y,e',g1,g2,g3,g4,g5⟩:=(hq rfl).2 rfl;cases g5;subst he;exact⟨(λh=>by cases h),λ_=>⟨_,e',hv.2 rfl,g2,g3,λhv'=>zdI (g4 hv') (by have:=hG _ h.1;omega) hnc,rfl⟩⟩
  obtain⟨hb,hk⟩:=hl h;obtain⟨u,hu1,hu2⟩:=hk (repD (KJ hx (by omega) (a9 _) hnc)) rfl;refine fin _ n c u ?_ hu1 hu2;rw[ehi,emx];rcases tT hρ hlo with⟨rfl,elo⟩|⟨il,kl,rfl,elo⟩
  .rw[elo];exact run_slice_all w T A n c hu'
  .rw[elo];exact run_slice_l w T A n c hu' kl il hb.1 hb.2
 .unfold qW at h;exact h.elim
 .unfold qW at h;have hb:=hG _ h.1;refine fin (l.getD 0).toNat ih.toNat c _ ?_ (repD (KJ hx (by omega) (by omega) (by omega))) h.2;rw[ehi,emx];rcases tT hρ hlo with⟨rfl,elo⟩|⟨il,kl,rfl,elo⟩
  .rw[elo];exact run_slice_h w T A n c hu' kh ih (by simp at hb;omega) (by omega)
  .rw[elo];exact run_slice_lh w T A n c hu' kl kh il ih hb.1 hb.2.1 (by omega)
 .unfold qW at h;have hb:=hG _ h.1;obtain⟨hb1,hb2,hb3,rfl⟩:=hb;refine fin (l.getD 0).toNat im.toNat im.toNat (.ow 0 0 (im.toNat -(l.getD 0).toNat) t (jT f (l.getD 0).toNat)) ?_ ⟨(λh=>by cases h),λ_=>⟨_,(none,0,0),KJ hx (by omega) (by omega) (a9 _),rfl,a9 _,λ_=>.inl ⟨_,rfl⟩,rfl⟩⟩ h.2;rw[ehi,emx];rcases tT hρ hlo with⟨rfl,elo⟩|⟨il,kl,rfl,elo⟩
  .rw[elo];exact run_slice_hm w T A n c hu' kh km im im (by simp at hb1 hb2;omega) (i6 _) (by omega)
  .rw[elo];exact run_slice_lhm w T A n c hu' kl kh km il im im hb1 hb2 (i6 _) (by omega)
set_option maxHeartbeats 2000000 in
def ze7(hP:tb.ok P){o:Oper}(hM:Mem E O J m w)(F:∀x v,ρ x=some v->du O J v (a.eval x)){G:Prop->Prop}(hG:∀p,G p->p){H:Bool}{Kp:D->MS->Prop}(h:gu P tb o.op m ρ G H K Kp)(g:Goes E P O J w o a next Q K Kp):o.wpIn (FR r) nn P a w next Q:=by
 have ai:∀{v},pv tb m.c ρ o.op=some v->K v m->o.wpIn (FR r) nn P a w next Q:=λR hK=>by obtain⟨x,hr,U⟩:=zbO hP hM F R;exact g.val hr hK U hM (Gr.refl _ _ _) λc hc=>by rw[hc]at R;simp[pv]at R
 obtain⟨aq,op,ah,au,ad,ae⟩:=o;cases op with
 |alloc T=>
  simp only[gu]at h;split at h
  .rename_i i hi;cases H with
   |true=>cases h
   |false=>
    have hz:fJ O J i.zero.sv (if i.ag then .agg i.zero.cells.toArray else i.zero.cells.headD undef):=by
     have:=fJ.Z (i.zero.H1 O J).1
     rwa [(i.zero.H1 O J).2.2,(hP _ _ hi).2.2.2.1]at this
    obtain⟨M,hr,an,am⟩:=Np (P:=P) hM hz T;have aK:=(hP _ _ hi).2.2.1;generalize(if i.ag then Value.agg i.zero.cells.toArray else i.zero.cells.headD undef)=zv at hz hr aK;refine g.val (x:=.pointer (some ⟨w.heap.size,0,none⟩)) (M:=M) ?_ h ?_ an am
    .cases hq:P.info? T with
     |none=>simp[hq]at aK
     |some bv=>
      have ba:bv.zero=some zv:=by simpa[hq]using aK
      simp[execOp,Instr.alloc,zeroValue,typeInfo,hq,ba,hr]
    .refine⟨ef,λ_=>⟨w.heap.size,i.zero.sv.shape,0,_,?_,QE _,rfl⟩⟩;show(J.b++_)[m.c.length]?=_;rw[<-hM.len,oh (a9 _)];simp
  .cases h
 |box T x=>
  simp only[gu]at h;split at h
  .rename_i v R;split at h
   .rename_i aG;cases H with
    |true=>cases h
    |false=>
     have hz:=(F _ _ R).a (SV.D6 aG);obtain⟨M,hr,an,am⟩:=Np (P:=P) hM hz T;refine g.val (x:=.pointer (some ⟨w.heap.size,0,none⟩)) (M:=M) (by simp[execOp,Instr.box,hr]) h ?_ an am;refine⟨ef,λ_=>⟨w.heap.size,v.shape,0,_,?_,QE _,rfl⟩⟩;show(J.b++_)[m.c.length]?=_;rw[<-hM.len,oh (a9 _)];simp
   .cases h
  .cases h
 |store T x y=>
  simp only[gu]at h;split at h
  .rename_i id bc u U hy;obtain⟨ap,t,o,t',hb,ho,N⟩:=(F _ _ U).B;split at h
   .rename_i aG;split at h
    .rename_i c hc;rw[qH]at hc;split at h
     .rename_i bb aX;split at h
      .rename_i i hi;split at h
       .rename_i hs;simp only[dH,fY]at hs;split at h
        .rename_i Z bf;cases H with
         |true=>cases h
         |false=>
          replace h:K (.tu (.d .un)) ⟨oJ m.c id Z,m.t,m.o⟩:=by
           simp only at h;split at h
           .obtain⟨_,rfl,h⟩:=h;exact h
           .exact h
          obtain⟨C,e,hg,hr,aH,_⟩:=hM.box id ap t c hb hc;subst aH;obtain⟨ax,_⟩:=SV.O hr ho aX;obtain⟨M,aC,an,am⟩:=zd8 (P:=P) hM hb hc ho (by rw[(SV.B7 u bb).1,<-hs.1,ax]) bf (T:=T) (by rw[(SV.B7 u bb).1,fp hs.2];exact(hP _ _ hi).1.1) ((F _ _ hy).a (SV.D6 aG)).C4;rw[vy]at h;refine wB (by intro c h;cases h) ?_;have ab:(execOp a.eval {dst:=aq,op:=.store T x y,type:=ah,pos:=au,after:=ad,guard:=ae}).run P w=.ok .skip M:=by simp[execOp,Instr.storeAt,Instr.sureAddr,N,aC]
          rw[ab];exact g.ok _ _ _ _ _ _ h Fe an am
        .cases h
       .cases h
      .cases h
     .cases h
    .cases h
   .cases h
  .cases h
 |indexAddr T x ix=>
  simp only[gu]at h;split at h
  .rename_i id bc k i n e s ag z U ak hT;obtain⟨ap,t,o,t',hb,ho,N⟩:=(F _ _ U).B;have aj:=(F _ _ ak).z.1;split at h
   .rename_i c hc;rw[qH]at hc;split at h
    .rename_i n' t0 f hn;split at h
     .rename_i ie aa;split at h
      .rename_i hs;simp only[dH]at hs;have h1:=fp hs.1;have h2:=fp hs.2;subst h1;obtain⟨C,e',hg,hr,aH,_⟩:=hM.box id ap t c hb hc;subst aH;obtain⟨ax,_⟩:=SV.O hr ho hn;have hi:=hG _ h.1;have av:=zn ho (s:=[i.toNat]) (by rw[<-ax];exact ED a3);refine g.val (x:=.pointer (some ⟨ap,o+i.toNat*ie.size,none⟩)) (M:=w) ?_ h.2 ?_ hM (Gr.refl _ _ _)
       .simp[execOp,N,aj,Su hP hT aa hi]
       .exact⟨ef,λ_=>⟨ap,_,_,_,hb,av,by rw[h2]⟩⟩
      .cases h
     .cases h
    .cases h
   .cases h
  .rename_i n t f k i e s ag z U ak hT;have aj:=(F _ _ ak).z.1;split at h
   .rename_i ie aa;split at h
    .rename_i hs;have h2:=fp hs;obtain⟨A,c,N,hp⟩:=SH (J:=J) (F _ _ U).X (hG _ h.1);refine g.val (M:=w) ?_ h.2 hp hM (Gr.refl _ _ _);simp[execOp,N,aj,Sv hP hT aa (hG _ h.1),h2]
    .cases h
   .cases h
  .rename_i id aL n t f k i e s ag z U ak hT;have aj:=(F _ _ ak).z.1;split at h
   .rename_i ie aa;split at h
    .rename_i hs;have h2:=fp hs;obtain⟨A,c,N,hp⟩:=SH (J:=J) (F _ _ U).ow (hG _ h.1);refine g.val (M:=w) ?_ h.2 hp hM (Gr.refl _ _ _);simp[execOp,N,aj,Sv hP hT aa (hG _ h.1),h2]
    .cases h
   .cases h
  .rename_i n' t0 f k i n e s ag z U ak hT;obtain⟨ap,off,Y,vs,h1,h2,h3,h4,N⟩:=(F _ _ U).el;have aj:=(F _ _ ak).z.1;split at h
   .rename_i ie aa;split at h
    .rename_i hs;simp only[dH]at hs;have e1:=fp hs.1;have e2:=fp hs.2;subst e1;have hi:=hG _ h.1;have av:(D.ar s t0 f).shape.off [i.toNat]=some (i.toNat*t0.size,t0):=ED a3;have bn:(D.ar s t0 f).B0 [i.toNat]=some (f i.toNat):=by simp[D.B0]
     obtain⟨ax,aC⟩:=D.O h2 av bn;have aU:=Ty.T av;have hl:=h2.length;have aT:=aC.length;refine g.val (x:=.pointer (some ⟨ap,off+i.toNat*ie.size,none⟩)) (M:=w) ?_ h.2 ?_ hM (Gr.refl _ _ _)
     .simp[execOp,N,aj,Su hP hT aa hi]
     .refine⟨ef,λ_=>⟨ap,off+i.toNat*t0.size,Y,_,h1,aC,?_,?_,by rw[e2]⟩⟩
      .rw[aT,ax];omega
      .rw[aT,ax,<-h4,qn (by rw[hl];exact aU)]
    .cases h
   .cases h
  .cases h
 |index T x ix=>
  simp only[gu]at h;split at h
  .rename_i n t f k i s ag n' e z U ak hT;have aj:=(F _ _ ak).z.1;have hu:P.underlying T=some (.array n' e):=(hP T _ hT).2.1;split at h
   .rename_i ie aa;split at h
    .rename_i hs;simp only[dH,od,gG]at hs;have h1:=fp hs.1;have h2:=fp hs.2.1;subst h1;have hi:=hG _ h.1;obtain⟨C,⟨gg,aQ,aE⟩,N⟩:=fJ.F5 (F _ _ U) rfl;have aw:i.toNat<n:=a3
     obtain⟨g1,g2⟩:=aE _ aw;have hk:∀j,j<n->(gg j).length=t.size:=λj hj=>by rw[(aE j hj).2.length,(aE j hj).1]
     have bx:C.length=n*t.size:=by rw[aQ];exact u5 hk
     have az:=xp hk aw;rw[<-aQ]at az;have aU:i.toNat*t.size+t.size<=n*t.size:=by rw[<-iO];exact gF _ aw
     have aM:=(hP _ _ aa).1;rw[<-h2,<-hs.2.2]at aM;have ab:=KE (P:=P) (w:=w) aM (C:=C) (o:=i.toNat*t.size) a3 (λh=>by cases t<;>first|rfl|cases h);rw[az]at ab;have hr:=fJ.Z (J:=J) (v:=.d (f i.toNat)) g2;rw[show(SV.d (f i.toNat)).agg=t.agg from by rw[<-g1];exact D.B4]at hr;refine g.val (M:=w) ?_ h.2 hr.v hM (Gr.refl _ _ _);simp[execOp,Instr.index,asIntOf,N,aj,run_underlying hu,hi,(hP _ _ aa).1.sizeOf,<-h2,ab]
    .cases h
   .cases h
  .rename_i s k i W ag z U ak hT;have aj:=(F _ _ ak).z.1;have hu:P.underlying T=some .string:=(hP T _ hT).2.1;have N:a.eval x=.string s:=by have:=(F _ _ U).2 rfl;simpa[eX,dM]using this
   have hi:=hG _ h.1;have aw:i.toNat<s.size:=a3
   have hb:fF s i=(s[i.toNat].toNat:Int):=by
    unfold fF
    congr 2
    rw[eu,ed (b8 aw)];rfl
   refine g.val (M:=w) (x:=.int .u8 (fF s i)) ?_ h.2 (oc ?_) hM (Gr.refl _ _ _)
   .simp[execOp,Instr.index,asIntOf,N,aj,run_underlying hu,hi.1,aw,hb]
   .rw[hb];have:=s[i.toNat].toNat_lt;exact iL (by simp only[eU];omega) (λ_=>a3) (by simp only[eU];omega)
  .cases h
 |convert S T x=>
  simp only[gu]at h;split at h
  .rename_i k n ti s ag k' z U hS hT;obtain⟨N,hk⟩:=(F _ _ U).z;have hu:=UV hP hT;have ab:∀c,k'.wrap n=c->(execOp a.eval {dst:=aq,op:=.convert S T x,type:=ah,pos:=au,after:=ad,guard:=ae}).run P w=.ok (.value (.int k' c)) w:=λc hc=>by
    subst hc;have hc:∀w,(convert S T (.int k n)).run P w=.ok (.int k' (k'.wrap n)) w:=λw=>by obtain⟨_,d,hd,_⟩:=(hP _ _ hS).1;unfold convert;simp only[jt,run_underlying hd,run_underlying hu,lQ];cases d<;>simp[Conv.intToInt]
    simp[execOp,N,hc]
   split at h
   .rename_i hw;exact g.val (ab n (l5 (PI hw hk))) h (oc (PI hw hk)) hM (Gr.refl _ _ _)
   .exact g.val (ab _ rfl) h (oc (rJ _ _)) hM (Gr.refl _ _ _)
  .cases h
 |binOp op T x y yT=>
  simp only[gu]at h;split at h
  .split at h
   .rename_i v R;exact ai R h
   .split at h
    .rename_i n t f u U hy;split at h
     .split at h
      .rename_i s ag e z hT;have hu:P.underlying T=some (.slice e):=(hP T _ hT).2.1;obtain⟨A,c,N,bA,hA⟩:=(F _ _ U).X;have N:a.eval x=.slice A n c:=b8 N
       have hb:0<n->A.isNone=false:=λh0=>by obtain⟨_,_,_,_,hA,_⟩:=hA h0;rw[hA];rfl
       cases H with
       |true=>cases h
       |false=>
       have h2:=h A.isNone hb;have e2:a.eval (.const (.slice none 0 0))=.slice none 0 0:=rfl;have he:(Op.equal T (.slice A n c) (.slice none 0 0)).run P w=.ok A.isNone w:=by unfold Op.equal Op.maxDepth Op.equalIn;cases A<;>simp[run_underlying hu]
       split at h2
       .rename_i v R;cases op<;>simp only[qE,fW,reduceCtorEq]at R<;>subst R
        .exact g.val (M:=w) (x:=.bool A.isNone) (by simp[execOp,eqGuard,binOp,N,e2,he]) h2 (lY _) hM (Gr.refl _ _ _)
        .exact g.val (M:=w) (x:=.bool (!A.isNone)) (by simp[execOp,eqGuard,binOp,N,e2,he]) h2 (lY _) hM (Gr.refl _ _ _)
       .cases h2
      .cases h
     .cases h
    .rename_i d1 d2 _ U hy;split at h
     .rename_i aD;simp only[dH]at aD;obtain⟨r,hE,hK⟩:=h;have hE:=hG _ hE;obtain⟨c1,aN,al⟩:=fJ.F5 (F _ _ U) aD.1;obtain⟨c2,aO,aJ⟩:=fJ.F5 (F _ _ hy) aD.2;have ay:=λop=>hE O J _ _ x y w op (F _ _ U) (F _ _ hy);rw[al,aJ]at ay;split at hK
      .rename_i v R;cases op<;>simp only[qE,fW,reduceCtorEq]at R<;>subst R
       .exact g.val (M:=w) (x:=.bool r) (by simp[execOp,binOp,al,aJ,(ay .eql).1,(ay .eql).2]) hK (lY _) hM (Gr.refl _ _ _)
       .exact g.val (M:=w) (x:=.bool (!r)) (by simp[execOp,binOp,al,aJ,(ay .neq).1,(ay .neq).2]) hK (lY _) hM (Gr.refl _ _ _)
      .cases hK
     .cases h
    .cases h
  .split at h
   .rename_i k n k' n' U hy;obtain⟨N,hk⟩:=(F _ _ U).z;obtain⟨aZ,Q⟩:=(F _ _ hy).z;have aR:∀w,(eqGuard op T x y (.int k n) (.int k' n')).run P w=.ok () w:=λw=>by unfold eqGuard;cases op<;>simp
    split at h
    .rename_i c hs;have hp:(∀q,Fu k' n'=some q->q)/\K (.d (.z k c)) m:=by
      unfold tn at h;cases ho:Fu k' n' with
      |none=>rw[ho]at h;exact⟨(λq hq=>by cases hq),h⟩
      |some q=>rw[ho]at h;exact⟨(λq' hq=>by cases hq;exact hG _ h.1),h.2⟩
     obtain⟨h2,h3⟩:=zdu (P:=P) hs hk (zdr Q hp.1);refine g.val (M:=w) ?_ hp.2 (oc h2) hM (Gr.refl _ _ _);cases op<;>simp only[zF,reduceCtorEq]at hs
     all_goals simp[execOp,N,aZ,aR,binOp,h3]
    .rename_i hs;split at h
     .rename_i aF;have aF:k=k':=b8 aF
      subst aF;split at h
      .rename_i p c ha;have hp:(∀q,p=some q->q)/\K (.d (.z k c)) m:=by
        unfold tn at h;cases p with
        |none=>exact⟨(λq hq=>by cases hq),h⟩
        |some q=>exact⟨(λq' hq=>by cases hq;exact hG _ h.1),h.2⟩
       obtain⟨h1,h2⟩:=Wj (P:=P) (T:=T) hs ha hp.1;refine g.val (M:=w) ?_ hp.2 (oc h1) hM (Gr.refl _ _ _);simp[execOp,N,aZ,aR,h2]
      .cases h
     .cases h
   .cases h
 |call c=>
  obtain⟨aA,V,L⟩:=c;cases aA with
  |value f=>
   simp only[gu]at h;split at h
   .rename_i k cp l hf hl;obtain⟨vs,bp,bj⟩:=(F _ _ hf).fn;have ar:=s8 F hl;split at h
    .rename_i aP;have hA:=ar.app (Hw bp aP);have ab:∀(hE:uJ P k),(execOp a.eval {dst:=aq,op:=.call ⟨.value f,V,L⟩,type:=ah,pos:=au,after:=ad,guard:=ae}).run P w=.ok (.enter k (V.toList.map a.eval++vs).toArray) w:=λhE=>by simp[execOp,resolve,bj,Deferred.ofValue,invoke,hE _ _]
     cases H with
     |true=>
      simp only at h;split at h
      .obtain⟨v,R,hK⟩:=h;exact Ao g hM hA (ab (hG _ R m).1) (bo (hG _ R) hK)
      .obtain⟨v,R,hK⟩:=h;exact Ao g hM hA (ab (hG _ R).1) (mD (hG _ R) hK)
     |false=>exact Ao g hM hA (ab h.1) h
    .cases h
   .cases h
  |invoke r s=>cases h
  |builtin b=>
   cases b with
   |len=>
    simp only[gu]at h;split at h
    .rename_i v T hl hT;have ar:=s8 F hl
     match be:V.toList.map a.eval,ar with
     |[x],al=>
      have ac:V.map a.eval= #[x]:=nW (b8 be);have aB:L= #[T]:=nW (b8 hT);split at h
      .rename_i s ag e z ao;have hu:P.underlying T=some (.slice e):=(hP _ _ ao).2.1;have aY:∀n t f,dM O (.X n t f) [x]->(execOp a.eval {dst:=aq,op:=.call ⟨.builtin .len,V,L⟩,type:=ah,pos:=au,after:=ad,guard:=ae}).run P w=.ok (.value (.int .i64 n)) w:=λn t f hr=>by obtain⟨A,c,br,_⟩:=hr;cases br;simp[execOp,resolve,invoke,builtin,Builtin.len_,ac,aB,run_underlying hu,goInt]
       split at h
       .exact g.val (aY _ _ _ al.1.X) h.2 (oc (nM (hG _ h.1))) hM (Gr.refl _ _ _)
       .exact g.val (aY _ _ _ al.1.ow) h.2 (oc (nM (hG _ h.1))) hM (Gr.refl _ _ _)
       .cases h
      .rename_i s ag z ao;have hu:P.underlying T=some .string:=(hP _ _ ao).2.1;split at h
       .rename_i q;have bs:x=.string q:=by have:=al.1.2 rfl;cases this;rfl
        refine g.val (M:=w) ?_ h.2 (oc (nM (hG _ h.1))) hM (Gr.refl _ _ _);simp[execOp,resolve,invoke,builtin,Builtin.len_,ac,aB,run_underlying hu,goInt,bs]
       .cases h
      .cases h
     |[],al=>cases al
     |_::_::_,al=>exact al.2.elim
    .cases h
   |min=>
    simp only[gu]at h;split at h
    .rename_i k x k' y hl;obtain⟨_,_,ac,U,hy⟩:=Dm (s8 F hl);obtain⟨rfl,U⟩:=U.z;obtain⟨rfl,hy⟩:=hy.z;have af:V.map a.eval= #[.int k x,.int k' y]:=nW (b8 ac);have hr:(execOp a.eval {dst:=aq,op:=.call ⟨.builtin .min,V,L⟩,type:=ah,pos:=au,after:=ad,guard:=ae}).run P w=.ok (.value (.int k (if y<x then y else x))) w:=by simp only[execOp,resolve,invoke,builtin,af,jt,m9,lQ,run_min_int2]
     have hb:(bif decide (y<x)then y else x)=if y<x then y else x:=by by_cases h:y<x<;>simp[h]
     split at h
     .rename_i hk;have hk:=gM hk;subst hk;rw[hb]at h;have hi:=hG _ h.1;refine g.val hr h.2 (oc ?_) hM (Gr.refl _ _ _);split
      .exact nM hi.2
      .exact nM hi.1
     .rw[hb]at h;have hi:=hG _ h.1;refine g.val hr h.2 (oc ?_) hM (Gr.refl _ _ _);split
      .exact hi.2
      .exact hi.1
    .cases h
   |max=>
    simp only[gu]at h;split at h
    .rename_i k x k' y hl;obtain⟨_,_,ac,U,hy⟩:=Dm (s8 F hl);obtain⟨rfl,U⟩:=U.z;obtain⟨rfl,hy⟩:=hy.z;have af:V.map a.eval= #[.int k x,.int k' y]:=nW (b8 ac);have hr:(execOp a.eval {dst:=aq,op:=.call ⟨.builtin .max,V,L⟩,type:=ah,pos:=au,after:=ad,guard:=ae}).run P w=.ok (.value (.int k (if y>x then y else x))) w:=by simp only[execOp,resolve,invoke,builtin,af,jt,m9,lQ,run_max_int2]
     have hb:(bif decide (y>x)then y else x)=if y>x then y else x:=by by_cases h:y>x<;>simp[h]
     split at h
     .rename_i hk;have hk:=gM hk;subst hk;rw[hb]at h;have hi:=hG _ h.1;refine g.val hr h.2 (oc ?_) hM (Gr.refl _ _ _);split
      .exact nM hi.2
      .exact nM hi.1
     .cases h
    .rename_i k x k' y k2 z hl;obtain⟨_,_,_,ac,U,hy,hz⟩:=Wi (s8 F hl);obtain⟨rfl,U⟩:=U.z;obtain⟨rfl,hy⟩:=hy.z;obtain⟨rfl,hz⟩:=hz.z;have af:V.map a.eval= #[.int k x,.int k' y,.int k2 z]:=nW (b8 ac);have hb:∀x y:Int,qP x y=if y>x then y else x:=λx y=>by by_cases h:y>x<;>simp[qP,h]
     have hr:(execOp a.eval {dst:=aq,op:=.call ⟨.builtin .max,V,L⟩,type:=ah,pos:=au,after:=ad,guard:=ae}).run P w=.ok (.value (.int k (qP (qP x y) z))) w:=by simp only[execOp,resolve,invoke,builtin,af,jt,m9,lQ,Builtin.max_,List.foldlM,Builtin.max2,hb]
     have hi:=hG _ h.1;have hm:∀{x y:Int},ja k x=true->ja k y=true->ja k (qP x y)=true:=λ{x y} U hy=>by unfold qP;cases decide (y>x)<;>assumption
     exact g.val hr h.2 (oc (hm (hm hi.1 hi.2.1) hi.2.2)) hM (Gr.refl _ _ _)
    .cases h
   |append=>
    simp only[gu]at h;split at h
    .cases h
    split at h
    .rename_i id aL n t f yv T T' hl hT;obtain⟨x,y,ac,U,hy⟩:=Dm (s8 F hl);have af:V.map a.eval= #[x,y]:=nW (b8 ac);have aB:L= #[T,T']:=nW (b8 hT);split at h
     .rename_i n' t' f' s ag e z bt ao;have bu:=(hy.B9 bt).X;have hu:P.underlying T=some (.slice e):=(hP _ _ ao).2.1;split at h
      .rename_i ie aa;split at h
       .rename_i hc;simp only[dH,pP,fY]at hc;obtain⟨⟨⟨aN,aO⟩,bg⟩,bh⟩:=hc;have bd:=fp aN;subst bd;split at h
        .rename_i cv bi;obtain⟨⟨rfl,hb⟩,hK⟩:=h;have bq:du O J (.ow id aL n t' f) x:=by
          rcases bh with rfl|⟨h1,h2⟩
          .exact U
          .have h1:=fp h1;have h2:=fp h2;subst h1;subst h2;obtain⟨x',e',g1,g2,g3,g4,g5⟩:=U.2 rfl;cases g5;cases g2;refine⟨ef,λ_=>⟨_,_,g1.C8,rfl,g3,λR=>.inl ?_,rfl⟩⟩;rcases g4 R with g4|⟨_,_,_,_,g5,_⟩
           .exact g4
           .cases g5
         obtain⟨bw,bz,M,v',hr,I,an,am⟩:=Nd (P:=P) (ty:=ah) hP hM hu aa (fp aO) (fp bg) bq bi bu hb;refine g.val (M:=M) ?_ hK I an am;simp only[execOp,resolve,invoke,builtin,af,aB,jt,m9,lQ,hr]
        .cases h
       .cases h
      .cases h
     .cases h
    .cases h
   |_=>cases h
 |buildSlice T n ps=>
  simp only[gu]at h;split at h
  .rename_i s ag e z ao;have hu:P.underlying T=some (.slice e):=(hP _ _ ao).2.1;split at h
   .rename_i ie aa;split at h
    .rename_i l hc hl;simp only[dH]at hc;split at h
     .rename_i bm;obtain⟨bw,M,x,hr,U,an,am⟩:=Ns hP hM hu aa (fp hc.2) (dF hc.1) F hl (fp bm);exact g.val (M:=M) (by simp[execOp,hr]) h U an am
     .cases h
    .cases h
   .cases h
  .cases h
 |slice T x lo hi mx=>
  simp only[gu]at h;split at h
  .rename_i s ag e z ao;have hu:P.underlying T=some (.slice e):=(hP _ _ ao).2.1;split at h
   .rename_i ie aa;split at h
    .rename_i v l hh mm U aV aS aW;split at h
     .rename_i n t f;split at h
      .rename_i aI;exact SJ hP hu aa (fp aI) (F _ _ U).X ef hM F aV aS aW hG g h
      .cases h
     .rename_i id aL n t f;split at h
      .rename_i aI;exact SJ hP hu aa (fp aI) (F _ _ U).ow (λhq=>by cases hq;exact F _ _ U) hM F aV aS aW hG g h
      .cases h
     .cases h
    .cases h
   .cases h
  .cases h
 |move x=>simp only[gu]at h;split at h;(·rename_i v R;exact ai R h);cases h
 |assign x=>simp only[gu]at h;split at h;(·rename_i v R;exact ai R h);cases h
 |load T x=>simp only[gu]at h;split at h;(·rename_i v R;exact ai R h);cases h
 |fieldAddr T x k=>simp only[gu]at h;split at h;(·rename_i v R;exact ai R h);cases h
 |extract t i=>simp only[gu]at h;split at h;(·rename_i v R;exact ai R h);cases h
 |unOp op T x=>simp only[gu]at h;split at h;(·rename_i v R;exact ai R h);cases h
 |makeFunc f c d=>simp only[gu]at h;split at h;(·rename_i v R;exact ai R h);cases h
 |field T x k=>simp only[gu]at h;split at h;(·rename_i v R;exact ai R h);cases h
 |build T p=>simp only[gu]at h;split at h;(·rename_i v R;exact ai R h);cases h
 |makeInterface T x=>simp only[gu]at h;split at h;(·rename_i v R;exact ai R h);cases h
 |nilCheck x=>simp only[gu]at h;split at h;(·rename_i v R;exact ai R h);cases h
 |_=>simp[gu,pv]at h
end Sx
namespace Sx
variable {E:Gh}
variable {P:Program} {tb:TT}
variable {O:Ro} {J:Bl} {m:MS} {w:World}
variable{y y':BO}{c i n v:Nat}{f:Nat->D}{b:Option Nat}{t:Ty}{x:Value}{M:World}
def Bl.oset(J:Bl)(k:Nat)(y:BO):Bl:=⟨J.b,J.t,J.o.set k y,J.k,J.g⟩
def Bl.A7(J:Bl)(y:BO):Bl:=⟨J.b,J.t,J.o++[y],J.k,J.g⟩
def Le.oset(O:Ro){J:Bl}{id:Nat}(A:J.o[id]?=some y)(f:y.le y'):Le O J O (J.oset id y'):=⟨Ro.le_refl _,λ_ _ h=>h,(Le.refl O J).t,λi x j=>by
 by_cases u:i=id
 .subst u;rw[A]at j;cases j;exact⟨y',DZ A,f⟩
 .exact⟨x,Pb j u,x.le_refl⟩,rfl⟩
def Le.A7(O:Ro)(J:Bl)(y:BO):Le O J O (J.A7 y):=⟨Ro.le_refl _,λ_ _ h=>h,(Le.refl O J).t,λ_ x f=>⟨x,It f,x.le_refl⟩,rfl⟩
def Mem.B6(h:Mem E O J m w){id:Nat}{x':Ob}(N:J.o[id]?=some y)(aa:y.le y')(F:∀b,y'.N=some b->y.N=some b\/w.heap.size<=b)(ab:M.os=w.os)(ae:M.tape=w.tape)(ac:M.output=w.output)(ad:w.heap.size<=M.heap.size)(C:∀b,b<w.heap.size->y.N≠some b->M.heap[b]?=w.heap[b]?)(hO:Le O J O (J.oset id y')->sc O (J.oset id y') M x' y'):Mem E O (J.oset id y') ⟨m.c,m.t,m.o.set id x'⟩ M/\Gr O J w O (J.oset id y') M:=by
 have Z:Le O J O (J.oset id y'):=Le.oset O N aa;have U:∀b Y,O b=some Y->M.heap[b]?=w.heap[b]?:=λb Y R=>C b (h.A9 R) λe=>by rw[h.C6 N e]at R;cases R
 have hG:Gr O J w O (J.oset id y') M:=⟨ab,ae,ac,ad,λb f hn=>⟨C b f λe=>hn (Bl.B8 N e),rfl⟩,Z,λb f=>by
  rcases f with f|f|⟨i,x,u,e⟩
  .exact .inl (.inl f)
  .exact .inl (.inr (.inl f))
  .rcases mS u with⟨rfl,rfl⟩|⟨_,u⟩
   .rcases F b e with A|A
    .exact .inl (Bl.B8 N A)
    .exact .inr A
   .exact .inl (Bl.B8 u e),rfl⟩
 have V:∀{i:Nat} {x:BO} {b:Nat},J.o[i]?=some x->x.N=some b->i≠id->y'.N≠some b:=λ{i x b} u f L e=>by
  rcases F b e with A|A
  .exact L (h.A2 _ _ _ _ _ u N f A)
  .have:=h.D4 (Bl.B8 u f);omega
 refine h.both ⟨h.len,h.A6,λi K t v f hc=>?_,h.inj,λi e K he f=>?_,h.A3,λb Y R=>?_,by show(J.o.set id y').length=(m.o.set id x').length;simp[h.R],λi z x G u=>?_,λi j x z b u G f Q=>?_,λi j x z u G f=>?_⟩ hG
 .obtain⟨S,e',A,T,h3⟩:=h.box i K t v f hc;exact⟨S,e',(C K (h.lt f) (h.I _ _ _ _ f N)).trans A,T.mono Z,h3⟩
 .obtain⟨Y,S,ty,A,T,h3⟩:=h.tail i e K he f;exact⟨Y,S,ty,A,(U _ _ A).trans T,h3⟩
 .obtain⟨S,e',fz,A,T⟩:=h.known b Y R;exact⟨S,e',fz,(U _ _ R).trans A,T⟩
 .rcases mS G with⟨rfl,rfl⟩|⟨L,G⟩
  .rcases mS u with⟨_,rfl⟩|⟨L,_⟩
   .exact hO Z
   .exact b3 rfl L
  .rcases mS u with⟨e,_⟩|⟨_,u⟩
   .exact b3 e L
   .have W:=h.obj i z x G u;exact W.to Z λb f=>⟨C b (W.N f) λe=>L (h.A2 _ _ _ _ _ G N f e),rfl⟩
 .rcases mS u with⟨rfl,rfl⟩|⟨L,g1⟩<;>rcases mS G with⟨rfl,rfl⟩|⟨hj,g2⟩
  .rfl
  .exact b3 f (V g2 Q hj)
  .exact b3 Q (V g1 f L)
  .exact h.A2 i j x z b g1 g2 f Q
 .rcases mS G with⟨rfl,rfl⟩|⟨hj,G⟩
  .rcases F _ f with A|A
   .exact h.I _ _ _ _ u N A
   .have:=h.lt u;omega
  .exact h.I i j x z u G f
def Mem.A7(h:Mem E O J m w){x:Ob}(A:∀b,y.N=some b->w.heap.size<=b)(Z:M.os=w.os)(ac:M.tape=w.tape)(aa:M.output=w.output)(ab:w.heap.size<=M.heap.size)(u:∀b,b<w.heap.size->M.heap[b]?=w.heap[b]?)(hO:Le O J O (J.A7 y)->sc O (J.A7 y) M x y):Mem E O (J.A7 y) ⟨m.c,m.t,m.o++[x]⟩ M/\Gr O J w O (J.A7 y) M:=by
 have U:Le O J O (J.A7 y):=Le.A7 O J y;have hG:Gr O J w O (J.A7 y) M:=⟨Z,ac,aa,ab,λb f _=>⟨u b f,rfl⟩,U,λb f=>by
  rcases f with f|f|⟨i,x,C,e⟩
  .exact .inl (.inl f)
  .exact .inl (.inr (.inl f))
  .rcases lV C with⟨rfl,rfl⟩|C
   .exact .inr (A b e)
   .exact .inl (Bl.B8 C e),rfl⟩
 refine h.both ⟨h.len,h.A6,λi K t v f hc=>?_,h.inj,λi e K he f=>?_,h.A3,λb Y hr=>?_,by show(J.o++[y]).length=(m.o++[x]).length;simp[h.R],λi z N G C=>?_,λi j N z b C G f L=>?_,λi j N z C G f=>?_⟩ hG
 .obtain⟨R,V,Q,S,W⟩:=h.box i K t v f hc;exact⟨R,V,(u K (h.lt f)).trans Q,S.mono U,W⟩
 .obtain⟨Y,R,ty,Q,S,W⟩:=h.tail i e K he f;exact⟨Y,R,ty,Q,(u _ (h.A9 Q)).trans S,W⟩
 .obtain⟨R,V,fz,Q,S⟩:=h.known b Y hr;exact⟨R,V,fz,(u _ (h.A9 hr)).trans Q,S⟩
 .rcases lV G with⟨rfl,rfl⟩|G
  .have F:(m.o++[x])[J.o.length]?=some N:=C;rw[h.R,rE]at F;cases F;exact hO U
  .have F:(m.o++[x])[i]?=some N:=C;rw[pV (by rw[<-h.R];exact(iA.1 G).1)]at F;have T:=h.obj i z N G F;exact T.to U λb f=>⟨u b (T.N f),rfl⟩
 .rcases lV C with⟨rfl,rfl⟩|g1<;>rcases lV G with⟨rfl,rfl⟩|g2
  .rfl
  .have:=h.D4 (Bl.B8 g2 L);have:=A b f;omega
  .have:=h.D4 (Bl.B8 g1 f);have:=A b L;omega
  .exact h.A2 i j N z b g1 g2 f L
 .rcases lV G with⟨rfl,rfl⟩|G
  .have:=A _ f;have:=h.lt C;omega
  .exact h.I i j N z C G f
def zc4{id:Nat}(h:lz m id=some (v,n,t,f)):m.o[id]?=some (.row v n t f):=by
 unfold lz at h;rw[wc]at h;split at h
 .rename_i a;cases h;exact a
 .cases h
def zaz{id:Nat}{k:IntKind}{l:List (Int×SV)}(h:xC m id=some (k,l)):m.o[id]?=some (.map k l):=by
 unfold xC at h;rw[wc]at h;split at h
 .rename_i a;cases h;exact a
 .cases h
structure RowIs (ro:Ro) (bl:Bl) (w:World) (id v n:Nat) (t:Ty) (f:Nat->D) (b:Option Nat) (c:Nat):Prop where
 I:bl.o[id]?=some (.row v b n c t.size)
 nc:n<=c
 nil:b=none->c=0
 N:∀k,b=some k->ro k=none/\∃cells ty,w.heap[k]?=some (.cells cells ty (0,0))/\cells.size=c*t.size/\∀i,i<n->(f i).shape=t/\dM ro (f i) ((cells.toList.drop (i*t.size)).take t.size)
def Mem.A8(h:Mem E O J m w){id:Nat}(K:lz m id=some (v,n,t,f)):∃b c,RowIs O J w id v n t f b c:=by
 have u:=zc4 K;obtain⟨y,A⟩:∃y,J.o[id]?=some y:=⟨_,ed (by rw[h.R];exact(iA.1 u).1)⟩;have j:=h.obj id y _ A u;cases y<;>first|exact j.elim|skip
 obtain⟨rfl,rfl,rfl,C,F,G⟩:=j;exact⟨_,_,A,C,F,G⟩
def RowIs.mr{id:Nat}(h:RowIs O J w id v n t f b c)(A:du O J (.ob (.mr id v)) x):x=.slice (kC b) n c:=by obtain⟨_,G,C,F,Z,W,j,_,u⟩:=A.hd;rw[h.I]at j;cases j;exact u rfl
def RowIs.mq{id lo:Nat}(h:RowIs O J w id v n t f b c)(A:du O J (.ob (.mq id v lo)) x):lo<=n/\x=sliced (kC b) lo n c t.size:=by obtain⟨_,G,C,F,Z,W,j,_,u⟩:=A.hd;rw[h.I]at j;cases j;exact u rfl
def RowIs.mp{id:Nat}(h:RowIs O J w id v n t f b c)(hx:du O J (.ob (.mp id v i)) x):i<n/\∃k,b=some k/\x=.pointer (some ⟨k,i*t.size,none⟩):=by obtain⟨_,v',b',n',Z,W,h1,_,h3⟩:=hx.hd;rw[h.I]at h1;cases h1;exact h3 rfl
def RowIs.some{id v n:Nat}{t:Ty}{f:Nat->D}{b:Option Nat}{c:Nat}(h:RowIs O J w id v n t f b c)(hn:0<n):∃k,b=some k:=by
 cases b with
 |some k=>exact⟨k,rfl⟩
 |none=>have:=h.nil rfl;have:=h.nc;omega
def RowIs.cells{id:Nat}(h:RowIs O J w id v n t f b c):∃L:List Value,L.length=n*t.size/\(∀i,i<n->(f i).shape=t/\dM O (f i) ((L.drop (i*t.size)).take t.size))/\(∀v∈L,v.oneCell'=true)/\
 ∀k,b=.some k->∃C ty,w.heap[k]?=.some (.cells C ty (0,0))/\C.size=c*t.size/\C.toList.take (n*t.size)=L:=by
 cases b with
 |none=>
  have R:=h.nil rfl;have S:=h.nc;have N:n=0:=a3
  subst N;exact⟨[],eA,λi j=>b3 j (jm _),λv A=>(by cases A),λk G=>(by cases G)⟩
 |some k=>
  obtain⟨_,C,ty,Q,M,F⟩:=h.N k rfl;have K:n*t.size<=c*t.size:=gF _ h.nc;have u:∀i,i<n->((C.toList.take (n*t.size)).drop (i*t.size)).take t.size=(C.toList.drop (i*t.size)).take t.size:=λi j=>by
   have:i*t.size+t.size<=n*t.size:=by rw[<-iO];exact gF _ j
   have:=qn (l:=C.toList) (a:=0) (b:=n*t.size) (o:=i*t.size) (k:=t.size) this;simpa using this
  refine⟨C.toList.take (n*t.size),by rw[kO,pO,M];exact sY K,λi j=>⟨(F i j).1,by rw[u i j];exact(F i j).2⟩,λv A=>?_,λT G=>by cases G;exact⟨C,ty,Q,M,rfl⟩⟩;have e:C.toList.take (n*t.size)=(List.range n).flatMap λi=>(C.toList.drop (i*t.size)).take t.size:=y6 n λi _=>rfl;rw[e]at A;obtain⟨i,j,A⟩:=om.1 A;exact(F i (gZ.1 j)).2.one v A
def qf{a:Bl}(e:n<=c)(g:b=none->c=0)(d:∀k,b=some k->O k=none/\∃C ty,M.heap[k]?=some (.cells C ty (0,0))/\C.size=c*t.size/\∀i,i<n->(f i).shape=t/\dM O (f i) ((C.toList.drop (i*t.size)).take t.size)):
 sc O a M (.row v n t f) (.row v b n c t.size):=⟨rfl,rfl,rfl,e,g,d⟩
def zbw{l vs:List Value}{k j:Nat}(p:n*k<=l.length)(o:vs.length=k)(d:i<n)(g:j<n):((l.take (i*k)++vs++l.drop (i*k+k)).drop (j*k)).take k=if j=i then vs else(l.drop (j*k)).take k:=by
 have f:i*k+k<=n*k:=by rw[<-iO];exact gF _ d
 have h:j*k+k<=n*k:=by rw[<-iO];exact gF _ g
 have c:(l.take (i*k)).length=i*k:=by rw[kO];omega
 split
 .rename_i e;subst e;rw[iJ,pR,oQ a3,c,tM,lE,vM,qp a3,pX a3]
 .rename_i e;rcases Nat.lt_or_gt_of_ne e with b|a
  .have:j*k+k<=i*k:=by rw[<-iO];exact gF _ b
   rw[iJ,r8 a3,qp (by rw[oS];omega),Cu,yo,sY a3]
  .have:i*k+k<=j*k:=by rw[<-iO];exact gF _ a
   rw[pR,oQ (by rw[ew];omega),lE,ew,c,o,pS,show i*k+k+(j*k -(i*k+k))=j*k by omega]
end Sx
end Go.Proofs.YtfbhkfhbnkncoaaGreatDoor
