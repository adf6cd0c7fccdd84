import Derived.Test.YtfbhkfhbnkncoaaGreatDoorT29
set_option linter.all false
namespace Go.Proofs.YtfbhkfhbnkncoaaGreatDoor
open Go.RowKit
namespace Sx
structure Alike (t t':Tb):Prop where
 b:t'.b=t.b
 up:∀i,i<32→(t'.r i).up=(t.r i).up
 fr:∀i,i<32→(t.b i).iss=false→t'.r i=t.r i
theorem Alike.refl(t:Tb):Alike t t:=⟨rfl,fun _ _=>rfl,fun _ _ _=>rfl⟩
theorem Alike.trans{t t' t'':Tb}(h:Alike t t')(k:Alike t' t''):Alike t t'':=⟨k.b.trans h.b,fun i hi=>(k.up i hi).trans (h.up i hi),fun i hi hq=>(k.fr i hi (by rw[h.b];exact hq)).trans (h.fr i hi hq)⟩
theorem Alike.upT{t t':Tb}(h:Alike t t')(x:Int):upT t' x=upT t x:=by unfold Sx.upT;rw[h.b,h.up _ (zei x)]
theorem Alike.isR{t t':Tb}(h:Alike t t'){x:Int}:IsR t' x↔IsR t x:=by unfold IsR;rw[h.b]
theorem Alike.isRt{t t':Tb}(h:Alike t t'){x:Int}:zf8 t' x↔zf8 t x:=by unfold zf8;rw[h.isR,h.upT]
theorem Alike.inv{t t':Tb}{d:Int→Nat}(h:Alike t t')(k:TInv t d)(hr:∀i,i<32→RgI (t'.r i)):TInv t' d:=by
 refine⟨⟨h.b▸k.ok.bk,h.b▸k.ok.ret,fun i hi=>by rw[h.up i hi];exact k.ok.up i hi⟩,fun i hi hq=>?_,fun i hi=>by rw[h.up i hi,h.b];exact k.up i hi,k.d5,fun x hx=>?_,fun x hx=>?_,hr⟩
 ·rw[h.b]at hq;rw[h.fr i hi hq];exact k.fr i hi hq
 ·rw[h.upT]at hx ⊢;exact k.ds x hx
 ·rw[h.upT]at hx;exact k.d0 x hx
theorem zg0(t:Tb){x:Int}(r:Rg):Alike t (zdm t x r):=by
 unfold zdm;cases hq:(zfx t x r==0)with
 |false=>exact .refl t
 |true=>
  have hg:zah t.b x=true:=by
   unfold zfx at hq;cases hg:zah t.b x with
   |true=>rfl
   |false=>rw[hg]at hq;cases hq
  refine⟨rfl,fun i hi=>?_,fun i hi hf=>?_⟩
  ·show(zaq t.r (slN x) _ i).up=_;by_cases c:i=slN x
   ·subst c;rw[zag]
   ·rw[zaf c]
  ·show zaq t.r (slN x) _ i=_;by_cases c:i=slN x
   ·subst c;have:=(zcd hg).2;rw[hf]at this;cases this
   ·rw[zaf c]
theorem zvh{t:Tb}{x:Int}{r:Rg}(he:zfx t x r=0):(zdm t x r).r=zaq t.r (slN x) {r with up:=(t.r (slN x)).up}∧zmD r.rs r.len=true∧0≤r.quota∧r.quota≤64:=by
 refine⟨by unfold zdm;rw[he];rfl,?_⟩;unfold zfx at he;cases hg:zah t.b x with
 |false=>rw[hg]at he;cases he
 |true=>
  rw[hg]at he;cases h1:(!(decide (r.quota≥0)&&decide (r.quota≤64))||!zmD r.rs r.len)with
  |true=>rw[h1]at he;cases he
  |false=>
   simp only[zFM,zGy,zFR,zFS]at h1;exact⟨h1.2,h1.1⟩
theorem RgI.cells{r:Rg}(h:RgI r)(u:Int)(c:Nat→Int):RgI {r with up:=u,cells:=c}:=⟨h.q0,h.q1,h.ok,h.pg,h.mx⟩
theorem zwu{t:Tb}{d:Int→Nat}(h:TInv t d){x:Int}{r:Rg}(hr:zfx t x r=0→RgI r):TInv (zdm t x r) d:=by
 refine(zg0 t r).inv h fun i hi=>?_;by_cases he:zfx t x r=0
 ·rw[(zvh he).1];by_cases c:i=slN x
  ·subst c;rw[zag];have:=hr he;exact⟨this.q0,this.q1,this.ok,this.pg,this.mx⟩
  ·rw[zaf c];exact h.rg i hi
 ·have:zdm t x r=t:=by
   unfold zdm;cases hq:(zfx t x r==0)with
   |false=>rfl
   |true=>exact absurd (by simpa using hq) he
  rw[this];exact h.rg i hi
structure Cells (t t':Tb):Prop extends Alike t t' where
 r:∀i,i<32→∃c u,t'.r i={t.r i with cells:=c,up:=u}
theorem Cells.refl(t:Tb):Cells t t:=⟨.refl t,fun i _=>⟨(t.r i).cells,(t.r i).up,rfl⟩⟩
theorem Cells.trans{t t' t'':Tb}(h:Cells t t')(k:Cells t' t''):Cells t t'':=⟨h.toAlike.trans k.toAlike,fun i hi=>by
 obtain⟨c,u,e⟩:=h.r i hi;obtain⟨c',u',e'⟩:=k.r i hi;exact⟨c',u',by rw[e',e]⟩⟩
theorem Cells.inv{t t':Tb}{d:Int→Nat}(h:Cells t t')(k:TInv t d):TInv t' d:=h.toAlike.inv k fun i hi=>by obtain⟨c,u,e⟩:=h.r i hi;have:=k.rg i hi;rw[e];exact⟨this.q0,this.q1,this.ok,this.pg,this.mx⟩
theorem Cells.rs{t t':Tb}(h:Cells t t'){i:Nat}(hi:i<32):(t'.r i).rs=(t.r i).rs:=by obtain⟨c,u,e⟩:=h.r i hi;rw[e]
theorem zmX(t:Tb)(x:Int)(c:Nat→Int)(u:Int):Cells t (zdm t x {zaj t x with cells:=c,up:=u}):=by
 refine⟨zg0 t _,fun i hi=>?_⟩;unfold zdm;cases hq:(zfx t x {zaj t x with cells:=c,up:=u}==0)with
 |false=>exact⟨(t.r i).cells,(t.r i).up,rfl⟩
 |true=>
  have hg:zah t.b x=true:=by
   unfold zfx at hq;cases hg:zah t.b x with
   |true=>rfl
   |false=>rw[hg]at hq;cases hq
  show∃c' u',zaq t.r (slN x) _ i=_;by_cases e:i=slN x
  ·subst e;rw[zag];unfold zaj;rw[hg];exact⟨c,_,rfl⟩
  ·rw[zaf e];exact⟨(t.r i).cells,(t.r i).up,rfl⟩
theorem zfH(t:Tb)(h:Int):∀(l:List Int) (n:Tb),Cells n (l.foldl (zCu t h) n)
 |[],n=>.refl n
 |x::l,n=>(zmX n x _ _).trans (zfH t h l (zCu t h n x))
theorem zod{t:Tb}{h up:Int}(he:zeh t h up=0):(zd1 t h up).b=t.b∧(zd1 t h up).r=zaq t.r (slN h) {t.r (slN h)with up:=up}:=by unfold zd1;rw[he];exact⟨rfl,rfl⟩
open Classical in
theorem zxw{t:Tb}{d:Int→Nat}(h:TInv t d){a:Int}(ha:IsR t a):zeh t a 0=0∧∃d',TInv (zd1 t a 0) d'∧(∀x,upT (zd1 t a 0) x=if slN x=slN a then 0 else upT t x)∧∀i,i<32→((zd1 t a 0).r i).rs=(t.r i).rs:=by
 have he:zeh t a 0=0:=by unfold zeh;rw[ha.2];have:zCO t a 0=false:=rfl;rw[this];rfl
 obtain⟨e1,e2⟩:=zod he;have hup:∀x,upT (zd1 t a 0) x=if slN x=slN a then 0 else upT t x:=fun x=>by
  unfold upT;rw[e1,e2];by_cases c:slN x=slN a
  ·rw[c,zag,if_pos rfl];show(bif zah t.b 0 then(0:Int)else 0)=0;rw[znG];rfl
  ·rw[zaf c,if_neg c]
 refine⟨he,fun x=>if slN x=slN a then 0 else if Anc t a x then d x - d a else d x,⟨⟨by rw[e1];exact h.ok.bk,by rw[e1];exact h.ok.ret,fun i hi=>?_⟩,fun i hi hq=>?_,fun i hi=>?_,fun x=>?_,fun x hx=>?_,fun x hx=>?_,fun i hi=>?_⟩,hup,fun i hi=>?_⟩
 ·rw[e2];by_cases c:i=slN a
  ·subst c;rw[zag];exact(show U32 0 from⟨by decide,by decide⟩)
  ·rw[zaf c];exact h.ok.up i hi
 ·rw[e1]at hq;rw[e2];by_cases c:i=slN a
  ·subst c;rw[(zcd ha.2).2]at hq;cases hq
  ·rw[zaf c];exact h.fr i hi hq
 ·rw[e1,e2];by_cases c:i=slN a
  ·subst c;rw[zag];exact .inl rfl
  ·rw[zaf c];exact h.up i hi
 ·have h5:=h.d5 x;show(if slN x=slN a then 0 else if Anc t a x then d x - d a else d x)≤5;split
  ·omega
  ·split<;>omega
 ·rw[hup]at hx ⊢;by_cases c:slN x=slN a
  ·rw[if_pos c]at hx;exact absurd rfl hx
  ·rw[if_neg c]at hx ⊢;have hR:=zjw h hx;have h1:=h.ds x hx;have hA:Anc t a x↔Anc t a (upT t x):=⟨fun hA=>by
    rcases zlX hA with e|e
    ·exact absurd (by rw[e]) c
    ·exact e.2,fun hA=>.up hx hA⟩
   show(if _ then _ else _)=(if _ then _ else _)+1;rw[if_neg c];by_cases c2:slN (upT t x)=slN a
   ·have e:=zdn h.ok.bk hR.1 ha.1 hR.2 ha.2 c2;rw[if_pos c2,if_pos (hA.2 (by rw[e];exact .refl _)),h1,e];omega
   ·rw[if_neg c2];by_cases c3:Anc t a x
    ·have:=(hA.1 c3).rk h.rk;rw[if_pos c3,if_pos (hA.1 c3)];omega
    ·rw[if_neg c3,if_neg fun q=>c3 (hA.2 q)];exact h1
 ·rw[hup]at hx;show(if _ then _ else _)=0;by_cases c:slN x=slN a
  ·rw[if_pos c]
  ·rw[if_neg c]at hx ⊢;have h0:=h.d0 x hx;split
   ·rw[h0];exact Nat.zero_sub _
   ·exact h0
 ·rw[e2];by_cases c:i=slN a
  ·subst c;rw[zag];have:=h.rg _ hi;exact⟨this.q0,this.q1,this.ok,this.pg,this.mx⟩
  ·rw[zaf c];exact h.rg i hi
 ·rw[e2];by_cases c:i=slN a
  ·subst c;rw[zag]
  ·rw[zaf c]
theorem zj0{t:Tb}{d:Int→Nat}(h:TInv t d){a:Int}(ha:IsR t a):ztB t a=0∧(zes t a).b=t.b∧∃d',TInv (zes t a) d'∧(∀x,upT (zes t a) x=if slN x=slN a then 0 else upT t x)∧∀i,i<32→((zes t a).r i).rs=(t.r i).rs:=by unfold ztB zes;rw[ha.2,zHH,zHH];have hC:Cells t (zru t a (zaV t a)):=zfH t a _ t;generalize zru t a (zaV t a)=t1 at hC ⊢;have h1:=hC.inv h;obtain⟨g1,d',g2,g3,g4⟩:=zxw h1 (hC.toAlike.isR.2 ha);refine⟨g1,(zod g1).1.trans hC.b,d',g2,fun x=>by rw[g3,hC.toAlike.upT],fun i hi=>by rw[g4 i hi,hC.rs hi]⟩
theorem zsG{t:Tb}{d:Int→Nat}(h:TInv t d){a:Int}:∀{k:Nat} {x:Int},d x<k→Anc t a x→a=x∨zze t a k x=true
 |0,_,hk,_=>by omega
 |k+1,x,hk,hA=>by
  rcases zlX hA with e|⟨h1,h2⟩
  ·exact .inl e.symm
  ·refine .inr ?_;rw[zze,zFN.2 h1,zHJ];rcases zsG h (k:=k) (by have:=h.ds x h1;omega) h2 with e|e
   ·rw[e];simp
   ·rw[e];simp
theorem zAE(v n:Int):n≤(bif decide (v>n)then v else n)∧v≤(bif decide (v>n)then v else n):=by
 cases hq:decide (v>n)with
 |true=>simp only[zFS]at hq;simp only[zHH];omega
 |false=>simp only[zFO]at hq;simp only[zHJ];omega
theorem ztn{t:Tb}{a:Int}:∀{l:List Int} {n:Int},n≤zhK t a n l∧∀x∈l,zeQ t x - zeQ t a+1≤zhK t a n l
 |[],n=>⟨zFJ _,fun _ h=>by cases h⟩
 |y::l,n=>by
  have hb:=zAE (zeQ t y - zeQ t a+1) n;have e:zhK t a n (y::l)=zhK t a (bif decide (zeQ t y - zeQ t a+1>n)then zeQ t y - zeQ t a+1 else n) l:=rfl;rw[e];generalize(bif decide (zeQ t y - zeQ t a+1>n)then zeQ t y - zeQ t a+1 else n)=v at hb;obtain⟨i1,i2⟩:=ztn (t:=t) (a:=a) (l:=l) (n:=v);refine⟨zIM hb.1 i1,fun x hx=>?_⟩;rcases zGm.1 hx with rfl|hx
  ·exact zIM hb.2 i1
  ·exact i2 x hx
open Classical in
theorem zpb{t:Tb}{d:Int→Nat}(h:TInv t d){a up:Int}(hu:U32 a)(hu2:U32 up)(he:grE t a up=0):zf8 t a∧IsR t up∧(grT t a up).b=t.b∧∃d',TInv (grT t a up) d'∧(∀x,upT (grT t a up) x=if slN x=slN a then up else upT t x)∧∀i,i<32→((grT t a up).r i).rs=(t.r i).rs:=by
 have e0:=he;unfold grE at he;have c1:(!zah t.b a||!zah t.b up)=false:=by
  cases hq:(!zah t.b a||!zah t.b up)with
  |false=>rfl
  |true=>rw[hq]at he;cases he
 rw[c1,zHJ]at he;have c2:((zbN t a != a)||zpv t a up)=false:=by
  cases hq:((zbN t a != a)||zpv t a up)with
  |false=>rfl
  |true=>rw[hq]at he;cases he
 rw[c2,zHJ]at he;have c3:decide (zeQ t up+zjs t a>6)=false:=by
  cases hq:decide (zeQ t up+zjs t a>6)with
  |false=>rfl
  |true=>rw[hq]at he;cases he
 rw[c3,zHJ]at he;have eT:grT t a up=zd1 t a up:=by unfold grT;rw[c1,c2,c3];rfl
 rw[eT];simp only[zFM,zGy]at c1;have ha:IsR t a:=⟨hu,c1.1⟩;have hp:IsR t up:=⟨hu2,c1.2⟩;simp only[zFM]at c2;have hrt:upT t a=0:=(zdz h ha).1 (by simpa using c2.1);have hnA:¬Anc t a up:=fun hA=>by
  have:=c2.2;unfold zpv at this;rw[ha.2,hp.2]at this;rcases zsG h (k:=40) (by have:=h.d5 up;omega) hA with e|e
  ·rw[e]at this;simp at this
  ·rw[e]at this;simp at this
 have hda:=h.d0 a hrt;have htl:∀x,IsR t x→Anc t a x→d x+d up+1≤5:=fun x hx hA=>by have h1:=(ztn (t:=t) (a:=a) (l:=zaV t a) (n:=0)).2 x ((zce h ha).2 ⟨hx,hA⟩);rw[zoR h hx.2,zoR h ha.2]at h1;rw[zoR h hp.2]at c3;unfold zjs at c3;simp only[zFO]at c3;omega
 obtain⟨e1,e2⟩:=zod he;have hup:∀x,upT (zd1 t a up) x=if slN x=slN a then up else upT t x:=fun x=>by
  unfold upT;rw[e1,e2];by_cases c:slN x=slN a
  ·rw[c,zag,if_pos rfl];show(bif zah t.b up then up else 0)=up;rw[hp.2];rfl
  ·rw[zaf c,if_neg c]
 refine⟨⟨ha,hrt⟩,hp,e1,fun x=>if slN x=slN a∨Anc t a x then d x+d up+1 else d x,⟨⟨by rw[e1];exact h.ok.bk,by rw[e1];exact h.ok.ret,fun i hi=>?_⟩,fun i hi hq=>?_,fun i hi=>?_,fun x=>?_,fun x hx=>?_,fun x hx=>?_,fun i hi=>?_⟩,hup,fun i hi=>?_⟩
 ·rw[e2];by_cases c:i=slN a
  ·subst c;rw[zag];exact hu2
  ·rw[zaf c];exact h.ok.up i hi
 ·rw[e1]at hq;rw[e2];by_cases c:i=slN a
  ·subst c;rw[(zcd ha.2).2]at hq;cases hq
  ·rw[zaf c];exact h.fr i hi hq
 ·rw[e1,e2];by_cases c:i=slN a
  ·subst c;rw[zag];exact .inr hp.2
  ·rw[zaf c];exact h.up i hi
 ·show(if slN x=slN a∨Anc t a x then d x+d up+1 else d x)≤5;split
  ·rename_i hq;rcases hq with hq|hq
   ·have:=htl a ha (.refl _);have:d x=d a:=by have:upT t x=0:=(zir hq).trans hrt;rw[h.d0 x this,hda]
    omega
   ·rcases zlX hq with e|e
    ·rw[e];exact htl a ha (.refl _)
    ·have hR:=zjw h e.1;have hiss:(t.b (slN x)).iss=true:=by
      cases hs:(t.b (slN x)).iss with
      |true=>rfl
      |false=>exact absurd (zyV h hs) e.1
     obtain⟨g1,g2⟩:=zig h.ok (zei x) hiss;have e3:=zir (t:=t) g2;have:=htl _ g1 (.up (by rw[e3];exact e.1) (by rw[e3];exact e.2));have h3:=h.ds x e.1;have h4:=h.ds _ (by rw[e3];exact e.1);rw[e3]at h4;omega
  ·exact h.d5 x
 ·rw[hup]at hx ⊢;show(if _ then _ else _)=(if _ then _ else _)+1;by_cases c:slN x=slN a
  ·have hn1:¬(slN up=slN a∨Anc t a up):=fun q=>by
    rcases q with q|q
    ·exact hnA (by rw[zdn h.ok.bk hp.1 ha.1 hp.2 ha.2 q];exact .refl _)
    ·exact hnA q
   rw[if_pos (.inl c),if_pos c,if_neg hn1,h.d0 x ((zir c).trans hrt)];omega
  ·rw[if_neg c]at hx ⊢;have hR:=zjw h hx;have h1:=h.ds x hx;have hA:(slN x=slN a∨Anc t a x)↔(slN (upT t x)=slN a∨Anc t a (upT t x)):=by
    constructor
    ·rintro(q|q)
     ·exact absurd q c
     ·rcases zlX q with e|e
      ·exact absurd (by rw[e]) c
      ·exact .inr e.2
    ·rintro(q|q)
     ·refine .inr (.up hx ?_);rw[zdn h.ok.bk hR.1 ha.1 hR.2 ha.2 q];exact .refl _
     ·exact .inr (.up hx q)
   by_cases c3:slN x=slN a∨Anc t a x
   ·rw[if_pos c3,if_pos (hA.1 c3)];omega
   ·rw[if_neg c3,if_neg fun q=>c3 (hA.2 q)];exact h1
 ·rw[hup]at hx;show(if _ then _ else _)=0;by_cases c:slN x=slN a
  ·rw[if_pos c]at hx;exact absurd hx (zb2 hp.2)
  ·rw[if_neg c]at hx;have h0:=h.d0 x hx;rw[if_neg fun q=>by
    rcases q with q|q
    ·exact c q
    ·exact c (by rw[znk q hx])]
   exact h0
 ·rw[e2];by_cases c:i=slN a
  ·subst c;rw[zag];have:=h.rg _ hi;exact⟨this.q0,this.q1,this.ok,this.pg,this.mx⟩
  ·rw[zaf c];exact h.rg i hi
 ·rw[e2];by_cases c:i=slN a
  ·subst c;rw[zag]
  ·rw[zaf c]
def zch(t:Tb):List Int:=(List.range 32).flatMap fun i=>pgs (t.r i).rs
theorem zib{α:Type}{f:Nat→List α}{i:Nat}{y:List α}:∀{n:Nat},i<n→((List.range n).flatMap (zaq f i y)++f i).Perm ((List.range n).flatMap f++y)
 |0,h=>by omega
 |n+1,h=>by
  rw[zFW,zFX,zFX,zIN,zIN];by_cases c:i<n
  ·have ih:=zib (f:=f) (y:=y) c;rw[zaf (show n≠i by omega)];refine(zG5 _ _ _▸(zIO _ zIK).trans ?_);rw[←zG5];refine(ih.append_right _).trans ?_;rw[zG5,zG5];exact zIO _ zIK
  ·obtain rfl:i=n:=by omega
   rw[zag];have:(List.range i).flatMap (zaq f i y)=(List.range i).flatMap f:=by
    rw[zGR,zGR]
    congr 1
    exact zGS fun j hj=>zaf (by have:=zF1.1 hj;omega)
   rw[this,zG5,zG5];exact zIO _ zIK
theorem zc0{α:Type}{f g:Nat→List α}:∀{n:Nat},(∀i,i<n→f i=g i)→(List.range n).flatMap f=(List.range n).flatMap g:=fun{n} h=>by
 rw[zGR,zGR]
 congr 1
 exact zGS fun j hj=>h j (zF1.1 hj)
theorem zd2{t t':Tb}(h:∀i,i<32→(t'.r i).rs=(t.r i).rs):zch t'=zch t:=zc0 fun i hi=>by rw[h i hi]
theorem zpz{t t':Tb}{i:Nat}{r:Rg}(hi:i<32)(h:t'.r=zaq t.r i r):(zch t'++pgs (t.r i).rs).Perm (zch t++pgs r.rs):=by
 have e:zch t'=(List.range 32).flatMap (zaq (fun i=>pgs (t.r i).rs) i (pgs r.rs)):=zc0 fun j hj=>by
  rw[h];by_cases c:j=i
  ·subst c;rw[zag,zag]
  ·rw[zaf c,zaf c]
 rw[e];exact zib hi
theorem zmY{t:Tb}{x:Int}{r:Rg}(he:zfx t x r=0):(zch (zdm t x r)++pgs (t.r (slN x)).rs).Perm (zch t++pgs r.rs):=zpz (r:={r with up:=(t.r (slN x)).up}) (zei x) (zvh he).1
theorem zk4{t:Tb}{x:Int}(hx:zah t.b x=true):(zaj t x).rs=(t.r (slN x)).rs∧(zaj t x).quota=(t.r (slN x)).quota∧(zaj t x).len=(t.r (slN x)).len:=by unfold zaj;rw[hx];exact⟨rfl,rfl,rfl⟩
theorem zc1{t:Tb}{d:Int→Nat}(h:TInv t d)(x:Int):RgI (zaj t x):=by
 unfold zaj;cases hg:zah t.b x with
 |true=>have:=h.rg _ (zei x);exact⟨this.q0,this.q1,this.ok,this.pg,this.mx⟩
 |false=>exact(show RgI rg0 from⟨by decide,by decide,(fun y hy=>by cases hy),by decide,rfl⟩)
def zmp(t:Tb)(l:List Int):List Rn:=l.flatMap fun y=>(t.r (slN y)).rs
theorem zrW{t:Tb}{l:List Int}(h:∀x∈l,zah t.b x=true):zbC t l=zmp t l:=by
 unfold zbC zmp;rw[zGR,zGR]
 congr 1
 exact zGS fun y hy=>(zk4 (h y hy)).1
theorem zge:∀{l:List Int} {t:Tb},zlK t.b→zg7 t.b→l.Nodup→(∀x∈l,IsR t x)→(zch t).Perm (zch (zbv t l)++pgs (zmp t l))
 |[],t,_,_,_,_=>by simp[zbv,zmp,pgs]
 |x::l,t,h1,h2,hn,hl=>by
  have hx:=hl x (zF3 ..);have hn:=zIp.1 hn;obtain⟨v1,v2,v3⟩:=zoq h1 h2 hx.1;have eb:(zdB t x).b=zbw t.b x:=by unfold zdB;rw[hx.2];rfl
  obtain⟨s,es,hs⟩:=zoW hx.2;have er:(zdB t x).r=zaq t.r (slN x) rg0:=by rw[es]
  have ih:=zge (l:=l) (t:=zdB t x) (eb▸v1) (eb▸v2) hn.2 fun y hy=>⟨(hl y (zF4 _ hy)).1,by
   rw[eb];exact(v3 y (hl y (zF4 _ hy)).1).2 ⟨(hl y (zF4 _ hy)).2,fun e=>hn.1 (e▸hy)⟩⟩
  have eg:zmp (zdB t x) l=zmp t l:=by
   unfold zmp;rw[zGR,zGR]
   congr 1
   refine zGS fun y hy=>?_;have hy':=hl y (zF4 _ hy);rw[er,zaf fun e=>hn.1 (by rw[←zdn h1 hy'.1 hx.1 hy'.2 hx.2 e];exact hy)]
  have hp:=zpz (t:=t) (t':=zdB t x) (zei x) er;show(zch t).Perm (zch (zbv (zdB t x) l)++pgs ((t.r (slN x)).rs++zmp t l));rw[eg]at ih;rw[zcP];have hp:(zch (zdB t x)++pgs (t.r (slN x)).rs).Perm (zch t):=by simpa[pgs,rg0]using hp
  refine hp.symm.trans ((ih.append_right _).trans ?_);rw[zG5];exact zIO _ zIK
theorem zeK{t:Tb}{d:Int→Nat}(h:TInv t d){a:Int}(ha:IsR t a):(zch t).Perm (zch (zbv t (zbW t a))++pgs (zbC t (zbW t a))):=by rw[zwz ha.2,zrW fun x hx=>((zce h ha).1 hx).1.2];exact zge h.ok.bk h.ok.ret (zgS h.ok h.rk (zb2 ha.2)) fun x hx=>((zce h ha).1 hx).1
def zho(x:Int)(a:Nat):Bool:=zaC .and .u8 x (zjB (a:Int)) != 0
set_option maxRecDepth 100000 in
theorem zuL:∀x:Fin 256,∀a:Fin 8,zho ((x.val:Nat):Int) a.val=x.val.testBit a.val:=by decide
set_option maxRecDepth 100000 in
theorem zy4:∀x:Fin 256,∀a:Fin 8,zaC .xor .u8 ((x.val:Nat):Int) (zjB ((a.val:Nat):Int))=((x.val ^^^ 2 ^ a.val:Nat):Int):=by decide
theorem zk8{x:Int}(h0:0≤x)(h1:x<256){a:Nat}(ha:a<8):zho x a=x.toNat.testBit a:=by
 have:=zuL ⟨x.toNat,by omega⟩ ⟨a,ha⟩
 rwa [show((x.toNat:Nat):Int)=x by omega]at this
theorem zBu{x:Int}(h0:0≤x)(h1:x<256){a:Nat}(ha:a<8):zaC .xor .u8 x (zjB (a:Int))=((x.toNat ^^^ 2 ^ a:Nat):Int):=by
 have:=zy4 ⟨x.toNat,by omega⟩ ⟨a,ha⟩
 rwa [show((x.toNat:Nat):Int)=x by omega]at this
theorem zpN{x:Int}(h0:0≤x)(h1:x<256){a b:Nat}(ha:a<8)(hb:b<8):zho (zaC .xor .u8 x (zjB (a:Int))) b=(zho x b != decide (a=b))∧0≤zaC .xor .u8 x (zjB (a:Int))∧zaC .xor .u8 x (zjB (a:Int))<256:=by rw[zBu h0 h1 ha];have hlt:x.toNat ^^^ 2 ^ a<2 ^ 8:=Nat.xor_lt_two_pow (by omega) (Nat.pow_lt_pow_right (by decide) ha);refine⟨?_,by omega,by omega⟩;rw[zk8 (by omega) (by omega) hb,zk8 h0 h1 hb];simp[Nat.testBit_xor,Nat.testBit_two_pow]
set_option maxRecDepth 100000 in
theorem zxc:∀a:Fin 8,∀b:Fin 8,zho (zjB ((a.val:Nat):Int)) b.val=decide (a.val=b.val)∧0≤zjB ((a.val:Nat):Int)∧zjB ((a.val:Nat):Int)<256:=by decide
theorem zFj{x:Int}(h0:0≤x)(h1:x<256):zkg x.toNat=0↔∀a,a<8→zho x a=false:=by
 unfold zkg;rw[List.countP_eq_zero];constructor
 ·intro h a ha;rw[zk8 h0 h1 ha];simpa using h a (zF1.2 ha)
 ·intro h a ha;rw[←zk8 h0 h1 (zF1.1 ha),h a (zF1.1 ha)];simp
def zfb(b:MBox):List Msg:=zcW b b.n.toNat
theorem zl2{b:MBox}(h:BoxOk b){i:Int}(h0:0≤i):atB b i=(b.frm+i) % 4:=by have:=h.f0;unfold atB;rw[zGa (by omega)]
theorem zlw{b:MBox}(h:BoxOk b){m:Msg}(he:zlP b=0):BoxOk (zjf b m)∧zfb (zjf b m)=zfb b++[m]∧b.cl=false:=by
 have h0:=h.f0;have h1:=h.f1;have h2:=h.n0;have h3:=h.n1;have c1:b.cl=false:=by
  cases hq:b.cl with
  |false=>rfl
  |true=>unfold zlP at he;rw[hq]at he;cases he
 have c2:b.n≠4:=by intro hq;unfold zlP at he;rw[c1,hq]at he;cases he
 have e:zjf b m={b with ring:=zaq b.ring (atB b b.n).toNat m,n:=b.n+1}:=by unfold zjf;rw[he];rfl
 rw[e];refine⟨⟨h0,h1,by simp only;omega,by simp only;omega⟩,?_,c1⟩;unfold zfb zcW;simp only;rw[show(b.n+1).toNat=b.n.toNat+1 by omega,zFW,zF6,zHk]
 congr 1
 ·refine zGS fun j hj=>?_;have hj:=zF1.1 hj;have:(atB b (j:Int)).toNat≠(atB b b.n).toNat:=by rw[zl2 h (by omega),zl2 h (by omega)];omega
  show zaq b.ring (atB b b.n).toNat m (atB b (j:Int)).toNat=_;exact zaf this
 ·show[zaq b.ring (atB b b.n).toNat m (atB b ((b.n.toNat:Nat):Int)).toNat]=[m];rw[show((b.n.toNat:Nat):Int)=b.n by omega,zag]
theorem ztl{b:MBox}(h:BoxOk b)(he:zg1 b=0):BoxOk (zcu b)∧zfb b=zbV b::zfb (zcu b):=by
 have h0:=h.f0;have h1:=h.f1;have h2:=h.n0;have h3:=h.n1;have c2:b.n≠0:=by intro hq;unfold zg1 at he;rw[hq]at he;cases hc:b.cl<;>rw[hc]at he<;>cases he
 have e:zcu b={b with frm:=atB b 1,n:=b.n - 1}:=by unfold zcu;rw[he];rfl
 have e2:zbV b=b.ring b.frm.toNat:=by unfold zbV;rw[he];rfl
 have ho:BoxOk {b with frm:=atB b 1,n:=b.n - 1}:=⟨by simp only;rw[zl2 h (by omega)];omega,by simp only;rw[zl2 h (by omega)];omega,by simp only;omega,by simp only;omega⟩;rw[e,e2];refine⟨ho,?_⟩;unfold zfb zcW;rw[show b.n.toNat=(b.n - 1).toNat+1 by omega,List.range_succ_eq_map,zGF,List.map_map]
 congr 1
 ·rw[zl2 h (by omega)]
  congr 2
  omega
 ·refine zGS fun j hj=>?_;show b.ring (atB b ((j+1:Nat):Int)).toNat=b.ring (atB {b with frm:=atB b 1,n:=b.n - 1} (j:Int)).toNat;rw[zl2 h (by omega),zl2 ho (by omega)];simp only;rw[zl2 h (by omega)]
  congr 2
  omega
def zhi(m:Msg):Bool:=(m.reg != 0)&&!m.sh
def flL(l:List Msg):List Int:=(l.filter zhi).map (·.reg)
theorem zrL(l m:List Msg):flL (l++m)=flL l++flL m:=by unfold flL;rw[zHR,zF6]
def FL(box:Nat→MBox):List Int:=(List.range 8).flatMap fun a=>flL (zfb (box a))
theorem zqM{box:Nat→MBox}{a:Nat}(ha:a<8)(b:MBox):(FL (zaq box a b)++flL (zfb (box a))).Perm (FL box++flL (zfb b)):=by
 have:FL (zaq box a b)=(List.range 8).flatMap (zaq (fun a=>flL (zfb (box a))) a (flL (zfb b))):=zc0 fun j hj=>by
  by_cases c:j=a
  ·subst c;rw[zag,zag]
  ·rw[zaf c,zaf c]
 rw[this];exact zib ha
def zwP(A:Nat→Bool)(x:Int):Prop:=(0≤x∧x<256)∧(∃a,a<8∧zho x a=true)∧∀a,a<8→zho x a=true→A a=true
def ziw(A:Nat→Bool)(F:List Int)(h:Int)(w:Ow):Prop:=
 (w.kind=1∧(0≤w.task∧w.task<8)∧A w.task.toNat=true)∨(w.kind=2∧h∈F)∨(w.kind=3∧zwP A w.hold)
structure OInv (t:Tb) (o:Nat→Sd) (box:Nat→MBox) (alive A:Nat→Bool) (P:List Int):Prop where
 rt:∀h,zf8 t h→(o (slN h)).root=h∧ziw A (P++FL box) h (o (slN h)).own
 nd:(P++FL box).Nodup
 fr:∀h∈P++FL box,zf8 t h∧(o (slN h)).own.kind=2
 dead:∀a,a<8→alive a=false→(box a).n=0
 bx:∀a,a<8→BoxOk (box a)∧∀m∈zfb (box a),(0≤m.frm∧m.frm<8)∧U32 m.reg
theorem zgX{t:Tb}(ht:TbOk t){x y:Int}(hx:IsR t x)(hy:IsR t y)(h:slN x=slN y):x=y:=zdn ht.bk hx.1 hy.1 hx.2 hy.2 h
theorem zkf{t:Tb}{d:Int→Nat}(ht:TInv t d){o:Nat→Sd}{h:Int}(hr:zf8 t h)(ho:(o (slN h)).root=h):ofO o t h=(o (slN h)).own:=by
 have hroot:=(zdz ht hr.1).2 hr.2;unfold ofO;rw[hroot,ho];have:slB h=false:=by have:=hr.1.2;unfold zah at this;simp only[zFR,zGC]at this;exact this.1
 rw[this];simp
theorem zta{t:Tb}{d:Int→Nat}(ht:TInv t d){h task:Int}(hr:zf8 t h)(h0:0≤task)(h1:task<8):zdP t h task=0:=by unfold zdP;rw[hr.1.2,(zdz ht hr.1).2 hr.2,zFT (by omega),zFT (by omega)];simp
theorem zws{t:Tb}{d:Int→Nat}(ht:TInv t d){h task:Int}(hu:U32 h)(he:zdP t h task=0):zf8 t h∧0≤task∧task<8:=by
 unfold zdP at he;have hg:zah t.b h=true:=by
  cases hq:zah t.b h with
  |true=>rfl
  |false=>rw[hq]at he;cases he
 rw[hg]at he;have hr:(zbN t h != h)=false:=by
  cases hq:(zbN t h != h)with
  |false=>rfl
  |true=>rw[hq]at he;cases he
 rw[hr]at he;have hb:(decide (task<0)||decide (task≥8))=false:=by
  cases hq:(decide (task<0)||decide (task≥8))with
  |false=>rfl
  |true=>rw[hq]at he;cases he
 simp only[zFM,zFO]at hb;exact⟨⟨⟨hu,hg⟩,(zdz ht ⟨hu,hg⟩).1 (by simpa using hr)⟩,by omega,by omega⟩
theorem zfw{o:Nat→Sd}{t:Tb}{h task:Int}{x:Ow}(he:zdP t h task=0):zfv o t h task x=zaq o (slN h) ⟨h,x⟩:=by unfold zfv;rw[he];rfl
theorem OInv.move{t t':Tb}{o o':Nat→Sd}{box box':Nat→MBox}{alive A A':Nat→Bool}{P P':List Int}(h:OInv t o box alive A P)
 (h1:∀x,zf8 t' x→(zf8 t x∧o' (slN x)=o (slN x)∧(ziw A (P++FL box) x (o (slN x)).own→ziw A' (P'++FL box') x (o (slN x)).own))∨((o' (slN x)).root=x∧ziw A' (P'++FL box') x (o' (slN x)).own))
 (h2:(P'++FL box').Nodup)(h3:∀x∈P'++FL box',zf8 t' x∧(o' (slN x)).own.kind=2)
 (h4:∀a,a<8→alive a=false→(box' a).n=0)(h5:∀a,a<8→BoxOk (box' a)∧∀m∈zfb (box' a),(0≤m.frm∧m.frm<8)∧U32 m.reg):OInv t' o' box' alive A' P':=
 ⟨fun x hx=>by
  rcases h1 x hx with⟨g1,g2,g3⟩|g
  ·have:=h.rt x g1;rw[g2];exact⟨this.1,g3 this.2⟩
  ·exact g,h2,h3,h4,h5⟩
theorem ziw.sub{A A':Nat→Bool}{F F':List Int}{x:Int}{w:Ow}(hA:∀a,a<8→A a=true→A' a=true)(hF:x∈F→x∈F')(h:ziw A F x w):ziw A' F' x w:=by
 rcases h with⟨h1,h2,h3⟩|⟨h1,h2⟩|⟨h1,h2,h3,h4⟩
 ·exact .inl ⟨h1,h2,hA _ (by omega) h3⟩
 ·exact .inr (.inl ⟨h1,hF h2⟩)
 ·exact .inr (.inr ⟨h1,h2,h3,fun a ha hb=>hA a ha (h4 a ha hb)⟩)
theorem zjt{a:Int}(h0:0≤a)(h1:a<256):tkB a=a:=zcC (zbL (by simp[zcB];omega) (fun _=>h0) (by simp[zcB];omega))
theorem zii{s:St}{task h what:Int}(he:zf4 s task h what=0):zah s.t.b h=true∧zli s task h what=true:=by
 unfold zf4 at he;cases hg:zah s.t.b h with
 |false=>rw[hg]at he;cases he
 |true=>
  rw[hg]at he;cases hm:zli s task h what with
  |false=>rw[hm]at he;cases he
  |true=>exact⟨rfl,rfl⟩
theorem zi5{s:St}{task h what:Int}(hw:what=1∨what=2)(he:zf4 s task h what=0):zah s.t.b h=true∧(ofO s.o s.t h).kind=1:=by
 obtain⟨h1,h2⟩:=zii he;refine⟨h1,?_⟩;unfold zli at h2;cases h3:((ofO s.o s.t h).kind==3)with
 |true=>
  rw[h3]at h2;have:(what==0)=false:=by rcases hw with rfl|rfl<;>rfl
  rw[this]at h2;simp at h2
 |false=>
  rw[h3]at h2;cases h4:((ofO s.o s.t h).kind==1)with
  |true=>simpa using h4
  |false=>rw[h4]at h2;cases h2
theorem zgk{t:Tb}{d:Int→Nat}(ht:TInv t d){o:Nat→Sd}{box:Nat→MBox}{alive A:Nat→Bool}{P:List Int}(h:OInv t o box alive A P){r:Int}{k:Int}(hk:(ofO o t r).kind=k)(h2:k≠2):r∉P++FL box:=fun hm=>by obtain⟨h1,h3⟩:=h.fr r hm;rw[zkf ht h1 (h.rt r h1).1,h3]at hk;exact h2 hk.symm
theorem ziX{t t':Tb}(hA:Alike t t'){o:Nat→Sd}{box:Nat→MBox}{alive A:Nat→Bool}{P:List Int}(h:OInv t o box alive A P):OInv t' o box alive A P:=
 h.move (fun x hx=>.inl ⟨hA.isRt.1 hx,rfl,fun h=>h⟩) h.nd (fun x hx=>⟨hA.isRt.2 (h.fr x hx).1,(h.fr x hx).2⟩) h.dead h.bx
theorem zxR{t:Tb}{d:Int→Nat}(ht:TInv t d){o:Nat→Sd}{box:Nat→MBox}{alive A:Nat→Bool}{P:List Int}(h:OInv t o box alive A P){up n:Int}(hu:U32 up)(he:zjO t up n=0){task:Int}(h0:0≤task)(h1:task<8)(hA:A task.toNat=true):
 (up≠0→OInv (zdj t up n) o box alive A P)∧(up=0→zdP (zdj t up n) (zdw t up n) task=0∧OInv (zdj t up n) (zfv o (zdj t up n) (zdw t up n) task ⟨1,tkB task,0⟩) box alive A P):=by
 obtain⟨d',n1,n2,n3,n4,n5,n6,n7,n8⟩:=zsz ht hu he;have hold:∀x,IsR (zdj t up n) x→x=zdw t up n∨(IsR t x∧slN x≠slN (zdw t up n)):=fun x hx=>by
  rcases(n6 x hx.1).1 hx.2 with g|g
  ·by_cases c:x=zdw t up n
   ·exact .inl c
   ·exact .inr ⟨⟨hx.1,g⟩,fun e=>c (zgX n1.ok hx n2 e)⟩
  ·exact .inl g
 have hnew:∀x,IsR t x→IsR (zdj t up n) x∧slN x≠slN (zdw t up n):=fun x hx=>by have:IsR (zdj t up n) x:=⟨hx.1,(n6 x hx.1).2 (.inl hx.2)⟩;refine⟨this,fun e=>?_⟩;have:=zgX n1.ok this n2 e;have h3:=hx.2;rw[this,n3]at h3;cases h3
 have hfr:∀x∈P++FL box,zf8 (zdj t up n) x∧slN x≠slN (zdw t up n):=fun x hx=>by obtain⟨g1,g2⟩:=h.fr x hx;obtain⟨g3,g4⟩:=hnew x g1.1;exact⟨⟨g3,by rw[n7 x g4];exact g1.2⟩,g4⟩
 refine⟨fun hup=>?_,fun hup=>?_⟩
 ·refine h.move (fun x hx=>.inl ?_) h.nd (fun x hx=>⟨(hfr x hx).1,(h.fr x hx).2⟩) h.dead h.bx;rcases hold x hx.1 with g|⟨g,gs⟩
  ·have:=hx.2;rw[g,n4]at this;exact absurd this hup
  ·exact⟨⟨g,by rw[←n7 x gs];exact hx.2⟩,rfl,fun h=>h⟩
 ·have hroot:zf8 (zdj t up n) (zdw t up n):=⟨n2,by rw[n4];exact hup⟩;have hs:=zta n1 hroot h0 h1;refine⟨hs,?_⟩;rw[zfw hs];refine h.move (fun x hx=>?_) h.nd (fun x hx=>⟨(hfr x hx).1,by rw[zaf (hfr x hx).2];exact(h.fr x hx).2⟩) h.dead h.bx;rcases hold x hx.1 with g|⟨g,gs⟩
  ·refine .inr ?_;rw[g,zag];exact⟨rfl,.inl ⟨rfl,by simp only;rw[zjt h0 (by omega)];exact⟨h0,h1⟩,by simp only;rw[zjt h0 (by omega)];exact hA⟩⟩
  ·exact .inl ⟨⟨g,by rw[←n7 x gs];exact hx.2⟩,zaf gs,fun h=>h⟩
theorem zie{t t':Tb}{d d':Int→Nat}(ht:TInv t d)(ht':TInv t' d'){o:Nat→Sd}{box box':Nat→MBox}{alive A A':Nat→Bool}{P P':List Int}(h:OInv t o box alive A P){r:Int}(hr:IsR t r)(hb:t'.b=t.b)(hup:∀x,upT t' x=if slN x=slN r then 0 else upT t x)
 (hf:∀x,x∈P'++FL box'→x≠r→x∈P++FL box)(hf2:∀x,x∈P++FL box→x≠r→x∈P'++FL box'){w:Ow}(hw:ziw A' (P'++FL box') r w)(hk:r∈P'++FL box'→w.kind=2)
 (hnd:(P'++FL box').Nodup)(hAA:∀a,a<8→A a=true→A' a=true)(h4:∀a,a<8→alive a=false→(box' a).n=0)(h5:∀a,a<8→BoxOk (box' a)∧∀m∈zfb (box' a),(0≤m.frm∧m.frm<8)∧U32 m.reg):OInv t' (zaq o (slN r) ⟨r,w⟩) box' alive A' P':=by
 have hR:∀x,IsR t' x↔IsR t x:=fun x=>by unfold IsR;rw[hb]
 have hr':zf8 t' r:=⟨(hR r).2 hr,by rw[hup,if_pos rfl]⟩;refine h.move (fun x hx=>?_) hnd (fun x hx=>?_) h4 h5
 ·by_cases c:slN x=slN r
  ·have e:=zgX ht.ok ((hR x).1 hx.1) hr c;refine .inr ?_;rw[e,zag];exact⟨rfl,hw⟩
  ·refine .inl ⟨⟨(hR x).1 hx.1,by have:=hx.2;rw[hup,if_neg c]at this;exact this⟩,zaf c,fun hq=>hq.sub hAA fun hm=>hf2 x hm fun e=>c (by rw[e])⟩
 ·by_cases c:x=r
  ·rw[c,zag];exact⟨hr',hk (c▸hx)⟩
  ·obtain⟨g1,g2⟩:=h.fr x (hf x hx c);have hs:slN x≠slN r:=fun e=>c (zgX ht.ok g1.1 hr e);rw[zaf hs];exact⟨⟨(hR x).2 g1.1,by rw[hup,if_neg hs];exact g1.2⟩,g2⟩
theorem zif{t:Tb}{d:Int→Nat}(ht:TInv t d){o:Nat→Sd}{box box':Nat→MBox}{alive A A':Nat→Bool}{P P':List Int}(h:OInv t o box alive A P){r:Int}(hr:zf8 t r)
 (hf:∀x,x∈P'++FL box'→x≠r→x∈P++FL box)(hf2:∀x,x∈P++FL box→x≠r→x∈P'++FL box'){w:Ow}(hw:ziw A' (P'++FL box') r w)(hk:r∈P'++FL box'→w.kind=2)
 (hnd:(P'++FL box').Nodup)(hAA:∀a,a<8→A a=true→A' a=true)(h4:∀a,a<8→alive a=false→(box' a).n=0)(h5:∀a,a<8→BoxOk (box' a)∧∀m∈zfb (box' a),(0≤m.frm∧m.frm<8)∧U32 m.reg):OInv t (zaq o (slN r) ⟨r,w⟩) box' alive A' P':=by
 refine zie ht ht h hr.1 rfl (fun x=>?_) hf hf2 hw hk hnd hAA h4 h5;by_cases c:slN x=slN r
 ·rw[if_pos c,zir c];exact hr.2
 ·rw[if_neg c]
theorem zpj{t:Tb}{d:Int→Nat}(ht:TInv t d){o:Nat→Sd}{box:Nat→MBox}{alive A:Nat→Bool}{P P':List Int}(h:OInv t o box alive A P){r:Int}(hr:IsR t r)(hP:∀x,x∈P'++FL box↔x∈P++FL box∧x≠r)(hnd:(P'++FL box).Nodup):OInv (zbv t (zbW t r)) o box alive A P':=by
 obtain⟨hD,d',ht',hup⟩:=zeV ht hr;refine h.move (fun x hx=>.inl ?_) hnd (fun x hx=>?_) h.dead h.bx
 ·have hg:=(hD.good x hx.1.1).1 hx.1.2;have hup:=hup x hx.1;have hne:x≠r:=fun e=>hg.2 (by rw[e];exact(zce ht hr).2 ⟨hr,.refl _⟩);exact⟨⟨⟨hx.1.1,hg.1⟩,by rw[←hup];exact hx.2⟩,rfl,fun hq=>hq.sub (fun _ _ h=>h) fun hm=>(hP x).2 ⟨hm,hne⟩⟩
 ·obtain⟨h1,h2⟩:=(hP x).1 hx;obtain⟨g1,g2⟩:=h.fr x h1;have hn:x∉zaV t r:=fun hm=>by have:=((zce ht hr).1 hm).2;exact h2 (znk this g1.2)
  have hi:IsR (zbv t (zbW t r)) x:=⟨g1.1.1,(hD.good x g1.1.1).2 ⟨g1.1.2,hn⟩⟩;exact⟨⟨hi,by rw[hup x hi];exact g1.2⟩,g2⟩
theorem ziY{t:Tb}{d:Int→Nat}(ht:TInv t d){o:Nat→Sd}{box:Nat→MBox}{alive A:Nat→Bool}{P:List Int}(h:OInv t o box alive A P){r:Int}(hr:IsR t r)(hn:r∉P++FL box):OInv (zbv t (zbW t r)) o box alive A P:=
 zpj ht h hr (fun x=>⟨fun hx=>⟨hx,fun e=>hn (e▸hx)⟩,fun hx=>hx.1⟩) h.nd
theorem zsb{t:Tb}{d:Int→Nat}(ht:TInv t d){o:Nat→Sd}{box:Nat→MBox}{alive A:Nat→Bool}{P:List Int}(h:OInv t o box alive A P){a up:Int}(hu:U32 a)(hu2:U32 up)(he:grE t a up=0)(hn:a∉P++FL box):OInv (grT t a up) o box alive A P:=by
 obtain⟨g1,g2,g3,d',g4,g5,g6⟩:=zpb ht hu hu2 he;have hR:∀x,IsR (grT t a up) x↔IsR t x:=fun x=>by unfold IsR;rw[g3]
 refine h.move (fun x hx=>.inl ?_) h.nd (fun x hx=>?_) h.dead h.bx
 ·have hx2:=hx.2;rw[g5]at hx2;by_cases c:slN x=slN a
  ·rw[if_pos c]at hx2;exact absurd hx2 (zb2 g2.2)
  ·rw[if_neg c]at hx2;exact⟨⟨(hR x).1 hx.1,hx2⟩,rfl,fun h=>h⟩
 ·obtain⟨k1,k2⟩:=h.fr x hx;have c:slN x≠slN a:=fun e=>hn (by rw[←zgX ht.ok k1.1 g1.1 e];exact hx);exact⟨⟨(hR x).2 k1.1,by rw[g5,if_neg c];exact k1.2⟩,k2⟩
end Sx
end Go.Proofs.YtfbhkfhbnkncoaaGreatDoor
