import Derived.Test.YtfbhkfhbnkncoaaGreatDoorT14
set_option linter.all false
namespace Go.Proofs.YtfbhkfhbnkncoaaGreatDoor
open Go.RowKit
namespace Sx
variable {E:Gh} {r:Option Nat} {nn:Nat}
variable {P:Program} {tb:TT}
def zCE(E:Gh)(R:Nat→Prop)(ro0:Ro)(w0:World):Gh where
 Y ro S w:=(∀b,R b→b<w0.heap.size∧w.heap[b]?=w0.heap[b]?∧ro b=ro0 b∧¬S b)∧w0.heap.size≤w.heap.size∧E.Y ro (fun b=>R b∨S b) w
 on {ro S w ro' S' w'} h hG hk:=by
  obtain⟨h1,h2,h3⟩:=h;refine⟨fun b hb=>?_,zFU h2 hG.size,E.on h3 ⟨hG.os,hG.tape,hG.output,hG.size,fun b hb hn=>hG.old b hb (fun hs=>hn (.inr hs)),hG.r,fun b hb=>?_⟩ hk⟩
  ·obtain⟨g1,g2,g3,g4⟩:=h1 b hb;obtain⟨o1,o2⟩:=hG.old b (by omega) g4;exact⟨g1,o1.trans g2,o2.trans g3,fun hs=>(hG.new b hs).elim g4 (by omega)⟩
  ·rcases hb with hb|hb
   ·exact .inl (.inl hb)
   ·rcases hG.new b hb with h4|h4
    ·exact .inl (.inr h4)
    ·exact .inr h4
def Bl.hi(bl:Bl)(n k j b:Nat):Prop:=(∃(id:Nat) (x:Nat×Ty),n≤id∧bl.b[id]?=some x∧x.1=b)∨(∃(id:Nat) (e:Option Nat×Nat×Nat),k≤id∧bl.t[id]?=some e∧e.1=some b)∨(∃(id:Nat) (x:BO),j≤id∧bl.o[id]?=some x∧x.blk=some b)
theorem zlH{α:Type}{l:List α}{n i:Nat}{x:α}(h:(l.take n)[i]?=some x):i<n∧l[i]?=some x:=by
 rw[zIg]at h;split at h
 ·exact⟨by assumption,h⟩
 ·cases h
theorem znK{bl:Bl}{n k j b:Nat}(h:bl.hi n k j b):bl.hb b:=by
 rcases h with⟨id,x,_,h⟩|⟨id,x,_,h⟩|⟨id,x,_,h⟩
 ·exact .inl ⟨id,x,h⟩
 ·exact .inr (.inl ⟨id,x,h⟩)
 ·exact .inr (.inr ⟨id,x,h⟩)
section
variable {ro:Ro} {bl:Bl} {m:MS} {w:World}
theorem MemC.tail_some(h:MemC ro bl m w){id b:Nat}{e:Option Nat×Nat×Nat}(he:bl.t[id]?=some e)(hb:e.1=some b):∃row,ro b=some row:=by obtain⟨row,_,_,h1,_⟩:=h.tail id e b he hb;exact⟨row,h1⟩
theorem MemC.hi_not(h:MemC ro bl m w){n k j b:Nat}(hh:bl.hi n k j b):¬(bl.take n k j).hb b:=by
 rintro(⟨id,x,hx,rfl⟩|⟨id,e,he,hb⟩|⟨id,y,hy,hb⟩)
 ·obtain⟨hlt,hx⟩:=zlH hx;rcases hh with⟨i,z,hge,hz,e⟩|⟨i,z,hge,hz,e⟩|⟨i,z,hge,hz,e⟩
  ·have:=h.inj _ _ _ _ hx hz e.symm;omega
  ·obtain⟨row,hr⟩:=h.tail_some hz e;rw[h.box_none (t:=x.2) hx]at hr;cases hr
  ·exact h.bo _ _ _ _ hx hz e
 ·obtain⟨hlt,he⟩:=zlH he;obtain⟨row,hr⟩:=h.tail_some he hb;rcases hh with⟨i,z,hge,hz,e'⟩|⟨i,z,hge,hz,e'⟩|⟨i,z,hge,hz,e'⟩
  ·subst e';rw[h.box_none (t:=z.2) hz]at hr;cases hr
  ·have:=h.tinj _ _ _ _ _ he hz hb e';omega
  ·rw[h.obj_none hz e']at hr;cases hr
 ·obtain⟨hlt,hy⟩:=zlH hy;rcases hh with⟨i,z,hge,hz,e'⟩|⟨i,z,hge,hz,e'⟩|⟨i,z,hge,hz,e'⟩
  ·subst e';exact h.bo _ _ _ _ hz hy hb
  ·obtain⟨row,hr⟩:=h.tail_some hz e';rw[h.obj_none hy hb]at hr;cases hr
  ·have:=h.oinj _ _ _ _ _ hy hz hb e';omega
end
theorem zgB{ro:Ro}{bl:Bl}{n k j:Nat}:∀{args:List SV} {xs:List Value},za5 ro bl args xs→zaG n k j args=true→za5 ro (bl.take n k j) args xs
 |[],[],_,_=>trivial
 |u::r,x::xs,h,hi=>by simp only[zaG,zFR]at hi;exact⟨h.1.drop hi.1,zgB h.2 hi.2⟩
 |[],_::_,h,_=>h.elim
 |_::_,[],h,_=>h.elim
theorem znm{α:Type}{l r:List α}{n i:Nat}{x:α}(hn:l.length=n)(h:(l++r.drop n)[i]?=some x):(i<n∧l[i]?=some x)∨(n≤i∧r[i]?=some x):=by
 rcases zGc i n with hi|hi
 ·rw[zH2 (by omega)]at h;exact .inl ⟨hi,h⟩
 ·rw[zHY (by omega),zHy,hn,show n+(i - n)=i by omega]at h;exact .inr ⟨hi,h⟩
theorem zjU{α:Type}{l r:List α}{i:Nat}{x:α}(h:l[i]?=some x):(l++r)[i]?=some x:=by rw[zH2 (zGf.1 h).1];exact h
theorem zjT{α:Type}{l r:List α}{n i:Nat}{x:α}(hn:l.length=n)(hi:n≤i)(h:r[i]?=some x):(l++r.drop n)[i]?=some x:=by rw[zHY (by omega),zHy,hn,show n+(i - n)=i by omega];exact h
theorem zhj{ro:Ro}{bl:Bl}{w:World}{n k j:Nat}{m:MS}(hM:Mem E ro bl m w){ro':Ro}{bl':Bl}{m':MS}{w':World}(hM':Mem (zCE E (bl.hi n k j) ro w) ro' bl' m' w')(hG:Gr ro (bl.take n k j) w ro' bl' w')(hl:(n≤m.c.length∧k≤m.t.length∧j≤m.o.length)∧m'.c.length=n∧m'.t.length=k∧m'.o.length=j):
 ∃bl2,Mem E ro' bl2 ⟨m'.c++m.c.drop n,m'.t++m.t.drop k,m'.o++m.o.drop j⟩ w'∧Gr ro bl w ro' bl2 w'∧Le ro' bl' ro' bl2∧(∀b,bl2.hb b↔bl'.hb b∨bl.hi n k j b):=by
 obtain⟨⟨m1,m2,m3⟩,k1,k2,k3⟩:=hl;obtain⟨l1,l2,l3⟩:=hM'.lens;rw[k1]at l1;rw[k2]at l2;rw[k3]at l3;obtain⟨hR,hsz,hY⟩:=hM'.gh;have hk':bl'.k=bl.k:=hG.k;have hg':bl'.g=bl.g:=hG.le.g;obtain⟨bl2,hbl2⟩:∃bl2:Bl,bl2=⟨bl'.b++bl.b.drop n,bl'.t++bl.t.drop k,bl'.o++bl.o.drop j,bl.k,bl.g⟩:=⟨_,rfl⟩;have gb:∀{i x},bl2.b[i]?=some x→(i<n∧bl'.b[i]?=some x)∨(n≤i∧bl.b[i]?=some x):=fun hx=>by rw[hbl2]at hx;exact znm l1 hx
 have gt:∀{i x},bl2.t[i]?=some x→(i<k∧bl'.t[i]?=some x)∨(k≤i∧bl.t[i]?=some x):=fun hx=>by rw[hbl2]at hx;exact znm l2 hx
 have go:∀{i x},bl2.o[i]?=some x→(i<j∧bl'.o[i]?=some x)∨(j≤i∧bl.o[i]?=some x):=fun hx=>by rw[hbl2]at hx;exact znm l3 hx
 have hle1:Le ro' bl' ro' bl2:=by rw[hbl2];exact⟨Ro.le_refl _,fun _ _ h=>zjU h,fun _ e h=>⟨e,zjU h,zF5 _,fun _=>⟨rfl,fun _ _=>rfl⟩⟩,fun _ x h=>⟨x,zjU h,x.le_refl⟩,hg'.symm⟩
 have hle:Le ro bl ro' bl2:=by
  refine⟨hG.le.r,fun id x hx=>?_,fun id e he=>?_,fun id x hx=>?_,by rw[hbl2]⟩
  ·rcases zGc id n with hl|hl
   ·exact hle1.b _ _ (hG.le.b id x (zck hx hl))
   ·rw[hbl2];exact zjT l1 hl hx
  ·rcases zGc id k with hl|hl
   ·obtain⟨e',h1,h2⟩:=hG.le.t id e (zck he hl);obtain⟨e2,h3,h4,h5⟩:=hle1.t id e' h1;obtain⟨h6,h7⟩:=h2;refine⟨e2,h3,zFU h6 h4,fun hq=>?_⟩;obtain⟨q1,q2⟩:=h5 (by omega);subst q1;exact h7 (by omega)
   ·refine⟨e,by rw[hbl2];exact zjT l2 hl he,zF5 _,fun _=>⟨rfl,fun b hb=>(hR b (.inr (.inl ⟨id,e,hl,he,hb⟩))).2.2.1⟩⟩
  ·rcases zGc id j with hl|hl
   ·obtain⟨x',h1,h2⟩:=hG.le.o id x (zck hx hl);obtain⟨x2,h3,h4⟩:=hle1.o id x' h1;exact⟨x2,h3,BO.le_trans h2 h4⟩
   ·exact⟨x,by rw[hbl2];exact zjT l3 hl hx,x.le_refl⟩
 have hdis:∀{b},bl.hi n k j b→bl'.hb b→False:=fun h1 h2=>(hR _ h1).2.2.2 (.inl h2);have hib:∀{i x},n≤i→bl.b[i]?=some x→bl.hi n k j x.1:=fun h1 h2=>.inl ⟨_,_,h1,h2,rfl⟩;have hit:∀{i x b},k≤i→bl.t[i]?=some x→x.1=some b→bl.hi n k j b:=fun h1 h2 h3=>.inr (.inl ⟨_,_,h1,h2,h3⟩);have hio:∀{i x b},j≤i→bl.o[i]?=some x→x.blk=some b→bl.hi n k j b:=fun h1 h2 h3=>.inr (.inr ⟨_,_,h1,h2,h3⟩);have hb2:∀b,bl2.hb b↔bl'.hb b∨bl.hi n k j b:=fun b=>by
  constructor
  ·rintro(⟨i,x,hx,e⟩|⟨i,x,hx,e⟩|⟨i,x,hx,e⟩)
   ·rcases gb hx with⟨_,hx⟩|⟨h1,hx⟩
    ·exact .inl (.inl ⟨i,x,hx,e⟩)
    ·exact .inr (.inl ⟨i,x,h1,hx,e⟩)
   ·rcases gt hx with⟨_,hx⟩|⟨h1,hx⟩
    ·exact .inl (.inr (.inl ⟨i,x,hx,e⟩))
    ·exact .inr (.inr (.inl ⟨i,x,h1,hx,e⟩))
   ·rcases go hx with⟨_,hx⟩|⟨h1,hx⟩
    ·exact .inl (.inr (.inr ⟨i,x,hx,e⟩))
    ·exact .inr (.inr (.inr ⟨i,x,h1,hx,e⟩))
  ·rintro((⟨i,x,hx,e⟩|⟨i,x,hx,e⟩|⟨i,x,hx,e⟩)|(⟨i,x,h1,hx,e⟩|⟨i,x,h1,hx,e⟩|⟨i,x,h1,hx,e⟩))
   ·exact .inl ⟨i,x,by rw[hbl2];exact zjU hx,e⟩
   ·exact .inr (.inl ⟨i,x,by rw[hbl2];exact zjU hx,e⟩)
   ·exact .inr (.inr ⟨i,x,by rw[hbl2];exact zjU hx,e⟩)
   ·exact .inl ⟨i,x,by rw[hbl2];exact zjT l1 h1 hx,e⟩
   ·exact .inr (.inl ⟨i,x,by rw[hbl2];exact zjT l2 h1 hx,e⟩)
   ·exact .inr (.inr ⟨i,x,by rw[hbl2];exact zjT l3 h1 hx,e⟩)
 have hC:MemC ro' bl2 ⟨m'.c++m.c.drop n,m'.t++m.t.drop k,m'.o++m.o.drop j⟩ w':=by
  refine⟨?_,?_,fun i b t v hb hc=>?_,fun i j' x y hx hy he=>?_,fun i e b he hb=>?_,fun i j' e1 e2 b h1 h2 h3 h4=>?_,hM'.known,?_,fun i y x hy hx=>?_,fun i j' x y b hx hy h3 h4=>?_,fun i j' x y hx hy h3=>?_⟩
  ·have:=hM.len;rw[hbl2];simp only[zFY,zGY]at this ⊢;omega
  ·have h1:=hM'.ver;have h2:=hM.ver;rw[hbl2];simp only[zF6,List.map_drop]at h2 ⊢;rw[h1,h2]
  ·rcases gb hb with⟨hl,hb⟩|⟨hl,hb⟩
   ·rw[zH2 (by omega)]at hc;obtain⟨cl,e',h1,h2,h3⟩:=hM'.box i b t v hb hc;exact⟨cl,e',h1,h2.mono hle1,h3⟩
   ·have hc':m.c[i]?=some v:=by rw[zHY (by omega),zHy,k1,show n+(i - n)=i by omega]at hc;exact hc
    obtain⟨cl,e',h1,h2,h3,h4⟩:=hM.box i b t v hb hc';obtain⟨_,g1,g2,_⟩:=hR b (hib hl hb);exact⟨cl,e',g1.trans h1,h2.mono hle,h3,g2.trans h4⟩
  ·rcases gb hx with⟨_,hx⟩|⟨h1,hx⟩<;>rcases gb hy with⟨_,hy⟩|⟨h2,hy⟩
   ·exact hM'.inj _ _ _ _ hx hy he
   ·exact(hdis (hib h2 hy) (.inl ⟨i,x,hx,he⟩)).elim
   ·exact(hdis (hib h1 hx) (.inl ⟨j',y,hy,he.symm⟩)).elim
   ·exact hM.inj _ _ _ _ hx hy he
  ·rcases gt he with⟨_,he⟩|⟨h1,he⟩
   ·exact hM'.tail i e b he hb
   ·obtain⟨row,cl,ty,q1,q2,q3⟩:=hM.tail i e b he hb;obtain⟨_,g1,g2,_⟩:=hR b (hit h1 he hb);exact⟨row,cl,ty,g2.trans q1,g1.trans q2,q3⟩
  ·rcases gt h1 with⟨_,h1⟩|⟨q1,h1⟩<;>rcases gt h2 with⟨_,h2⟩|⟨q2,h2⟩
   ·exact hM'.tinj _ _ _ _ _ h1 h2 h3 h4
   ·exact(hdis (hit q2 h2 h4) (.inr (.inl ⟨i,e1,h1,h3⟩))).elim
   ·exact(hdis (hit q1 h1 h3) (.inr (.inl ⟨j',e2,h2,h4⟩))).elim
   ·exact hM.tinj _ _ _ _ _ h1 h2 h3 h4
  ·have:=hM.olen;rw[hbl2];simp only[zFY,zGY]at this ⊢;omega
  ·rcases go hy with⟨hl,hy⟩|⟨hl,hy⟩
   ·rw[zH2 (by omega)]at hx;exact(hM'.obj i y x hy hx).to hle1 fun _ _=>⟨rfl,rfl⟩
   ·have hx':m.o[i]?=some x:=by rw[zHY (by omega),zHy,k3,show j+(i - j)=i by omega]at hx;exact hx
    exact(hM.obj i y x hy hx').to hle fun b hb=>⟨(hR b (hio hl hy hb)).2.1,(hR b (hio hl hy hb)).2.2.1⟩
  ·rcases go hx with⟨_,hx⟩|⟨q1,hx⟩<;>rcases go hy with⟨_,hy⟩|⟨q2,hy⟩
   ·exact hM'.oinj _ _ _ _ _ hx hy h3 h4
   ·exact(hdis (hio q2 hy h4) (.inr (.inr ⟨i,x,hx,h3⟩))).elim
   ·exact(hdis (hio q1 hx h3) (.inr (.inr ⟨j',y,hy,h4⟩))).elim
   ·exact hM.oinj _ _ _ _ _ hx hy h3 h4
  ·rcases gb hx with⟨_,hx⟩|⟨q1,hx⟩<;>rcases go hy with⟨_,hy⟩|⟨q2,hy⟩
   ·exact hM'.bo _ _ _ _ hx hy h3
   ·exact hdis (hio q2 hy h3) (.inl ⟨i,x,hx,rfl⟩)
   ·exact hdis (hib q1 hx) (.inr (.inr ⟨j',y,hy,h3⟩))
   ·exact hM.bo _ _ _ _ hx hy h3
 have hGf:Gr ro bl w ro' bl2 w':=⟨hG.os,hG.tape,hG.output,hG.size,fun b hb hnb=>hG.old b hb fun h1=>hnb (zdE h1),hle,fun b hb=>by
  rcases(hb2 b).1 hb with h1|h1
  ·exact(hG.new b h1).elim (fun h=>.inl (zdE h)) .inr
  ·exact .inl (znK h1),by rw[hbl2]⟩
 exact⟨bl2,hM.to hGf hC,hGf,hle1,hb2⟩
theorem zcb{f:FuncId}{args:List SV}{cs:List SV}{ts:List Nat}{os:List Ob}(c2:List SV)(t2:List Nat)(o2:List Ob){K:Out→MS→Prop}(h:Con P f args ⟨cs,ts,os⟩ K)(ha:zaG cs.length ts.length os.length args=true)
 (hi:(zaG cs.length ts.length os.length cs&&zbH cs.length ts.length os.length os)=true)(hK:∀o m',K o m'→m'.c.length=cs.length∧m'.t.length=ts.length∧m'.o.length=os.length):
 Con P f args ⟨cs++c2,ts++t2,os++o2⟩ fun o m=>∃m',K o m'∧m=⟨m'.c++c2,m'.t++t2,m'.o++o2⟩:=by
 refine⟨h.1,fun E ro bl w xs hM hA=>?_⟩;obtain⟨n,hn⟩:∃n,cs.length=n:=⟨_,rfl⟩;obtain⟨k,hk⟩:∃k,ts.length=k:=⟨_,rfl⟩;obtain⟨j,hj⟩:∃j,os.length=j:=⟨_,rfl⟩;rw[hn,hk,hj]at ha hi hK;simp only[zFR]at hi;have ec:(cs++c2).take n=cs:=by rw[←hn,zG3]
 have et:(ts++t2).take k=ts:=by rw[←hk,zG3]
 have eo:(os++o2).take j=os:=by rw[←hj,zG3]
 have hC0:MemC ro (bl.take n k j) ⟨cs,ts,os⟩ w:=by
  have:=hM.toMemC.drop (n:=n) (k:=k) (j:=j) (by rw[ec];exact hi.1) (by rw[eo];exact hi.2);unfold MS.take at this
  rwa [ec,et,eo]at this
 have hM0:Mem (zCE E (bl.hi n k j) ro w) ro (bl.take n k j) ⟨cs,ts,os⟩ w:=by
  refine⟨hC0,⟨fun b hb=>⟨hM.hb_lt (znK hb),rfl,rfl,fun hs=>hs.elim (hM.toMemC.hi_not hb) fun hm=>hM.toMemC.mark_ne (hM.marks b hm) (znK hb)⟩,zF5 _,E.on hM.gh (GrS.sub fun b hb=>?_) hM.known⟩,hM.glob,⟨fun hb=>hM.gno.1 (zdE hb),fun hb=>hM.gno.2 (zdE hb)⟩,hM.marks⟩;rcases hb with hb|hb|hb
  ·exact .inl (znK hb)
  ·exact .inl (zdE hb)
  ·exact .inr hb
 refine(h.2 _ ro _ w xs hM0 (zgB hA ha)).mono ?_;rintro e w' ⟨ro',bl',m',out,hM',hG,ho,hKm⟩;obtain⟨k1,k2,k3⟩:=hK _ _ hKm;obtain⟨bl2,hM2,hG2,hle1,_⟩:=zhj hM hM' hG ⟨⟨by simp;omega,by simp;omega,by simp;omega⟩,k1,k2,k3⟩;have dc:(cs++c2).drop n=c2:=by rw[←hn,zIX]
 have dt:(ts++t2).drop k=t2:=by rw[←hk,zIX]
 have dO:(os++o2).drop j=o2:=by rw[←hj,zIX]
 rw[dc,dt,dO]at hM2;refine⟨ro',bl2,_,out,hM2,hG2,?_,m',hKm,rfl⟩;cases out with
 |ret v=>obtain⟨x,rfl,hx⟩:=ho;exact⟨x,rfl,hx.mono hle1⟩
 |pan d=>obtain⟨x,rfl,hx⟩:=ho;exact⟨x,rfl,hx.mono hle1⟩
theorem zlv{f:FuncId}{args:List SV}{v:SV}(ha:zaG 0 0 0 args=true)(h:Con P f args ⟨[],[],[]⟩ fun o m=>o=.ret v∧m=⟨[],[],[]⟩):zay P f args v:=fun m=>
 zal (zcb m.c m.t m.o h ha rfl (fun o m' hm=>by rw[hm.2];exact⟨rfl,rfl,rfl⟩)) fun o m' ⟨m2,h1,h2⟩=>⟨h1.1,by rw[h2,h1.2];rfl⟩
theorem zj4{ro:Ro}{bl:Bl}{w:World}{m:MS}(hM:Mem E ro bl m w):Mem (zCE E (bl.hi 0 0 0) ro w) ro (bl.take 0 0 0) ⟨[],[],[]⟩ w:=by
 refine⟨hM.toMemC.drop (n:=0) (k:=0) (j:=0) rfl rfl,⟨fun b hb=>⟨hM.hb_lt (znK hb),rfl,rfl,fun hs=>hs.elim (hM.toMemC.hi_not hb) fun hm=>hM.toMemC.mark_ne (hM.marks b hm) (znK hb)⟩,zF5 _,E.on hM.gh (GrS.sub fun b hb=>?_) hM.known⟩,hM.glob,⟨fun hb=>hM.gno.1 (zdE hb),fun hb=>hM.gno.2 (zdE hb)⟩,hM.marks⟩;rcases hb with hb|hb|hb
 ·exact .inl (znK hb)
 ·exact .inl (zdE hb)
 ·exact .inr hb
theorem zmG{bl:Bl}{b:Nat}:¬(bl.take 0 0 0).hb b:=by rintro(⟨_,_,h,_⟩|⟨_,_,h,_⟩|⟨_,_,h,_⟩)<;>simp[Bl.take]at h
def zfc(P:Program)(f:FuncId)(args:List SV)(n:Nat)(t:Ty)(F:Nat→D):Prop:=Con P f args ⟨[],[],[]⟩ fun o m=>∃v,o=.ret (.ob (.mr 0 v))∧m=⟨[],[],[.row v n t F]⟩
def zzr(P:Program)(f:FuncId)(args:List SV)(n:Nat)(t:Ty)(F:Nat→D):Prop:=∀m K,(∀v,K (.ret (.ob (.mr m.o.length v))) ⟨m.c,m.t,m.o++[.row v n t F]⟩)→Con P f args m K
theorem zk3{f:FuncId}{args:List SV}{n:Nat}{t:Ty}{F:Nat→D}(ha:zaG 0 0 0 args=true)(h:zfc P f args n t F):zzr P f args n t F:=fun m K hK=>by
 refine⟨h.1,fun E ro bl w xs hM hA=>?_⟩;refine(h.2 _ ro _ w xs (zj4 hM) (zgB hA ha)).mono ?_;rintro e w' ⟨ro',bl',m',out,hM',hG,ho,v,rfl,rfl⟩;obtain⟨x,rfl,hx⟩:=ho;have hd:=hM'.drop (n:=0) (k:=0) (j:=0) rfl rfl;obtain⟨bl2,hM2,hG2,_,hb2⟩:=zhj hM hd (hG.drop (zGO (by simp[Bl.take])) (zGO (by simp[Bl.take])) (zGO (by simp[Bl.take]))) ⟨⟨zFV _,zFV _,zFV _⟩,rfl,rfl,rfl⟩;simp only[MS.take,List.take_nil,zG2,zGX,zG4]at hM2;obtain⟨hone,v',b,n',c,s,hy,hv,hxv⟩:=hx.hd;have hO:=hM'.obj 0 _ _ hy rfl;have hob:∀k,b=some k→bl'.hb k:=fun k hk=>Bl.hb_o hy hk;have hnb:∀k,b=some k→¬bl2.hb k:=fun k hk hb=>by
  rcases(hb2 k).1 hb with h1|h1
  ·exact zmG h1
  ·exact(hM'.gh.1 k h1).2.2.2 (.inl (hob k hk))
 have hro:∀k,b=some k→ro' k=none:=fun k hk=>hM'.obj_none hy hk;have hle:Le ro' bl2 ro' (bl2.oadd (.row v' b n' c s)):=Le.oadd ro' bl2 _;have hhb:∀q,(bl2.oadd (.row v' b n' c s)).hb q→bl2.hb q∨b=some q:=fun q hq=>by
  rcases hq with hq|hq|⟨i,z,hz,e⟩
  ·exact .inl (.inl hq)
  ·exact .inl (.inr (.inl hq))
  ·rcases zbB hz with⟨_,rfl⟩|hz
   ·exact .inr e
   ·exact .inl (Bl.hb_o hz e)
 have hGf:Gr ro bl w ro' (bl2.oadd (.row v' b n' c s)) w':=⟨hG2.os,hG2.tape,hG2.output,hG2.size,hG2.old,hG2.le.trans hle,fun q hq=>by
  rcases hhb q hq with h1|h1
  ·exact hG2.new q h1
  ·exact(hG.new q (hob q h1)).elim (fun h=>(zmG h).elim) .inr,hG2.k⟩
 have hC:MemC ro' (bl2.oadd (.row v' b n' c s)) ⟨m.c,m.t,m.o++[.row v n t F]⟩ w':=by
  refine⟨hM2.len,hM2.ver,fun i blk t u hb hc=>?_,hM2.inj,hM2.tail,hM2.tinj,hM2.known,by show(bl2.o++[_]).length=(m.o++[_]).length;simp[hM2.olen],fun i y x hy' hx'=>?_,fun i j' x y q hx hy h3 h4=>?_,fun i j' x y hx hy h3=>?_⟩
  ·obtain⟨cl,e',h1,h2,h3⟩:=hM2.box i blk t u hb hc;exact⟨cl,e',h1,h2.mono hle,h3⟩
  ·rcases zbB hy' with⟨rfl,rfl⟩|hy'
   ·have hx2:(m.o++[Ob.row v n t F])[bl2.o.length]?=some x:=hx';rw[hM2.olen,zbl]at hx2;cases hx2;exact hO
   ·have hx2:(m.o++[Ob.row v n t F])[i]?=some x:=hx';rw[zH2 (by rw[←hM2.olen];exact(zGf.1 hy').1)]at hx2;exact(hM2.obj i y x hy' hx2).to hle fun _ _=>⟨rfl,rfl⟩
  ·rcases zbB hx with⟨rfl,rfl⟩|hx<;>rcases zbB hy with⟨rfl,rfl⟩|hy
   ·rfl
   ·exact(hnb q h3 (Bl.hb_o hy h4)).elim
   ·exact(hnb q h4 (Bl.hb_o hx h3)).elim
   ·exact hM2.oinj _ _ _ _ _ hx hy h3 h4
  ·rcases zbB hy with⟨rfl,rfl⟩|hy
   ·exact hnb _ h3 (Bl.hb_b (t:=x.2) hx)
   ·exact hM2.bo _ _ _ _ hx hy h3
 refine⟨ro',bl2.oadd (.row v' b n' c s),_,.ret (.ob (.mr m.o.length v)),hM.to hGf hC,hGf,⟨x,rfl,zgv.v ⟨hone,v',b,n',c,s,?_,hv,hxv⟩⟩,hK v⟩;rw[←hM2.olen];exact zbl
theorem zgT{f:FuncId}{args:List SV}{n:Nat}{t:Ty}{F:Nat→D}(ha:zaG 0 0 0 args=true)(h:zfc P f args n t F):zay P f args (.d (.sl n t F)):=zlv ha (by
 refine⟨h.1,fun E ro bl w xs hM hA=>(h.2 E ro bl w xs hM hA).mono ?_⟩;rintro e w' ⟨ro',bl',m',out,hM',hG,ho,v,rfl,rfl⟩;obtain⟨x,rfl,hx⟩:=ho;obtain⟨b,c,hR⟩:=hM'.row_is (id:=0) (v:=v) (n:=n) (t:=t) (f:=F) rfl;have hxv:=hR.mr hx;subst hxv;have h0:∀q,¬bl.hb q:=fun q hq=>by
  have hl:=hM.lens;rcases hq with⟨i,z,hz,_⟩|⟨i,z,hz,_⟩|⟨i,z,hz,_⟩
  ·have:=(zGf.1 hz).1;simp only[zIe]at hl;omega
  ·have:=(zGf.1 hz).1;simp only[zIe]at hl;omega
  ·have:=(zGf.1 hz).1;simp only[zIe]at hl;omega
 have hd:=hM'.drop (n:=0) (k:=0) (j:=0) rfl rfl;have hGd:=hG.drop (n:=0) (k:=0) (j:=0) (zGO hM.lens.1) (zGO hM.lens.2.1) (zGO hM.lens.2.2);cases b with
 |none=>
  have hc:=hR.nil rfl;have hn:=hR.nc;have hn0:n=0:=by omega
  subst hn0;exact⟨ro',_,_,.ret (.d (.sl 0 t F)),hd,hGd,⟨_,rfl,⟨(fun h=>by cases h),fun _=>⟨none,c,rfl,hn,fun h=>absurd h (zH0 _)⟩⟩⟩,rfl,rfl⟩
 |some k=>
  obtain⟨hk0,cells,ty,h1,h2,h3⟩:=hR.blk k rfl;have hhb:bl'.hb k:=Bl.hb_o hR.bo rfl;have hkw:w.heap.size≤k:=(hG.new k hhb).elim (fun h=>(h0 k h).elim) id;have hle:n*t.size≤c*t.size:=zGK _ hR.nc;have hself:(zaq ro' k (some (cells.toList.take (n*t.size)))) k=some (cells.toList.take (n*t.size)):=by unfold zaq;exact if_pos rfl
  have hro:∀q,q≠k→(zaq ro' k (some (cells.toList.take (n*t.size)))) q=ro' q:=fun q hq=>by unfold zaq;rw[if_neg hq]
  have hrl:ro'.le (zaq ro' k (some (cells.toList.take (n*t.size)))):=fun q row hr=>by
   by_cases e:q=k
   ·subst e;rw[hk0]at hr;cases hr
   ·exact⟨row,by rw[hro q e];exact hr,zGM _⟩
  have hkn:Kn (zaq ro' k (some (cells.toList.take (n*t.size)))) w':=fun q row hr=>by
   by_cases e:q=k
   ·subst e;rw[hself]at hr;cases hr;exact⟨cells,ty,(0,0),h1,List.take_prefix _ _⟩
   ·rw[hro q e]at hr;exact hM'.known q row hr
  have hl0:=hd.lens;have hC:MemC (zaq ro' k (some (cells.toList.take (n*t.size)))) (bl'.take 0 0 0) ⟨[],[],[]⟩ w':=⟨hd.len,hd.ver,(fun i b t v hb=>by simp[Bl.take]at hb),hd.inj,(fun i e b he=>by simp[Bl.take]at he),hd.tinj,hkn,hd.olen,(fun i y x hy=>by simp[Bl.take]at hy),hd.oinj,hd.bo⟩;refine⟨_,bl'.take 0 0 0,⟨[],[],[]⟩,.ret (.d (.sl n t F)),⟨hC,E.on hM'.gh ⟨rfl,rfl,rfl,zF5 _,fun q _ hq=>⟨rfl,hro q fun e=>hq (by subst e;exact .inl hhb)⟩,hrl,fun q hq=>.inl (hq.elim (fun h=>(zmG h).elim) .inr)⟩ hkn,hd.glob,hd.gno,hd.marks⟩,⟨hGd.os,hGd.tape,hGd.output,hGd.size,fun q hq hn=>?_,⟨Ro.le_trans hG.le.r hrl,hGd.le.b,fun i e he=>?_,hGd.le.o,hGd.le.g⟩,hGd.new,hGd.k⟩,⟨_,rfl,⟨(fun h=>by cases h),fun _=>?_⟩⟩,rfl,rfl⟩
  ·obtain⟨g1,g2⟩:=hGd.old q hq hn;exact⟨g1,(hro q (by omega)).trans g2⟩
  ·exact absurd (zGf.1 he).1 (by have:=hM.lens.2.1;simp only[zIe]at this;omega)
  ·refine⟨_,c,rfl,hR.nc,fun _=>⟨k,0,_,fun i=>(cells.toList.drop (i*t.size)).take t.size,rfl,hself,by rw[zHf,zGu];omega,fun i hi=>⟨(h3 i hi).1,(h3 i hi).2.mono hrl,?_⟩⟩⟩;have hii:i*t.size+t.size≤n*t.size:=by rw[←zFZ];exact zGK _ hi
   have:=zbf (l:=cells.toList) (a:=0) (b:=n*t.size) (o:=i*t.size) (k:=t.size) hii;simpa using this)
end Sx
end Go.Proofs.YtfbhkfhbnkncoaaGreatDoor
