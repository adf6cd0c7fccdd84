import Derived.Test.YtfbhkfhbnkncoaaGreatDoorT18
import Derived.OrdersIn
set_option linter.all false
namespace Go.Proofs.YtfbhkfhbnkncoaaGreatDoor
open Go.RowKit
namespace Sx
variable {E:Gh} {r:Option Nat} {nn:Nat}
variable {P:Program} {tb:TT}
theorem zjk{ops:Array Oper}{hd:Nat}(D:DOk ops.toList hd){listed:Array Bool}(hs:listed.size=ops.size)(hr:Region.ready .any ops listed=[]):∀k,k<ops.size→zd5 listed k=true:=fun k hk=>by
 cases h:zd5 listed k with
 |true=>rfl
 |false=>
  obtain⟨i,h1,h2,h3⟩:=zCH hk h;have:i∈Region.ready .any ops listed:=(zdk hs).2 ⟨h2,ops[i],by simp[h1],fun e he hb=>h3 _ (D.back i ops[i] (by simp[h1]) e he hb)⟩;rw[hr]at this;cases this
theorem zmh{ops:Array Oper}{hd:Nat}(D:DOk ops.toList hd){Q:Exit→Act→World→Prop}:∀(k i:Nat) (listed:Array Bool) (a:Act) (w:World),listed.size=ops.size→(∀j,zd5 listed j=decide (j<i))→hd≤i→i+k=ops.size→
 wpOpsIn (FR r) nn P ops Q (List.range' i k) a w→wpAnyIn (FR r) nn P .any ops Q k listed a w
 |0,i,listed,a,w,hs,hl,_,hi,h=>by
  refine⟨?_,h⟩;cases hq:Region.ready .any ops listed with
  |nil=>rfl
  |cons x r=>
   have hm:x∈Region.ready .any ops listed:=by rw[hq];exact zF3 ..
   obtain⟨h1,o,ho,_⟩:=(zdk hs).1 hm;rw[hl]at h1;have h2:=(zGf.1 ho).1;simp at h1 h2;omega
 |k+1,i,listed,a,w,hs,hl,hhi,hi,h=>by
  refine⟨fun hr=>?_,fun j hj=>?_⟩
  ·have:=zjk D hs hr i (by omega);rw[hl]at this;simp at this
  ·obtain⟨h1,hw⟩:=(zdk hs).1 hj;rw[hl]at h1;have hji:i≤j:=by simpa using h1
   have hcl:zdT ops.toList (zd5 listed):=fun i' o' ho' hl' e he hb=>by rw[hl]at hl' ⊢;have:=D.back i' o' ho' e he hb;simp at hl' ⊢;omega
   have hj':j=i:=by
    rcases zGc i j with hlt|hge
    ·obtain⟨o,ho,_⟩:=id hw;have hb:=D.tail j o (by omega) ho i hlt;have:=zlg hcl (r:=ops.toList) (acc:=[]) (by simp) (fun k hk=>by simp at hk) j i hb hw;rw[hl]at this;simp at this
    ·omega
   subst hj';rw[List.range'_succ,wpOpsIn_cons]at h;refine wpOpIn_mono (fun a w hh=>zmh D k (j+1) _ a w (by simpa using hs) (fun x=>?_) (by omega) (by omega) hh) h;rw[zlf (by omega),hl];by_cases hx:x=j
   ·subst hx;simp
   ·simp[hx];omega
def zty(hd:Nat)(Lh:Loc)(k d:Nat)(g:zeA)(v:SV):Prop:=k<hd∧Lh.drop (hd -(k+1))=(d,g,some v)::Lh.drop (hd - k)
structure HOk (P:Program) (tb:TT) (N:Nat) (ops:List Oper) (hd:Nat) (m:MS) (fr:List Ent) (Lh:Loc):Prop where
 d:DOk ops hd
 len:Lh.length=hd
 step:∀k,k<hd→zwO P tb N ops hd m fr Lh k
structure HInv (E:Gh) (N hd:Nat) (ops:List Oper) (m:MS) (Lh:Loc) (ro0:Ro) (bl0:Bl) (a0:Act) (w0:World) (ls:Nat→Bool) (ro:Ro) (bl:Bl) (a:Act) (w:World):Prop where
 mem:Mem E ro bl m w
 gr:Gr ro0 bl0 w0 ro bl w
 size:a.tmps.size=N
 defers:a.defers=a0.defers
 unch:zdJ (zcx ops) a0 a
 yes:∀k d g v,ls k=true→zty hd Lh k d g v→zaI a g→zaX ro bl v (a.tmps.getD d undef)
 no:∀k d g v,ls k=true→zty hd Lh k d g v→¬zaI a g→a.tmps.getD d undef=undef
 out:∀t,(∀j o,ops[j]?=some o→ls j=true→o.dst≠some t)→a.tmps.getD t undef=a0.tmps.getD t undef
theorem HOk.ent{N hd:Nat}{ops:List Oper}{m:MS}{fr:List Ent}{Lh:Loc}(H:HOk P tb N ops hd m fr Lh){k d:Nat}{g:zeA}{v:SV}(h:zty hd Lh k d g v):
 ∃o,ops[k]?=some o∧o.dst=some d∧zgL ops (Lh.drop (hd - k)) fr o.guard=some g∧Nat.blt d N=true∧ziv P tb m fr (Lh.drop (hd - k)) g o v:=by
 obtain⟨o,d',g',v',h1,h2,h3,h4,h5,h6⟩:=H.step k h.1;have:=h.2.symm.trans h3;simp only[zFD,zGg,zGh,zFE]at this;obtain⟨rfl,rfl,rfl⟩:=this;exact⟨o,h1,h2,h4,h5,h6⟩
theorem HOk.look{N hd:Nat}{ops:List Oper}{m:MS}{fr:List Ent}{Lh:Loc}(H:HOk P tb N ops hd m fr Lh){t:Nat}{c:zeA}{u:SV}:∀{i:Nat},i≤hd→zbr (Lh.drop (hd - i)) fr t=some (c,u)→
 (∃k,k<i∧zty hd Lh k t c u)∨(c=[]∧Sx.look fr t=some u∧∀k o,k<i→ops[k]?=some o→o.dst≠some t)
 |0,_,h=>by rw[Nat.sub_zero,zGi (by rw[H.len];exact zF5 _)]at h;simp only[zbr,zGj]at h;obtain⟨u',hu,h⟩:=h;cases h;exact .inr ⟨rfl,hu,fun k o hk=>by omega⟩
 |i+1,hi,h=>by
  obtain⟨o,d,g,v,h1,h2,h3,_⟩:=H.step i hi;rw[h3]at h;unfold zbr at h;split at h
  ·rename_i ht;have:=zGk ht;subst this;cases h;exact .inl ⟨i,zF9 i,hi,h3⟩
  ·rename_i ht;rcases H.look (i:=i) (by omega) h with⟨k,hk,he⟩|⟨hc,hl,hn⟩
   ·exact .inl ⟨k,by omega,he⟩
   ·refine .inr ⟨hc,hl,fun k o' hk ho' hd'=>?_⟩;rcases zGc k i with hlt|hge
    ·exact hn k o' hlt ho' hd'
    ·have:k=i:=by omega
     subst this;rw[h1]at ho';cases ho';rw[h2]at hd';cases hd';simp at ht
theorem zcf{ops:List Oper}{ls:Nat→Bool}(hc:zdT ops ls){i j:Nat}(hw:zfT ops ls i)(hb:((zjN ops []).getD i 0).testBit j=true):ls j=true:=
 zlg hc (r:=ops) (acc:=[]) (by simp) (fun k hk=>by simp at hk) i j hb hw
theorem zcR{ops:List Oper}{ls:Nat→Bool}(hc:zdT ops ls){j:Nat}{o:Oper}(ho:ops[j]?=some o)(hl:ls j=true):zfT ops ls j:=⟨o,ho,hc j o ho hl⟩
theorem HOk.tests{N hd:Nat}{ops:List Oper}{m:MS}{fr:List Ent}{Lh:Loc}(H:HOk P tb N ops hd m fr Lh){ls:Nat→Bool}(hc:zdT ops ls):∀(i:Nat) {d:Nat} {g:zeA} {v:SV},zty hd Lh i d g v→zfT ops ls i→
 ∀p∈g,∃k o,k<i∧ls k=true∧ops[k]?=some o∧o.dst=some p.1:=fun i=>by
 induction i using Nat.strongRecOn with
 |_ i ih=>
  intro d g v he hw p hp;obtain⟨o,h1,h2,h3,_⟩:=H.ent he;unfold zgL at h3;split at h3
  ·cases h3;cases hp
  ·rename_i j want hg;obtain⟨hji,zho⟩:=H.d.guard i o j want he.1 h1 hg;have hlj:=zcf hc hw zho;split at h3
   ·rename_i dj hdj;rw[zfI]at hdj;obtain⟨oj,hoj,hdj⟩:=zGl.1 hdj;split at h3
    ·rename_i c b hl;cases h3;rcases zGm.1 hp with rfl|hp
     ·exact⟨j,oj,hji,hlj,hoj,hdj⟩
     ·rcases H.look (zGn he.1) hl with⟨k,hk,hek⟩|⟨hc0,_⟩
      ·obtain⟨ok,hok,hdk,_⟩:=H.ent hek;have:k=j:=H.d.inj _ _ _ _ _ hok hoj hdk hdj;subst this;obtain⟨k',o',h5,h6,h7,h8⟩:=ih k hji hek (zcR hc hoj hlj) p hp;exact⟨k',o',by omega,h6,h7,h8⟩
      ·subst hc0;cases hp
    ·cases h3
   ·cases h3
theorem zjL{ro:Ro}{bl:Bl}{N:Nat}{fr:List Ent}{a:Act}(h:SimL ro bl [] fr N a){t:Nat}{v:SV}(hl:look fr t=some v):zaX ro bl v (a.tmps.getD t undef):=h.yes t [] v (by simp[zbr,hl]) (fun p hp=>by cases hp)
section
variable {N hd:Nat} {ops:List Oper} {m:MS} {fr:List Ent} {Lh:Loc} {ro0:Ro} {bl0:Bl} {a0:Act} {w0:World} {ls:Nat→Bool} {ro:Ro} {bl:Bl} {a:Act} {w:World}
theorem HInv.at(H:HOk P tb N ops hd m fr Lh)(hS:SimL ro0 bl0 [] fr N a0)(hI:HInv E N hd ops m Lh ro0 bl0 a0 w0 ls ro bl a w){i t:Nat}(hi:i≤hd)(ht:∀j o,ops[j]?=some o→o.dst=some t→j<i∧ls j=true):
 At ro bl (Lh.drop (hd - i)) fr a t:=fun c u hl hc=>by
 rcases H.look hi hl with⟨k,hk,he⟩|⟨rfl,hl,hn⟩
 ·obtain⟨o,ho,hd',_⟩:=H.ent he;exact hI.yes k t c u (ht k o ho hd').2 he hc
 ·rw[hI.out t fun j o ho hlj hd'=>hn j o (ht j o ho hd').1 ho hd'];exact(zjL hS hl).mono hI.gr.le
theorem HInv.wanted{ops:Array Oper}(H:HOk P tb N ops.toList hd m fr Lh)(hS:SimL ro0 bl0 [] fr N a0)(hI:HInv E N hd ops.toList m Lh ro0 bl0 a0 w0 ls ro bl a w)(hc:zdT ops.toList ls){i d:Nat}{g:zeA}{v:SV}{o:Oper}(he:zty hd Lh i d g v)(hw:zfT ops.toList ls i)
 (ho:ops.toList[i]?=some o)(hg:zgL ops.toList (Lh.drop (hd - i)) fr o.guard=some g):Region.wanted o (yielded ops a.tmps)=true↔zaI a g:=by
 unfold zgL at hg;unfold Region.wanted;split at hg
 ·rename_i hn;cases hg;rw[hn];simp only[true_iff];intro p hp;cases hp
 ·rename_i j want hn;rw[hn];obtain⟨hji,zho⟩:=H.d.guard i o j want he.1 ho hn;have hlj:=zcf hc hw zho;split at hg
  ·rename_i d hd;rw[zfI]at hd;split at hg
   ·rename_i c b hl;cases hg;have hd':=hd;rw[zGo]at hd;simp only[yielded,hd,zGp];have hgd:a.tmps.getD d undef=(a.tmps[d]?).getD undef:=by simp
    have hno:¬zaI a c→a.tmps.getD d undef=undef:=fun hnc=>by
     rcases H.look (zGn he.1) hl with⟨k,hk,hek⟩|⟨hc0,_⟩
     ·obtain⟨ok,hok,hdk,_⟩:=H.ent hek;obtain⟨oj,hoj,hdj⟩:=zGl.1 hd';have:k=j:=H.d.inj _ _ _ _ _ hok hoj hdk hdj;subst this;exact hI.no k d c _ hlj hek hnc
     ·subst hc0;exact absurd (fun p hp=>by cases hp) hnc
    constructor
    ·intro hy;have hb:a.tmps.getD d undef=.bool want:=by
      rw[hgd];cases hq:a.tmps[d]? with
      |none=>rw[hq]at hy;simp at hy
      |some x=>
       rw[hq]at hy;cases x<;>simp at hy;subst hy;rfl
     have hc:zaI a c:=zGq fun hc=>by have:=hno hc;rw[hb]at this;cases this
     intro p hp;rcases zGm.1 hp with rfl|hp
     ·exact hb
     ·exact hc p hp
    ·intro hy;have hb:=hy (d,want) (by simp);rw[hgd]at hb;cases hq:a.tmps[d]? with
     |none=>rw[hq]at hb;cases hb
     |some x=>rw[hq]at hb;cases hb;simp
   ·cases hg
  ·cases hg
theorem zjz{d:Nat}{o:Oper}:∀{l:List Oper} {i:Nat},l[i]?=some o→o.dst=some d→d∈zcx l
 |x::r,0,h,hd=>by cases h;simp only[zcx,hd];exact zF3 ..
 |x::r,i+1,h,hd=>by
  have:=zjz (l:=r) (i:=i) (by simpa using h) hd;simp only[zcx];split
  ·exact zF4 _ this
  ·exact this
 |[],_,h,_=>by cases h
theorem HInv.put(H:HOk P tb N ops hd m fr Lh)(hI:HInv E N hd ops m Lh ro0 bl0 a0 w0 ls ro bl a w)(hc:zdT ops ls){i d:Nat}{g:zeA}{v:SV}(he:zty hd Lh i d g v)(hw:zfT ops ls i)(h0:ls i=false)
 {ro':Ro}{bl':Bl}{w':World}{x:Value}(hM:Mem E ro' bl' m w')(hG:Gr ro bl w ro' bl' w')(hy:zaI a g→zaX ro' bl' v x)(hn:¬zaI a g→x=undef){ls':Nat→Bool}(hls:∀j,ls' j=if j=i then true else ls j):
 HInv E N hd ops m Lh ro0 bl0 a0 w0 ls' ro' bl' (a.put (some d) x) w':=by
 obtain⟨o,ho,hd',_,hN,_⟩:=H.ent he;have hlt:d<a.tmps.size:=by rw[hI.size];exact zFG hN
 have hput:∀{k d':Nat} {g':zeA} {v':SV},zty hd Lh k d' g' v'→zfT ops ls k→(zaI (a.put (some d) x) g'↔zaI a g'):=fun hek hwk=>by
  refine zcS hlt (zGr.2 fun p hp=>?_);obtain⟨k',o',_,h2,h3,h4⟩:=H.tests hc _ hek hwk p hp;have:p.1≠d:=fun e=>by have:k'=i:=H.d.inj _ _ _ _ _ h3 ho (e▸h4) hd';subst this;rw[h0]at h2;cases h2
  cases hb:Nat.beq p.1 d with
  |false=>rfl
  |true=>exact absurd (zGk hb) this
 have split2:∀{k d':Nat} {g':zeA} {v':SV},ls' k=true→zty hd Lh k d' g' v'→(d'=d∧g'=g∧v'=v)∨(ls k=true∧d'≠d∧(zaI (a.put (some d) x) g'↔zaI a g')):=fun{k d' g' v'} hl hek=>by
  rw[hls]at hl;split at hl
  ·rename_i e;subst e;have:=hek.2.symm.trans he.2;simp only[zFD,zGg,zGh,zFE]at this;exact .inl this
  ·rename_i hne;obtain⟨ok,hok,hdk,_⟩:=H.ent hek;exact .inr ⟨hl,fun e=>hne (H.d.inj _ _ _ _ _ hok ho (e▸hdk) hd'),hput hek (zcR hc hok hl)⟩
 refine⟨hM,hI.gr.trans hG,by show(a.tmps.setIfInBounds d x).size=N;simp[hI.size],hI.defers,hI.unch.trans (zdJ.put (zjz ho hd')),fun k d' g' v' hl hek hh=>?_,fun k d' g' v' hl hek hh=>?_,fun t ht=>?_⟩
 ·rcases split2 hl hek with⟨rfl,rfl,rfl⟩|⟨h1,h2,h3⟩
  ·rw[zcm hlt,if_pos rfl];exact hy ((hput he hw).1 hh)
  ·rw[zcm hlt,if_neg h2];exact(hI.yes k d' g' v' h1 hek (h3.1 hh)).mono hG.le
 ·rcases split2 hl hek with⟨rfl,rfl,rfl⟩|⟨h1,h2,h3⟩
  ·rw[zcm hlt,if_pos rfl];exact hn (fun h=>hh ((hput he hw).2 h))
  ·rw[zcm hlt,if_neg h2];exact hI.no k d' g' v' h1 hek (fun h=>hh (h3.2 h))
 ·have htd:t≠d:=fun e=>ht i o ho (by rw[hls,if_pos rfl]) (e▸hd');rw[zcm hlt,if_neg htd];refine hI.out t fun j oj hoj hlj=>ht j oj hoj ?_;rw[hls,hlj];simp
end
theorem zj1(hP:tb.ok P){N hd:Nat}{ops:Array Oper}{m:MS}{fr:List Ent}{Lh:Loc}(H:HOk P tb N ops.toList hd m fr Lh){ro0:Ro}{bl0:Bl}{a0:Act}{w0:World}(hS:SimL ro0 bl0 [] fr N a0){Q:Exit→Act→World→Prop}
 (hend:∀ls ro bl a w,(∀j,j<hd→ls j=true)→(∀j,hd≤j→ls j=false)→HInv E N hd ops.toList m Lh ro0 bl0 a0 w0 ls ro bl a w→wpOpsIn (FR r) nn P ops Q (List.range' hd (ops.size - hd)) a w):
 ∀(f:Nat) (listed:Array Bool) (ro:Ro) (bl:Bl) (a:Act) (w:World),listed.size=ops.size→(∀j,hd≤j→zd5 listed j=false)→cnt hd (zd5 listed)=f→zdT ops.toList (zd5 listed)→HInv E N hd ops.toList m Lh ro0 bl0 a0 w0 (zd5 listed) ro bl a w→
  wpAnyIn (FR r) nn P .any ops Q (f+(ops.size - hd)) listed a w
 |0,listed,ro,bl,a,w,hs,ht,hcnt,hcl,hI=>by
  have hall:∀j,j<hd→zd5 listed j=true:=fun j hj=>by
   cases h:zd5 listed j with
   |true=>rfl
   |false=>
    have:=zGs (p:=fun j=>!zd5 listed j) (l:=List.range hd) |>.2 ⟨j,zF1.2 hj,by simp[h]⟩;unfold cnt at hcnt;omega
  rw[zGt];have hlen:=H.d.le;simp only[zGu]at hlen;refine zmh H.d _ hd listed a w hs (fun j=>?_) (zF5 _) (by omega) (hend _ _ _ _ _ hall ht hI);rcases zGc j hd with hj|hj
  ·rw[hall j hj];simp[hj]
  ·rw[ht j hj];simp;omega
 |f+1,listed,ro,bl,a,w,hs,ht,hcnt,hcl,hI=>by
  have hlen:=H.d.le;simp only[zGu]at hlen;rw[show f+1+(ops.size - hd)=(f+(ops.size - hd))+1 by omega];obtain⟨j0,hj0,hl0⟩:∃j,j<hd∧zd5 listed j=false:=by have:=zGs (p:=fun j=>!zd5 listed j) (l:=List.range hd) |>.1 (by unfold cnt at hcnt;omega);obtain⟨j,hj,h⟩:=this;exact⟨j,zF1.1 hj,by simpa using h⟩
  refine⟨fun hr=>?_,fun i hi=>?_⟩
  ·have:=zjk H.d hs hr j0 (by omega);rw[hl0]at this;cases this
  ·obtain⟨h0,hw⟩:=(zdk hs).1 hi;obtain⟨o,ho,_⟩:=id hw;have hib:=(zGf.1 ho).1;simp only[zGu]at hib;have hih:i<hd:=by
    rcases zGc i hd with h|h
    ·exact h
    ·have:=zcf hcl hw (H.d.tail i o h ho j0 (by omega));rw[hl0]at this;cases this
   obtain⟨o',d,g,v,h1,h2,h3,h4,h5,h6⟩:=H.step i hih;rw[ho]at h1;cases h1;have he:zty hd Lh i d g v:=⟨hih,h3⟩;have hls:=fun j=>zlf (listed:=listed) (j:=j) (i:=i) (by omega);have goOn:∀{ro' bl' w' x},Mem E ro' bl' m w'→Gr ro bl w ro' bl' w'→(zaI a g→zaX ro' bl' v x)→(¬zaI a g→x=undef)→wpAnyIn (FR r) nn P .any ops Q (f+(ops.size - hd)) (listed.setIfInBounds i true) (a.put (some d) x) w':=fun{ro' bl' w' x} hM hG hy hn=>by
    refine zj1 hP H hS hend f _ ro' bl' _ _ (by simpa using hs) (fun j hj=>?_) ?_ (fun j oj hoj hlj e he' hb=>?_) (hI.put H hcl he hw h0 hM hG hy hn hls)
    ·rw[hls,if_neg (by omega)];exact ht j hj
    ·have:=zro hih h0 hls;omega
    ·rw[hls]at hlj ⊢;split
     ·rfl
     ·split at hlj
      ·rename_i e';subst e';obtain⟨o2,ho2,hb2⟩:=hw;rw[hoj]at ho2;cases ho2;exact hb2 e he' hb
      ·exact hcl j oj hoj hlj e he' hb
   have hwt:=hI.wanted H hS hcl he hw ho h4;unfold wpOpIn;rw[zGo]at ho;simp only[ho];split
   ·rename_i hw1;have hc:=hwt.1 hw1;refine(zth hP h6 hI.mem hc (fun t htm=>?_) (fun p hp=>?_) fun ro' bl' w' x hx hM hG=>?_)
    ·exact hI.at H hS (zGn hih) fun j oj hoj hdj=>by obtain⟨h7,h8⟩:=H.d.reads i o hih (by simpa using ho) t htm j oj hoj hdj;exact⟨h7,zcf hcl hw h8⟩
    ·obtain⟨k,ok,h7,h8,h9,h10⟩:=H.tests hcl i he hw p hp;exact hI.at H hS (zGn hih) fun j oj hoj hdj=>by have:j=k:=H.d.inj _ _ _ _ _ hoj h9 hdj h10;subst this;exact⟨h7,h8⟩
    ·rw[h2];exact goOn hM hG (fun _=>hx) (fun h=>absurd hc h)
   ·rename_i hw1;rw[h2];exact⟨fun _ _=>trivial,goOn hI.mem (Gr.refl _ _ _) (fun h=>absurd (hwt.2 h) hw1) (fun _=>rfl)⟩
theorem zkw{t:Nat}:∀{l:List Oper} {k:Nat},t∈zcx (l.drop k)→t∈zcx l
 |l,0,h=>h
 |[],k+1,h=>h
 |x::r,k+1,h=>by
  have:=zkw (l:=r) (k:=k) h;simp only[zcx];split
  ·exact zF4 _ this
  ·exact this
theorem zao(hP:tb.ok P)(hm:P.follows .mixedOrders=true)(hd:Nat){N id:Nat}{ir:Bool}{ops:Array Oper}{fr:List Ent}{m:MS}{K:X→List Ent→MS→Prop}(hok:zrE ops.toList hd=true)
 (h:zgo P tb N ops.toList hd ops.toList 0 [] fr m (fun fr' m'=>K .nor fr' m') (fun d m'=>K (.pan d) fr m')):zaw P N ir id ops fr m K:=by
 have D:=dok hok;obtain⟨Lh,h1,_,h3,h4⟩:=zAm (fun k o hk ho=>D.dst k o hk ho) D.le rfl (zFV _) rfl h;have H:HOk P tb N ops.toList hd m fr Lh:=⟨D,h1,fun k hk=>h3 k (zFV _) hk⟩;intro E r nn ro bl a0 w0 hrr hS;refine wpIn_region_any hm ?_;have hl0:∀j,zd5 (Array.replicate ops.size false) j=false:=fun j=>by unfold zd5;simp only[zGe,zGv];split<;>rfl
 have hlen:=D.le;simp only[zGu]at hlen;have hcnt:cnt hd (zd5 (Array.replicate ops.size false))=hd:=by unfold cnt;rw[zGw.2 (fun j _=>by simp[hl0]),zGx]
 have hG0:Gr ro bl w0 ro bl {w0 with drawn:=w0.drawn+1}:=⟨rfl,rfl,rfl,zF5 _,fun _ _ _=>⟨rfl,rfl⟩,Le.refl _ _,fun _ h=>.inl h,rfl⟩;have hM0:Mem E ro bl m {w0 with drawn:=w0.drawn+1}:=hS.m.to hG0 ⟨hS.m.len,hS.m.ver,hS.m.box,hS.m.inj,hS.m.tail,hS.m.tinj,hS.m.known,hS.m.olen,fun i y x hy hx=>(hS.m.obj i y x hy hx).to (Le.refl _ _) fun _ _=>⟨rfl,rfl⟩,hS.m.oinj,hS.m.bo⟩;have:=zj1 (r:=r) (nn:=nn) (Q:=QK E ro bl N ir (zby (.region id ops true)) a0 w0 K) hP H hS.l (fun ls ro' bl' a w hall hnone hI=>?_) hd (Array.replicate ops.size false) ro bl a0 _ (by simp) (fun j _=>hl0 j) hcnt
  (fun j o ho hl=>by rw[hl0]at hl;cases hl) ⟨hM0,hG0,hS.l.size,rfl,zdJ.refl _ _,(fun k d g v hl=>by rw[hl0]at hl;cases hl),(fun k d g v hl=>by rw[hl0]at hl;cases hl),fun t _=>rfl⟩
 ·rwa [show hd+(ops.size - hd)=ops.size by omega]at this
 ·have hSL:SimL ro' bl' Lh fr N a:=by
   have e0:Lh=Lh.drop (hd - hd):=by simp
   refine⟨hI.size,fun t c v hl hc=>?_,fun t c v hl hc=>?_⟩
   ·rw[e0]at hl;rcases H.look (zF5 _) hl with⟨k,hk,he⟩|⟨rfl,hl,hn⟩
    ·exact hI.yes k t c v (hall k hk) he hc
    ·rw[hI.out t fun j o ho hlj hd'=>?_]
     ·exact(zjL hS.l hl).mono hI.gr.le
     ·rcases zGc j hd with hj|hj
      ·exact hn j o hj ho hd'
      ·rw[hnone j hj]at hlj;cases hlj
   ·rw[e0]at hl;rcases H.look (zF5 _) hl with⟨k,hk,he⟩|⟨rfl,hl,hn⟩
    ·exact hI.no k t c v (hall k hk) he hc
    ·exact absurd (fun p hp=>by cases hp) hc
  have hdl:(ops.toList.drop hd).length=ops.size - hd:=by simp
  have hsub:∀t∈zcx (ops.toList.drop hd),t∈zcx ops.toList:=fun t ht=>zkw ht;have:=zcH (r:=r) (nn:=nn) (ws:=zcx ops.toList) (i:=hd) (Q:=QK E ro bl N ir (zcx ops.toList) a0 w0 K) hP h4 rfl hsub hSL hI.mem
   ⟨fun ro2 bl2 fr' m' a' w' h1 h2 h3 h4 h5 h6=>QK.put (x:=.nor) h1 trivial h3 (fun _=>h2) h2.size (hI.gr.trans h4) (h5.trans hI.defers) (hI.unch.trans h6),
    fun ro2 bl2 m' a' w' d x h1 h2 h3 h4 h5 h6 h7=>QK.put (x:=.pan d) h1 ⟨x,rfl,h2⟩ h3 (fun hd=>absurd rfl (hd d)) h5 (hI.gr.trans h4) (h6.trans hI.defers) (hI.unch.trans h7)⟩
  rw[hdl]at this;exact this
end Sx
namespace Sx
variable {E:Gh} {r:Option Nat} {nn:Nat}
variable {P:Program} {tb:TT}
def zCJ(op:Op)(ρ:Operand→Option SV):Bool:=match op with
 | .load .. | .fieldAddr .. | .indexAddr .. =>true
 | .call c=>match c.callee with
  | .value f=>match ρ f,zeo ρ c.args.toList with
   |some (.fn (.func _) cp),some l=>!(zxi (l++zun cp))
   |_,_=>false
  |_=>false
 |_=>false
def znY(tb:TT)(op:Op)(ρ:Operand→Option SV):Bool:=zhu tb op ρ true||zCJ op ρ
theorem zvi{G:Prop→Prop}{K K':SV→MS→Prop}{m m':MS}(hK:∀u,K u m→K' u m'){o:Unit ⊕(Nat×Nat)}{n:Nat}{t:Ty}{f:Nat→D}{l:Int}{h x:Option Int}(hh:slV G K m o n t f l h x):slV G K' m' o n t f l h x:=by
 unfold slV at hh ⊢
 repeat' split at hh
 all_goals first|exact hh.elim|exact⟨hh.1,hK _ hh.2⟩
theorem zuZ{G:Prop→Prop}{p:Option Prop}{k k':Prop}(h:obl G p k)(hk:k→k'):obl G p k':=by unfold obl at h ⊢;split at h<;>first|exact⟨h.1,hk h.2⟩|exact hk h
theorem zyg{op:Op}{ρ:Operand→Option SV}{c c':List SV}(hm:zCJ op ρ=false):pv tb c ρ op=pv tb c' ρ op:=by cases op<;>first|rfl|(cases hm;done)|(simp only[pv];done)|(rename_i o _ _;cases o<;>rfl)
theorem zvw{op:Op}{ρ:Operand→Option SV}{G:Prop→Prop}{K K':SV→MS→Prop}{Kp Kp':D→MS→Prop}{m m':MS}(hn:znY tb op ρ=false)(hK:∀u,K u m→K' u m')(h:xop P tb op m ρ G true K Kp):xop P tb op m' ρ G true K' Kp':=by
 simp only[znY,zFM]at hn;obtain⟨hn,hm⟩:=hn;unfold xop at h ⊢;rw[hn]at h ⊢;simp only at h ⊢;have hpv:=zyg (tb:=tb) (ρ:=ρ) (c:=m.c) (c':=m'.c) hm;cases op<;>simp only[zCJ,reduceCtorEq]at hm<;>simp only[zc6]at h ⊢
 case call c=>
  obtain⟨callee,args,argTypes⟩:=c;cases callee with
  |value f=>
   simp only at h ⊢;split at h
   ·rename_i e1 e2;split at h
    ·simp only[e1,e2,zGy]at hm;rw[hm]at h ⊢;obtain⟨v,h1,h2⟩:=h;exact⟨v,h1,hK _ h2⟩
    ·exact h.elim
   ·exact h.elim
  |invoke r s=>exact h.elim
  |builtin b=>
   cases b with
   |len|min|max=>
    simp only at h ⊢
    repeat' split at h
    all_goals first|exact h.elim|exact⟨h.1,hK _ h.2⟩
   |_=>exact h.elim
 case binOp op T x y yT=>
  rw[←hpv];unfold zbt at h ⊢
  repeat' split at h
  all_goals first|exact h.elim|exact hK _ h|(obtain⟨q,h1,h2⟩:=h;refine⟨q,h1,?_⟩;split at h2<;>first|exact hK _ h2|exact h2.elim)|exact zuZ h (hK _)|skip
  all_goals first
   |(intro b hb;have h2:=h b hb;split at h2<;>first|exact hK _ h2|exact h2.elim)
   |(obtain⟨q,h1,h2⟩:=h;refine⟨q,h1,?_⟩;simp only at h2 ⊢;split at h2<;>first|exact hK _ h2|exact h2.elim)
 case slice T x lo hi mx=>
  repeat' split at h
  all_goals first|exact h.elim|exact zvi hK h
 all_goals (repeat' split at h)
 all_goals first|exact h.elim|exact hK _ h|exact⟨h.1,hK _ h.2⟩|(rename_i hq;rw[←hpv,hq];exact hK _ h)
def zjE:List (Nat×Nat)→Nat→Option Nat
 |[],_=>none
 |(k,l)::r,i=>match Nat.beq i k with
  |true=>some l
  |false=>zjE r i
def zlc(lm:Nat)(m:MS)(X:Prop):List (Nat×(MS→Prop))→Prop
 |[]=>X
 |(k,p)::r=>match lm.testBit k with
  |true=>p m∧zlc lm m X r
  |false=>zlc lm m X r
theorem zhs{lm:Nat}{m:MS}{X:Prop}:∀{S:List (Nat×(MS→Prop))},zlc lm m X S→X∧∀e∈S,lm.testBit e.1=true→e.2 m
 |[],h=>⟨h,fun _ he=>by cases he⟩
 |(k,p)::r,h=>by
  unfold zlc at h;split at h
  ·obtain⟨h1,h2⟩:=zhs h.2;refine⟨h1,fun e he hb=>?_⟩;rcases zGm.1 he with rfl|he
   ·exact h.1
   ·exact h2 e he hb
  ·rename_i hk;obtain⟨h1,h2⟩:=zhs h;refine⟨h1,fun e he hb=>?_⟩;rcases zGm.1 he with rfl|he
   ·rw[hk]at hb;cases hb
   ·exact h2 e he hb
def sxD(P:Program)(tb:TT)(N:Nat)(ops:List Oper)(im:List (Nat×Nat))(fr:List Ent):List Nat→Loc→List (Nat×(MS→Prop))→MS→(List Ent→MS→Prop)→(D→MS→Prop)→Prop
 |[],L,_,m,K,_=>K (ze4 L fr) m
 |i::rest,L,S,m,K,Kp=>match ops[i]? with
  |none=>False
  |some o=>
   match zgL ops L fr o.guard with
   |none=>False
   |some g=>
    match zjE im i with
    |some lm=>match o.dst with
     |none=>xop P tb o.op m (evL L fr g) (gP L fr g g) false (fun _ m'=>zlc lm m' (sxD P tb N ops im fr rest L S m' K Kp) S) Kp
     |some d=>match Nat.blt d N with
      |false=>False
      |true=>xop P tb o.op m (evL L fr g) (gP L fr g g) false (fun v m'=>zlc lm m' (sxD P tb N ops im fr rest ((d,g,some v)::L) S m' K Kp) S) Kp
    |none=>
     match o.dst with
     |none=>False
     |some d=>match Nat.blt d N with
      |false=>False
      |true=>match o.op with
       | .pick (.tmp tc) a b=>match zbr L fr tc with
        |some (cc,.d (.bo t))=>match zer cc g with
         |true=>match zql a b t (evL L fr ((tc,true)::g) a) (evL L fr ((tc,false)::g) b)with
          |some v=>sxD P tb N ops im fr rest ((d,g,some v)::L) S m K Kp
          |none=>False
         |false=>False
        |_=>False
       |op=>xop P tb op m (evL L fr g) (gP L fr g g) true (fun v m'=>sxD P tb N ops im fr rest ((d,g,some v)::L) (match znY tb op (evL L fr g)with
        |true=>(i,fun m2=>xop P tb op m2 (evL L fr g) (gP L fr g g) true (ztz v m2) (fun _ _=>False))::S
        |false=>S) m' K Kp) (fun _ _=>False)
def prs(q:Nat→Nat→Bool):List Nat→Bool
 |[]=>true
 |y::r=>r.all (q y)&&prs q r
def prr(q:List Nat→Nat→Bool):List Nat→List Nat→Bool
 |_,[]=>true
 |ah,x::r=>q ah x&&prr q (x::ah) r
def ztE(ops:List Oper)(i:Nat):Nat:=(zjN ops []).getD i 0
def zsC(ms:List Nat)(im:List (Nat×Nat))(y x:Nat):Bool:=!(ms.getD y 0).testBit x&&(!(zjE im y).isSome||(ms.getD x 0).testBit y)&&(match zjE im x,zjE im y with
 |some lm,none=>(ms.getD x 0).testBit y||lm.testBit y
 |_,_=>true)
def zsD(ops:List Oper)(ms:List Nat)(im:List (Nat×Nat))(ah:List Nat)(x:Nat):Bool:=match ops[x]? with
 |none=>true
 |some o=>(zfz o.op.operands.toList).all (fun t=>ops.zipIdx.all fun y=>match y.1.dst with
  |some d=>!(Nat.beq d t)||((ms.getD x 0).testBit y.2&&decide (y.2∈ah))||(ms.getD y.2 0).testBit x
  |none=>true)&&(match o.guard with
  |none=>true
  |some (j,_)=>(zjE im x).isNone&&(ms.getD x 0).testBit j&&decide (j∈ah))
def zgd(sw:Nat→Nat)(ops:List Oper)(ord:List Nat)(im:List (Nat×Nat)):Bool:=
 let ms:=zjN ops []
 decide ((ops.filterMap (·.dst)).Nodup)&&decide ord.Nodup&&ord.all (fun i=>Nat.blt i ops.length)&&(List.range ops.length).all (fun i=>decide (i∈ord))&&
  ops.zipIdx.all (fun x=>x.1.after.toList.all fun e=>!Region.binds .any e||(Nat.blt (sw e.on) (sw x.2)&&Nat.blt e.on ops.length))&&prs (zsC ms im) ord&&prr (zsD ops ms im) [] ord
def znB(ops:List Oper)(ord:List Nat)(im:List (Nat×Nat)):Bool:=zgd (fun i=>i) ops ord im
def swP(p q:Nat)(i:Nat):Nat:=bif Nat.beq i p then q else bif Nat.beq i q then p else i
structure DOk2 (ops:List Oper) (ord:List Nat) (im:List (Nat×Nat)):Prop where
 inj:∀(i j:Nat) (o o':Oper) (d:Nat),ops[i]?=some o→ops[j]?=some o'→o.dst=some d→o'.dst=some d→i=j
 one:∀(r r' i:Nat),ord[r]?=some i→ord[r']?=some i→r=r'
 lt:∀(r i:Nat),ord[r]?=some i→i<ops.length
 all:∀i,i<ops.length→∃r:Nat,ord[r]?=some i
 back:∃sw:Nat→Nat,∀(i:Nat) (o:Oper),ops[i]?=some o→∀e∈o.after,Region.binds .any e=true→sw e.on<sw i∧e.on<ops.length
 prec:∀(r r' y x:Nat),r<r'→ord[r]?=some y→ord[r']?=some x→(ztE ops y).testBit x=false∧((zjE im y).isSome=true→(ztE ops x).testBit y=true)
 late:∀(r r' y x lm:Nat),r<r'→ord[r]?=some y→ord[r']?=some x→zjE im x=some lm→zjE im y=none→(ztE ops x).testBit y=false→lm.testBit y=true
 reads:∀(r x:Nat) (o:Oper),ord[r]?=some x→ops[x]?=some o→∀t∈zfz o.op.operands.toList,∀(y:Nat) (o':Oper),ops[y]?=some o'→o'.dst=some t→((ztE ops x).testBit y=true∧∃r':Nat,r'<r∧ord[r']?=some y)∨(ztE ops y).testBit x=true
 guard:∀(r i:Nat) (o:Oper) (j:Nat) (want:Bool),ord[r]?=some i→ops[i]?=some o→o.guard=some (j,want)→zjE im i=none∧(ztE ops i).testBit j=true∧∃r':Nat,r'<r∧ord[r']?=some j
theorem zob{q:Nat→Nat→Bool}:∀{l:List Nat},prs q l=true→∀{r r' y x:Nat},r<r'→l[r]?=some y→l[r']?=some x→q y x=true
 |[],_,r,_,_,_,_,h,_=>by simp at h
 |z::l,h,r,r',y,x,hr,hy,hx=>by
  simp only[prs,zFR]at h;cases r' with
  |zero=>omega
  |succ r'=>
   have hx':l[r']?=some x:=by simpa using hx
   cases r with
   |zero=>cases hy;exact zGr.1 h.1 x (zGz hx')
   |succ r=>exact zob (r:=r) (r':=r') h.2 (Nat.lt_of_succ_lt_succ hr) (by simpa using hy) hx'
theorem zoa{q:List Nat→Nat→Bool}:∀{l ah:List Nat},prr q ah l=true→∀{r x:Nat},l[r]?=some x→∃ah',q ah' x=true∧∀j∈ah',j∈ah∨∃r':Nat,r'<r∧l[r']?=some j
 |[],_,_,r,_,h=>by simp at h
 |z::l,ah,h,r,x,hx=>by
  simp only[prr,zFR]at h;cases r with
  |zero=>cases hx;exact⟨ah,h.1,fun j hj=>.inl hj⟩
  |succ r=>
   obtain⟨ah',h1,h2⟩:=zoa h.2 (r:=r) (x:=x) (by simpa using hx);refine⟨ah',h1,fun j hj=>?_⟩;rcases h2 j hj with h3|⟨r',h3,h4⟩
   ·rcases zGm.1 h3 with rfl|h3
    ·exact .inr ⟨0,Nat.succ_pos _,rfl⟩
    ·exact .inl h3
   ·exact .inr ⟨r'+1,Nat.succ_lt_succ h3,by simpa using h4⟩
theorem zCz{sw:Nat→Nat}{ops:List Oper}{ord:List Nat}{im:List (Nat×Nat)}(h:zgd sw ops ord im=true):DOk2 ops ord im:=by
 unfold zgd at h;simp only[zFR,zFS]at h;obtain⟨⟨⟨⟨⟨⟨h1,h2⟩,h3⟩,h4⟩,h5⟩,h6⟩,h7⟩:=h;refine⟨fun i j o o' d hi hj=>zgP h1 hi hj,fun r r' i hr hr'=>?_,fun r i hr=>?_,fun i hi=>?_,⟨sw,fun i o ho e he hb=>?_⟩,fun r r' y x hr hy hx=>?_,fun r r' y x lm hr hy hx hlm hn hb=>?_,fun r x o hr ho t ht y o' hy hd=>?_,fun r i o j want hr ho hg=>?_⟩
 ·exact(List.getElem?_inj (zGf.1 hr).1 h2).1 (hr.trans hr'.symm)
 ·exact zFG (zGr.1 h3 i (zGz hr))
 ·have:=zGr.1 h4 i (zF1.2 hi);exact zGA.1 (by simpa using this)
 ·have:=zGr.1 (zlJ h5 ho) e (by simpa using he);simp only[hb,zGB,zF8,zFR]at this;exact⟨zFG this.1,zFG this.2⟩
 ·have:=zob h6 hr hy hx;simp only[zsC,zFR,zGC,zGD]at this;refine⟨this.1.1,fun hi=>?_⟩;rcases this.1.2 with h|h
  ·rw[hi]at h;cases h
  ·exact h
 ·have:=zob h6 hr hy hx;simp only[zsC,zFR,hlm,hn,zGD]at this;unfold ztE at hb;rcases this.2 with h|h
  ·rw[hb]at h;cases h
  ·exact h
 ·obtain⟨ah,hq,hah⟩:=zoa h7 hr;simp only[zsD,ho,zFR]at hq;have h8:=zlJ (zGr.1 hq.1 t ht) hy;simp only[hd,zGD,zGC,zFR,zFS]at h8;rcases h8 with(h8|h8)|h8
  ·simp at h8
  ·rcases hah _ h8.2 with h9|h9
   ·cases h9
   ·exact .inl ⟨h8.1,h9⟩
  ·exact .inr h8
 ·obtain⟨ah,hq,hah⟩:=zoa h7 hr;simp only[zsD,ho,hg,zFR,zFS]at hq;obtain⟨_,⟨h8,h9⟩,h10⟩:=hq;rcases hah _ h10 with h11|h11
  ·cases h11
  ·exact⟨by simpa using h8,h9,h11⟩
theorem zDZ{ops:List Oper}{ord:List Nat}{im:List (Nat×Nat)}(h:znB ops ord im=true):DOk2 ops ord im:=zCz h
end Sx
end Go.Proofs.YtfbhkfhbnkncoaaGreatDoor
