import Derived.Test.YtfbhkfhbnkncoaaGreatDoorT19
set_option linter.all false
namespace Go.Proofs.YtfbhkfhbnkncoaaGreatDoor
open Go.RowKit
namespace Sx
variable {E:Gh} {r:Option Nat} {nn:Nat}
variable {P:Program} {tb:TT}
abbrev Hs:=Nat→zeA×SV
def Lf(ops:List Oper)(ord:List Nat)(hs:Hs):Nat→Loc
 |0=>[]
 |k+1=>match(ord[k]?).bind fun i=>(ops[i]?).bind (·.dst)with
  |none=>Lf ops ord hs k
  |some d=>(d,(hs k).1,some (hs k).2)::Lf ops ord hs k
theorem zfB{ops:List Oper}{ord:List Nat}{hs hs':Hs}:∀{s:Nat},(∀k,k<s→hs k=hs' k)→Lf ops ord hs s=Lf ops ord hs' s
 |0,_=>rfl
 |k+1,h=>by unfold Lf;rw[zfB (s:=k) (fun j hj=>h j (by omega)),h k (by omega)]
def zgm(hs:Hs)(s:Nat)(x:zeA×SV):Hs:=fun k=>bif Nat.beq k s then x else hs k
theorem ze1{hs:Hs}{s k:Nat}{x:zeA×SV}(h:k<s):zgm hs s x k=hs k:=by
 unfold zgm;rw[show Nat.beq k s=false from by cases hb:Nat.beq k s with
  |false=>rfl
  |true=>have:=zGk hb;omega];rfl
theorem zje{hs:Hs}{s:Nat}{x:zeA×SV}:zgm hs s x s=x:=by unfold zgm;rw[zIh];rfl
theorem zgj{ops:List Oper}{ord:List Nat}{hs:Hs}{fr:List Ent}{t:Nat}{c:zeA}{u:SV}:∀{s:Nat},zbr (Lf ops ord hs s) fr t=some (c,u)→
 (∃k i o,k<s∧ord[k]?=some i∧ops[i]?=some o∧o.dst=some t∧hs k=(c,u))∨(c=[]∧look fr t=some u∧∀(k i:Nat) o,k<s→ord[k]?=some i→ops[i]?=some o→o.dst≠some t)
 |0,h=>by simp only[Lf,zbr,zGj]at h;obtain⟨u',hu,h⟩:=h;cases h;exact .inr ⟨rfl,hu,fun k _ _ hk=>absurd hk (zIn _)⟩
 |s+1,h=>by
  have rest:zbr (Lf ops ord hs s) fr t=some (c,u)→(∀(i:Nat) o,ord[s]?=some i→ops[i]?=some o→o.dst≠some t)→((∃k i o,k<s+1∧ord[k]?=some i∧ops[i]?=some o∧o.dst=some t∧hs k=(c,u))∨(c=[]∧look fr t=some u∧∀(k i:Nat) o,k<s+1→ord[k]?=some i→ops[i]?=some o→o.dst≠some t)):=fun h hne=>by
   rcases zgj (s:=s) h with⟨k,i,o,h1,h2⟩|⟨h1,h2,h3⟩
   ·exact Or.inl ⟨k,i,o,Nat.lt_succ_of_lt h1,h2⟩
   ·refine Or.inr ⟨h1,h2,fun k i o hk hi ho=>?_⟩;rcases zGc k s with hks|hks
    ·exact h3 k i o hks hi ho
    ·have:k=s:=by omega
     subst this;exact hne i o hi ho
  unfold Lf at h;split at h
  ·rename_i hn;refine rest h fun i o hi ho hd=>?_;rw[hi,zGp,ho,zGp,hd]at hn;cases hn
  ·rename_i d hd;obtain⟨i,hi,hd⟩:=zGl.1 hd;obtain⟨o,ho,hd⟩:=zGl.1 hd;unfold zbr at h;split at h
   ·rename_i ht;have:=zGk ht;subst this;cases h;exact .inl ⟨s,i,o,zF9 s,hi,ho,hd,rfl⟩
   ·rename_i ht;refine rest h fun i' o' hi' ho' hd'=>?_;rw[hi]at hi';cases hi';rw[ho]at ho';cases ho';rw[hd]at hd';cases hd';simp at ht
structure Ch (tb:TT) (P:Program) (N:Nat) (ops:List Oper) (ord:List Nat) (im:List (Nat×Nat)) (fr:List Ent) (s:Nat) (hs:Hs) (S:List (Nat×(MS→Prop))):Prop where
 le:s≤ord.length
 cond:∀(k i:Nat) o,k<s→ord[k]?=some i→ops[i]?=some o→zgL ops (Lf ops ord hs k) fr o.guard=some (hs k).1
 lt:∀(k i:Nat) o d,k<s→ord[k]?=some i→ops[i]?=some o→o.dst=some d→d<N
 dst:∀(k i:Nat) o,k<s→ord[k]?=some i→ops[i]?=some o→zjE im i=none→o.dst.isSome=true
 see:∀(k i:Nat) o,k<s→ord[k]?=some i→ops[i]?=some o→zjE im i=none→znY tb o.op (evL (Lf ops ord hs k) fr (hs k).1)=true→(∀tc a b,o.op≠.pick (.tmp tc) a b)→
  (i,fun m2=>xop P tb o.op m2 (evL (Lf ops ord hs k) fr (hs k).1) (gP (Lf ops ord hs k) fr (hs k).1 (hs k).1) true (ztz (hs k).2 m2) (fun _ _=>False))∈S
structure DI (E:Gh) (P:Program) (tb:TT) (N:Nat) (ops:List Oper) (ord:List Nat) (im:List (Nat×Nat)) (fr:List Ent) (ro0:Ro) (bl0:Bl) (a0:Act) (w0:World) (s:Nat) (hs:Hs) (m:MS) (ls:Nat→Bool) (ro:Ro) (bl:Bl) (a:Act) (w:World):Prop where
 mem:Mem E ro bl m w
 gr:Gr ro0 bl0 w0 ro bl w
 size:a.tmps.size=N
 defers:a.defers=a0.defers
 unch:zdJ (zcx ops) a0 a
 imd:∀(k i:Nat),k<s→ord[k]?=some i→(zjE im i).isSome=true→ls i=true
 sub:∀i,ls i=true→∃k:Nat,k<s∧ord[k]?=some i
 yes:∀(k i:Nat) o d,k<s→ord[k]?=some i→ops[i]?=some o→o.dst=some d→ls i=true→zaI a (hs k).1→zaX ro bl (hs k).2 (a.tmps.getD d undef)
 no:∀(k i:Nat) o d,k<s→ord[k]?=some i→ops[i]?=some o→o.dst=some d→ls i=true→¬zaI a (hs k).1→a.tmps.getD d undef=undef
 out:∀t,(∀(i:Nat) o,ops[i]?=some o→ls i=true→o.dst≠some t)→a.tmps.getD t undef=a0.tmps.getD t undef
 pst:∀(k i:Nat) o,k<s→ord[k]?=some i→ops[i]?=some o→ls i=false→ziv P tb m fr (Lf ops ord hs k) (hs k).1 o (hs k).2
section
variable {N:Nat} {ops:List Oper} {ord:List Nat} {im:List (Nat×Nat)} {fr:List Ent} {ro0:Ro} {bl0:Bl} {a0:Act} {w0:World} {s:Nat} {hs:Hs} {S:List (Nat×(MS→Prop))} {m:MS} {ls:Nat→Bool} {ro:Ro} {bl:Bl} {a:Act} {w:World}
theorem Ch.tests(D:DOk2 ops ord im)(C:Ch tb P N ops ord im fr s hs S)(hc:zdT ops ls):∀(k:Nat) {i:Nat},k<s→ord[k]?=some i→zfT ops ls i→∀p∈(hs k).1,∃k' i' o',k'<k∧ord[k']?=some i'∧ls i'=true∧ops[i']?=some o'∧o'.dst=some p.1:=fun k=>by
 induction k using Nat.strongRecOn with
 |_ k ih=>
  intro i hk hi hw p hp;obtain⟨o,ho,_⟩:=id hw;have hg:=C.cond k i o hk hi ho;unfold zgL at hg;split at hg
  ·simp only[zGh]at hg;rw[←hg]at hp;cases hp
  ·rename_i j want hgu;obtain⟨_,zho,r',hr',hj⟩:=D.guard k i o j want hi ho hgu;have hlj:=zcf hc hw zho;split at hg
   ·rename_i dj hdj;rw[zfI]at hdj;obtain⟨oj,hoj,hdj⟩:=zGl.1 hdj;split at hg
    ·rename_i c b hl;simp only[zGh]at hg;rw[←hg]at hp;rcases zGm.1 hp with rfl|hp
     ·exact⟨r',j,oj,hr',hj,hlj,hoj,hdj⟩
     ·rcases zgj hl with⟨k2,i2,o2,h1,h2,h3,h4,h5⟩|⟨hc0,_⟩
      ·have e:i2=j:=D.inj _ _ _ _ _ h3 hoj h4 hdj;subst e;have e2:=D.one _ _ _ h2 hj;subst e2;have hp':p∈(hs k2).1:=by rw[h5];exact hp
       obtain⟨k',i',o',g1,g2⟩:=ih k2 hr' (by omega) hj (zcR hc hoj hlj) p hp';exact⟨k',i',o',by omega,g2⟩
      ·subst hc0;cases hp
    ·cases hg
   ·cases hg
theorem DI.at(D:DOk2 ops ord im)(hS:SimL ro0 bl0 [] fr N a0)(hI:DI E P tb N ops ord im fr ro0 bl0 a0 w0 s hs m ls ro bl a w)(hc:zdT ops ls){k x:Nat}{o:Oper}(hk:k≤s)(hx:ord[k]?=some x)(ho:ops[x]?=some o)(hw:zfT ops ls x)(h0:ls x=false){t:Nat}
 (ht:∀(y:Nat) o',ops[y]?=some o'→o'.dst=some t→((ztE ops x).testBit y=true∧∃r':Nat,r'<k∧ord[r']?=some y)∨(ztE ops y).testBit x=true):At ro bl (Lf ops ord hs k) fr a t:=fun c u hl hcd=>by
 rcases zgj hl with⟨k',i',o',h1,h2,h3,h4,h5⟩|⟨rfl,hl,hn⟩
 ·rcases ht i' o' h3 h4 with⟨hb,_⟩|hb
  ·have:=hI.yes k' i' o' t (by omega) h2 h3 h4 (zcf hc hw hb);rw[h5]at this;exact this hcd
  ·rw[(D.prec k' k i' x h1 h2 hx).1]at hb;cases hb
 ·rw[hI.out t fun i' o' ho' hl' hd'=>?_]
  ·exact(zjL hS hl).mono hI.gr.le
  ·rcases ht i' o' ho' hd' with⟨_,r',hr',hr2⟩|hb
   ·exact hn r' i' o' hr' hr2 ho' hd'
   ·have:=zcf hc (zcR hc ho' hl') hb;rw[h0]at this;cases this
theorem DI.atg(D:DOk2 ops ord im)(C:Ch tb P N ops ord im fr s hs S)(hI:DI E P tb N ops ord im fr ro0 bl0 a0 w0 s hs m ls ro bl a w)(hc:zdT ops ls){k x:Nat}(hk:k<s)(hx:ord[k]?=some x)(hw:zfT ops ls x):∀p∈(hs k).1,At ro bl (Lf ops ord hs k) fr a p.1:=fun p hp c u hl hcd=>by
 obtain⟨k',i',o',h1,h2,h3,h4,h5⟩:=C.tests D hc k hk hx hw p hp;rcases zgj hl with⟨k2,i2,o2,g1,g2,g3,g4,g5⟩|⟨rfl,hl,hn⟩
 ·have:i2=i':=D.inj _ _ _ _ _ g3 h4 g4 h5;subst this;have:=hI.yes k2 i2 o2 p.1 (by omega) g2 g3 g4 h3;rw[g5]at this;exact this hcd
 ·exact absurd h5 (hn k' i' o' h1 h2 h4)
theorem DI.wanted{opa:Array Oper}(D:DOk2 opa.toList ord im)(C:Ch tb P N opa.toList ord im fr s hs S)(hI:DI E P tb N opa.toList ord im fr ro0 bl0 a0 w0 s hs m ls ro bl a w)(hc:zdT opa.toList ls){k x:Nat}{o:Oper}(hk:k<s)(hx:ord[k]?=some x)(ho:opa.toList[x]?=some o)(hw:zfT opa.toList ls x):
 Region.wanted o (yielded opa a.tmps)=true↔zaI a (hs k).1:=by
 have hg:=C.cond k x o hk hx ho;unfold zgL at hg;unfold Region.wanted;split at hg
 ·rename_i hn;simp only[zGh]at hg;rw[←hg,hn];simp only[true_iff];intro p hp;cases hp
 ·rename_i j want hn;rw[hn];obtain⟨_,zho,r',hr',hj⟩:=D.guard k x o j want hx ho hn;have hlj:=zcf hc hw zho;split at hg
  ·rename_i d hd;rw[zfI]at hd;split at hg
   ·rename_i c b hl;simp only[zGh]at hg;rw[←hg];have hd':=hd;rw[zGo]at hd;simp only[yielded,hd,zGp];have hgd:a.tmps.getD d undef=(a.tmps[d]?).getD undef:=by simp
    have hno:¬zaI a c→a.tmps.getD d undef=undef:=fun hnc=>by
     rcases zgj hl with⟨k2,i2,o2,g1,g2,g3,g4,g5⟩|⟨hc0,_⟩
     ·obtain⟨oj,hoj,hdj⟩:=zGl.1 hd';have:i2=j:=D.inj _ _ _ _ _ g3 hoj g4 hdj;subst this;have:=hI.no k2 i2 o2 d (by omega) g2 g3 g4 hlj;rw[g5]at this;exact this hnc
     ·subst hc0;exact absurd (fun p hp=>by cases hp) hnc
    constructor
    ·intro hy;have hb:a.tmps.getD d undef=.bool want:=by
      rw[hgd];cases hq:a.tmps[d]? with
      |none=>rw[hq]at hy;simp at hy
      |some x=>
       rw[hq]at hy;cases x<;>simp at hy;subst hy;rfl
     have hc:zaI a c:=zGq fun hc=>by have:=hno hc;rw[hb]at this;cases this
     intro p hp;rcases zGm.1 hp with rfl|hp
     ·exact hb
     ·exact hc p hp
    ·intro hy;have hb:=hy (d,want) (by simp);rw[hgd]at hb;cases hq:a.tmps[d]? with
     |none=>rw[hq]at hb;cases hb
     |some x=>rw[hq]at hb;cases hb;simp
   ·cases hg
  ·cases hg
theorem Ch.next(C:Ch tb P N ops ord im fr s hs S){i:Nat}{o:Oper}{x:zeA×SV}{S':List (Nat×(MS→Prop))}(hi:ord[s]?=some i)(ho:ops[i]?=some o)(hg:zgL ops (Lf ops ord hs s) fr o.guard=some x.1)(hlt:∀d,o.dst=some d→d<N)(hdst:zjE im i=none→o.dst.isSome=true)
 (hsub:∀e∈S,e∈S')(hsee:zjE im i=none→znY tb o.op (evL (Lf ops ord hs s) fr x.1)=true→(∀tc a b,o.op≠.pick (.tmp tc) a b)→(i,fun m2=>xop P tb o.op m2 (evL (Lf ops ord hs s) fr x.1) (gP (Lf ops ord hs s) fr x.1 x.1) true (ztz x.2 m2) (fun _ _=>False))∈S'):
 Ch tb P N ops ord im fr (s+1) (zgm hs s x) S':=by
 have eL:∀k,k≤s→Lf ops ord (zgm hs s x) k=Lf ops ord hs k:=fun k hk=>zfB fun j hj=>ze1 (by omega);have key:∀{k j:Nat} {o':Oper},k<s+1→ord[k]?=some j→ops[j]?=some o'→(k<s∧zgm hs s x k=hs k)∨(k=s∧j=i∧o'=o∧zgm hs s x k=x):=fun{k j o'} hk hj ho'=>by
  rcases zGc k s with h|h
  ·exact .inl ⟨h,ze1 h⟩
  ·have:k=s:=by omega
   subst this;rw[hi]at hj;cases hj;rw[ho]at ho';cases ho';exact .inr ⟨rfl,rfl,rfl,zje⟩
 refine⟨(zGf.1 hi).1,fun k j o' hk hj ho'=>?_,fun k j o' d hk hj ho' hd=>?_,fun k j o' hk hj ho'=>?_,fun k j o' hk hj ho' hn hmem hp=>?_⟩
 ·rcases key hk hj ho' with⟨h1,h2⟩|⟨rfl,rfl,rfl,h2⟩
  ·rw[h2,eL k (by omega)];exact C.cond k j o' h1 hj ho'
  ·rw[h2,eL k (by omega)];exact hg
 ·rcases key hk hj ho' with⟨h1,h2⟩|⟨rfl,rfl,rfl,h2⟩
  ·exact C.lt k j o' d h1 hj ho' hd
  ·exact hlt d hd
 ·rcases key hk hj ho' with⟨h1,h2⟩|⟨rfl,rfl,rfl,h2⟩
  ·exact C.dst k j o' h1 hj ho'
  ·exact hdst
 ·rcases key hk hj ho' with⟨h1,h2⟩|⟨rfl,rfl,rfl,h2⟩
  ·rw[h2,eL k (by omega)]at hmem ⊢;exact hsub _ (C.see k j o' h1 hj ho' hn hmem hp)
  ·rw[h2,eL k (by omega)]at hmem ⊢;exact hsee hn hmem hp
end
end Sx
namespace Sx
variable {E:Gh} {r:Option Nat} {nn:Nat}
variable {P:Program} {tb:TT}
section
variable {N:Nat} {ops:List Oper} {ord:List Nat} {im:List (Nat×Nat)} {fr:List Ent} {ro0:Ro} {bl0:Bl} {a0:Act} {w0:World} {s:Nat} {hs:Hs} {S:List (Nat×(MS→Prop))} {m:MS} {ls:Nat→Bool} {ro:Ro} {bl:Bl} {a:Act} {w:World}
theorem DI.put(D:DOk2 ops ord im)(hI:DI E P tb N ops ord im fr ro0 bl0 a0 w0 s hs m ls ro bl a w)(hc:zdT ops ls){s2:Nat}{hs2:Hs}{S2:List (Nat×(MS→Prop))}(C2:Ch tb P N ops ord im fr s2 hs2 S2)(hle:s≤s2)(hag:∀k,k<s→hs2 k=hs k)
 {k i:Nat}{o:Oper}(hk:k<s2)(hks:∀k',k'<s2→s≤k'→k'=k)(hi:ord[k]?=some i)(ho:ops[i]?=some o)(hw:zfT ops ls i)(h0:ls i=false){ro':Ro}{bl':Bl}{m':MS}{w':World}{y:Value}(hM:Mem E ro' bl' m' w')(hG:Gr ro bl w ro' bl' w')
 (hy:zaI a (hs2 k).1→zaX ro' bl' (hs2 k).2 y)(hn:¬zaI a (hs2 k).1→y=undef){ls':Nat→Bool}(hls:∀j,ls' j=if j=i then true else ls j)
 (hpst:∀(k' j:Nat) o',k'<s2→ord[k']?=some j→ops[j]?=some o'→ls' j=false→ziv P tb m' fr (Lf ops ord hs2 k') (hs2 k').1 o' (hs2 k').2)(himd:∀(k' j:Nat),k'<s2→ord[k']?=some j→(zjE im j).isSome=true→ls' j=true):
 DI E P tb N ops ord im fr ro0 bl0 a0 w0 s2 hs2 m' ls' ro' bl' (a.put o.dst y) w':=by
 have hsz:(a.put o.dst y).tmps.size=N:=by
  cases o.dst with
  |none=>exact hI.size
  |some d=>show(a.tmps.setIfInBounds d y).size=N;simp[hI.size]
 have hlsi:ls' i=true:=by rw[hls];simp
 have hput:∀{k' j:Nat},k'<s2→ord[k']?=some j→zfT ops ls j→(zaI (a.put o.dst y) (hs2 k').1↔zaI a (hs2 k').1):=fun{k' j} hk' hj hwj=>by
  cases hd:o.dst with
  |none=>exact Iff.rfl
  |some d=>
   have hlt:d<a.tmps.size:=by rw[hI.size];exact C2.lt k i o d hk hi ho hd
   refine zcS hlt (zGr.2 fun p hp=>?_);obtain⟨k3,i3,o3,_,_,h3,h4,h5⟩:=C2.tests D hc k' hk' hj hwj p hp;have:p.1≠d:=fun e=>by have:i3=i:=D.inj _ _ _ _ _ h4 ho (e▸h5) hd;subst this;rw[h0]at h3;cases h3
   cases hb:Nat.beq p.1 d with
   |false=>rfl
   |true=>exact absurd (zGk hb) this
 have hsame:∀{j:Nat} {oj:Oper} {d':Nat},ops[j]?=some oj→oj.dst=some d'→j≠i→(a.put o.dst y).tmps.getD d' undef=a.tmps.getD d' undef:=fun{j oj d'} hj hd' hne=>by
  cases hd:o.dst with
  |none=>rfl
  |some d=>
   have hlt:d<a.tmps.size:=by rw[hI.size];exact C2.lt k i o d hk hi ho hd
   rw[zcm hlt,if_neg fun(e:d'=d)=>hne (D.inj _ _ _ _ _ hj ho (e▸hd') hd)]
 have hself:∀{d:Nat},o.dst=some d→(a.put o.dst y).tmps.getD d undef=y:=fun{d} hd=>by
  have hlt:d<a.tmps.size:=by rw[hI.size];exact C2.lt k i o d hk hi ho hd
  rw[hd,zcm hlt,if_pos rfl]
 have old:∀{k' j:Nat},k'<s2→ord[k']?=some j→ls' j=true→(k'=k∧j=i)∨(k'<s∧ls j=true∧j≠i):=fun{k' j} hk' hj hl=>by
  rw[hls]at hl;split at hl
  ·rename_i e;subst e;exact .inl ⟨D.one _ _ _ hj hi,rfl⟩
  ·rename_i hne;refine .inr ⟨?_,hl,hne⟩;rcases zGc k' s with h|h
   ·exact h
   ·have:=hks k' hk' h;subst this;rw[hi]at hj;cases hj;exact absurd rfl hne
 refine⟨hM,hI.gr.trans hG,hsz,?_,hI.unch.trans ?_,himd,fun j hj=>?_,fun k' j o' d hk' hj ho' hd hl hh=>?_,fun k' j o' d hk' hj ho' hd hl hh=>?_,fun t ht=>?_,hpst⟩
 ·cases hd:o.dst<;>exact hI.defers
 ·cases hd:o.dst with
  |none=>exact zdJ.refl _ _
  |some d=>exact zdJ.put (zjz ho hd)
 ·rw[hls]at hj;split at hj
  ·rename_i e;subst e;exact⟨k,hk,hi⟩
  ·obtain⟨k',h1,h2⟩:=hI.sub j hj;exact⟨k',by omega,h2⟩
 ·rcases old hk' hj hl with⟨rfl,rfl⟩|⟨h1,h2,h3⟩
  ·rw[ho]at ho';cases ho';rw[hself hd];exact hy ((hput hk' hj hw).1 hh)
  ·rw[hsame ho' hd h3,hag k' h1];have:=(hput hk' hj (zcR hc ho' h2)).1 hh;rw[hag k' h1]at this;exact(hI.yes k' j o' d h1 hj ho' hd h2 this).mono hG.le
 ·rcases old hk' hj hl with⟨rfl,rfl⟩|⟨h1,h2,h3⟩
  ·rw[ho]at ho';cases ho';rw[hself hd];exact hn fun h=>hh ((hput hk' hj hw).2 h)
  ·rw[hsame ho' hd h3];refine hI.no k' j o' d h1 hj ho' hd h2 fun h=>hh ((hput hk' hj (zcR hc ho' h2)).2 ?_);rw[hag k' h1];exact h
 ·have ho':(a.put o.dst y).tmps.getD t undef=a.tmps.getD t undef:=by
   cases hd:o.dst with
   |none=>rfl
   |some d=>
    have hlt:d<a.tmps.size:=by rw[hI.size];exact C2.lt k i o d hk hi ho hd
    rw[zcm hlt,if_neg fun(e:t=d)=>ht i o ho hlsi (e▸hd)]
  rw[ho'];refine hI.out t fun j oj hoj hlj=>ht j oj hoj ?_;rw[hls,hlj];simp
theorem zdC{α:Type}{l:List α}{s:Nat}{x:α}(h:l[s]?=some x):l.drop s=x::l.drop (s+1):=by obtain⟨h1,h2⟩:=zGf.1 h;rw[zHQ h1,h2]
theorem adv(dk:DOk2 ops ord im){K:List Ent→MS→Prop}{Kp:D→MS→Prop}:∀(n:Nat) {s:Nat} {hs:Hs} {S:List (Nat×(MS→Prop))},n=ord.length - s→Ch tb P N ops ord im fr s hs S→DI E P tb N ops ord im fr ro0 bl0 a0 w0 s hs m ls ro bl a w→sxD P tb N ops im fr (ord.drop s) (Lf ops ord hs s) S m K Kp→
 ∃s' hs' S',Ch tb P N ops ord im fr s' hs' S'∧DI E P tb N ops ord im fr ro0 bl0 a0 w0 s' hs' m ls ro bl a w∧sxD P tb N ops im fr (ord.drop s') (Lf ops ord hs' s') S' m K Kp∧(s'=ord.length∨∃i:Nat,ord[s']?=some i∧(zjE im i).isSome=true)
 |0,s,hs,S,hn,C,hI,h=>⟨s,hs,S,C,hI,h,.inl (by have:=C.le;omega)⟩
 |n+1,s,hs,S,hn,C,hI,h=>by
  have hlt:s<ord.length:=by omega
  have hi:ord[s]?=some ord[s]:=zHa hlt;generalize ord[s]=i at hi;cases him:zjE im i with
  |some lm=>exact⟨s,hs,S,C,hI,h,.inr ⟨i,hi,by rw[him];rfl⟩⟩
  |none=>
   rw[zdC hi]at h;unfold sxD at h;split at h
   ·exact h.elim
   rename_i o ho;split at h
   ·exact h.elim
   rename_i g hg;rw[him]at h;simp only at h;split at h
   ·exact h.elim
   rename_i d hd;split at h
   ·exact h.elim
   rename_i hdN;have go:∀{v:SV} {S':List (Nat×(MS→Prop))},ziv P tb m fr (Lf ops ord hs s) g o v→sxD P tb N ops im fr (ord.drop (s+1)) ((d,g,some v)::Lf ops ord hs s) S' m K Kp→(∀e∈S,e∈S')→
    (znY tb o.op (evL (Lf ops ord hs s) fr g)=true→(∀tc a b,o.op≠.pick (.tmp tc) a b)→(i,fun m2=>xop P tb o.op m2 (evL (Lf ops ord hs s) fr g) (gP (Lf ops ord hs s) fr g g) true (ztz v m2) (fun _ _=>False))∈S')→
    ∃s' hs' S',Ch tb P N ops ord im fr s' hs' S'∧DI E P tb N ops ord im fr ro0 bl0 a0 w0 s' hs' m ls ro bl a w∧sxD P tb N ops im fr (ord.drop s') (Lf ops ord hs' s') S' m K Kp∧(s'=ord.length∨∃i:Nat,ord[s']?=some i∧(zjE im i).isSome=true):=fun{v S'} hop hx hsub hsee=>by
    have C':Ch tb P N ops ord im fr (s+1) (zgm hs s (g,v)) S':=C.next hi ho hg (fun d' hd'=>by rw[hd]at hd';cases hd';exact zFG hdN) (fun _=>by rw[hd];rfl) hsub (fun _=>hsee);have eL:∀k,k≤s→Lf ops ord (zgm hs s (g,v)) k=Lf ops ord hs k:=fun k hk=>zfB fun j hj=>ze1 (by omega);have eS:Lf ops ord (zgm hs s (g,v)) (s+1)=(d,g,some v)::Lf ops ord hs s:=by
     show(match(ord[s]?).bind fun i=>(ops[i]?).bind (·.dst)with
      |none=>Lf ops ord (zgm hs s (g,v)) s
      |some d=>(d,(zgm hs s (g,v) s).1,some (zgm hs s (g,v) s).2)::Lf ops ord (zgm hs s (g,v)) s)=_
     rw[hi,zGp,ho,zGp,hd,zje,eL s (zF5 _)]
    have hnew:ls i=true→False:=fun hl=>by obtain⟨k',h1,h2⟩:=hI.sub i hl;have:=dk.one _ _ _ h2 hi;omega
    have key:∀{k j:Nat} {o':Oper},k<s+1→ord[k]?=some j→ops[j]?=some o'→(k<s∧zgm hs s (g,v) k=hs k)∨(k=s∧j=i∧o'=o∧zgm hs s (g,v) k=(g,v)):=fun{k j o'} hk hj ho'=>by
     rcases zGc k s with h|h
     ·exact .inl ⟨h,ze1 h⟩
     ·have:k=s:=by omega
      subst this;rw[hi]at hj;cases hj;rw[ho]at ho';cases ho';exact .inr ⟨rfl,rfl,rfl,zje⟩
    have hI':DI E P tb N ops ord im fr ro0 bl0 a0 w0 (s+1) (zgm hs s (g,v)) m ls ro bl a w:=by
     refine⟨hI.mem,hI.gr,hI.size,hI.defers,hI.unch,fun k j hk hj himj=>?_,fun j hj=>?_,fun k j o' d' hk hj ho' hd' hl=>?_,fun k j o' d' hk hj ho' hd' hl=>?_,hI.out,fun k j o' hk hj ho' hl=>?_⟩
     ·rcases zGc k s with h|h
      ·exact hI.imd k j h hj himj
      ·have:k=s:=by omega
       subst this;rw[hi]at hj;cases hj;rw[him]at himj;cases himj
     ·obtain⟨k,h1,h2⟩:=hI.sub j hj;exact⟨k,by omega,h2⟩
     ·rcases key hk hj ho' with⟨h1,h2⟩|⟨rfl,rfl,rfl,h2⟩
      ·rw[h2];exact hI.yes k j o' d' h1 hj ho' hd' hl
      ·exact(hnew hl).elim
     ·rcases key hk hj ho' with⟨h1,h2⟩|⟨rfl,rfl,rfl,h2⟩
      ·rw[h2];exact hI.no k j o' d' h1 hj ho' hd' hl
      ·exact(hnew hl).elim
     ·rcases key hk hj ho' with⟨h1,h2⟩|⟨rfl,rfl,rfl,h2⟩
      ·rw[h2,eL k (by omega)];exact hI.pst k j o' h1 hj ho' hl
      ·rw[h2,eL k (by omega)];exact hop
    exact adv dk n (by omega) C' hI' (by rw[eS];exact hx)
   split at h
   ·rename_i tc oa ob hop;split at h
    ·rename_i cc t hl;split at h
     ·rename_i hsub;split at h
      ·rename_i v hv;exact go (.inr ⟨tc,oa,ob,cc,t,hop,hl,hsub,hv⟩) h (fun _ he=>he) (fun _ hp=>absurd hop (hp _ _ _))
      ·exact h.elim
     ·exact h.elim
    ·exact h.elim
   ·obtain⟨v,h1,h2⟩:=zor h;refine go (.inl h1) h2 (fun e he=>?_) (fun hmm _=>?_)
    ·split
     ·exact zF4 _ he
     ·exact he
    ·rw[hmm];exact zF3 ..
end
theorem zpn{n:Nat}{p:Nat→Bool}(sw:Nat→Nat):∀(b k:Nat),sw k≤b→k<n→p k=false→∃i,i<n∧p i=false∧∀j,j<n→sw j<sw i→p j=true
 |0,k,hb,hk,h=>⟨k,hk,h,fun j _ hj=>by omega⟩
 |b+1,k,hb,hk,h=>by
  by_cases c:∃j,j<n∧sw j<sw k∧p j=false
  ·obtain⟨j,h1,h2,h3⟩:=c;exact zpn sw b j (by omega) h1 h3
  ·refine⟨k,hk,h,fun j h1 h2=>?_⟩;cases h3:p j with
   |true=>rfl
   |false=>exact absurd ⟨j,h1,h2,h3⟩ c
theorem zmR{ops:Array Oper}(hback:∃sw:Nat→Nat,∀(i:Nat) (o:Oper),ops.toList[i]?=some o→∀e∈o.after,Region.binds .any e=true→sw e.on<sw i∧e.on<ops.toList.length){listed:Array Bool}(hs:listed.size=ops.size)(hr:Region.ready .any ops listed=[]):∀k,k<ops.size→zd5 listed k=true:=fun k hk=>by
 cases h:zd5 listed k with
 |true=>rfl
 |false=>
  obtain⟨sw,hback⟩:=hback;obtain⟨i,h1,h2,h3⟩:=zpn sw (sw k) k (zF5 _) hk h;have:i∈Region.ready .any ops listed:=(zdk hs).2 ⟨h2,ops[i],by simp[h1],fun e he hb=>by
   have:=hback i ops[i] (by simp[h1]) e he hb;exact h3 _ (by simpa using this.2) this.1⟩
  rw[hr]at this;cases this
theorem zrD(hP:tb.ok P){N:Nat}{ops:Array Oper}{ord:List Nat}{im:List (Nat×Nat)}{fr:List Ent}(dk:DOk2 ops.toList ord im){ro0:Ro}{bl0:Bl}{a0:Act}{w0:World}(hS:SimL ro0 bl0 [] fr N a0){Q:Exit→Act→World→Prop}{K:List Ent→MS→Prop}{Kp:D→MS→Prop}
 (c:Conts E ro0 bl0 N (zcx ops.toList) a0 w0 Q K Kp):∀(f:Nat) (listed:Array Bool) (ro:Ro) (bl:Bl) (a:Act) (w:World) (s:Nat) (hs:Hs) (S:List (Nat×(MS→Prop))) (m:MS),listed.size=ops.size→cnt ops.size (zd5 listed)=f→zdT ops.toList (zd5 listed)→
  Ch tb P N ops.toList ord im fr s hs S→DI E P tb N ops.toList ord im fr ro0 bl0 a0 w0 s hs m (zd5 listed) ro bl a w→sxD P tb N ops.toList im fr (ord.drop s) (Lf ops.toList ord hs s) S m K Kp→wpAnyIn (FR r) nn P .any ops Q f listed a w
 |0,listed,ro,bl,a,w,s,hs,S,m,hsz,hcnt,hcl,C,hI,h=>by
  have hall:∀j,j<ops.size→zd5 listed j=true:=fun j hj=>by
   cases h:zd5 listed j with
   |true=>rfl
   |false=>
    have:=zGs (p:=fun j=>!zd5 listed j) (l:=List.range ops.size) |>.2 ⟨j,zF1.2 hj,by simp[h]⟩;unfold cnt at hcnt;omega
  obtain⟨s',hs',S',C',hI',h',hend⟩:=adv dk _ rfl C hI h;have hs':s'=ord.length:=by
   rcases hend with h|⟨i,hi,_⟩
   ·exact h
   ·have hlt:=dk.lt _ _ hi;simp only[zGu]at hlt;obtain⟨k,h1,h2⟩:=hI'.sub i (hall i hlt);have:=dk.one _ _ _ h2 hi;omega
  subst hs';rw[zHG]at h';refine⟨?_,c.ok _ _ _ _ _ _ h' (SimL.flush ⟨hI'.size,fun t cc v hl hcd=>?_,fun t cc v hl hcd=>?_⟩) hI'.mem hI'.gr hI'.defers hI'.unch⟩
  ·cases hq:Region.ready .any ops listed with
   |nil=>rfl
   |cons x r=>
    have hm:x∈Region.ready .any ops listed:=by rw[hq];exact zF3 ..
    obtain⟨h1,o,ho,_⟩:=(zdk hsz).1 hm;have h2:=(zGf.1 ho).1;simp only[zGu]at h2;rw[hall x h2]at h1;cases h1
  ·rcases zgj hl with⟨k,i,o,h1,h2,h3,h4,h5⟩|⟨rfl,hl,hn⟩
   ·have hlt:=dk.lt _ _ h2;simp only[zGu]at hlt;have:=hI'.yes k i o t h1 h2 h3 h4 (hall i hlt);rw[h5]at this;exact this hcd
   ·rw[hI'.out t fun i o ho _ hd=>?_]
    ·exact(zjL hS hl).mono hI'.gr.le
    ·obtain⟨k,hk⟩:=dk.all i (zGf.1 ho).1;exact hn k i o (zGf.1 hk).1 hk ho hd
  ·rcases zgj hl with⟨k,i,o,h1,h2,h3,h4,h5⟩|⟨rfl,hl,hn⟩
   ·have hlt:=dk.lt _ _ h2;simp only[zGu]at hlt;have:=hI'.no k i o t h1 h2 h3 h4 (hall i hlt);rw[h5]at this;exact this hcd
   ·exact absurd (fun p hp=>by cases hp) hcd
 |f+1,listed,ro,bl,a,w,s,hs,S,m,hsz,hcnt,hcl,C,hI,h=>by
  obtain⟨j0,hj0,hl0⟩:∃j,j<ops.size∧zd5 listed j=false:=by have:=zGs (p:=fun j=>!zd5 listed j) (l:=List.range ops.size) |>.1 (by unfold cnt at hcnt;omega);obtain⟨j,hj,h⟩:=this;exact⟨j,zF1.1 hj,by simpa using h⟩
  refine⟨fun hr=>?_,fun i hi=>?_⟩
  ·have:=zmR dk.back hsz hr j0 hj0;rw[hl0]at this;cases this
  obtain⟨h0,hw⟩:=(zdk hsz).1 hi;obtain⟨o,ho,_⟩:=id hw;have hib:=(zGf.1 ho).1;simp only[zGu]at hib;obtain⟨s',hs',S',C',hI',h',hend⟩:=adv dk _ rfl C hI h;have hls:=fun j=>zlf (listed:=listed) (j:=j) (i:=i) (by omega);have hcl':zdT ops.toList (zd5 (listed.setIfInBounds i true)):=fun j oj hoj hlj e he' hb=>by
   rw[hls]at hlj ⊢;split
   ·rfl
   ·split at hlj
    ·rename_i e';subst e';obtain⟨o2,ho2,hb2⟩:=hw;rw[hoj]at ho2;cases ho2;exact hb2 e he' hb
    ·exact hcl j oj hoj hlj e he' hb
  have hcnt':cnt ops.size (zd5 (listed.setIfInBounds i true))=f:=by have:=zro hib h0 hls;omega
  have imd':∀(k j:Nat),k<s'→ord[k]?=some j→(zjE im j).isSome=true→zd5 (listed.setIfInBounds i true) j=true:=fun k j hk hj himj=>by rw[hls,hI'.imd k j hk hj himj];simp
  obtain⟨k,hki⟩:=dk.all i (zGf.1 ho).1;have hoa:ops[i]?=some o:=by rw[zGo]at ho;exact ho
  rcases zGc k s' with hks|hks
  ·
   cases him:zjE im i with
   |some lm=>
    have:=hI'.imd k i hks hki (by rw[him];rfl);rw[h0]at this;cases this
   |none=>
    have hst:=hI'.pst k i o hks hki ho h0;have goOn:∀{ro' bl' w' x},Mem E ro' bl' m w'→Gr ro bl w ro' bl' w'→(zaI a (hs' k).1→zaX ro' bl' (hs' k).2 x)→(¬zaI a (hs' k).1→x=undef)→wpAnyIn (FR r) nn P .any ops Q f (listed.setIfInBounds i true) (a.put o.dst x) w':=fun{ro' bl' w' x} hM hG hy hn=>
     zrD hP dk hS c f _ ro' bl' _ _ s' hs' S' m (by simpa using hsz) hcnt' hcl' C' (hI'.put dk hcl C' (zF5 _) (fun _ _=>rfl) hks (fun k' h1 h2=>absurd h1 (zIr.2 h2)) hki ho hw h0 hM hG hy hn hls (fun k' j o' hk' hj ho' hl=>hI'.pst k' j o' hk' hj ho' (by
      rw[hls]at hl;split at hl
      ·cases hl
      ·exact hl)) imd') h'
    have hwt:=hI'.wanted dk C' hcl hks hki ho hw;unfold wpOpIn;simp only[hoa];split
    ·rename_i hw1;have hcd:=hwt.1 hw1;refine zth hP hst hI'.mem hcd (fun t ht=>hI'.at dk hS hcl (zGn hks) hki ho hw h0 fun y o' hy hd=>dk.reads k i o hki ho t ht y o' hy hd) (hI'.atg dk C' hcl hks hki hw) fun ro' bl' w' x hx hM hG=>?_;exact goOn hM hG (fun _=>hx) (fun h=>absurd hcd h)
    ·rename_i hw1;exact⟨fun _ _=>trivial,goOn hI'.mem (Gr.refl _ _ _) (fun h=>absurd (hwt.2 h) hw1) (fun _=>rfl)⟩
  ·
   rcases hend with he|⟨q,hq,himq⟩
   ·have:=(zGf.1 hki).1;omega
   have hks':k=s':=by
    rcases zGc s' k with hlt|hge
    ·have hb:=(dk.prec s' k q i hlt hq hki).2 himq;have:=zcf hcl hw hb;obtain⟨k',h1,h2⟩:=hI'.sub q this;have:=dk.one _ _ _ h2 hq;omega
    ·omega
   subst hks';rw[hki]at hq;cases hq;obtain⟨lm,him⟩:=zH7.1 himq;have hgn:o.guard=none:=by
    cases hgd:o.guard with
    |none=>rfl
    |some g=>
     have:=(dk.guard k i o g.1 g.2 hki ho (by rw[hgd])).1;rw[him]at this;cases this
   rw[zdC hki]at h';unfold sxD at h';rw[ho]at h';simp only[hgn,zgL,him]at h';have hwt:Region.wanted o (yielded ops a.tmps)=true:=by unfold Region.wanted;rw[hgn]
   have hc0:zaI a []:=fun p hp=>by cases hp
   unfold wpOpIn;simp only[hoa,hwt,zG7];have hcg:∀x∈o.op.operands.toList,evL (Lf ops.toList ord hs' k) fr [] x=(if zzd (zfz o.op.operands.toList) x=true then evL (Lf ops.toList ord hs' k) fr [] x else none):=fun x hx=>by
    have:zzd (zfz o.op.operands.toList) x=true:=by
     cases x with
     |tmp t=>exact zFQ (zIs.2 ⟨_,hx,rfl⟩)
     |_=>rfl
    exact(if_pos this).symm
   have main:∀{hd:(o.dst=none∨∃d,o.dst=some d∧d<N)} {Ln:SV→Loc},(∀v,Ln v=Lf ops.toList ord (zgm hs' k ([],v)) (k+1))→
    xop P tb o.op m (evL (Lf ops.toList ord hs' k) fr []) (gP (Lf ops.toList ord hs' k) fr [] []) false (fun v m'=>zlc lm m' (sxD P tb N ops.toList im fr (ord.drop (k+1)) (Ln v) S' m' K Kp) S') Kp→
    o.wpIn (FR r) nn P a w (wpAnyIn (FR r) nn P .any ops Q f (listed.setIfInBounds i true)) Q:=fun{hd Ln} hLn hx=>by
    rw[zm8 hcg]at hx;refine zfA hP hI'.mem (fun x u hxu=>?_) (fun p hp=>hp) hx ⟨fun ro' bl' m' w' v x hK hxv hM' hG=>?_,fun ro' bl' m' w' d x hK hxv hM' hG=>c.pan _ _ _ _ _ _ _ hK hxv hM' (hI'.gr.trans hG) hI'.size hI'.defers hI'.unch⟩
    ·split at hxu
     ·rename_i hcc;refine zo0 (fun t e=>?_) hc0 hxu;subst e;have htm:t∈zfz o.op.operands.toList:=by simpa[zzd]using hcc
      exact hI'.at dk hS hcl (zF5 _) hki ho hw h0 fun y o' hy hd=>dk.reads k i o hki ho t htm y o' hy hd
     ·cases hxu
    ·obtain⟨hnext,hlate⟩:=zhs hK;rw[hLn]at hnext;have C2:Ch tb P N ops.toList ord im fr (k+1) (zgm hs' k ([],v)) S':=C'.next hki ho (by rw[hgn];rfl) (fun d hd'=>by
      rcases hd with hd|⟨d',hd,hlt⟩
      ·rw[hd]at hd';cases hd'
      ·rw[hd]at hd';cases hd';exact hlt) (fun hn=>by rw[him]at hn;cases hn) (fun _ he=>he) (fun hn=>by rw[him]at hn;cases hn)
     have eL:∀j,j≤k→Lf ops.toList ord (zgm hs' k ([],v)) j=Lf ops.toList ord hs' j:=fun j hj=>zfB fun i hi=>ze1 (by omega);have e1:zgm hs' k ([],v) k=([],v):=zje;refine zrD hP dk hS c f _ ro' bl' _ _ (k+1) _ S' m' (by simpa using hsz) hcnt' hcl' C2 (hI'.put dk hcl C2 (Nat.le_succ _) (fun j hj=>ze1 hj) (zF9 _) (fun k' h1 h2=>by omega) hki ho hw h0 hM' hG (fun _=>by rw[e1];exact hxv) (fun hn=>by rw[e1]at hn;exact absurd hc0 hn) hls (fun k' j o' hk' hj ho' hl=>?_) (fun k' j hk' hj himj=>?_)) hnext
     ·have hl':zd5 listed j=false∧j≠i:=by
       rw[hls]at hl;split at hl
       ·cases hl
       ·exact⟨hl,by assumption⟩
      have hk2:k'<k:=by
       rcases zGc k' k with h|h
       ·exact h
       ·have:k'=k:=by omega
        subst this;rw[hki]at hj;cases hj;exact absurd rfl hl'.2
      rw[ze1 hk2,eL k' (by omega)];rcases hI'.pst k' j o' hk2 hj ho' hl'.1 with h|h
      ·by_cases hmm:znY tb o'.op (evL (Lf ops.toList ord hs' k') fr (hs' k').1)=true
       ·cases himj:zjE im j with
        |some lm'=>
         have:=hI'.imd k' j hk2 hj (by rw[himj];rfl);rw[hl'.1]at this;cases this
        |none=>
         by_cases hpk:∃tc a b,o'.op=.pick (.tmp tc) a b
         ·obtain⟨tc,oa,ob,hop⟩:=hpk;rw[hop]at h;unfold xop zhu at h;simp only[zc6,pv]at h
         ·have hsee:=C'.see k' j o' hk2 hj ho' himj hmm (fun tc oa ob e=>hpk ⟨tc,oa,ob,e⟩);refine .inl (hlate _ hsee (dk.late k' k j i lm hk2 hj hki him himj ?_));cases hb:(ztE ops.toList i).testBit j with
          |false=>rfl
          |true=>
           have:=zcf hcl hw hb;rw[hl'.1]at this;cases this
       ·exact .inl (zvw (by simpa using hmm) (fun u hu=>⟨hu.1,rfl⟩) h)
      ·exact .inr h
     ·rcases zGc k' k with h|h
      ·exact imd' k' j h hj himj
      ·have:k'=k:=by omega
       subst this;rw[hki]at hj;cases hj;rw[hls];simp
   cases hd:o.dst with
   |none=>
    rw[hd]at h';simp only at h';refine main (hd:=.inl hd) (Ln:=fun _=>Lf ops.toList ord hs' k) (fun v=>?_) h';show _=(match(ord[k]?).bind fun i=>(ops.toList[i]?).bind (·.dst)with
     |none=>Lf ops.toList ord (zgm hs' k ([],v)) k
     |some d=>(d,(zgm hs' k ([],v) k).1,some (zgm hs' k ([],v) k).2)::Lf ops.toList ord (zgm hs' k ([],v)) k)
    rw[hki,zGp,ho,zGp,hd];exact zfB fun j hj=>(ze1 hj).symm
   |some d=>
    rw[hd]at h';simp only at h';split at h'
    ·exact h'.elim
    rename_i hdN;refine main (hd:=.inr ⟨d,hd,zFG hdN⟩) (Ln:=fun v=>(d,[],some v)::Lf ops.toList ord hs' k) (fun v=>?_) h';show _=(match(ord[k]?).bind fun i=>(ops.toList[i]?).bind (·.dst)with
     |none=>Lf ops.toList ord (zgm hs' k ([],v)) k
     |some d=>(d,(zgm hs' k ([],v) k).1,some (zgm hs' k ([],v) k).2)::Lf ops.toList ord (zgm hs' k ([],v)) k)
    rw[hki,zGp,ho,zGp,hd,zje];simp only;rw[show Lf ops.toList ord (zgm hs' k ([],v)) k=Lf ops.toList ord hs' k from zfB fun j hj=>ze1 hj]
theorem zaA(hP:tb.ok P)(hm:P.follows .mixedOrders=true)(ord:List Nat)(im:List (Nat×Nat)){N id:Nat}{ir:Bool}{ops:Array Oper}{fr:List Ent}{m:MS}{K:X→List Ent→MS→Prop}(hok:znB ops.toList ord im=true)
 (h:sxD P tb N ops.toList im fr ord [] [] m (fun fr' m'=>K .nor fr' m') (fun d m'=>K (.pan d) fr m')):zaw P N ir id ops fr m K:=by
 have dk:=zDZ hok;intro E r nn ro bl a0 w0 hrr hS;refine wpIn_region_any hm ?_;have hl0:∀j,zd5 (Array.replicate ops.size false) j=false:=fun j=>by unfold zd5;simp only[zGe,zGv];split<;>rfl
 have hcnt:cnt ops.size (zd5 (Array.replicate ops.size false))=ops.size:=by unfold cnt;rw[zGw.2 (fun j _=>by simp[hl0]),zGx]
 have hG0:Gr ro bl w0 ro bl {w0 with drawn:=w0.drawn+1}:=⟨rfl,rfl,rfl,zF5 _,fun _ _ _=>⟨rfl,rfl⟩,Le.refl _ _,fun _ h=>.inl h,rfl⟩;have hM0:Mem E ro bl m {w0 with drawn:=w0.drawn+1}:=hS.m.to hG0 ⟨hS.m.len,hS.m.ver,hS.m.box,hS.m.inj,hS.m.tail,hS.m.tinj,hS.m.known,hS.m.olen,fun i y x hy hx=>(hS.m.obj i y x hy hx).to (Le.refl _ _) fun _ _=>⟨rfl,rfl⟩,hS.m.oinj,hS.m.bo⟩;exact zrD hP dk hS.l (Q:=QK E ro bl N ir (zby (.region id ops true)) a0 w0 K) (K:=fun fr' m'=>K .nor fr' m') (Kp:=fun d m'=>K (.pan d) fr m')
  ⟨fun ro2 bl2 fr' m' a' w' h1 h2 h3 h4 h5 h6=>QK.put (x:=.nor) h1 trivial h3 (fun _=>h2) h2.size h4 h5 h6,
   fun ro2 bl2 m' a' w' d x h1 h2 h3 h4 h5 h6 h7=>QK.put (x:=.pan d) h1 ⟨x,rfl,h2⟩ h3 (fun hd=>absurd rfl (hd d)) h5 h4 h6 h7⟩
  ops.size (Array.replicate ops.size false) ro bl a0 _ 0 (fun _=>([],.d .un)) [] m (by simp) hcnt (fun j o ho hl=>by rw[hl0]at hl;cases hl)
  ⟨zFV _,fun k _ _ hk=>absurd hk (zIn _),fun k _ _ _ hk=>absurd hk (zIn _),fun k _ _ hk=>absurd hk (zIn _),fun k _ _ hk=>absurd hk (zIn _)⟩
  ⟨hM0,hG0,hS.l.size,rfl,zdJ.refl _ _,fun k _ hk=>absurd hk (zIn _),(fun j hl=>by rw[hl0]at hl;cases hl),fun k _ _ _ hk=>absurd hk (zIn _),fun k _ _ _ hk=>absurd hk (zIn _),fun _ _=>rfl,fun k _ _ hk=>absurd hk (zIn _)⟩ h
end Sx
end Go.Proofs.YtfbhkfhbnkncoaaGreatDoor
