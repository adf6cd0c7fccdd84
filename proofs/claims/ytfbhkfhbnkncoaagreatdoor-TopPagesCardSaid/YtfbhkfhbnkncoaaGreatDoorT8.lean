import Derived.Test.YtfbhkfhbnkncoaaGreatDoorT7
import Derived.Laws.Small
set_option linter.all false
namespace Go.Proofs.YtfbhkfhbnkncoaaGreatDoor
open Go.RowKit
namespace Sx
variable {E:Gh} {r:Option Nat} {nn:Nat}
variable {P:Program} {tb:TT} {ro:Ro} {bl:Bl} {m:MS} {w:World}
theorem zaX.sl{n:Nat}{t:Ty}{f:Nat→D}{x:Value}(h:zaX ro bl (.d (.sl n t f)) x):zbg ro (.sl n t f) [x]:=h.2 rfl
theorem zaX.ow{id ver n:Nat}{t:Ty}{f:Nat→D}{x:Value}(h:zaX ro bl (.ow id ver n t f) x):zbg ro (.sl n t f) [x]:=by obtain⟨y,e,h1,_,_,_,h2⟩:=h.2 rfl;cases h2;exact h1
theorem zpF{n:Nat}{t:Ty}{f:Nat→D}{x:Value}(h:zbg ro (.sl n t f) [x]){i:Int}(hi:0≤i∧i<n):∃A c,x=.slice (some A) n c∧zaX ro bl (.el (f i.toNat)) (.pointer (some (A.add (i.toNat*t.size)))):=by
 obtain⟨A,c,hx,_,hn⟩:=h;obtain⟨blk,off,row,g,hA,hr,hl,hg⟩:=hn (by omega);subst hA;cases hx;have hlt:i.toNat<n:=by omega
 obtain⟨h1,h2,h3⟩:=hg _ hlt;have hle:i.toNat*t.size+t.size≤n*t.size:=by rw[←zFZ];exact zGK _ hlt
 have hlen:=h2.length;rw[h1]at hlen;refine⟨_,c,rfl,(fun h=>by cases h),fun _=>⟨blk,off+i.toNat*t.size,row,_,hr,h2,by omega,by rw[hlen];exact h3,by rw[zbA]⟩⟩
theorem zpt(t:Ty):t.off []=some (0,t):=by unfold Ty.off;rfl
theorem zn5{n:Nat}{t:Ty}{i:Nat}(h:i<n):(Ty.ar n t).off [i]=some (i*t.size,t):=by simp[Ty.off,h]
theorem zFg{T:TypeId}{k:IntKind}{s:Nat}{g:Bool}{z:ZT}(hP:tb.ok P)(h:tb.get T=some {size:=s,ag:=g,k:=.int k,zero:=z}):P.underlying T=some (.int k):=(hP _ _ h).2.1
theorem zlE{T e:TypeId}{n s:Nat}{g:Bool}{z:ZT}{ie:TI}(hP:tb.ok P)(h:tb.get T=some {size:=s,ag:=g,k:=.array n e,zero:=z})(he:tb.get e=some ie){blk o:Nat}{k:IntKind}{i:Int}(hi:0≤i∧i<n):
 (Instr.indexAt T (.pointer (some ⟨blk,o,none⟩)) (.int k i)).run P w=.ok (.pointer (some ⟨blk,o+i.toNat*ie.size,none⟩)) w:=by
 have hu:P.underlying T=some (.array n e):=(hP _ _ h).2.1;simp[Instr.indexAt,asIntOf,run_underlying hu,Instr.sureAddr,hi,(hP _ _ he).1.sizeOf,zbA]
theorem zgY{T e:TypeId}{s:Nat}{g:Bool}{z:ZT}{ie:TI}(hP:tb.ok P)(h:tb.get T=some {size:=s,ag:=g,k:=.slice e,zero:=z})(he:tb.get e=some ie){A:Addr}{n c:Nat}{k:IntKind}{i:Int}(hi:0≤i∧i<n):
 (Instr.indexAt T (.slice (some A) n c) (.int k i)).run P w=.ok (.pointer (some (A.add (i.toNat*ie.size)))) w:=by
 have hu:P.underlying T=some (.slice e):=(hP _ _ h).2.1;simp[Instr.indexAt,asIntOf,run_underlying hu,hi,(hP _ _ he).1.sizeOf]
theorem zcD.cells1{d:D}{x:Value}(h:zaX ro bl (.d d) x)(ha:d.agg=true):∃cs,zbg ro d cs∧x=.agg cs.toArray:=by obtain⟨cs,h1,h2⟩:=h.1 ha;exact⟨cs,h1,h2⟩
theorem D.agg_shape:∀{d:D},d.agg=d.shape.agg
 | .z .. | .bo _| .st _| .np| .nf| .ni| .nm| .ic .. | .sl .. | .un| .pr .. | .ar .. =>rfl
theorem zua{u v:SV}{xs:List Value}(h:za5 ro bl [u,v] xs):∃x y,xs=[x,y]∧zaX ro bl u x∧zaX ro bl v y:=by
 match xs,h with
 |[x,y],⟨h1,h2,_⟩=>exact⟨x,y,rfl,h1,h2⟩
theorem zCe{u v s:SV}{xs:List Value}(h:za5 ro bl [u,v,s] xs):∃x y z,xs=[x,y,z]∧zaX ro bl u x∧zaX ro bl v y∧zaX ro bl s z:=
 match xs,h with
 |[x,y,z],⟨h1,h2,h3,_⟩=>⟨x,y,z,rfl,h1,h2,h3⟩
theorem zfW{ρ:Operand→Option SV}{a:Act}(hρ:∀x v,ρ x=some v→zaX ro bl v (a.eval x)):∀{o:Option Operand} {q:Option Int},zlM ρ o=some q→(q=none∧o.map a.eval=none)∨∃i k,q=some i∧o.map a.eval=some (.int k i)
 |none,q,h=>by simp only[zlM,zGh]at h;exact .inl ⟨h.symm,rfl⟩
 |some x,q,h=>by
  simp only[zlM]at h;split at h
  ·rename_i k i hx;cases h;obtain⟨hv,_⟩:=(hρ _ _ hx).z;exact .inr ⟨i,k,rfl,by rw[zGE,hv]⟩
  ·cases h
theorem zjo(hP:tb.ok P){T e:TypeId}(hu:P.underlying T=some (.slice e)){ie:TI}(hie:tb.get e=some ie){n:Nat}{t:Ty}{f:Nat→D}(hsz:t.size=ie.size){x lo hi mx}{a:Act}(hx:zbg ro (.sl n t f) [a.eval x]){q:Unit ⊕(Nat×Nat)}
 (hq:∀{id ver},q=.inr (id,ver)→zaX ro bl (.ow id ver n t f) (a.eval x))(hM:Mem E ro bl m w){ρ:Operand→Option SV}(hρ:∀x v,ρ x=some v→zaX ro bl v (a.eval x)){l hh mm:Option Int}(hlo:zlM ρ lo=some l)(hhi:zlM ρ hi=some hh)(hmx:zlM ρ mx=some mm)
 {G:Prop→Prop}(hG:∀p,G p→p){dst type pos after guard}{next:Act→World→Prop}{Q:Exit→Act→World→Prop}{K:SV→MS→Prop}{Kp:D→MS→Prop}(g:Goes E P ro bl w {dst:=dst,op:=.slice T x lo hi mx,type:=type,pos:=pos,after:=after,guard:=guard} a next Q K Kp)
 (h:slV G K m q n t f (l.getD 0) hh mm):Oper.wpIn (FR r) nn P {dst:=dst,op:=.slice T x lo hi mx,type:=type,pos:=pos,after:=after,guard:=guard} a w next Q:=by
 obtain⟨A,c,hxv,hnc,_⟩:=id hx;cases hxv':a.eval x<;>rw[hxv']at hxv<;>cases hxv;have hel:P.elem T=e:=by simp[Program.elem,hu]
 have hu':P.underlying T=some (.slice (P.elem T)):=by rw[hel];exact hu
 have hsz':(sizeOf (P.elem T)).run P w=.ok t.size w:=by rw[hel,hsz];exact(hP _ _ hie).1.sizeOf w
 rw[hxv']at hx hq;have hexec:(execOp a.eval {dst:=dst,op:=.slice T x lo hi mx,type:=type,pos:=pos,after:=after,guard:=guard}).run P w=((Instr.slice T (.slice A n c) (lo.map a.eval) (hi.map a.eval) (mx.map a.eval)).run P w).andThen fun v w=>.ok (.value v) w:=by rw[←run_sliceAt_slice (P:=P) w T _ _ _ _ hu',←hxv'];cases lo<;>cases hi<;>cases mx<;>simp[execOp]
 have fin:∀(l h mm:Nat) (v:SV),(Instr.slice T (.slice A n c) (lo.map a.eval) (hi.map a.eval) (mx.map a.eval)).run P w=((sizeOf (P.elem T)).run P w).andThen (fun s w=>.ok (sliced A l h mm s) w)→zaX ro bl v (sliced A l h mm t.size)→K v m→Oper.wpIn (FR r) nn P {dst:=dst,op:=.slice T x lo hi mx,type:=type,pos:=pos,after:=after,guard:=guard} a w next Q:=fun l h mm v hr hv hK=>
  g.val (w':=w) (by rw[hexec,hr,hsz'];rfl) hK hv hM (Gr.refl _ _ _)
 have repD:∀{N F y},zbg ro (.sl N t F) [y]→zaX ro bl (.d (.sl N t F)) y:=fun h=>⟨(fun h=>by cases h),fun _=>h⟩;rcases zfW hρ hhi with⟨rfl,ehi⟩|⟨ih,kh,rfl,ehi⟩<;>rcases zfW hρ hmx with⟨rfl,emx⟩|⟨im,km,rfl,emx⟩
 ·have hl:slV G K m q n t f (l.getD 0) none none→(0≤l.getD 0∧l.getD 0≤n)∧∀{v},zaX ro bl (.d (.sl (n -(l.getD 0).toNat) t (zbP f (l.getD 0).toNat))) v→v=sliced A (l.getD 0).toNat n c t.size→∃u,zaX ro bl u v∧K u m:=fun h=>by
   unfold slV at h;cases q with
   |inl _=>exact⟨hG _ h.1,fun hv _=>⟨_,hv,h.2⟩⟩
   |inr p=>
    refine⟨hG _ h.1,fun{v} hv he=>⟨_,?_,h.2⟩⟩;obtain⟨y,e',g1,g2,g3,g4,g5⟩:=(hq rfl).2 rfl;cases g5;subst he;exact⟨(fun h=>by cases h),fun _=>⟨_,e',hv.2 rfl,g2,g3,fun hv'=>zol (g4 hv') (by have:=hG _ h.1;omega) hnc,rfl⟩⟩
  obtain⟨hb,hk⟩:=hl h;obtain⟨u,hu1,hu2⟩:=hk (repD (zhF hx (by omega) (zF5 _) hnc)) rfl;refine fin _ n c u ?_ hu1 hu2;rw[ehi,emx];rcases zfW hρ hlo with⟨rfl,elo⟩|⟨il,kl,rfl,elo⟩
  ·rw[elo];exact run_slice_all w T A n c hu'
  ·rw[elo];exact run_slice_l w T A n c hu' kl il hb.1 hb.2
 ·unfold slV at h;exact h.elim
 ·unfold slV at h;have hb:=hG _ h.1;refine fin (l.getD 0).toNat ih.toNat c _ ?_ (repD (zhF hx (by omega) (by omega) (by omega))) h.2;rw[ehi,emx];rcases zfW hρ hlo with⟨rfl,elo⟩|⟨il,kl,rfl,elo⟩
  ·rw[elo];exact run_slice_h w T A n c hu' kh ih (by simp at hb;omega) (by omega)
  ·rw[elo];exact run_slice_lh w T A n c hu' kl kh il ih hb.1 hb.2.1 (by omega)
 ·unfold slV at h;have hb:=hG _ h.1;obtain⟨hb1,hb2,hb3,rfl⟩:=hb;refine fin (l.getD 0).toNat im.toNat im.toNat (.ow 0 0 (im.toNat -(l.getD 0).toNat) t (zbP f (l.getD 0).toNat)) ?_ ⟨(fun h=>by cases h),fun _=>⟨_,(none,0,0),zhF hx (by omega) (by omega) (zF5 _),rfl,zF5 _,fun _=>.inl ⟨_,rfl⟩,rfl⟩⟩ h.2;rw[ehi,emx];rcases zfW hρ hlo with⟨rfl,elo⟩|⟨il,kl,rfl,elo⟩
  ·rw[elo];exact run_slice_hm w T A n c hu' kh km im im (by simp at hb1 hb2;omega) (zFJ _) (by omega)
  ·rw[elo];exact run_slice_lhm w T A n c hu' kl kh km il im im hb1 hb2 (zFJ _) (by omega)
set_option maxHeartbeats 2000000 in
theorem zqw(hP:tb.ok P){o:Oper}{a:Act}(hM:Mem E ro bl m w){ρ:Operand→Option SV}(hρ:∀x v,ρ x=some v→zaX ro bl v (a.eval x)){G:Prop→Prop}(hG:∀p,G p→p){pr:Bool}{K:SV→MS→Prop}{Kp:D→MS→Prop}
 (h:zc6 P tb o.op m ρ G pr K Kp){next:Act→World→Prop}{Q:Exit→Act→World→Prop}(g:Goes E P ro bl w o a next Q K Kp):o.wpIn (FR r) nn P a w next Q:=by
 have hpv:∀{v},pv tb m.c ρ o.op=some v→K v m→o.wpIn (FR r) nn P a w next Q:=fun hv hK=>by obtain⟨x,hr,hx⟩:=zu8 hP hM hρ hv;exact g.val hr hK hx hM (Gr.refl _ _ _) (fun c hc=>by rw[hc]at hv;simp[pv]at hv)
 obtain⟨dst,op,type,pos,after,guard⟩:=o;cases op with
 |alloc T=>
  simp only[zc6]at h;split at h
  ·rename_i i hi;cases pr with
   |true=>exact h.elim
   |false=>
    have hz:zcD ro bl i.zero.sv (if i.ag then .agg i.zero.cells.toArray else i.zero.cells.headD undef):=by
     have:=zcD.of_cells (i.zero.rep_sv ro bl).1
     rwa [(i.zero.rep_sv ro bl).2.2,(hP _ _ hi).2.2.2.1]at this
    obtain⟨w',hr,hM',hG'⟩:=zvS (P:=P) hM hz T;have hzv:=(hP _ _ hi).2.2.1;generalize(if i.ag then Value.agg i.zero.cells.toArray else i.zero.cells.headD undef)=zv at hz hr hzv;refine g.val (x:=.pointer (some ⟨w.heap.size,0,none⟩)) (w':=w') ?_ h ?_ hM' hG'
    ·cases hq:P.info? T with
     |none=>simp[hq]at hzv
     |some inf=>
      have hzv':inf.zero=some zv:=by simpa[hq]using hzv
      simp[execOp,Instr.alloc,zeroValue,typeInfo,hq,hzv',hr]
    ·refine⟨(fun h=>by cases h),fun _=>⟨w.heap.size,i.zero.sv.shape,0,_,?_,zpt _,rfl⟩⟩;show(bl.b++_)[m.c.length]?=_;rw[←hM.len,zHY (zF5 _)];simp
  ·exact h.elim
 |box T x=>
  simp only[zc6]at h;split at h
  ·rename_i v hv;split at h
   ·rename_i hnt;cases pr with
    |true=>exact h.elim
    |false=>
     have hz:=(hρ _ _ hv).a (SV.nt_ne hnt);obtain⟨w',hr,hM',hG'⟩:=zvS (P:=P) hM hz T;refine g.val (x:=.pointer (some ⟨w.heap.size,0,none⟩)) (w':=w') (by simp[execOp,Instr.box,hr]) h ?_ hM' hG';refine⟨(fun h=>by cases h),fun _=>⟨w.heap.size,v.shape,0,_,?_,zpt _,rfl⟩⟩;show(bl.b++_)[m.c.length]?=_;rw[←hM.len,zHY (zF5 _)];simp
   ·exact h.elim
  ·exact h.elim
 |store T x y=>
  simp only[zc6]at h;split at h
  ·rename_i id path u hx hy;obtain⟨blk,t,o,t',hb,ho,hxv⟩:=(hρ _ _ hx).pt;split at h
   ·rename_i hnt;split at h
    ·rename_i c hc;rw[zdi]at hc;split at h
     ·rename_i old hold;split at h
      ·rename_i i hi;split at h
       ·rename_i hs;simp only[zFR,zFS]at hs;split at h
        ·rename_i c' hc';cases pr with
         |true=>exact h.elim
         |false=>
          replace h:K (.tu (.d .un)) ⟨zmV m.c id c',m.t,m.o⟩:=by
           simp only at h;split at h
           ·obtain⟨_,rfl,h⟩:=h;exact h
           ·exact h
          obtain⟨cells,e,hg,hr,hst,_⟩:=hM.box id blk t c hb hc;subst hst;obtain⟨hs',_⟩:=SV.nav_rep hr ho hold;obtain⟨w',hr',hM',hG'⟩:=zvn (P:=P) hM hb hc ho (by rw[(SV.into_shape u old).1,←hs.1,hs']) hc' (T:=T) (by rw[(SV.into_shape u old).1,zGk hs.2];exact(hP _ _ hi).1.1) ((hρ _ _ hy).a (SV.nt_ne hnt)).into;rw[zfy]at h;refine zmJ (by intro c h;cases h) ?_;have hrun:(execOp a.eval {dst:=dst,op:=.store T x y,type:=type,pos:=pos,after:=after,guard:=guard}).run P w=.ok .skip w':=by simp[execOp,Instr.storeAt,Instr.sureAddr,hxv,hr']
          rw[hrun];exact g.ok _ _ _ _ _ _ h zfQ hM' hG'
        ·exact h.elim
       ·exact h.elim
      ·exact h.elim
     ·exact h.elim
    ·exact h.elim
   ·exact h.elim
  ·exact h.elim
 |indexAddr T x ix=>
  simp only[zc6]at h;split at h
  ·rename_i id path k i n e s ag z hx hix hT;obtain⟨blk,t,o,t',hb,ho,hxv⟩:=(hρ _ _ hx).pt;have hiv:=(hρ _ _ hix).z.1;split at h
   ·rename_i c hc;rw[zdi]at hc;split at h
    ·rename_i n' t0 f hn;split at h
     ·rename_i ie hie;split at h
      ·rename_i hs;simp only[zFR]at hs;have h1:=zGk hs.1;have h2:=zGk hs.2;subst h1;obtain⟨cells,e',hg,hr,hst,_⟩:=hM.box id blk t c hb hc;subst hst;obtain⟨hs',_⟩:=SV.nav_rep hr ho hn;have hi:=hG _ h.1;have hoff:=zhv ho (s:=[i.toNat]) (by rw[←hs'];exact zn5 (by omega));refine g.val (x:=.pointer (some ⟨blk,o+i.toNat*ie.size,none⟩)) (w':=w) ?_ h.2 ?_ hM (Gr.refl _ _ _)
       ·simp[execOp,hxv,hiv,zlE hP hT hie hi]
       ·exact⟨(fun h=>by cases h),fun _=>⟨blk,_,_,_,hb,hoff,by rw[h2]⟩⟩
      ·exact h.elim
     ·exact h.elim
    ·exact h.elim
   ·exact h.elim
  ·rename_i n t f k i e s ag z hx hix hT;have hiv:=(hρ _ _ hix).z.1;split at h
   ·rename_i ie hie;split at h
    ·rename_i hs;have h2:=zGk hs;obtain⟨A,c,hxv,hp⟩:=zpF (bl:=bl) (hρ _ _ hx).sl (hG _ h.1);refine g.val (w':=w) ?_ h.2 hp hM (Gr.refl _ _ _);simp[execOp,hxv,hiv,zgY hP hT hie (hG _ h.1),h2]
    ·exact h.elim
   ·exact h.elim
  ·rename_i id ver n t f k i e s ag z hx hix hT;have hiv:=(hρ _ _ hix).z.1;split at h
   ·rename_i ie hie;split at h
    ·rename_i hs;have h2:=zGk hs;obtain⟨A,c,hxv,hp⟩:=zpF (bl:=bl) (hρ _ _ hx).ow (hG _ h.1);refine g.val (w':=w) ?_ h.2 hp hM (Gr.refl _ _ _);simp[execOp,hxv,hiv,zgY hP hT hie (hG _ h.1),h2]
    ·exact h.elim
   ·exact h.elim
  ·exact h.elim
 |index T x ix=>
  simp only[zc6]at h;split at h
  ·rename_i n t f k i s ag n' e z hx hix hT;have hiv:=(hρ _ _ hix).z.1;have hu:P.underlying T=some (.array n' e):=(hP T _ hT).2.1;split at h
   ·rename_i ie hie;split at h
    ·rename_i hs;simp only[zFR,zc4,zGG]at hs;have h1:=zGk hs.1;have h2:=zGk hs.2.1;subst h1;have hi:=hG _ h.1;obtain⟨cells,⟨gg,hcs,hgg⟩,hxv⟩:=zcD.cells1 (hρ _ _ hx) rfl;have hlt:i.toNat<n:=by omega
     obtain⟨g1,g2⟩:=hgg _ hlt;have hk:∀j,j<n→(gg j).length=t.size:=fun j hj=>by rw[(hgg j hj).2.length,(hgg j hj).1]
     have hlen:cells.length=n*t.size:=by rw[hcs];exact zbK hk
     have hpart:=zdt hk hlt;rw[←hcs]at hpart;have hle:i.toNat*t.size+t.size≤n*t.size:=by rw[←zFZ];exact zGK _ hlt
     have hTF:=(hP _ _ hie).1;rw[←h2,←hs.2.2]at hTF;have hrun:=zgZ (P:=P) (w:=w) hTF (cells:=cells) (o:=i.toNat*t.size) (by omega) (fun h=>by cases t<;>first|rfl|cases h);rw[hpart]at hrun;have hr:=zcD.of_cells (bl:=bl) (v:=.d (f i.toNat)) g2;rw[show(SV.d (f i.toNat)).agg=t.agg from by rw[←g1];exact D.agg_shape]at hr;refine g.val (w':=w) ?_ h.2 hr.v hM (Gr.refl _ _ _);simp[execOp,Instr.index,asIntOf,hxv,hiv,run_underlying hu,hi,(hP _ _ hie).1.sizeOf,←h2,hrun]
    ·exact h.elim
   ·exact h.elim
  ·rename_i s k i sz ag z hx hix hT;have hiv:=(hρ _ _ hix).z.1;have hu:P.underlying T=some .string:=(hP T _ hT).2.1;have hxv:a.eval x=.string s:=by have:=(hρ _ _ hx).2 rfl;simpa[zb5,zbg]using this
   have hi:=hG _ h.1;have hlt:i.toNat<s.size:=by omega
   have hb:zaL s i=(s[i.toNat].toNat:Int):=by
    unfold zaL
    congr 2
    rw[zG9,zHa (by simpa using hlt)];rfl
   refine g.val (w':=w) (x:=.int .u8 (zaL s i)) ?_ h.2 (zdf ?_) hM (Gr.refl _ _ _)
   ·simp[execOp,Instr.index,asIntOf,hxv,hiv,run_underlying hu,hi.1,hlt,hb]
   ·rw[hb];have:=s[i.toNat].toNat_lt;exact zbL (by simp only[zcB];omega) (fun _=>by omega) (by simp only[zcB];omega)
  ·exact h.elim
 |convert S T x=>
  simp only[zc6]at h;split at h
  ·rename_i k n ti s ag k' z hx hS hT;obtain⟨hxv,hk⟩:=(hρ _ _ hx).z;have hu:=zFg hP hT;have hrun:∀c,k'.wrap n=c→(execOp a.eval {dst:=dst,op:=.convert S T x,type:=type,pos:=pos,after:=after,guard:=guard}).run P w=.ok (.value (.int k' c)) w:=fun c hc=>by
    subst hc;have hc:∀w,(convert S T (.int k n)).run P w=.ok (.int k' (k'.wrap n)) w:=fun w=>by obtain⟨_,d,hd,_⟩:=(hP _ _ hS).1;unfold convert;simp only[Sem.run_bind,run_underlying hd,run_underlying hu,Result.andThen_ok];cases d<;>simp[Conv.intToInt]
    simp[execOp,hxv,hc]
   split at h
   ·rename_i hw;exact g.val (hrun n (zcC (zr9 hw hk))) h (zdf (zr9 hw hk)) hM (Gr.refl _ _ _)
   ·exact g.val (hrun _ rfl) h (zdf (zcI _ _)) hM (Gr.refl _ _ _)
  ·exact h.elim
 |binOp op T x y yT=>
  simp only[zc6]at h;split at h
  ·split at h
   ·rename_i v hv;exact hpv hv h
   ·split at h
    ·rename_i n t f u hx hy;split at h
     ·split at h
      ·rename_i s ag e z hT;have hu:P.underlying T=some (.slice e):=(hP T _ hT).2.1;obtain⟨A,c,hxv,hnc,hA⟩:=(hρ _ _ hx).sl;have hxv:a.eval x=.slice A n c:=by simpa using hxv
       have hb:0<n→A.isNone=false:=fun h0=>by obtain⟨_,_,_,_,hA,_⟩:=hA h0;rw[hA];rfl
       cases pr with
       |true=>exact h.elim
       |false=>
       have h2:=h A.isNone hb;have e2:a.eval (.const (.slice none 0 0))=.slice none 0 0:=rfl;have he:(Op.equal T (.slice A n c) (.slice none 0 0)).run P w=.ok A.isNone w:=by unfold Op.equal Op.maxDepth Op.equalIn;cases A<;>simp[run_underlying hu]
       split at h2
       ·rename_i v hv;cases op<;>simp only[zhZ,zGh,reduceCtorEq]at hv<;>subst hv
        ·exact g.val (w':=w) (x:=.bool A.isNone) (by simp[execOp,eqGuard,binOp,hxv,e2,he]) h2 (zbM _) hM (Gr.refl _ _ _)
        ·exact g.val (w':=w) (x:=.bool (!A.isNone)) (by simp[execOp,eqGuard,binOp,hxv,e2,he]) h2 (zbM _) hM (Gr.refl _ _ _)
       ·exact h2.elim
      ·exact h.elim
     ·exact h.elim
    ·rename_i d1 d2 _ hx hy;split at h
     ·rename_i hag;simp only[zFR]at hag;obtain⟨r,hE,hK⟩:=h;have hE:=hG _ hE;obtain⟨c1,hc1,hx1⟩:=zcD.cells1 (hρ _ _ hx) hag.1;obtain⟨c2,hc2,hy1⟩:=zcD.cells1 (hρ _ _ hy) hag.2;have hEx:=fun op=>hE ro bl _ _ x y w op (hρ _ _ hx) (hρ _ _ hy);rw[hx1,hy1]at hEx;split at hK
      ·rename_i v hv;cases op<;>simp only[zhZ,zGh,reduceCtorEq]at hv<;>subst hv
       ·exact g.val (w':=w) (x:=.bool r) (by simp[execOp,binOp,hx1,hy1,(hEx .eql).1,(hEx .eql).2]) hK (zbM _) hM (Gr.refl _ _ _)
       ·exact g.val (w':=w) (x:=.bool (!r)) (by simp[execOp,binOp,hx1,hy1,(hEx .neq).1,(hEx .neq).2]) hK (zbM _) hM (Gr.refl _ _ _)
      ·exact hK.elim
     ·exact h.elim
    ·exact h.elim
  ·split at h
   ·rename_i k n k' n' hx hy;obtain⟨hxv,hk⟩:=(hρ _ _ hx).z;obtain⟨hyv,hk'⟩:=(hρ _ _ hy).z;have hg0:∀w,(eqGuard op T x y (.int k n) (.int k' n')).run P w=.ok () w:=fun w=>by unfold eqGuard;cases op<;>simp
    split at h
    ·rename_i c hs;have hp:(∀q,zBN k' n'=some q→q)∧K (.d (.z k c)) m:=by
      unfold obl at h;cases ho:zBN k' n' with
      |none=>rw[ho]at h;exact⟨(fun q hq=>by cases hq),h⟩
      |some q=>rw[ho]at h;exact⟨(fun q' hq=>by cases hq;exact hG _ h.1),h.2⟩
     obtain⟨h2,h3⟩:=ztb (P:=P) hs hk (zyr hk' hp.1);refine g.val (w':=w) ?_ hp.2 (zdf h2) hM (Gr.refl _ _ _);cases op<;>simp only[zks,reduceCtorEq]at hs
     all_goals simp[execOp,hxv,hyv,hg0,binOp,h3]
    ·rename_i hs;split at h
     ·rename_i hkk;have hkk:k=k':=by simpa using hkk
      subst hkk;split at h
      ·rename_i p c ha;have hp:(∀q,p=some q→q)∧K (.d (.z k c)) m:=by
        unfold obl at h;cases p with
        |none=>exact⟨(fun q hq=>by cases hq),h⟩
        |some q=>exact⟨(fun q' hq=>by cases hq;exact hG _ h.1),h.2⟩
       obtain⟨h1,h2⟩:=zub (P:=P) (T:=T) hs ha hp.1;refine g.val (w':=w) ?_ hp.2 (zdf h1) hM (Gr.refl _ _ _);simp[execOp,hxv,hyv,hg0,h2]
      ·exact h.elim
     ·exact h.elim
   ·exact h.elim
 |call c=>
  obtain⟨callee,args,argTypes⟩:=c;cases callee with
  |value f=>
   simp only[zc6]at h;split at h
   ·rename_i k cp l hf hl;obtain⟨vs,hvs,hfv⟩:=(hρ _ _ hf).fn;have hargs:=zcY hρ hl;split at h
    ·rename_i hcap;have hA:=hargs.app (znr hvs hcap);have hrun:∀(hE:zgs P k),(execOp a.eval {dst:=dst,op:=.call ⟨.value f,args,argTypes⟩,type:=type,pos:=pos,after:=after,guard:=guard}).run P w=.ok (.enter k (args.toList.map a.eval++vs).toArray) w:=fun hE=>by simp[execOp,resolve,hfv,Deferred.ofValue,invoke,hE _ _]
     cases pr with
     |true=>
      simp only at h;split at h
      ·obtain⟨v,hv,hK⟩:=h;exact zeF g hM hA (hrun (hG _ hv m).1) (zad (hG _ hv) hK)
      ·obtain⟨v,hv,hK⟩:=h;exact zeF g hM hA (hrun (hG _ hv).1) (zbk (hG _ hv) hK)
     |false=>exact zeF g hM hA (hrun h.1) h
    ·exact h.elim
   ·exact h.elim
  |invoke r s=>exact h.elim
  |builtin b=>
   cases b with
   |len=>
    simp only[zc6]at h;split at h
    ·rename_i v T hl hT;have hargs:=zcY hρ hl
     match hal:args.toList.map a.eval,hargs with
     |[x],hx1=>
      have hmap:args.map a.eval= #[x]:=zH3 (by simpa using hal);have hT':argTypes= #[T]:=zH3 (by simpa using hT);split at h
      ·rename_i s ag e z hti;have hu:P.underlying T=some (.slice e):=(hP _ _ hti).2.1;have hsl:∀n t f,zbg ro (.sl n t f) [x]→(execOp a.eval {dst:=dst,op:=.call ⟨.builtin .len,args,argTypes⟩,type:=type,pos:=pos,after:=after,guard:=guard}).run P w=.ok (.value (.int .i64 n)) w:=fun n t f hr=>by obtain⟨A,c,hx2,_⟩:=hr;cases hx2;simp[execOp,resolve,invoke,builtin,Builtin.len_,hmap,hT',run_underlying hu,goInt]
       split at h
       ·exact g.val (hsl _ _ _ hx1.1.sl) h.2 (zdf (zb9 (hG _ h.1))) hM (Gr.refl _ _ _)
       ·exact g.val (hsl _ _ _ hx1.1.ow) h.2 (zdf (zb9 (hG _ h.1))) hM (Gr.refl _ _ _)
       ·exact h.elim
      ·rename_i s ag z hti;have hu:P.underlying T=some .string:=(hP _ _ hti).2.1;split at h
       ·rename_i q;have hxq:x=.string q:=by have:=hx1.1.2 rfl;cases this;rfl
        refine g.val (w':=w) ?_ h.2 (zdf (zb9 (hG _ h.1))) hM (Gr.refl _ _ _);simp[execOp,resolve,invoke,builtin,Builtin.len_,hmap,hT',run_underlying hu,goInt,hxq]
       ·exact h.elim
      ·exact h.elim
     |[],hx1=>exact hx1.elim
     |_::_::_,hx1=>exact hx1.2.elim
    ·exact h.elim
   |min=>
    simp only[zc6]at h;split at h
    ·rename_i k x k' y hl;obtain⟨_,_,hmap,hx,hy⟩:=zua (zcY hρ hl);obtain⟨rfl,hx⟩:=hx.z;obtain⟨rfl,hy⟩:=hy.z;have hmap':args.map a.eval= #[.int k x,.int k' y]:=zH3 (by simpa using hmap);have hr:(execOp a.eval {dst:=dst,op:=.call ⟨.builtin .min,args,argTypes⟩,type:=type,pos:=pos,after:=after,guard:=guard}).run P w=.ok (.value (.int k (if y<x then y else x))) w:=by simp only[execOp,resolve,invoke,builtin,hmap',Sem.run_bind,Sem.run_pure,Result.andThen_ok,run_min_int2]
     have hb:(bif decide (y<x)then y else x)=if y<x then y else x:=by by_cases h:y<x<;>simp[h]
     split at h
     ·rename_i hk;have hk:=zFL hk;subst hk;rw[hb]at h;have hi:=hG _ h.1;refine g.val hr h.2 (zdf ?_) hM (Gr.refl _ _ _);split
      ·exact zb9 hi.2
      ·exact zb9 hi.1
     ·rw[hb]at h;have hi:=hG _ h.1;refine g.val hr h.2 (zdf ?_) hM (Gr.refl _ _ _);split
      ·exact hi.2
      ·exact hi.1
    ·exact h.elim
   |max=>
    simp only[zc6]at h;split at h
    ·rename_i k x k' y hl;obtain⟨_,_,hmap,hx,hy⟩:=zua (zcY hρ hl);obtain⟨rfl,hx⟩:=hx.z;obtain⟨rfl,hy⟩:=hy.z;have hmap':args.map a.eval= #[.int k x,.int k' y]:=zH3 (by simpa using hmap);have hr:(execOp a.eval {dst:=dst,op:=.call ⟨.builtin .max,args,argTypes⟩,type:=type,pos:=pos,after:=after,guard:=guard}).run P w=.ok (.value (.int k (if y>x then y else x))) w:=by simp only[execOp,resolve,invoke,builtin,hmap',Sem.run_bind,Sem.run_pure,Result.andThen_ok,run_max_int2]
     have hb:(bif decide (y>x)then y else x)=if y>x then y else x:=by by_cases h:y>x<;>simp[h]
     split at h
     ·rename_i hk;have hk:=zFL hk;subst hk;rw[hb]at h;have hi:=hG _ h.1;refine g.val hr h.2 (zdf ?_) hM (Gr.refl _ _ _);split
      ·exact zb9 hi.2
      ·exact zb9 hi.1
     ·exact h.elim
    ·rename_i k x k' y k2 z hl;obtain⟨_,_,_,hmap,hx,hy,hz⟩:=zCe (zcY hρ hl);obtain⟨rfl,hx⟩:=hx.z;obtain⟨rfl,hy⟩:=hy.z;obtain⟨rfl,hz⟩:=hz.z;have hmap':args.map a.eval= #[.int k x,.int k' y,.int k2 z]:=zH3 (by simpa using hmap);have hb:∀x y:Int,zpp x y=if y>x then y else x:=fun x y=>by by_cases h:y>x<;>simp[zpp,h]
     have hr:(execOp a.eval {dst:=dst,op:=.call ⟨.builtin .max,args,argTypes⟩,type:=type,pos:=pos,after:=after,guard:=guard}).run P w=.ok (.value (.int k (zpp (zpp x y) z))) w:=by simp only[execOp,resolve,invoke,builtin,hmap',Sem.run_bind,Sem.run_pure,Result.andThen_ok,Builtin.max_,List.foldlM,Builtin.max2,hb]
     have hi:=hG _ h.1;have hm:∀{x y:Int},inK k x=true→inK k y=true→inK k (zpp x y)=true:=fun{x y} hx hy=>by unfold zpp;cases decide (y>x)<;>assumption
     exact g.val hr h.2 (zdf (hm (hm hi.1 hi.2.1) hi.2.2)) hM (Gr.refl _ _ _)
    ·exact h.elim
   |append=>
    simp only[zc6]at h;split at h
    ·exact h.elim
    split at h
    ·rename_i id ver n t f yv T T' hl hT;obtain⟨x,y,hmap,hx,hy⟩:=zua (zcY hρ hl);have hmap':args.map a.eval= #[x,y]:=zH3 (by simpa using hmap);have hT':argTypes= #[T,T']:=zH3 (by simpa using hT);split at h
     ·rename_i n' t' f' s ag e z hyd hti;have hyr:=(hy.dat hyd).sl;have hu:P.underlying T=some (.slice e):=(hP _ _ hti).2.1;split at h
      ·rename_i ie hie;split at h
       ·rename_i hc;simp only[zFR,zGD,zFS]at hc;obtain⟨⟨⟨hc1,hc2⟩,hc3⟩,hc4⟩:=hc;have hTT:=zGk hc1;subst hTT;split at h
        ·rename_i cv hcv;obtain⟨⟨rfl,hb⟩,hK⟩:=h;have hx':zaX ro bl (.ow id ver n t' f) x:=by
          rcases hc4 with rfl|⟨h1,h2⟩
          ·exact hx
          ·have h1:=zGk h1;have h2:=zGk h2;subst h1;subst h2;obtain⟨x',e',g1,g2,g3,g4,g5⟩:=hx.2 rfl;cases g5;cases g2;refine⟨(fun h=>by cases h),fun _=>⟨_,_,g1.sl_any,rfl,g3,fun hv=>.inl ?_,rfl⟩⟩;rcases g4 hv with g4|⟨_,_,_,_,g5,_⟩
           ·exact g4
           ·cases g5
         obtain⟨ro',bl',w',v',hr,hv',hM',hG'⟩:=zlZ (P:=P) (ty:=type) hP hM hu hie (zGk hc2) (zGk hc3) hx' hcv hyr hb;refine g.val (w':=w') ?_ hK hv' hM' hG';simp only[execOp,resolve,invoke,builtin,hmap',hT',Sem.run_bind,Sem.run_pure,Result.andThen_ok,hr]
        ·exact h.elim
       ·exact h.elim
      ·exact h.elim
     ·exact h.elim
    ·exact h.elim
   |_=>exact h.elim
 |buildSlice T n ps=>
  simp only[zc6]at h;split at h
  ·rename_i s ag e z hti;have hu:P.underlying T=some (.slice e):=(hP _ _ hti).2.1;split at h
   ·rename_i ie hie;split at h
    ·rename_i l hc hl;simp only[zFR]at hc;split at h
     ·rename_i hln;obtain⟨ro',w',x,hr,hx,hM',hG'⟩:=zgC hP hM hu hie (zGk hc.2) (zFG hc.1) hρ hl (zGk hln);exact g.val (w':=w') (by simp[execOp,hr]) h hx hM' hG'
     ·exact h.elim
    ·exact h.elim
   ·exact h.elim
  ·exact h.elim
 |slice T x lo hi mx=>
  simp only[zc6]at h;split at h
  ·rename_i s ag e z hti;have hu:P.underlying T=some (.slice e):=(hP _ _ hti).2.1;split at h
   ·rename_i ie hie;split at h
    ·rename_i v l hh mm hx hlo hhi hmx;split at h
     ·rename_i n t f;split at h
      ·rename_i hsz;exact zjo hP hu hie (zGk hsz) (hρ _ _ hx).sl (fun hq=>by cases hq) hM hρ hlo hhi hmx hG g h
      ·exact h.elim
     ·rename_i id ver n t f;split at h
      ·rename_i hsz;exact zjo hP hu hie (zGk hsz) (hρ _ _ hx).ow (fun hq=>by cases hq;exact hρ _ _ hx) hM hρ hlo hhi hmx hG g h
      ·exact h.elim
     ·exact h.elim
    ·exact h.elim
   ·exact h.elim
  ·exact h.elim
 |move x=>simp only[zc6]at h;split at h;(·rename_i v hv;exact hpv hv h);exact h.elim
 |assign x=>simp only[zc6]at h;split at h;(·rename_i v hv;exact hpv hv h);exact h.elim
 |load T x=>simp only[zc6]at h;split at h;(·rename_i v hv;exact hpv hv h);exact h.elim
 |fieldAddr T x k=>simp only[zc6]at h;split at h;(·rename_i v hv;exact hpv hv h);exact h.elim
 |extract t i=>simp only[zc6]at h;split at h;(·rename_i v hv;exact hpv hv h);exact h.elim
 |unOp op T x=>simp only[zc6]at h;split at h;(·rename_i v hv;exact hpv hv h);exact h.elim
 |makeFunc f c d=>simp only[zc6]at h;split at h;(·rename_i v hv;exact hpv hv h);exact h.elim
 |field T x k=>simp only[zc6]at h;split at h;(·rename_i v hv;exact hpv hv h);exact h.elim
 |build T p=>simp only[zc6]at h;split at h;(·rename_i v hv;exact hpv hv h);exact h.elim
 |makeInterface T x=>simp only[zc6]at h;split at h;(·rename_i v hv;exact hpv hv h);exact h.elim
 |nilCheck x=>simp only[zc6]at h;split at h;(·rename_i v hv;exact hpv hv h);exact h.elim
 |_=>simp[zc6,pv]at h
end Sx
end Go.Proofs.YtfbhkfhbnkncoaaGreatDoor
