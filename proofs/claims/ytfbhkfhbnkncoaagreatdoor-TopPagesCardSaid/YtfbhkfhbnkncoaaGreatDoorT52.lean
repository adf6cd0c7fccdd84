import Derived.Test.YtfbhkfhbnkncoaaGreatDoorT51
set_option linter.all false
set_option maxRecDepth 100000
set_option maxHeartbeats 4000000
namespace Go.Proofs.YtfbhkfhbnkncoaaGreatDoor
open Go.RowKit
namespace Sx
def znC(c e l r h n:Int)(al w:Bool):D:=.pr (.z .i64 c) (.pr (.z .i64 e) (.pr (.z .i64 l) (.pr (.z .i64 r) (.pr (.z .i64 h) (.pr (.z .i64 n) (.pr (.bo al) (.pr (.bo w) .un)))))))
structure Ac where
 c:Int
 e:Int
 l:Int
 h:Int
 n:Int
 al:Bool
 w:Bool
def zBF(x:Ac):D:=znC x.c x.e x.l 0 x.h x.n x.al x.w
def ztC:List Ev→Int→Int
 |[],a=>a
 |e::l,a=>ztC l (zpp a (e.to_ - e.frm+1))
theorem zsm:∀(l r:List Ev) (a:Int),ztC (l++r) a=ztC r (ztC l a)
 |[],_,_=>rfl
 |e::l,r,a=>zsm l r _
theorem zv9:∀{l:List Ev} {a:Int},(∀e∈l,e.to_ - e.frm≤1000000)→0≤a∧a≤1000001→0≤ztC l a∧ztC l a≤1000001
 |[],_,_,h=>h
 |e::l,a,hl,h=>by
  refine zv9 (l:=l) (fun x hx=>hl x (zF4 _ hx)) ?_;have:=hl e (zF3 ..);unfold zpp;by_cases c:e.to_ - e.frm+1>a
  ·rw[zFQ c,zHH];omega
  ·rw[zFT c,zHJ];omega
attribute [local irreducible] Con zax zan zau zai zaw zbt zak zaC zbh zba I64
section
variable {m:Mc} {a b:Nat}
theorem zpU{t:Nat}(ht:t<8)(hA:m.x.s.alive t=false)(hr:∀i,i<8→(m.ts i).c.regs.length≤64)(hall:zb6 m.x.s.t.b=[])(hs:StD m.x.s)(hq:m.x.q.length≤1000000)(hev:m.ev.length≤1000000)(hb:∀e∈m.ev, -1000000≤e.to_ - e.frm∧e.to_ - e.frm≤1000000):
 ∃ac:Ac,Con Tryz.prog 59 [.pt 0 [],I t] (MM m a b) fun o m'=>o=.ret (.d (zBF ac))∧m'=MM m a b:=by
 refine⟨⟨((ofE t m.ev).length:Nat),zhc zmi (ofE t m.ev),ztC (ofE t m.ev) 0,((za2 m.x.s.o m.x.s.t (zeR t) (zb6 m.x.s.t.b)).length:Nat),((zaN m.x.s.k (toP t) (zcE m.x.s.k.b)).length:Nat),m.x.s.alive t,m.x.s.alive t&&true⟩,?_⟩;have hl:(ofE t m.ev).length≤m.ev.length:=zHT _ _;have hb2:∀e∈ofE t m.ev, -1000000≤e.to_ - e.frm∧e.to_ - e.frm≤1000000:=fun e he=>hb e (zGH.1 he).1;refine zcp Tryz.func59 rfl (by kernel_rfl) rfl rfl ?_;refine zav (zab zaa ?_);conv=>whnf
 refine zav (zab zaa ?_);conv=>whnf
 refine zal (zco (zeB (m:=m) (a:=a) (b:=b) hq) rfl) ?_;rintro _ _ ⟨rfl,rfl⟩;conv=>whnf
 refine zaD (l:=[(0,.pt 0 []),(1,I t),(4,.pt 3 []),(5,.pt 4 [])]) (m':=⟨[za9 m b,.d (zaH m.x.p),zaT m.x a,.d zr5.zero.d,.d (za7 m.x.s)],[a,b],[]⟩) ⟨rfl,rfl,rfl,rfl,trivial⟩ rfl ?_;refine zav (zab zaa ?_);conv=>whnf
 refine zal (zco (zgt (m:=m) (a:=a) (b:=b) hev) rfl) ?_;rintro _ _ ⟨rfl,rfl⟩;conv=>whnf
 refine zad ((zBk m.ev hev t).out (zbZ tEv zeu ev0 (ofE t m.ev))) ?_;conv=>whnf
 generalize ofE t m.ev=L at hl hb2 ⊢;refine zaD (l:=[(0,.pt 0 []),(1,I t),(4,.pt 3 []),(5,.pt 4 []),(6,.d (.sl L.length tEv fun i=>zeu (L.getD i ev0)))]) (m':=⟨[za9 m b,.d (zaH m.x.p),zaT m.x a,.d zr5.zero.d,.d (za7 m.x.s)],[a,b],[]⟩) ⟨rfl,rfl,rfl,rfl,rfl,trivial⟩ rfl ?_;refine zav (zab zaa ?_);conv=>whnf
 refine zaA zaa (by kernel_rfl) (List.range 26) [(24,16777215),(25,0)] (by kernel_rfl) ?_;conv=>whnf
 refine⟨zac (x:=(L.length:Int)) (by omega) (by omega),?_⟩;conv=>whnf
 refine zam ((zzY L (by omega)).le (a:=[.fn (.func 106) (.d .un),.d (.sl L.length tEv fun i=>zeu (L.getD i ev0))]) ⟨SV.le_refl _,zA5 tEv zeu ev0 L,trivial⟩) (fun _ h=>h) ?_;conv=>whnf
 obtain⟨d,hT⟩:=hs.t;refine zam (zvD m.x.s.o m.x.s.t t hT.rk) (fun _ h=>h) ?_;conv=>whnf
 refine⟨zac (x:=((hL (za2 m.x.s.o m.x.s.t (zeR t) (zb6 m.x.s.t.b))).length:Int)) (by omega) (by rw[zFH,hall];exact(by decide:((0:Nat):Int)≤9223372036854775807)),?_⟩;conv=>whnf
 refine zam (zzH hs.k t) (fun _ h=>h) ?_;conv=>whnf
 refine⟨zac (x:=((hL (zaN m.x.s.k (toP t) (zcE m.x.s.k.b))).length:Int)) (by omega) (by rw[zFH];have:=zcv m.x.s.k (toP t) (zcE m.x.s.k.b);have:=zdo m.x.s.k.b;omega),?_⟩;conv=>whnf
 refine⟨⟨(by omega:(0:Int)≤(t:Int)),(by omega:(t:Int)<8)⟩,?_⟩;conv=>whnf
 have ht0:(0:Int)≤(t:Int)∧(t:Int)<8:=⟨by omega,by omega⟩;refine And.intro (by first|exact(show _∧_ from⟨rfl,rfl⟩)|exact(show _∧_ from⟨ht0,rfl,rfl⟩)) (zas ?_ ?_);rotate_left
 ·repeat' (first|exact trivial|refine And.intro (by first|exact(show _∧_ from⟨rfl,rfl⟩)|exact(show _∧_ from⟨ht0,rfl,rfl⟩)) ?_)
 conv=>whnf
 refine zaD (l:=[(0,.pt 0 []),(1,I t),(4,.pt 3 []),(5,.pt 4 []),(6,.d (.sl L.length tEv fun i=>zeu (L.getD i ev0))),(7,.pt 5 [])]) (m':=⟨[za9 m b,.d (zaH m.x.p),zaT m.x a,.d zr5.zero.d,.d (za7 m.x.s),.d (znC ((L.length:Nat)) (zhc zmi L) 0 0 ((za2 m.x.s.o m.x.s.t (zeR t) (zb6 m.x.s.t.b)).length:Nat) ((zaN m.x.s.k (toP t) (zcE m.x.s.k.b)).length:Nat) (m.x.s.alive t) false)],[a,b],[]⟩) ⟨rfl,rfl,rfl,rfl,rfl,rfl,trivial⟩ ?_ ?_
 ·refine zcn (ce rfl (ce rfl (ce rfl (ce rfl (ce rfl (ce ?_ rfl)))))) rfl rfl;show SV.d (znC _ _ _ _ ((hL (za2 m.x.s.o m.x.s.t (zeR t) (zb6 m.x.s.t.b))).length:Nat) ((hL (zaN m.x.s.k (toP t) (zcE m.x.s.k.b))).length:Nat) _ _)=_;rw[zFH,zFH];rfl
 generalize((za2 m.x.s.o m.x.s.t (zeR t) (zb6 m.x.s.t.b)).length:Int)=hd;generalize((zaN m.x.s.k (toP t) (zcE m.x.s.k.b)).length:Int)=le;generalize zhc zmi L=ce;refine zav (zab zaa ?_);conv=>whnf
 refine⟨zac (x:=(L.length:Int)) (by omega) (by omega),?_⟩;conv=>whnf
 refine zaB zaa (fun i:Nat=>i≤L.length) (fun i=>L.length - i) (fun i=>[(45,I i)]) (fun i=>⟨[za9 m b,.d (zaH m.x.p),zaT m.x a,.d zr5.zero.d,.d (za7 m.x.s),.d (znC ((L.length:Nat)) ce (ztC (L.take i) 0) 0 hd le (m.x.s.alive t) false)],[a,b],[]⟩) 0 (zFV _) ⟨rfl,trivial⟩ rfl (fun i=>⟨zF5 _,zF5 _,zF5 _⟩) ?_;intro i hi;conv=>whnf
 refine⟨fun ht=>?_,fun ht=>?_⟩
 ·have hlt:i<L.length:=by
   have:(i:Int)<(L.length:Int):=by simpa using ht
   omega
  have hmem:L.getD i ev0∈L:=by rw[zG9,zHa hlt];exact zHd hlt
  have hbe:=hb2 _ hmem;have hlo:=zv9 (l:=L.take i) (a:=0) (fun e he=>(hb2 e (zHU he)).2) ⟨by decide,by decide⟩;conv=>whnf
  refine⟨⟨(by omega:(0:Int)≤(i:Int)),(by omega:(i:Int)<(L.length:Int))⟩,?_⟩;conv=>whnf
  refine⟨zac (x:=(L.getD i ev0).to_ -(L.getD i ev0).frm) (by omega) (by omega),?_⟩;conv=>whnf
  refine⟨zac (x:=(L.getD i ev0).to_ -(L.getD i ev0).frm+1) (by omega) (by omega),?_⟩;conv=>whnf
  refine⟨⟨zac (x:=ztC (L.take i) 0) (by omega) (by omega),zac (x:=(L.getD i ev0).to_ -(L.getD i ev0).frm+1) (by omega) (by omega)⟩,?_⟩;conv=>whnf
  refine⟨zac (x:=(i:Int)+1) (by omega) (by omega),?_⟩;conv=>whnf
  refine⟨i+1,hlt,by omega,⟨rfl,trivial⟩,⟨?_,(by show(zaG 3 2 0 [za9 m b,.d (zaH m.x.p),zaT m.x a]&&zbH 6 2 0 [])=true;rw[za6 rfl m.x a];rfl)⟩,rfl⟩;rw[ztk hlt,zsm];rfl
 ·have hlt:i=L.length:=by
   have:¬(i:Int)<(L.length:Int):=by simpa using ht
   omega
  subst hlt;rw[zHe];generalize ztC L 0=lo;conv=>whnf
  refine zaD (l:=[(0,.pt 0 []),(1,I t),(4,.pt 3 []),(5,.pt 4 []),(7,.pt 5 [])]) (m':=⟨[za9 m b,.d (zaH m.x.p),zaT m.x a,.d zr5.zero.d,.d (za7 m.x.s),.d (znC ((L.length:Nat)) ce lo 0 hd le (m.x.s.alive t) false)],[a,b],[]⟩) ⟨rfl,rfl,rfl,rfl,rfl,trivial⟩ rfl ?_;refine zav (zab zaa ?_);conv=>whnf
  refine zad (zq1 m.x.s.o m.x.s.t t hT.rk) ?_;rw[show za2 m.x.s.o m.x.s.t (zfa t) (zb6 m.x.s.t.b)=[] by rw[hall];rfl];conv=>whnf
  refine⟨zac (x:=(0:Int)) (by decide) (by decide),?_⟩;conv=>whnf
  refine zaB zaa (fun _:Unit=>True) (fun _=>0) (fun _=>[(69,I 0)]) (fun _=>⟨[za9 m b,.d (zaH m.x.p),zaT m.x a,.d zr5.zero.d,.d (za7 m.x.s),.d (znC ((L.length:Nat)) ce lo 0 hd le (m.x.s.alive t) false)],[a,b],[]⟩) () trivial ⟨rfl,trivial⟩ rfl (fun i=>⟨zF5 _,zF5 _,zF5 _⟩) ?_;intro _ _;conv=>whnf
  refine⟨(fun h=>by cases h),fun _=>?_⟩;conv=>whnf
  refine zaD (l:=[(0,.pt 0 []),(1,I t),(4,.pt 3 []),(5,.pt 4 []),(7,.pt 5 [])]) (m':=⟨[za9 m b,.d (zaH m.x.p),zaT m.x a,.d zr5.zero.d,.d (za7 m.x.s),.d (znC ((L.length:Nat)) ce lo 0 hd le (m.x.s.alive t) false)],[a,b],[]⟩) ⟨rfl,rfl,rfl,rfl,rfl,trivial⟩ rfl ?_;refine zab zaa ?_;conv=>whnf
  refine zsM (B false) (fun hg=>?_) ?_
  ·have hg:m.x.s.alive t=true:=hg;rw[hA]at hg;cases hg
  conv=>whnf
  exact⟨zaJ rfl (za6 rfl m.x a),rfl,rfl⟩
end
end Sx
namespace Sx
def doP(d:Int)(e:Ev):Bool:=(zbs e.c.do_ 23).tmod 23==d
attribute [local irreducible] Con zax zan zau zai zaw zbt zak zaC zbh zba I64
section
variable {m:Mc} {a b:Nat}
theorem zCK{x:Int}(h:0≤x∧x<256):0≤(zbs x 23).tmod 23∧(zbs x 23).tmod 23<23:=by
 have h1:0≤zbs x 23:=by
  unfold zbs;by_cases c:23<x
  ·rw[zFQ c,zHH];decide
  ·rw[zFT c,zHJ];exact h.1
 exact⟨zHh _ h1,zHi _ (by decide)⟩
theorem zzZ{x3 x4:SV}(hid:zaG 6 2 0 [za9 m b,.d (zaH m.x.p),zaT m.x a,x3,x4]=true)(d:Nat)(l:List Ev)(hn:l.length≤1000000)(hd:∀e∈l,0≤e.c.do_∧e.c.do_<256):
 Con Tryz.prog 60 [.fn (.func 61) (.pr (.pt 5 []) (.d .un)),.d (sls tEv (zgJ l))] ⟨[za9 m b,.d (zaH m.x.p),zaT m.x a,x3,x4,I d],[a,b],[]⟩ fun o m'=>o=.ret (I (zhc (doP d) l))∧m'=⟨[za9 m b,.d (zaH m.x.p),zaT m.x a,x3,x4,I d],[a,b],[]⟩:=by
 refine Con.le (b:=[.fn (.func 61) (.pr (.pt 5 []) (.d .un)),.d (.sl l.length tEv fun i=>zeu (l.getD i ev0))]) ?_ ⟨SV.le_refl _,zbZ tEv zeu ev0 l,trivial⟩;have hids:∀n,(zaG 6 2 0 [za9 m b,.d (zaH m.x.p),zaT m.x a,x3,x4,I d]&&zbH n 2 0 [])=true:=fun n=>by show(zaG 6 2 0 [za9 m b,.d (zaH m.x.p),zaT m.x a,x3,x4]&&true)=true;rw[hid];rfl
 refine zaM Tryz.func60 rfl (by kernel_rfl) rfl rfl ?_;conv=>whnf
 refine⟨zac (x:=(l.length:Int)) (by omega) (by omega),?_⟩;conv=>whnf
 refine zaB zaa (fun i:Nat=>i≤l.length) (fun i=>l.length - i) (fun i=>[(10,I i),(5,I (zhc (doP d) (l.take i)))]) (fun i=>⟨[za9 m b,.d (zaH m.x.p),zaT m.x a,x3,x4,I d],[a,b],[]⟩) 0 (zFV _) ⟨rfl,rfl,trivial⟩ rfl (fun i=>⟨zF5 _,zF5 _,zF5 _⟩) ?_;intro i hi;conv=>whnf
 refine⟨fun ht=>?_,fun ht=>?_⟩
 ·have hlt:i<l.length:=by
   have:(i:Int)<(l.length:Int):=by simpa using ht
   omega
  have hmem:l.getD i ev0∈l:=by rw[zG9,zHa hlt];exact zHd hlt
  have hdo:=hd _ hmem;have h23:=zCK hdo;have hlen:((l.take i).filter (doP d)).length≤i:=zkX;have hs:=ziQ (p:=doP d) hlt;have hc:zhc (doP d) (l.take i)=((l.take i).filter (doP d)).length:=rfl;conv=>whnf
  refine⟨⟨(by omega:(0:Int)≤(i:Int)),(by omega:(i:Int)<(l.length:Int))⟩,?_⟩;conv=>whnf
  refine zaM Tryz.func61 rfl (by kernel_rfl) rfl rfl ?_;conv=>whnf
  refine⟨⟨(zbL (by simp only[zcB];omega) (fun _=>hdo.1) (by simp only[zcB];omega):inK .u8 (l.getD i ev0).c.do_=true),(by decide:inK .u8 23=true)⟩,?_⟩;conv=>whnf
  refine⟨⟨(by decide:(23:Int)≠0),(zbL (by simp only[zcB];omega) (fun _=>h23.1) (by simp only[zcB];omega):inK .u8 ((zbs (l.getD i ev0).c.do_ 23).tmod 23)=true)⟩,?_⟩;conv=>whnf
  refine⟨fun hq=>?_,fun hq=>?_⟩
  ·have hq:doP d (l.getD i ev0)=true:=hq;rw[hq]at hs;conv=>whnf
   refine⟨zac (x:=zhc (doP d) (l.take i)+1) (by omega) (by omega),?_⟩;conv=>whnf
   refine⟨zac (x:=(i:Int)+1) (by omega) (by omega),?_⟩;conv=>whnf
   refine⟨i+1,hlt,by omega,⟨rfl,?_,trivial⟩,⟨rfl,hids _⟩,rfl⟩;have:zhc (doP d) (l.take (i+1))=zhc (doP d) (l.take i)+1:=by unfold zhc;rw[hs,zFY];rfl
   rw[this];rfl
  ·have hq:doP d (l.getD i ev0)=false:=hq;rw[hq]at hs;conv=>whnf
   refine⟨zac (x:=(i:Int)+1) (by omega) (by omega),?_⟩;conv=>whnf
   refine⟨i+1,hlt,by omega,⟨rfl,?_,trivial⟩,⟨rfl,hids _⟩,rfl⟩;have:zhc (doP d) (l.take (i+1))=zhc (doP d) (l.take i):=by unfold zhc;rw[hs,zFY];rfl
   rw[this];rfl
 ·have hlt:i=l.length:=by
   have:¬(i:Int)<(l.length:Int):=by simpa using ht
   omega
  subst hlt;conv=>whnf
  rw[zHe];exact⟨rfl,rfl⟩
def zf2(now:Int)(A:Nat→Ac)(dos:Nat→Int)(p:D):D:=.pr (.z .i64 now) (.pr (.ar 8 zr5.zero.d.shape fun i=>zBF (A i)) (.pr (.ar 23 .c fun i=>.z .i64 (dos i)) (.pr p (.pr (.sl 0 .c (za4 [])) .un))))
def zna(l:List Ev)(n i:Nat):Int:=if i<n then zhc (doP i) l else 0
theorem zuw(l:List Ev)(n:Nat):zaq (fun i=>D.z .i64 (zna l n i)) n (.z .i64 (zhc (doP n) l))=fun i=>.z .i64 (zna l (n+1) i):=by
 funext j
 unfold zaq zna;by_cases h:j=n
 ·rw[if_pos h,if_pos (by omega),h]
 ·rw[if_neg h];show D.z .i64 (if j<n then zhc (doP j) l else 0)=_;by_cases h2:j<n
  ·rw[if_pos h2,if_pos (by omega)]
  ·rw[if_neg h2,if_neg (by omega)]
theorem zvc(hA:∀t,t<8→m.x.s.alive t=false)(hr:∀i,i<8→(m.ts i).c.regs.length≤64)(hall:zb6 m.x.s.t.b=[])(hs:StD m.x.s)(hq:m.x.q.length≤1000000)(hev:m.ev.length≤1000000)(hb:∀e∈m.ev, -1000000≤e.to_ - e.frm∧e.to_ - e.frm≤1000000)(hd:∀e∈m.ev,0≤e.c.do_∧e.c.do_<256){cn:Nat→Int}
 (hc:Con Tryz.prog 15 [.pt 0 []] (MM m a b) fun o m'=>o=.ret (T2 (.d (ziO cn)) (I 0))∧m'=MM m a b):
 Con Tryz.prog 25 [.pt 0 []] (MM m a b) fun o m'=>∃A,o=.ret (T2 (.d (zf2 m.now A (zna m.ev 23) (ziO cn))) (I 0))∧m'=MM m a b:=by
 refine zcp Tryz.func25 rfl (by kernel_rfl) rfl rfl ?_;refine zav (zab zaa ?_);conv=>whnf
 refine zav (zab zaa ?_);conv=>whnf
 refine⟨(fun h=>by cases h),fun _=>?_⟩;conv=>whnf
 refine zaD (l:=[(0,.pt 0 []),(2,.pt 3 [])]) (m':=⟨[za9 m b,.d (zaH m.x.p),zaT m.x a,.d zv4.zero.d],[a,b],[]⟩) ⟨rfl,rfl,trivial⟩ rfl ?_;refine zav (zab zaa ?_);conv=>whnf
 refine zal (zco (zB7 (m:=m) (a:=a) (b:=b)) rfl) ?_;rintro _ _ ⟨rfl,rfl⟩;conv=>whnf
 refine zal (zco (zt3 (m:=m) (a:=a) (b:=b) hA hr) rfl) ?_;rintro _ _ ⟨rfl,rfl⟩;conv=>whnf
 refine zaD (l:=[(0,.pt 0 []),(2,.pt 3 []),(4,.pt 4 [])]) (m':=⟨[za9 m b,.d (zaH m.x.p),zaT m.x a,.d zv4.zero.d,.d (zf2 m.now (fun _=>⟨0,0,0,0,0,false,false⟩) (zna m.ev 0) (ziO fun _=>0))],[a,b],[]⟩) ⟨rfl,rfl,rfl,trivial⟩ rfl ?_;refine zav (zab zaa ?_);conv=>whnf
 refine zaB zaa (fun i:Nat×(Nat→Ac)=>i.1≤8) (fun i=>8 - i.1) (fun i=>[(15,I i.1)]) (fun i=>⟨[za9 m b,.d (zaH m.x.p),zaT m.x a,.d zv4.zero.d,.d (zf2 m.now i.2 (zna m.ev 0) (ziO fun _=>0))],[a,b],[]⟩) (0,fun _=>⟨0,0,0,0,0,false,false⟩) (zFV _) ⟨rfl,trivial⟩ rfl (fun i=>⟨zF5 _,zF5 _,zF5 _⟩) ?_;rintro⟨i,A⟩ hi;have hi:i≤8:=hi;conv=>whnf
 refine⟨fun ht=>?_,fun ht=>?_⟩
 ·have hlt:i<8:=by
   have:(i:Int)<8:=by simpa using ht
   omega
  obtain⟨ac,hac⟩:=zpU (a:=a) (b:=b) hlt (hA i hlt) hr hall hs hq hev hb;conv=>whnf
  refine zal (zco hac rfl) ?_;rintro _ _ ⟨rfl,rfl⟩;conv=>whnf
  refine⟨⟨(by omega:(0:Int)≤(i:Int)),(by omega:(i:Int)<8)⟩,?_⟩;conv=>whnf
  refine⟨.d (zf2 m.now (zaq A i ac) (zna m.ev 0) (ziO fun _=>0)),congrArg (fun f=>SV.d (.pr (.z .i64 m.now) (.pr (.ar 8 zr5.zero.d.shape f) (.pr (.ar 23 .c fun i=>.z .i64 (zna m.ev 0 i)) (.pr (ziO fun _=>0) (.pr (.sl 0 .c (za4 [])) .un)))))) (zaY zBF A i ac),?_⟩;conv=>whnf
  refine⟨zac (x:=(i:Int)+1) (by omega) (by omega),?_⟩;conv=>whnf
  exact⟨(i+1,zaq A i ac),hlt,by show 8 -(i+1)<8 - i;omega,⟨rfl,trivial⟩,⟨rfl,(by show(zaG 3 2 0 [za9 m b,.d (zaH m.x.p),zaT m.x a]&&true)=true;rw[za6 rfl m.x a];rfl)⟩,rfl⟩
 ·have hlt:i=8:=by
   have:¬(i:Int)<8:=by simpa using ht
   omega
  subst hlt;conv=>whnf
  refine zaD (l:=[(0,.pt 0 []),(2,.pt 3 []),(4,.pt 4 [])]) (m':=⟨[za9 m b,.d (zaH m.x.p),zaT m.x a,.d zv4.zero.d,.d (zf2 m.now A (zna m.ev 0) (ziO fun _=>0))],[a,b],[]⟩) ⟨rfl,rfl,rfl,trivial⟩ rfl ?_;refine zav (zab zaa ?_);conv=>whnf
  refine zaB zaa (fun i:Nat=>i≤23) (fun i=>23 - i) (fun i=>[(25,I i)]) (fun i=>⟨[za9 m b,.d (zaH m.x.p),zaT m.x a,.d zv4.zero.d,.d (zf2 m.now A (zna m.ev i) (ziO fun _=>0))],[a,b],[]⟩) 0 (zFV _) ⟨rfl,trivial⟩ rfl (fun i=>⟨zF5 _,zF5 _,zF5 _⟩) ?_;intro i hi;conv=>whnf
  refine⟨fun ht=>?_,fun ht=>?_⟩
  ·have hlt:i<23:=by
    have:(i:Int)<23:=by simpa using ht
    omega
   conv=>whnf
   refine zao zaa (by kernel_rfl) 7 (by kernel_rfl) ?_;conv=>whnf
   refine zdO (v:=.d (sls tEv (zgJ m.ev))) (zco (zgt (m:=m) (a:=a) (b:=b) hev) rfl) (fun _ h=>h) ?_;conv=>whnf
   refine zdO (v:=I (zhc (doP i) m.ev)) (zzZ (m:=m) (a:=a) (b:=b) (x3:=.d zv4.zero.d) (x4:=.d (zf2 m.now A (zna m.ev i) (ziO fun _=>0))) (by show(zaG 3 2 0 [za9 m b,.d (zaH m.x.p),zaT m.x a]&&true)=true;rw[za6 rfl m.x a];rfl) i m.ev hev hd) (fun _ h=>h) ?_;conv=>whnf
   refine⟨⟨(by omega:(0:Int)≤(i:Int)),(by omega:(i:Int)<23)⟩,?_⟩;conv=>whnf
   refine⟨.d (zf2 m.now A (zna m.ev (i+1)) (ziO fun _=>0)),congrArg (fun f=>SV.d (.pr (.z .i64 m.now) (.pr (.ar 8 zr5.zero.d.shape fun i=>zBF (A i)) (.pr (.ar 23 .c f) (.pr (ziO fun _=>0) (.pr (.sl 0 .c (za4 [])) .un)))))) (zuw m.ev i),?_⟩;conv=>whnf
   refine⟨zac (x:=(i:Int)+1) (by omega) (by omega),?_⟩;conv=>whnf
   exact⟨i+1,hlt,by omega,⟨rfl,trivial⟩,⟨rfl,(by show(zaG 3 2 0 [za9 m b,.d (zaH m.x.p),zaT m.x a]&&true)=true;rw[za6 rfl m.x a];rfl)⟩,rfl⟩
  ·have hlt:i=23:=by
    have:¬(i:Int)<23:=by simpa using ht
    omega
   subst hlt;conv=>whnf
   refine zaD (l:=[(0,.pt 0 []),(2,.pt 3 []),(4,.pt 4 [])]) (m':=⟨[za9 m b,.d (zaH m.x.p),zaT m.x a,.d zv4.zero.d,.d (zf2 m.now A (zna m.ev 23) (ziO fun _=>0))],[a,b],[]⟩) ⟨rfl,rfl,rfl,trivial⟩ rfl ?_;refine zab zaa ?_;conv=>whnf
   refine zal (zco hc rfl) ?_;rintro _ _ ⟨rfl,rfl⟩;conv=>whnf
   exact⟨zaJ rfl (za6 rfl m.x a),A,rfl,rfl⟩
end
end Sx
namespace Sx
theorem zAK:zdA fun _=>⟨0,0,fun _=>0⟩:=fun _ _=>⟨(by decide:(0:Int)≤0),(by decide:(0:Int)≤8),zHV,fun x hx=>by cases hx⟩
theorem zAI{n:Int}{code:Nat→List Ins}(h:∀i,i<8→(code i).length≤64∧∀x∈code i,InsOk x):MX2 0 0 (mc0 n code):=
 ⟨zAK,fun i hi=>⟨(h i hi).1,(h i hi).2,zFJ 0,(by decide:(0:Int)≤65536)⟩,fun _ _=>zqp,zFJ 0,⟨zFJ 0,zFJ 0⟩⟩
def wkC(i:Nat):List Ins:=match i with
 |0=>[⟨1,6,0,0,1⟩,⟨17,3,0,0,0⟩]
 |_=>[]
noncomputable def wkN:Nat→Mc
 |0=>mc0 2 wkC
 |n+1=>zbI (wkN n) 0
noncomputable def wk4:Mc:=zbI (wkN 3) 16
theorem zy1:∀i,i<8→(wkC i).length≤64∧∀x∈wkC i,InsOk x:=fun i _=>match i with
  |0=>⟨by decide,fun x hx=>by
   rcases zGm.1 hx with rfl|hx
   ·exact⟨by decide,by decide,by decide,by decide,by decide⟩
   ·rw[zHW.1 hx];exact⟨by decide,by decide,by decide,by decide,by decide⟩⟩
  |_+1=>⟨zFV _,fun x hx=>by cases hx⟩
theorem zBW:∀n,MI 2 (wkN n)∧zlL (wkN n)∧MX2 n n (wkN n)
 |0=>⟨(zst ⟨by decide,by decide⟩ _).1,(zst ⟨by decide,by decide⟩ _).2,zAI zy1⟩
 |n+1=>by obtain⟨h1,h2,h3⟩:=zBW n;obtain⟨g1,g2⟩:=zpw h1 h2 (b:=0) (by decide);exact⟨g1,g2,by have:=zmP h1 h3 (k:=0) (by decide);rw[zHX];exact this⟩
theorem zC6:MI 2 wk4∧zlL wk4∧MX2 4 4 wk4:=by obtain⟨h1,h2,h3⟩:=zBW 3;obtain⟨g1,g2⟩:=zpw h1 h2 (b:=16) (by decide);exact⟨g1,g2,zmP h1 h3 (k:=16) (by decide)⟩
theorem zFp:∀i,i<3→zcQ (wkN i) 0=0:=by decide+kernel
theorem zC8:zcQ (wkN 3) 16=0:=by decide+kernel
theorem zC9:zah (wkN 3).x.s.t.b 1=true:=by decide+kernel
theorem zDa:zah wk4.x.s.t.b 1=false:=by decide+kernel
theorem zy3:wk4.x.q=[]:=by decide+kernel
theorem zy0:∀i,i<8→wk4.x.s.alive i=false:=by decide+kernel
theorem zy2:wk4.ev.length=2:=by decide+kernel
theorem zBo:zb6 wk4.x.s.t.b=[]:=by decide+kernel
theorem zDc:∀e∈wk4.ev, -1000000≤e.to_ - e.frm∧e.to_ - e.frm≤1000000:=by decide+kernel
theorem zC7:∀e∈wk4.ev,0≤e.c.do_∧e.c.do_<256:=by decide+kernel
def wkB:ByteArray:=⟨#[1,6,0,0,1,0,17,3,0,0,0,0]⟩
def wkL:Lst:=⟨2,[wkB],ByteArray.empty⟩
theorem zBr:zlN wkL=true:=by decide+kernel
theorem zBp:zmc wkB=[⟨1,6,0,0,1⟩,⟨17,3,0,0,0⟩]:=rfl
theorem zFo:zbS wkL=wkC:=by
 funext i
 cases i with
 |zero=>exact zBp
 |succ i=>rfl
theorem zBs:zDr wk4.ev=true:=by decide+kernel
theorem zBq:zna wk4.ev 23 1=1:=by decide+kernel
theorem zDb:(SV.d (.pr (.z .i64 2) (.pr (.sl 1 .c (za4 [.st wkB])) (.pr (.st ByteArray.empty) .un)))).le (.d (zaZ wkL)):=fun ro bl x h=>by
 obtain⟨cs,h1,hx⟩:=h.1 rfl;refine⟨fun _=>⟨cs,?_,hx⟩,fun h=>by cases h⟩;obtain⟨c1,c2,rfl,k1,d1,d2,rfl,k2,k3⟩:=h1;refine⟨_,_,rfl,k1,_,_,rfl,?_,k3⟩;have k2:zbg ro (.sl 1 .c (za4 [.st wkB])) d1:=k2;exact k2.congr fun i hi=>by
  obtain rfl:i=0:=by omega
  rfl
attribute [local irreducible] Con zax zan zau zai zaw zbt zak zaC zbh zba I64
theorem zts:zay Tryz.prog 6 [] (B true):=by
 refine zgU Tryz.func6 rfl (by kernel_rfl) rfl rfl rfl ?_;refine zav (zab zaa ?_);conv=>whnf
 refine zav (zab zaa ?_);conv=>whnf
 refine Or.inl ?_;conv=>whnf
 conv=>whnf
 have hz:∀p∈wkL.ps,p.size≤1000:=fun p hp=>by rw[zHW.1 hp];decide
 refine zal (Con.le (zud wkL (by decide) hz zBr) ⟨zDb,trivial⟩) ?_;rintro _ _ ⟨rfl,a,b,rfl⟩;rw[zFo];conv=>whnf
 refine zaD (l:=[(1,.pt 0 [])]) (m':=MM (wkN 0) a b) ⟨rfl,trivial⟩ rfl ?_;refine zav (zab zaa ?_);conv=>whnf
 refine⟨(fun h=>by cases h),fun _=>?_⟩;conv=>whnf
 refine zaD (l:=[(1,.pt 0 [])]) (m':=MM (wkN 0) a b) ⟨rfl,trivial⟩ rfl ?_;refine zav (zab zaa ?_);conv=>whnf
 refine zaB zaa (fun i:Nat×Nat×Nat=>i.1≤3) (fun i=>3 - i.1) (fun i=>[(2,I i.1)]) (fun i=>MM (wkN i.1) i.2.1 i.2.2) (0,a,b) (zFV _) ⟨rfl,trivial⟩ rfl (fun i=>⟨zF5 _,zF5 _,zF5 _⟩) ?_;rintro⟨i,a,b⟩ hi;have hi:i≤3:=hi;conv=>whnf
 refine⟨fun ht=>?_,fun ht=>?_⟩
 ·have hlt:i<3:=by
   have:(i:Int)<3:=by simpa using ht
   omega
  obtain⟨k1,k2,k3⟩:=zBW i;conv=>whnf
  refine zal (zlU (p:=0) k1 k3 (by omega) (by omega) ⟨by decide,by decide⟩) ?_;rintro _ _ ⟨rfl,a2,b2,rfl⟩;rw[zFp i hlt];conv=>whnf
  refine⟨(fun h=>by cases h),fun _=>?_⟩;conv=>whnf
  refine⟨zac (x:=(i:Int)+1) (by omega) (by omega),?_⟩;conv=>whnf
  exact⟨(i+1,a2,b2),hlt,by show 3 -(i+1)<3 - i;omega,⟨rfl,trivial⟩,⟨rfl,(by show(zaG 3 2 0 [za9 (wkN (i+1)) b2,.d (zaH (wkN (i+1)).x.p),zaT (wkN (i+1)).x a2]&&true)=true;rw[za6 rfl (wkN (i+1)).x a2];rfl)⟩,rfl⟩
 ·have hlt:i=3:=by
   have:¬(i:Int)<3:=by simpa using ht
   omega
  subst hlt;obtain⟨k1,k2,k3⟩:=zBW 3;obtain⟨j1,j2,j3⟩:=zC6;conv=>whnf
  refine zaD (l:=[(1,.pt 0 [])]) (m':=MM (wkN 3) a b) ⟨rfl,trivial⟩ rfl ?_;refine zav (zab zaa ?_);conv=>whnf
  refine zal (zeB (m:=wkN 3) (a:=a) (b:=b) (by have:=k1.q64;omega)) ?_;rintro _ _ ⟨rfl,rfl⟩;conv=>whnf
  refine zad (zbz (wkN 3).x.s.t.b 1) ?_;rw[zC9];conv=>whnf
  refine zaD (l:=[(1,.pt 0 []),(3,B true)]) (m':=MM (wkN 3) a b) ⟨rfl,rfl,trivial⟩ rfl ?_;refine zav (zab zaa ?_);conv=>whnf
  refine zal (zlU (p:=16) k1 k3 (by decide) (by decide) ⟨by decide,by decide⟩) ?_;rintro _ _ ⟨rfl,a2,b2,rfl⟩;rw[zC8];conv=>whnf
  refine zaD (l:=[(1,.pt 0 []),(3,B true),(4,I 0)]) (m':=MM wk4 a2 b2) ⟨rfl,rfl,rfl,trivial⟩ rfl ?_;refine zav (zab zaa ?_);conv=>whnf
  refine zal (zvc (m:=wk4) (a:=a2) (b:=b2) zy0 (fun i hi=>(j3.rt i hi).rg) zBo j1.s.std (by have:=j1.q64;omega) (by rw[zy2];decide) zDc zC7 (zqL j1 j3)) ?_;rintro _ _ ⟨A,rfl,rfl⟩;conv=>whnf
  refine zaD (l:=[(1,.pt 0 []),(3,B true),(4,I 0),(5,.pt 3 []),(6,I 0)]) (m':=⟨[za9 wk4 b2,.d (zaH wk4.x.p),zaT wk4.x a2,.d (zf2 wk4.now A (zna wk4.ev 23) (ziO (ziJ wk4).n))],[a2,b2],[]⟩) ⟨rfl,rfl,rfl,rfl,rfl,trivial⟩ rfl ?_;refine zab zaa ?_;conv=>whnf
  refine zdO (v:=zl9 wk4.x) (zco (zeB (m:=wk4) (a:=a2) (b:=b2) (by have:=j1.q64;omega)) rfl) (fun _ h _=>h) ?_;conv=>whnf
  refine zam (zbz wk4.x.s.t.b 1) (fun _ h _=>h) ?_;rw[zDa];conv=>whnf
  refine zdO (v:=B true) (zco (zqW (m:=wk4) (a:=a2) (b:=b2) zy3 zy0) rfl) (fun _ h _=>h) ?_;conv=>whnf
  refine zdO (v:=B true) (zco (zq4 (m:=wk4) (a:=a2) (b:=b2) (by rw[zy3];decide) (by rw[ztt j1 j2 zy0 zy3,j1.n])) rfl) (fun _ h _=>h) ?_;conv=>whnf
  refine⟨fun _=>⟨(by decide:(0:Int)≤1),(by decide:(1:Int)<23)⟩,?_⟩;conv=>whnf
  refine zdO (v:=.d (sls tEv (zgJ wk4.ev))) (zco (zgt (m:=wk4) (a:=a2) (b:=b2) (by rw[zy2];decide)) rfl) (fun _ h _=>h) ?_;conv=>whnf
  refine zam (zCP wk4.ev (by rw[zy2];decide) zBs) (fun _ h _=>h) ?_;conv=>whnf
  refine⟨rfl,zae (congrArg (fun z=>SV.d (.bo z)) ?_)⟩;show(((((((true&&((0:Int)==0))&&!false)&&true)&&true)&&((0:Int)==0))&&(zna wk4.ev 23 1==1))&&true)=true;rw[zBq];rfl
end Sx
namespace Sx
theorem zAp{p:ByteArray}(h:zpk p=true):isC p=true:=by
 unfold zpk at h;simp only[zGC,zFM,zFO,zGy]at h;obtain⟨h1,h2⟩:=h;have h3:zwc (zmc p)=true:=by rw[zx2];exact h2
 have hl:(zmc p).length=p.size / 6:=zgG _ _;have h4:p.size / 6≤64:=by unfold zf3 at h2;simp only[zFR,zGC,zFO]at h2;omega
 unfold isC zzO;rw[zyT,h3,zFT (by omega),show((p.size % 6:Nat):Int)=0 by omega];rfl
theorem zyf{x:Int}(hx:0≤x):(!zhV x)=true→zhA x=true:=fun h=>by unfold zhV at h;unfold zhA;simp only[zGC,zFM,zHK,zFO,zFN]at h;simp only[zGD,zFR,zFS];omega
theorem zCI{l:Lst}(h:zlh l=true):zlN l=true:=by
 unfold zlh at h;simp only[zFR,zGC]at h;obtain⟨h1,h2,h3⟩:=h;unfold zlN;have e1:(l.ps.any fun p=>!isC p)=false:=zHE.2 fun p hp=>by have:=zHE.1 h2 p hp;rw[zAp (by simpa using this)];decide
 have e2:((pkL l.pk).any fun x=>!zhV x)=false:=zHE.2 fun x hx hb=>by have h4:=zHE.1 h3 x hx;obtain⟨i,_,rfl⟩:=zHg.1 hx;exact h4 (zyf (zep l.pk i).1 hb)
 rw[h1,e1,e2];rfl
theorem zuK{l:Lst}(h:zpc l=false):zqd l=false∧zlN l=true:=by unfold zpc at h;simp only[zFM,zGy]at h;exact⟨h.1,zCI h.2⟩
abbrev M1(L:D)(m:Mc)(a b:Nat)(e:List SV):MS:=⟨.d L::zcF 3 m b::.d (zaH m.x.p)::zdr 2 m.x a::e,[a,b],[]⟩
def zwp(v:SV):SV:=((v.ren (swN 2 3)).ren (swN 1 2)).ren (swN 0 1)
def zCT:Out→Out
 | .ret v=>.ret (zwp v)
 | .pan d=>.pan d
theorem zAA(L:D)(m:Mc)(a b:Nat)(e:List SV):M1 L m a b e=⟨swL (swL (swL (za9 m b::.d (zaH m.x.p)::zaT m.x a::.d L::((e.map (SV.ren (swN 0 1))).map (SV.ren (swN 1 2))).map (SV.ren (swN 2 3))) 2 3) 1 2) 0 1,[a,b],[]⟩:=by show(⟨_::_::_::_::e,_,_⟩:MS)=⟨_::_::_::_::(((((e.map (SV.ren (swN 0 1))).map (SV.ren (swN 1 2))).map (SV.ren (swN 2 3))).map (SV.ren (swN 2 3))).map (SV.ren (swN 1 2))).map (SV.ren (swN 0 1)),_,_⟩;rw[zi2,zi2,zi2];rfl
theorem zzN{m:Mc}{a b:Nat}(L:D)(e:List SV){f:FuncId}{args:List SV}{R:Out→MS→Prop}(h:Con Tryz.prog f args (MM m a b) R)(ha:zaG 3 2 0 args=true)(hQ:∀o m',R o m'→∃m2 a2 b2,m'=MM m2 a2 b2){K:Out→MS→Prop}(hK:∀o m2 a2 b2,R o (MM m2 a2 b2)→K (zCT o) (M1 L m2 a2 b2 e)):
 Con Tryz.prog f (((args.map (SV.ren (swN 2 3))).map (SV.ren (swN 1 2))).map (SV.ren (swN 0 1))) (M1 L m a b e) K:=by
 rw[zAA];have h1:=zcb (.d L::((e.map (SV.ren (swN 0 1))).map (SV.ren (swN 1 2))).map (SV.ren (swN 2 3))) [] [] h ha (by show(zaG 3 2 0 [za9 m b,.d (zaH m.x.p),zaT m.x a]&&zbH 3 2 0 [])=true;rw[za6 rfl m.x a];rfl) fun o m' hm=>by obtain⟨m2,a2,b2,rfl⟩:=hQ o m' hm;exact⟨rfl,rfl,rfl⟩
 have key:∀(m2:Mc) (a2 b2:Nat) (o:Out),R o (MM m2 a2 b2)→K (((o.ren (swN 2 3)).ren (swN 1 2)).ren (swN 0 1)) ⟨swL (swL (swL (za9 m2 b2::.d (zaH m2.x.p)::zaT m2.x a2::.d L::((e.map (SV.ren (swN 0 1))).map (SV.ren (swN 1 2))).map (SV.ren (swN 2 3))) 2 3) 1 2) 0 1,[a2,b2],[]⟩:=fun m2 a2 b2 o hr=>by have:=hK o m2 a2 b2 hr;rw[zAA]at this;cases o<;>exact this
 refine zgb 0 1 (by simp[zhI]) (by simp[zhI]) (K':=fun o m'=>∃m2 a2 b2 o0,R o0 (MM m2 a2 b2)∧o=(o0.ren (swN 2 3)).ren (swN 1 2)∧m'=⟨swL (swL (za9 m2 b2::.d (zaH m2.x.p)::zaT m2.x a2::.d L::((e.map (SV.ren (swN 0 1))).map (SV.ren (swN 1 2))).map (SV.ren (swN 2 3))) 2 3) 1 2,[a2,b2],[]⟩) ?_ ?_
 ·refine zgb 1 2 (by simp[zhI]) (by simp[zhI]) (K':=fun o m'=>∃m2 a2 b2 o0,R o0 (MM m2 a2 b2)∧o=o0.ren (swN 2 3)∧m'=⟨swL (za9 m2 b2::.d (zaH m2.x.p)::zaT m2.x a2::.d L::((e.map (SV.ren (swN 0 1))).map (SV.ren (swN 1 2))).map (SV.ren (swN 2 3))) 2 3,[a2,b2],[]⟩) ?_ ?_
  ·refine zgb 2 3 (by simp) (by simp) h1 ?_;rintro o m' ⟨m2',hr,rfl⟩;obtain⟨m2,a2,b2,rfl⟩:=hQ o m2' hr;exact⟨rfl,m2,a2,b2,o,hr,rfl,rfl⟩
  ·rintro _ _ ⟨m2,a2,b2,o,hr,rfl,rfl⟩;exact⟨rfl,m2,a2,b2,o,hr,rfl,rfl⟩
 ·rintro _ _ ⟨m2,a2,b2,o,hr,rfl,rfl⟩;exact⟨rfl,key m2 a2 b2 o hr⟩
theorem zdZ{m:Mc}{a b:Nat}{L:D}{e:List SV}{f:FuncId}{args:List SV}{v:SV}(h:Con Tryz.prog f args (MM m a b) fun o m'=>o=.ret v∧m'=MM m a b)(ha:zaG 3 2 0 args=true):
 Con Tryz.prog f (((args.map (SV.ren (swN 2 3))).map (SV.ren (swN 1 2))).map (SV.ren (swN 0 1))) (M1 L m a b e) fun o m'=>o=.ret (zwp v)∧m'=M1 L m a b e:=by
 refine zzN (R:=fun o m'=>o=.ret v∧m'=MM m a b) L e h ha (fun o m' hm=>⟨m,a,b,hm.2⟩) ?_;rintro o m2 a2 b2 ⟨rfl,h3⟩;have hM:∀(m:Mc) (a b:Nat),M1 L m a b e=⟨.d L::((MM m a b).c.map zwp++e),(MM m a b).t,[]⟩:=fun _ _ _=>rfl;exact⟨rfl,by rw[hM,hM,h3]⟩
theorem zon{m m':Mc}{a b:Nat}{L:D}{e:List SV}{f:FuncId}{args:List SV}{v:SV}(h:Con Tryz.prog f args (MM m a b) fun o mm=>o=.ret v∧∃a2 b2,mm=MM m' a2 b2)(ha:zaG 3 2 0 args=true):
 Con Tryz.prog f (((args.map (SV.ren (swN 2 3))).map (SV.ren (swN 1 2))).map (SV.ren (swN 0 1))) (M1 L m a b e) fun o mm=>o=.ret (zwp v)∧∃a2 b2,mm=M1 L m' a2 b2 e:=by
 refine zzN L e h ha (fun o mm hr=>?_) ?_
 ·obtain⟨_,a2,b2,h⟩:=hr;exact⟨_,a2,b2,h⟩
 rintro o m2 a2 b2 ⟨rfl,a3,b3,h3⟩;have hM:∀(m:Mc) (a b:Nat),M1 L m a b e=⟨.d L::((MM m a b).c.map zwp++e),(MM m a b).t,[]⟩:=fun _ _ _=>rfl;exact⟨rfl,a3,b3,by rw[hM,hM,h3]⟩
end Sx
end Go.Proofs.YtfbhkfhbnkncoaaGreatDoor
