import Derived.Test.YtfbhkfhbnkncoaaGreatDoorT45
set_option linter.all false
set_option maxRecDepth 100000
set_option maxHeartbeats 4000000
namespace Go.Proofs.YtfbhkfhbnkncoaaGreatDoor
open Go.RowKit
namespace Sx
def zp6(r:Rr):D:=.pr (za0 r.t) (.pr (zdL r.c) (.pr (.bo r.busy) (.pr (.z .i64 r.frm) .un)))
def zeu(e:Ev):D:=.pr (.z .i64 e.task) (.pr (zaW e.c) (.pr (zar e.run) (.pr (zaK e.r) (.pr (.z .i64 e.frm) (.pr (.z .i64 e.to_) .un)))))
def tRr:Ty:=(zp6 ⟨⟨[],0,fun _=>0⟩,rt0,false,0⟩).shape
def tEv:Ty:=(zeu ⟨0,zbo 0,zaO,rs0,0,0⟩).shape
abbrev zgJ(l:List Ev):List D:=l.map zeu
def zeI(ts:Nat→Rr):D:=.ar 8 tRr fun i=>zp6 (ts i)
def za9(m:Mc)(b:Nat):SV:=.pr (.pt 2 []) (.pr (.d (zeI m.ts)) (.pr (I m.now) (.pr (owl 2 b tEv (zgJ m.ev)) (.d .un))))
abbrev MM(m:Mc)(a b:Nat):MS:=MC (za9 m b) m.x a b
theorem zhU(m:Mc)(b:Nat):(za9 m b).ids 3 2 0=true:=rfl
attribute [local irreducible] Con zax zan zau zai zaw zbt zak zaC zbh zba I64
section
variable {m:Mc} {a b:Nat}
theorem zkC(t:Int):Con Tryz.prog 30 [.pt 0 [],I t] (MM m a b) fun o m'=>o=.ret (B (zfe m t))∧m'=MM m a b:=by
 refine za3 Tryz.func30 rfl (by kernel_rfl) rfl rfl ?_;conv=>whnf
 refine⟨fun hq=>?_,?_⟩
 ·have hq:(decide (t≥0)&&decide (t<8))=true:=hq;simp only[zFR,zFS]at hq;exact⟨hq.1,hq.2⟩
 conv=>whnf
 exact⟨zaJ rfl (za6 (zhU m b) m.x a),rfl,rfl⟩
theorem zC4(ts:Nat→Rr)(t:Nat)(x:Tsk):(zeI ts).set [t,0] (za0 x)=zeI (zaq ts t {ts t with t:=x}):=by
 refine congrArg (fun f=>D.ar 8 tRr f) (funext fun j=>?_);show(if j=t then _ else _)=zp6 (if j=t then{ts t with t:=x}else ts j);by_cases h:j=t
 ·rw[if_pos h,if_pos h];rfl
 ·rw[if_neg h,if_neg h]
theorem zBm(ts:Nat→Rr)(t:Nat)(x:Rt):(zeI ts).set [t,1] (zdL x)=zeI (zaq ts t {ts t with c:=x}):=by
 refine congrArg (fun f=>D.ar 8 tRr f) (funext fun j=>?_);show(if j=t then _ else _)=zp6 (if j=t then{ts t with c:=x}else ts j);by_cases h:j=t
 ·rw[if_pos h,if_pos h];rfl
 ·rw[if_neg h,if_neg h]
theorem zC5(ts:Nat→Rr)(t:Nat)(x:Bool):(zeI ts).set [t,2] (.bo x)=zeI (zaq ts t {ts t with busy:=x}):=by
 refine congrArg (fun f=>D.ar 8 tRr f) (funext fun j=>?_);show(if j=t then _ else _)=zp6 (if j=t then{ts t with busy:=x}else ts j);by_cases h:j=t
 ·rw[if_pos h,if_pos h];rfl
 ·rw[if_neg h,if_neg h]
theorem zFn(ts:Nat→Rr)(t:Nat)(x:Int):(zeI ts).set [t,3] (.z .i64 x)=zeI (zaq ts t {ts t with frm:=x}):=by
 refine congrArg (fun f=>D.ar 8 tRr f) (funext fun j=>?_);show(if j=t then _ else _)=zp6 (if j=t then{ts t with frm:=x}else ts j);by_cases h:j=t
 ·rw[if_pos h,if_pos h];rfl
 ·rw[if_neg h,if_neg h]
theorem zic(was:Rn)(before now:Int)(h:I64 (now - before)):zay Tryz.prog 126 [.d (zar was),I before,I now] (.d (zar (zk9 was before now))):=by
 refine zat Tryz.func126 rfl (by kernel_rfl) rfl rfl rfl ?_;conv=>whnf
 refine⟨h,?_⟩;conv=>whnf
 refine⟨fun h1=>?_,fun h1=>?_⟩
 ·have h1:(decide (now - before≥was.n)&&decide (was.n>0))=true:=h1;conv=>whnf
  exact⟨rfl,zae (by unfold zk9;rw[h1];rfl)⟩
 ·have h1:(decide (now - before≥was.n)&&decide (was.n>0))=false:=h1;conv=>whnf
  exact⟨rfl,zae (by unfold zk9;rw[h1];rfl)⟩
theorem zjx{α:Type}(f:Nat→α)(t:Nat)(x y:α):zaq (zaq f t x) t y=zaq f t y:=by
 funext j;unfold zaq;split<;>rfl
abbrev M6(m:Mc)(a b:Nat)(l:List SV):MS:=⟨za9 m b::.d (zaH m.x.p)::zaT m.x a::l,[a,b],[]⟩
theorem zht{ts ts':D}(n:SV)(q:SV)(h:ts=ts'):SV.pr (.pt 2 []) (.pr (.d ts) (.pr n (.pr q (.d .un))))=.pr (.pt 2 []) (.pr (.d ts') (.pr n (.pr q (.d .un)))):=by rw[h]
theorem zxy{t:Nat}(ht:t<8)(c:Rt)(run:Rn)(r:Rs)(hT:TskOk (m.ts t).t)(hev:m.ev.length≤1000000):Con Tryz.prog 125 [.pt 0 [],I t,.d (zdL c),.d (zar run),.d (zaK r)] (MM m a b) fun o m'=>o=unR∧∃b',m'=MM (znb m t c run r) a b':=by
 refine zcp Tryz.func125 rfl (by kernel_rfl) rfl rfl ?_;refine zav (zab zaa ?_);conv=>whnf
 refine zav (zab zaa ?_);conv=>whnf
 refine⟨⟨(by omega:(0:Int)≤(t:Int)),(by omega:(t:Int)<8)⟩,?_⟩;conv=>whnf
 refine zaD (l:=[(0,.pt 0 []),(1,I t),(7,.pt 3 []),(8,.pt 4 []),(9,.pt 5 []),(10,.pt 0 [1,t])]) (m':=M6 m a b [.d (zdL c),.d (zar run),.d (zaK r)]) ⟨rfl,rfl,rfl,rfl,rfl,rfl,trivial⟩ rfl ?_;refine zav (zab zaa ?_);conv=>whnf
 refine zaA zaa (by kernel_rfl) (List.range 24) [(19,31),(20,1),(23,0)] (by kernel_rfl) ?_;conv=>whnf
 refine Or.inl ?_;conv=>whnf
 refine⟨(show _∧_ from⟨rfl,rfl⟩),zas ?_ ?_⟩;rotate_left
 ·repeat' (first|exact trivial|refine And.intro (show _∧_ from⟨rfl,rfl⟩) ?_)
 conv=>whnf
 refine⟨⟨rfl,(by rw[zFH];omega:(zgJ m.ev).length+1≤2147483648)⟩,?_⟩;conv=>whnf
 refine zaD (l:=[(9,.pt 5 []),(10,.pt 0 [1,t])]) (m':=M6 {m with ev:=m.ev++[⟨t,c.c,run,r,(m.ts t).frm,m.now⟩]} a (b+1) [.d (zdL c),.d (zar run),.d (zaK r)]) ⟨rfl,rfl,trivial⟩ ?_ ?_
 ·have e:=zcq 2 (b+1) tEv (zgJ m.ev) [zeu ⟨t,c.c,run,r,(m.ts t).frm,m.now⟩];rw[←zHk,←zF6]at e;exact zcn (ce (congrArg (fun q=>SV.pr (.pt 2 []) (.pr (.d (zeI m.ts)) (.pr (I m.now) (.pr q (.d .un))))) e) rfl) rfl rfl
 refine zav (zab zaa ?_);conv=>whnf
 refine zao zaa (by kernel_rfl) 9 (by kernel_rfl) ?_;conv=>whnf
 refine zam (zw3 hT r) (fun _ h=>h) ?_;conv=>whnf
 refine⟨za9 {m with ev:=m.ev++[⟨t,c.c,run,r,(m.ts t).frm,m.now⟩],ts:=zaq m.ts t {m.ts t with t:=zgp (m.ts t).t r}} (b+1),zht _ _ (zC4 m.ts t (zgp (m.ts t).t r)),?_⟩;conv=>whnf
 refine zaD (l:=[(9,.pt 5 []),(10,.pt 0 [1,t])]) (m':=M6 {m with ev:=m.ev++[⟨t,c.c,run,r,(m.ts t).frm,m.now⟩],ts:=zaq m.ts t {m.ts t with t:=zgp (m.ts t).t r}} a (b+1) [.d (zdL c),.d (zar run),.d (zaK r)]) ⟨rfl,rfl,trivial⟩ rfl ?_;refine zab zaa ?_;conv=>whnf
 refine⟨_,zht _ _ (zC5 (zaq m.ts t {m.ts t with t:=zgp (m.ts t).t r}) t false),?_⟩;conv=>whnf
 refine⟨_,zht _ _ (zBm (zaq (zaq m.ts t {m.ts t with t:=zgp (m.ts t).t r}) t {(zaq m.ts t {m.ts t with t:=zgp (m.ts t).t r}) t with busy:=false}) t rt0),?_⟩;conv=>whnf
 refine⟨zaJ rfl (za6 rfl m.x a),rfl,b+1,?_⟩;refine zcn (ce ?_ rfl) rfl rfl;refine zht _ _ (congrArg zeI ?_);rw[zjx,zjx,zag,zag];rfl
end
end Sx
namespace Sx
def zfF(m:Mc)(i:Nat):Mc:=(List.range i).foldl zga m
theorem ziI(m:Mc)(i:Nat):zfF m (i+1)=zga (zfF m i) i:=by unfold zfF;rw[zFW,zHc];rfl
structure CJ (m m':Mc) (i:Nat):Prop where
 ts:∀j,i≤j→m'.ts j=m.ts j
 q:m'.x.q.length≤m.x.q.length+64*i
 mks:zdA m'.x.m
 al:m'.x.s=m.x.s
theorem zzV{m:Mc}(hm:zdA m.x.m)(hr:∀i,i<8→RnC (m.ts i).c.run):∀i,i≤8→CJ m (zfF m i) i
 |0,_=>⟨fun _ _=>rfl,zF5 _,hm,rfl⟩
 |i+1,h=>by
  obtain⟨h1,h2,h3,h4⟩:=zzV hm hr i (by omega);rw[ziI];unfold zga;cases hq:((zfF m i).ts i).busy&&!zfe (zfF m i) i with
  |false=>exact⟨fun j hj=>h1 j (by omega),by show(zfF m i).x.q.length≤_;omega,h3,h4⟩
  |true=>
   refine⟨fun j hj=>?_,?_,zgN _ _ h3,h4⟩
   ·show zaq (zfF m i).ts i _ j=_;rw[zaf (by omega)];exact h1 j (by omega)
   ·show((zfF m i).x.q++pg ((zfF m i).ts i).c.run).length≤_;rw[zFY,h1 i (zF5 _)];have e:(pg (m.ts i).c.run).length=(m.ts i).c.run.n.toNat:=by simp[pg]
    rcases hr i (by omega)with h|h
    ·rw[e,h];simp only[Int.toNat_zero];omega
    ·unfold zbd at h;omega
attribute [local irreducible] Con zax zan zau zai zaw zbt zak zaC zbh zba I64
section
variable {m:Mc} {a b:Nat}
theorem zzM{Z:SV}{x:Cr}{c2:List SV}{t2:List Nat}{o2:List Ob}(hz:Z.ids 3 2 0=true)(c:Rt)(hr:RnC c.run)(hq:x.q.length≤1000000)(hm:zdA x.m){K:Out→MS→Prop}(hK:∀a',K unR ⟨Z::.d (zaH (zfU x c).p)::zaT (zfU x c) a'::c2,a'::b::t2,o2⟩):Con Tryz.prog 70 [.pt 2 [],.d (zdL c)] ⟨Z::.d (zaH x.p)::zaT x a::c2,a::b::t2,o2⟩ K:=
 zra (a:=a) (b:=b) hz (zzm hz c hr hq hm) rfl (fun o m ⟨_,a',h⟩=>⟨_,a',h⟩) fun o x' a' ⟨ho,a2,hm2⟩=>by have e1:=congrArg MS.c hm2;have e2:=congrArg MS.t hm2;simp only[zFD,zFE,zFF]at e1 e2;obtain⟨e3,e1⟩:=e1;subst ho e2;rw[e3,e1];exact hK a'
theorem zxk(hm:zdA m.x.m)(hr:∀i,i<8→RnC (m.ts i).c.run)(hq:m.x.q.length≤2000):Con Tryz.prog 33 [.pt 0 []] (MM m a b) fun o m'=>o=unR∧∃a',m'=MM (zm9 m) a' b:=by
 refine za3 Tryz.func33 rfl (by kernel_rfl) rfl rfl ?_;conv=>whnf
 refine zaB zaa (fun j:Nat×Nat=>j.1≤8) (fun j=>8 - j.1) (fun j=>[(4,I j.1)]) (fun j=>MM (zfF m j.1) j.2 b) (0,a) (zFV _) ⟨rfl,trivial⟩ rfl (fun j=>⟨zF5 _,zF5 _,zF5 _⟩) ?_;intro j hi;obtain⟨i,a⟩:=j;have hi:i≤8:=hi;obtain⟨h1,h2,h3,h4⟩:=zzV hm hr i hi;conv=>whnf
 refine⟨fun ht=>?_,fun ht=>?_⟩
 ·have hlt:i<8:=by
   have:(i:Int)<8:=by simpa using ht
   omega
  conv=>whnf
  refine⟨⟨(by omega:(0:Int)≤(i:Int)),(by omega:(i:Int)<8)⟩,?_⟩;conv=>whnf
  refine zdO (v:=B (zfe (zfF m i) i)) (zkC (m:=zfF m i) (a:=a) (b:=b) i) (fun _ h _=>h) ?_;conv=>whnf
  refine⟨fun hb=>?_,fun hb=>?_⟩
  ·have hb:(((zfF m i).ts i).busy&&!zfe (zfF m i) i)=true:=hb;have e:zfF m (i+1)={zfF m i with x:=zfU (zfF m i).x ((zfF m i).ts i).c,ts:=zaq (zfF m i).ts i {(zfF m i).ts i with c:=rt0,busy:=false}}:=by rw[ziI];unfold zga;rw[hb];rfl
   conv=>whnf
   refine zao zaa (by kernel_rfl) 8 (by kernel_rfl) ?_;conv=>whnf
   refine zzM (Z:=za9 (zfF m i) b) (x:=(zfF m i).x) rfl ((zfF m i).ts i).c (by rw[h1 i (zF5 _)];exact hr i hlt) (by omega) h3 fun a'=>?_;conv=>whnf
   refine⟨_,zht _ _ (zC5 (zfF m i).ts i false),?_⟩;conv=>whnf
   refine⟨_,zht _ _ (zBm (zaq (zfF m i).ts i {(zfF m i).ts i with busy:=false}) i rt0),?_⟩;conv=>whnf
   refine⟨zac (x:=(i:Int)+1) (by omega) (by omega),?_⟩;conv=>whnf
   refine⟨(i+1,a'),hlt,by show 8 -(i+1)<8 - i;omega,⟨rfl,trivial⟩,⟨?_,rfl⟩,rfl⟩;show _=MM (zfF m (i+1)) a' b;rw[e];refine zcn (ce ?_ rfl) rfl rfl;refine zht _ _ (congrArg zeI ?_);rw[zjx,zag]
  ·have hb:(((zfF m i).ts i).busy&&!zfe (zfF m i) i)=false:=hb;have e:zfF m (i+1)=zfF m i:=by rw[ziI];unfold zga;rw[hb];rfl
   conv=>whnf
   refine⟨zac (x:=(i:Int)+1) (by omega) (by omega),?_⟩;conv=>whnf
   refine⟨(i+1,a),hlt,by show 8 -(i+1)<8 - i;omega,⟨rfl,trivial⟩,⟨?_,rfl⟩,rfl⟩;show _=MM (zfF m (i+1)) a b;rw[e];rfl
 ·have hlt:i=8:=by
   have:¬(i:Int)<8:=by simpa using ht
   omega
  subst hlt;conv=>whnf
  exact⟨zaJ rfl (za6 rfl (zfF m 8).x a),rfl,a,rfl⟩
end
end Sx
namespace Sx
attribute [local irreducible] Con zax zan zau zai zaw zbt zak zaC zbh zba I64
section
variable {m:Mc} {a b:Nat}
theorem zh7{t:Nat}(ht:t<8)(c:Rt)(run:Rn)(r:Rs)(hT:TskOk (m.ts t).t)(hev:m.ev.length≤1000000){c2:List SV}{K:Out→MS→Prop}(hK:∀b',K unR ⟨za9 (znb m t c run r) b'::.d (zaH m.x.p)::zaT m.x a::c2,[a,b'],[]⟩):Con Tryz.prog 125 [.pt 0 [],I t,.d (zdL c),.d (zar run),.d (zaK r)] ⟨za9 m b::.d (zaH m.x.p)::zaT m.x a::c2,[a,b],[]⟩ K:=
 zal (zcb c2 [] [] (zxy (m:=m) (a:=a) (b:=b) ht c run r hT hev) rfl (by show(zaG 3 2 0 [za9 m b,.d (zaH m.x.p),zaT m.x a]&&zbH 3 2 0 [])=true;rw[za6 rfl m.x a];rfl) fun o m' hm=>by
  obtain⟨_,b',rfl⟩:=hm;exact⟨rfl,rfl,rfl⟩) fun o m' ⟨m2,⟨h1,b',h3⟩,h2⟩=>by
  subst h3 h2 h1;exact hK b'
theorem zul{t:Nat}(ht:t<8){before:Int}{run:Rn}{p:Sp}(hT:TskOk (m.ts t).t)(hev:m.ev.length≤1000000)(hb:0≤before∧before≤1000000)(hq:p.x.q.length≤1000000):Ok Tryz.prog Tryz.f68.ntmps false (zbR 4 (zbE Tryz.f68)) (zdx [(0,.pt 0 []),(1,I t),(4,.pt 0 [1,t]),(5,I before),(6,.pt 3 []),(7,.pt 4 []),(8,.pt 5 []),(9,B p.e)] []) (M6 {m with x:=p.x} a b [.d (zar run),.d (zdL p.c),.d (zaK p.r)]) (zeJ tbl 3 2 0 Tryz.f68.results.toList fun o m'=>o=unR∧∃a2 b2,m'=MM (bif p.e then znb {m with x:=p.x,ts:=zaq m.ts t {m.ts t with c:=p.c}} t p.c (zk9 (bif (p.r.e != 0)||(p.c.c.do_ != 2)then zaO else run) before p.x.q.length) p.r else{m with x:=p.x,ts:=zaq m.ts t {m.ts t with c:=p.c}}) a2 b2):=by
 refine zav (zab zaa ?_);conv=>whnf
 refine⟨_,zht _ _ (zBm m.ts t p.c),?_⟩;conv=>whnf
 refine zaD (l:=[(0,.pt 0 []),(1,I t),(5,I before),(6,.pt 3 []),(7,.pt 4 []),(8,.pt 5 []),(9,B p.e)]) (m':=M6 {m with x:=p.x,ts:=zaq m.ts t {m.ts t with c:=p.c}} a b [.d (zar run),.d (zdL p.c),.d (zaK p.r)]) ⟨rfl,rfl,rfl,rfl,rfl,rfl,rfl,trivial⟩ rfl ?_;refine zab zaa ?_;conv=>whnf
 refine⟨fun h1=>?_,fun h1=>?_⟩
 ·have h1:p.e=true:=h1;rw[h1];conv=>whnf
  have hI:I64 ((p.x.q.length:Int) - before):=zac (by omega) (by omega);refine⟨fun h2=>?_,fun h2=>?_⟩
  ·have h2:((p.r.e != 0)||(p.c.c.do_ != 2))=true:=h2;rw[h2];conv=>whnf
   refine zao zaa (by kernel_rfl) 15 (by kernel_rfl) ?_;conv=>whnf
   refine⟨zac (x:=((zL p.x.q).length:Int)) (by omega) (by rw[zFH];omega),?_⟩;conv=>whnf
   refine zam (zic zaO before ((zL p.x.q).length:Int) (by rw[zFH];exact hI)) (fun _ h=>h) ?_;conv=>whnf
   refine zh7 (m:={m with x:=p.x,ts:=zaq m.ts t {m.ts t with c:=p.c}}) ht p.c (zk9 zaO before ((zL p.x.q).length:Int)) p.r (by show TskOk (zaq m.ts t {m.ts t with c:=p.c} t).t;rw[zag];exact hT) hev fun b'=>?_;conv=>whnf
   refine⟨zaJ rfl (za6 rfl p.x a),rfl,a,b',?_⟩;show MM (znb ({m with x:=p.x,ts:=zaq m.ts t {m.ts t with c:=p.c}}) t p.c (zk9 zaO before ((zL p.x.q).length:Int)) p.r) a b'=MM (znb ({m with x:=p.x,ts:=zaq m.ts t {m.ts t with c:=p.c}}) t p.c (zk9 zaO before (p.x.q.length:Int)) p.r) a b';rw[zFH]
  ·have h2:((p.r.e != 0)||(p.c.c.do_ != 2))=false:=h2;rw[h2];conv=>whnf
   refine zao zaa (by kernel_rfl) 15 (by kernel_rfl) ?_;conv=>whnf
   refine⟨zac (x:=((zL p.x.q).length:Int)) (by omega) (by rw[zFH];omega),?_⟩;conv=>whnf
   refine zam (zic run before ((zL p.x.q).length:Int) (by rw[zFH];exact hI)) (fun _ h=>h) ?_;conv=>whnf
   refine zh7 (m:={m with x:=p.x,ts:=zaq m.ts t {m.ts t with c:=p.c}}) ht p.c (zk9 run before ((zL p.x.q).length:Int)) p.r (by show TskOk (zaq m.ts t {m.ts t with c:=p.c} t).t;rw[zag];exact hT) hev fun b'=>?_;conv=>whnf
   refine⟨zaJ rfl (za6 rfl p.x a),rfl,a,b',?_⟩;show MM (znb ({m with x:=p.x,ts:=zaq m.ts t {m.ts t with c:=p.c}}) t p.c (zk9 run before ((zL p.x.q).length:Int)) p.r) a b'=MM (znb ({m with x:=p.x,ts:=zaq m.ts t {m.ts t with c:=p.c}}) t p.c (zk9 run before (p.x.q.length:Int)) p.r) a b';rw[zFH]
 ·have h1:p.e=false:=h1;rw[h1];conv=>whnf
  exact⟨zaJ rfl (za6 rfl p.x a),rfl,a,b,rfl⟩
theorem zum{t:Nat}(ht:t<8){before:Int}{run:Rn}{p:Sp}(hT:TskOk (m.ts t).t)(hev:m.ev.length≤1000000)(hb:0≤before∧before≤1000000)(hq:p.x.q.length≤1000000):Ok Tryz.prog Tryz.f68.ntmps false (zbR 4 (zbE Tryz.f68)) (zdx [(0,.pt 0 []),(1,I t),(4,.pt 0 [1,t]),(5,I before),(6,.pt 3 []),(7,.pt 5 []),(8,.pt 4 []),(9,B p.e)] []) (M6 {m with x:=p.x} a b [.d (zar run),.d (zaK p.r),.d (zdL p.c)]) (zeJ tbl 3 2 0 Tryz.f68.results.toList fun o m'=>o=unR∧∃a2 b2,m'=MM (bif p.e then znb {m with x:=p.x,ts:=zaq m.ts t {m.ts t with c:=p.c}} t p.c (zk9 (bif (p.r.e != 0)||(p.c.c.do_ != 2)then zaO else run) before p.x.q.length) p.r else{m with x:=p.x,ts:=zaq m.ts t {m.ts t with c:=p.c}}) a2 b2):=by
 refine zav (zab zaa ?_);conv=>whnf
 refine⟨_,zht _ _ (zBm m.ts t p.c),?_⟩;conv=>whnf
 refine zaD (l:=[(0,.pt 0 []),(1,I t),(5,I before),(6,.pt 3 []),(7,.pt 5 []),(8,.pt 4 []),(9,B p.e)]) (m':=M6 {m with x:=p.x,ts:=zaq m.ts t {m.ts t with c:=p.c}} a b [.d (zar run),.d (zaK p.r),.d (zdL p.c)]) ⟨rfl,rfl,rfl,rfl,rfl,rfl,rfl,trivial⟩ rfl ?_;refine zab zaa ?_;conv=>whnf
 refine⟨fun h1=>?_,fun h1=>?_⟩
 ·have h1:p.e=true:=h1;rw[h1];conv=>whnf
  have hI:I64 ((p.x.q.length:Int) - before):=zac (by omega) (by omega);refine⟨fun h2=>?_,fun h2=>?_⟩
  ·have h2:((p.r.e != 0)||(p.c.c.do_ != 2))=true:=h2;rw[h2];conv=>whnf
   refine zao zaa (by kernel_rfl) 15 (by kernel_rfl) ?_;conv=>whnf
   refine⟨zac (x:=((zL p.x.q).length:Int)) (by omega) (by rw[zFH];omega),?_⟩;conv=>whnf
   refine zam (zic zaO before ((zL p.x.q).length:Int) (by rw[zFH];exact hI)) (fun _ h=>h) ?_;conv=>whnf
   refine zh7 (m:={m with x:=p.x,ts:=zaq m.ts t {m.ts t with c:=p.c}}) ht p.c (zk9 zaO before ((zL p.x.q).length:Int)) p.r (by show TskOk (zaq m.ts t {m.ts t with c:=p.c} t).t;rw[zag];exact hT) hev fun b'=>?_;conv=>whnf
   refine⟨zaJ rfl (za6 rfl p.x a),rfl,a,b',?_⟩;show MM (znb ({m with x:=p.x,ts:=zaq m.ts t {m.ts t with c:=p.c}}) t p.c (zk9 zaO before ((zL p.x.q).length:Int)) p.r) a b'=MM (znb ({m with x:=p.x,ts:=zaq m.ts t {m.ts t with c:=p.c}}) t p.c (zk9 zaO before (p.x.q.length:Int)) p.r) a b';rw[zFH]
  ·have h2:((p.r.e != 0)||(p.c.c.do_ != 2))=false:=h2;rw[h2];conv=>whnf
   refine zao zaa (by kernel_rfl) 15 (by kernel_rfl) ?_;conv=>whnf
   refine⟨zac (x:=((zL p.x.q).length:Int)) (by omega) (by rw[zFH];omega),?_⟩;conv=>whnf
   refine zam (zic run before ((zL p.x.q).length:Int) (by rw[zFH];exact hI)) (fun _ h=>h) ?_;conv=>whnf
   refine zh7 (m:={m with x:=p.x,ts:=zaq m.ts t {m.ts t with c:=p.c}}) ht p.c (zk9 run before ((zL p.x.q).length:Int)) p.r (by show TskOk (zaq m.ts t {m.ts t with c:=p.c} t).t;rw[zag];exact hT) hev fun b'=>?_;conv=>whnf
   refine⟨zaJ rfl (za6 rfl p.x a),rfl,a,b',?_⟩;show MM (znb ({m with x:=p.x,ts:=zaq m.ts t {m.ts t with c:=p.c}}) t p.c (zk9 run before ((zL p.x.q).length:Int)) p.r) a b'=MM (znb ({m with x:=p.x,ts:=zaq m.ts t {m.ts t with c:=p.c}}) t p.c (zk9 run before (p.x.q.length:Int)) p.r) a b';rw[zFH]
 ·have h1:p.e=false:=h1;rw[h1];conv=>whnf
  exact⟨zaJ rfl (za6 rfl p.x a),rfl,a,b,rfl⟩
theorem zxd{t:Nat}(ht:t<8)(hT:TskOk (m.ts t).t)(hev:m.ev.length≤1000000)(hw:WOk m.x (m.ts t).c t)(hq:(za1 m.x (m.ts t).c).x.q.length≤1000000):Con Tryz.prog 68 [.pt 0 [],I t] (MM m a b) fun o m'=>o=unR∧∃a2 b2,m'=MM (zkL m t) a2 b2:=by
 have hq0:=hw.q;have hpost:zkL m t=bif (za1 m.x (m.ts t).c).e then znb {m with x:=(za1 m.x (m.ts t).c).x,ts:=zaq m.ts t {m.ts t with c:=(za1 m.x (m.ts t).c).c}} t (za1 m.x (m.ts t).c).c (zk9 (bif ((za1 m.x (m.ts t).c).r.e != 0)||((za1 m.x (m.ts t).c).c.c.do_ != 2)then zaO else(m.ts t).c.run) m.x.q.length (za1 m.x (m.ts t).c).x.q.length) (za1 m.x (m.ts t).c).r else{m with x:=(za1 m.x (m.ts t).c).x,ts:=zaq m.ts t {m.ts t with c:=(za1 m.x (m.ts t).c).c}}:=rfl
 have hS:∀{c2:List SV} {K:Out→MS→Prop},(∀a',K (.ret (T3 (.d (zdL (za1 m.x (m.ts t).c).c)) (.d (zaK (za1 m.x (m.ts t).c).r)) (B (za1 m.x (m.ts t).c).e))) ⟨za9 m b::.d (zaH (za1 m.x (m.ts t).c).x.p)::zaT (za1 m.x (m.ts t).c).x a'::c2,[a',b],[]⟩)→Con Tryz.prog 124 [.pt 2 [],.d (zdL (m.ts t).c)] ⟨za9 m b::.d (zaH m.x.p)::zaT m.x a::c2,[a,b],[]⟩ K:=fun hK=>
  zra (a:=a) (b:=b) (zhU m b) (zzD (zhU m b) hw) rfl (fun o m ⟨_,a',h⟩=>⟨_,a',h⟩) fun o x' a' ⟨ho,a2,hm2⟩=>by have e1:=congrArg MS.c hm2;have e2:=congrArg MS.t hm2;simp only[zFD,zFE,zFF]at e1 e2;obtain⟨e3,e1⟩:=e1;subst ho e2;rw[e3,e1];exact hK a'
 have h0:=fun a=>zul (m:=m) (a:=a) (b:=b) ht (before:=(m.x.q.length:Int)) (run:=(m.ts t).c.run) (p:=za1 m.x (m.ts t).c) hT hev ⟨by omega,by omega⟩ hq;have h1:=fun a=>zum (m:=m) (a:=a) (b:=b) ht (before:=(m.x.q.length:Int)) (run:=(m.ts t).c.run) (p:=za1 m.x (m.ts t).c) hT hev ⟨by omega,by omega⟩ hq;rw[←hpost]at h0 h1;generalize za1 m.x (m.ts t).c=p at hS h0 h1;refine zcp Tryz.func68 rfl (by kernel_rfl) rfl rfl ?_;refine zav (zab zaa ?_);conv=>whnf
 refine⟨⟨(by omega:(0:Int)≤(t:Int)),(by omega:(t:Int)<8)⟩,?_⟩;conv=>whnf
 refine zav (zab zaa ?_);conv=>whnf
 refine⟨zac (x:=((zL m.x.q).length:Int)) (by omega) (by rw[zFH];omega),?_⟩;conv=>whnf
 refine zav (zab zaa ?_);conv=>whnf
 have el:(zL m.x.q).length=m.x.q.length:=by rw[zFH]
 refine zaD (l:=[(0,.pt 0 []),(1,I t),(4,.pt 0 [1,t]),(5,I m.x.q.length),(6,.pt 3 [])]) (m':=M6 m a b [.d (zar (m.ts t).c.run)]) ⟨rfl,rfl,rfl,congrArg (fun n:Nat=>some (I n)) el,rfl,trivial⟩ rfl ?_;refine zav (zab zaa ?_);conv=>whnf
 refine zux (by kernel_rfl) ?_;refine zff 8 13 (by decide) (zff 13 14 (by decide) ?_ (zff 8 14 (by decide) ?_ ?_)) (zff 8 14 (by decide) ?_ (zff 13 14 (by decide) ?_ ?_))
 ·refine zfD zaa (by kernel_rfl) (fun i=>[0,1,2,3,4,5,6,7,8,9,10,11,12,13,14,15,16,17].getD i 0) [0,1,2,3,4,5,6,7,8,9,10,11,12,13,14,15,16,17] [(8,0),(13,7935),(14,7935),(15,6144),(16,4096)] (by repeat first|exact .refl|refine .add _ _ ?_ rfl) (by kernel_rfl) ?_;conv=>whnf
  refine hS fun a'=>?_;conv=>whnf
  refine⟨(show _∧_ from⟨rfl,rfl⟩),zas ?_ ?_⟩;rotate_left
  ·repeat' (first|exact trivial|refine And.intro (show _∧_ from⟨rfl,rfl⟩) ?_)
  conv=>whnf
  refine⟨(show _∧_ from⟨rfl,rfl⟩),zas ?_ ?_⟩;rotate_left
  ·repeat' (first|exact trivial|refine And.intro (show _∧_ from⟨rfl,rfl⟩) ?_)
  conv=>whnf
  exact zaD (l:=[(0,.pt 0 []),(1,I t),(4,.pt 0 [1,t]),(5,I m.x.q.length),(6,.pt 3 []),(7,.pt 4 []),(8,.pt 5 []),(9,B p.e)]) ⟨rfl,rfl,rfl,rfl,rfl,rfl,rfl,rfl,trivial⟩ rfl (h0 a')
 ·refine zfD zaa (by kernel_rfl) (fun i=>[0,1,2,3,4,5,6,7,8,9,10,11,12,14,13,15,16,17].getD i 0) [0,1,2,3,4,5,6,7,8,9,10,11,12,14,13,15,16,17] [(8,0),(13,7935),(14,7935),(15,6144),(16,4096)] (by repeat first|exact .refl|refine .add _ _ ?_ rfl) (by kernel_rfl) ?_;conv=>whnf
  refine hS fun a'=>?_;conv=>whnf
  refine⟨(show _∧_ from⟨rfl,rfl⟩),zas ?_ ?_⟩;rotate_left
  ·repeat' (first|exact trivial|refine And.intro (show _∧_ from⟨rfl,rfl⟩) ?_)
  conv=>whnf
  refine⟨(show _∧_ from⟨rfl,rfl⟩),zas ?_ ?_⟩;rotate_left
  ·repeat' (first|exact trivial|refine And.intro (show _∧_ from⟨rfl,rfl⟩) ?_)
  conv=>whnf
  exact zaD (l:=[(0,.pt 0 []),(1,I t),(4,.pt 0 [1,t]),(5,I m.x.q.length),(6,.pt 3 []),(7,.pt 5 []),(8,.pt 4 []),(9,B p.e)]) ⟨rfl,rfl,rfl,rfl,rfl,rfl,rfl,rfl,trivial⟩ rfl (h1 a')
 ·refine zfD zaa (by kernel_rfl) (fun i=>[0,1,2,3,4,5,6,7,9,10,11,12,13,14,8,15,16,17].getD i 0) [0,1,2,3,4,5,6,7,14,8,9,10,11,12,13,15,16,17] [(8,0),(13,7935),(14,7935),(15,6144),(16,4096)] (by repeat first|exact .refl|refine .add _ _ ?_ rfl) (by kernel_rfl) ?_;conv=>whnf
  refine⟨(show _∧_ from⟨rfl,rfl⟩),zas ?_ ?_⟩;rotate_left
  ·repeat' (first|exact trivial|refine And.intro (show _∧_ from⟨rfl,rfl⟩) ?_)
  conv=>whnf
  refine hS fun a'=>?_;conv=>whnf
  refine⟨(show _∧_ from⟨rfl,rfl⟩),zas ?_ ?_⟩;rotate_left
  ·repeat' (first|exact trivial|refine And.intro (show _∧_ from⟨rfl,rfl⟩) ?_)
  conv=>whnf
  exact zaD (l:=[(0,.pt 0 []),(1,I t),(4,.pt 0 [1,t]),(5,I m.x.q.length),(6,.pt 3 []),(7,.pt 5 []),(8,.pt 4 []),(9,B p.e)]) ⟨rfl,rfl,rfl,rfl,rfl,rfl,rfl,rfl,trivial⟩ rfl (h1 a')
 ·refine zfD zaa (by kernel_rfl) (fun i=>[0,1,2,3,4,5,6,7,9,10,11,12,13,8,14,15,16,17].getD i 0) [0,1,2,3,4,5,6,7,13,8,9,10,11,12,14,15,16,17] [(8,0),(13,7935),(14,7935),(15,6144),(16,4096)] (by repeat first|exact .refl|refine .add _ _ ?_ rfl) (by kernel_rfl) ?_;conv=>whnf
  refine⟨(show _∧_ from⟨rfl,rfl⟩),zas ?_ ?_⟩;rotate_left
  ·repeat' (first|exact trivial|refine And.intro (show _∧_ from⟨rfl,rfl⟩) ?_)
  conv=>whnf
  refine hS fun a'=>?_;conv=>whnf
  refine⟨(show _∧_ from⟨rfl,rfl⟩),zas ?_ ?_⟩;rotate_left
  ·repeat' (first|exact trivial|refine And.intro (show _∧_ from⟨rfl,rfl⟩) ?_)
  conv=>whnf
  exact zaD (l:=[(0,.pt 0 []),(1,I t),(4,.pt 0 [1,t]),(5,I m.x.q.length),(6,.pt 3 []),(7,.pt 4 []),(8,.pt 5 []),(9,B p.e)]) ⟨rfl,rfl,rfl,rfl,rfl,rfl,rfl,rfl,trivial⟩ rfl (h0 a')
 ·refine zfD zaa (by kernel_rfl) (fun i=>[0,1,2,3,4,5,6,7,10,11,12,13,14,8,9,15,16,17].getD i 0) [0,1,2,3,4,5,6,7,13,14,8,9,10,11,12,15,16,17] [(8,0),(13,7935),(14,7935),(15,6144),(16,4096)] (by repeat first|exact .refl|refine .add _ _ ?_ rfl) (by kernel_rfl) ?_;conv=>whnf
  refine⟨(show _∧_ from⟨rfl,rfl⟩),zas ?_ ?_⟩;rotate_left
  ·repeat' (first|exact trivial|refine And.intro (show _∧_ from⟨rfl,rfl⟩) ?_)
  conv=>whnf
  refine⟨(show _∧_ from⟨rfl,rfl⟩),zas ?_ ?_⟩;rotate_left
  ·repeat' (first|exact trivial|refine And.intro (show _∧_ from⟨rfl,rfl⟩) ?_)
  conv=>whnf
  refine hS fun a'=>?_;conv=>whnf
  exact zaD (l:=[(0,.pt 0 []),(1,I t),(4,.pt 0 [1,t]),(5,I m.x.q.length),(6,.pt 3 []),(7,.pt 4 []),(8,.pt 5 []),(9,B p.e)]) ⟨rfl,rfl,rfl,rfl,rfl,rfl,rfl,rfl,trivial⟩ rfl (h0 a')
 ·refine zfD zaa (by kernel_rfl) (fun i=>[0,1,2,3,4,5,6,7,10,11,12,13,14,9,8,15,16,17].getD i 0) [0,1,2,3,4,5,6,7,14,13,8,9,10,11,12,15,16,17] [(8,0),(13,7935),(14,7935),(15,6144),(16,4096)] (by repeat first|exact .refl|refine .add _ _ ?_ rfl) (by kernel_rfl) ?_;conv=>whnf
  refine⟨(show _∧_ from⟨rfl,rfl⟩),zas ?_ ?_⟩;rotate_left
  ·repeat' (first|exact trivial|refine And.intro (show _∧_ from⟨rfl,rfl⟩) ?_)
  conv=>whnf
  refine⟨(show _∧_ from⟨rfl,rfl⟩),zas ?_ ?_⟩;rotate_left
  ·repeat' (first|exact trivial|refine And.intro (show _∧_ from⟨rfl,rfl⟩) ?_)
  conv=>whnf
  refine hS fun a'=>?_;conv=>whnf
  exact zaD (l:=[(0,.pt 0 []),(1,I t),(4,.pt 0 [1,t]),(5,I m.x.q.length),(6,.pt 3 []),(7,.pt 5 []),(8,.pt 4 []),(9,B p.e)]) ⟨rfl,rfl,rfl,rfl,rfl,rfl,rfl,rfl,trivial⟩ rfl (h1 a')
end
end Sx
namespace Sx
attribute [local irreducible] Con zax zan zau zai zaw zbt zak zaC zbh zba I64
section
variable {m:Mc} {a b:Nat}
theorem zoB{t:Nat}(ht:t<8)(hT:TskOk (m.ts t).t)(hev:m.ev.length≤1000000)(hw:WOk m.x (m.ts t).c t)(hq:(za1 m.x (m.ts t).c).x.q.length≤1000000){c2:List SV}{K:Out→MS→Prop}(hK:∀a2 b2,K unR ⟨za9 (zkL m t) b2::.d (zaH (zkL m t).x.p)::zaT (zkL m t).x a2::c2,[a2,b2],[]⟩):Con Tryz.prog 68 [.pt 0 [],I t] ⟨za9 m b::.d (zaH m.x.p)::zaT m.x a::c2,[a,b],[]⟩ K:=
 zal (zcb c2 [] [] (zxd (m:=m) (a:=a) (b:=b) ht hT hev hw hq) rfl (by show(zaG 3 2 0 [za9 m b,.d (zaH m.x.p),zaT m.x a]&&zbH 3 2 0 [])=true;rw[za6 rfl m.x a];rfl) fun o m' hm=>by
  obtain⟨_,a2,b2,rfl⟩:=hm;exact⟨rfl,rfl,rfl⟩) fun o m' ⟨m2,⟨h1,a2,b2,h3⟩,h2⟩=>by
  subst h3 h2 h1;exact hK a2 b2
theorem zyH{t:Nat}(ht:t<8)(hT:TskOk (m.ts t).t)(hev:m.ev.length≤1000000)(hb:(m.ts t).busy=true→WOk m.x (m.ts t).c t)(hw:(m.ts t).busy=false→zda (m.ts t).t=true→WOk m.x {rt0 with task:=t,c:=zcw (m.ts t).t} t)(hq:∀c,WOk m.x c t→(za1 m.x c).x.q.length≤1000000):Con Tryz.prog 32 [.pt 0 [],I t] (MM m a b) fun o m'=>o=unR∧∃a2 b2,m'=MM (zjS m t) a2 b2:=by
 refine zcp Tryz.func32 rfl (by kernel_rfl) rfl rfl ?_;refine zav (zab zaa ?_);conv=>whnf
 refine⟨⟨(by omega:(0:Int)≤(t:Int)),(by omega:(t:Int)<8)⟩,?_⟩;conv=>whnf
 refine zav (zab zaa ?_);conv=>whnf
 refine zad (zni hT) ?_;conv=>whnf
 refine zaD (l:=[(0,.pt 0 []),(1,I t),(4,.pt 0 [1,t]),(5,.pt 3 []),(6,B (zda (m.ts t).t))]) (m':=M6 m a b [.d (zaW (zcw (m.ts t).t))]) ⟨rfl,rfl,rfl,rfl,rfl,trivial⟩ rfl ?_;refine zab zaa ?_;conv=>whnf
 refine⟨fun h1=>?_,fun h1=>?_⟩
 ·have h1:(m.ts t).busy=true:=h1;rw[show zjS m t=zkL m t by unfold zjS;rw[h1];rfl];conv=>whnf
  refine zoB (a:=a) (b:=b) ht hT hev (hb h1) (hq _ (hb h1)) fun a2 b2=>?_;conv=>whnf
  exact⟨zaJ rfl (za6 rfl (zkL m t).x a2),rfl,a2,b2,rfl⟩
 ·have h1:(m.ts t).busy=false:=h1;conv=>whnf
  refine⟨fun h2=>?_,fun h2=>?_⟩
  ·have h2:zda (m.ts t).t=true:=h2;rw[show zjS m t=zkL (zoD m t) t by unfold zjS;rw[h1,h2];rfl];have hts:((zoD m t).ts t)={m.ts t with c:={rt0 with task:=t,c:=zcw (m.ts t).t},busy:=true,frm:=m.now}:=zag _ _ _;conv=>whnf
   refine zaA zaa (by kernel_rfl) (List.range 19) [(12,6),(15,4),(18,0)] (by kernel_rfl) ?_;conv=>whnf
   refine⟨za9 {m with ts:=zaq m.ts t {m.ts t with c:={rt0 with task:=t,c:=zcw (m.ts t).t}}} b,zht _ _ (zBm m.ts t {rt0 with task:=t,c:=zcw (m.ts t).t}),?_⟩;conv=>whnf
   refine⟨za9 {m with ts:=zaq m.ts t {m.ts t with c:={rt0 with task:=t,c:=zcw (m.ts t).t},busy:=true}} b,(zht _ _ ((zC5 (zaq m.ts t {m.ts t with c:={rt0 with task:=t,c:=zcw (m.ts t).t}}) t true).trans (congrArg zeI (by rw[zjx,zag])))),?_⟩;conv=>whnf
   refine⟨za9 (zoD m t) b,(zht _ _ ((zFn (zaq m.ts t {m.ts t with c:={rt0 with task:=t,c:=zcw (m.ts t).t},busy:=true}) t m.now).trans (congrArg zeI (by rw[zjx,zag];rfl)))),?_⟩;conv=>whnf
   refine zoB (m:=zoD m t) (a:=a) (b:=b) ht (by rw[hts];exact hT) hev (by rw[hts];exact hw h1 h2) (by rw[hts];exact hq _ (hw h1 h2)) fun a2 b2=>?_;conv=>whnf
   exact⟨zaJ rfl (za6 rfl (zkL (zoD m t) t).x a2),rfl,a2,b2,rfl⟩
  ·have h2:zda (m.ts t).t=false:=h2;rw[show zjS m t={m with ts:=zaq m.ts t {m.ts t with t:=zhG (m.ts t).t}} by unfold zjS;rw[h1,h2];rfl];conv=>whnf
   refine zad (zzE hT) ?_;conv=>whnf
   refine⟨_,zht _ _ (zC4 m.ts t (zhG (m.ts t).t)),?_⟩;conv=>whnf
   exact⟨zaJ rfl (za6 rfl m.x a),rfl,a,b,rfl⟩
end
end Sx
end Go.Proofs.YtfbhkfhbnkncoaaGreatDoor
