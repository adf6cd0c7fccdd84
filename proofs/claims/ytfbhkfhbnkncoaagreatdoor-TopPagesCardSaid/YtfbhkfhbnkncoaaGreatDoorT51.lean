import Derived.Test.YtfbhkfhbnkncoaaGreatDoorT50
set_option linter.all false
set_option maxRecDepth 100000
set_option maxHeartbeats 4000000
namespace Go.Proofs.YtfbhkfhbnkncoaaGreatDoor
open Go.RowKit
namespace Sx
attribute [local irreducible] Con zax zan zau zai zaw zbt zak zaC zbh zba I64
section
variable {m:Mc} {a b:Nat} {asg body:Code} {N:Nat} {fr:List Ent}
theorem zco{f:FuncId}{args:List SV}{v:SV}{c2:List SV}{t2:List Nat}{o2:List Ob}(h:Con Tryz.prog f args (MM m a b) fun o m'=>o=.ret v∧m'=MM m a b)(ha:zaG 3 2 0 args=true):Con Tryz.prog f args ⟨za9 m b::.d (zaH m.x.p)::zaT m.x a::c2,a::b::t2,o2⟩ fun o m'=>o=.ret v∧m'=⟨za9 m b::.d (zaH m.x.p)::zaT m.x a::c2,a::b::t2,o2⟩:=
 zal (zcb c2 t2 o2 h ha (by show(zaG 3 2 0 [za9 m b,.d (zaH m.x.p),zaT m.x a]&&zbH 3 2 0 [])=true;rw[za6 rfl m.x a];rfl) fun o m' hm=>⟨hm.2▸rfl,hm.2▸rfl,hm.2▸rfl⟩) (by
  rintro o m' ⟨m2,⟨rfl,rfl⟩,rfl⟩;exact⟨rfl,rfl⟩)
theorem zqb(t:Tb){l:List Int}{i:Nat}(h:i<l.length):zbC t (l.take (i+1))=zbC t (l.take i)++(zaj t (l.getD i 0)).rs∧zbC t l=zbC t (l.take (i+1))++zbC t (l.drop (i+1)):=by
 have e:l.getD i 0=l[i]'h:=by rw[zG9,zHa h];rfl
 refine⟨?_,?_⟩
 ·rw[e,zHb,zHa h];unfold zbC;rw[zFX];show _++((zaj t l[i]).rs++[])=_;rw[zHm]
 ·unfold zbC;rw[←zFX,zG1]
def zb8(m:Mc)(n:Nat):List Int:=(List.range n).flatMap fun i=>pg (zqF m (i:Nat)).run
theorem znq(m:Mc){i n:Nat}(h:i<n):zb8 m (i+1)=zb8 m i++pg (zqF m i).run∧∃r,zb8 m n=zb8 m (i+1)++r:=by
 refine⟨?_,?_⟩
 ·unfold zb8;rw[zFW,zFX];show _++(pg (zqF m i).run++[])=_;rw[zHm]
 ·obtain⟨k,rfl⟩:∃k,n=(i+1)+k:=⟨n -(i+1),by omega⟩;refine⟨(List.range k).flatMap fun j=>pg (zqF m (i+1+j:Nat)).run,?_⟩;unfold zb8;rw[List.range_add,zFX,List.flatMap_map]
theorem zu6{c:Cnt}(hfr:∀n,11≤n→n≤13→zbH n 2 1 [.loop [13,14] asg body N fr .ready]=true)
 (hround:∀(k:Nat) (c:Cnt) (p:Int) (R:List Int) (e:List SV),k<4→Fit c (p::R)→zak Tryz.prog 0 [13,14] asg body N fr [I p,.pt 5 [k]] ⟨CB m a b c++e,[a,b],[.loop [13,14] asg body N fr .ready]⟩ fun v m'=>v=B true∧m'=⟨CB m a b (zfd c k [p])++e,[a,b],[.loop [13,14] asg body N fr .ready]⟩)
 (hfit:Fit c (pgs m.x.p.fr++(pgs (zbC m.x.s.t (zb6 m.x.s.t.b))++(zb8 m 8++m.x.q))))
 (hgl:∀h,(zaj m.x.s.t h).rs.length≤1000)(hr:∀i,i<8→(m.ts i).c.regs.length≤64)(hfl:m.x.p.fr.length≤1000)(hq:m.x.q.length≤1000):
 Con Tryz.prog 94 [.ob (.yl 0),.pt 9 [],.pt 8 [],.pt 7 []] ⟨CB m a b c,[a,b],[.loop [13,14] asg body N fr .ready]⟩ fun o m'=>o=unR∧m'=⟨CB m a b (zfd (zfd (zfd (zfd c 0 (pgs m.x.p.fr)) 1 (pgs (zbC m.x.s.t (zb6 m.x.s.t.b)))) 2 (zb8 m 8)) 3 m.x.q)++[.ob (.yl 0)],[a,b],[.loop [13,14] asg body N fr .ready]⟩:=by
 refine zjj Tryz.func94 rfl (by kernel_rfl) rfl rfl ?_;refine zav (zab zaa ?_);conv=>whnf
 refine zaD (l:=[(1,.pt 9 []),(2,.pt 8 []),(3,.pt 7 []),(4,.pt 10 [])]) (m':=⟨CB m a b c++[.ob (.yl 0)],[a,b],[.loop [13,14] asg body N fr .ready]⟩) ⟨rfl,rfl,rfl,rfl,trivial⟩ rfl ?_;refine zav (zab zaa ?_);conv=>whnf
 refine zaD (l:=[(1,.pt 9 []),(2,.pt 8 []),(3,.pt 7 []),(4,.pt 10 []),(5,.fn (.func 95) (.pr (.pt 10 []) (.d .un)))]) (m':=⟨CB m a b c++[.ob (.yl 0)],[a,b],[.loop [13,14] asg body N fr .ready]⟩) ⟨rfl,rfl,rfl,rfl,rfl,trivial⟩ rfl ?_;refine zav (zab zaa ?_);conv=>whnf
 refine zao zaa (by kernel_rfl) 8 (by kernel_rfl) ?_;conv=>whnf
 refine zdO (v:=.d (zeT m.x.p.fr)) (zco (zng (Z:=za9 m b) (p:=m.x.p) (C:=zaT m.x a) (zg5 (zhU m b) m.x a)) rfl) (fun _ h=>h) ?_;conv=>whnf
 refine zam (zvI m.x.p.fr (by omega)) (fun _ h=>h) ?_;conv=>whnf
 refine zal (Con.le (zCb (k:=0) (by decide) (l:=m.x.p.fr) (by omega) hfit (hfr 11 (by decide) (by decide)) (hfr 12 (by decide) (by decide)) fun c p R r hF=>hround 0 c p R _ (by decide) hF) ⟨zbZ zca zar rn0 m.x.p.fr,SV.le_refl _,SV.le_refl _,trivial⟩) ?_;rintro _ _ ⟨rfl,rfl⟩;have hfit1:=hfit.add (k:=0);generalize zfd c 0 (pgs m.x.p.fr)=c1 at hfit1 ⊢;conv=>whnf
 refine⟨(fun h=>by cases h),fun _=>?_⟩;conv=>whnf
 refine zaD (l:=[(1,.pt 9 []),(2,.pt 8 []),(3,.pt 7 []),(4,.pt 10 []),(5,.fn (.func 95) (.pr (.pt 10 []) (.d .un)))]) (m':=⟨CB m a b c1++[.ob (.yl 0)],[a,b],[.loop [13,14] asg body N fr .ready]⟩) ⟨rfl,rfl,rfl,rfl,rfl,trivial⟩ rfl ?_;refine zav (zab zaa ?_);conv=>whnf
 refine zad ((zqH m.x.s.t.b).out (zbZ .c hD 0 (zb6 m.x.s.t.b))) ?_;conv=>whnf
 have hal:(zb6 m.x.s.t.b).length≤32:=zem _;generalize hAL:zb6 m.x.s.t.b=AL at hal hfit1 ⊢;refine⟨zac (x:=(AL.length:Int)) (by omega) (by omega),?_⟩;conv=>whnf
 refine zaB zaa (fun i=>i≤AL.length) (fun i=>AL.length - i) (fun i=>[(33,I i)]) (fun i=>⟨CB m a b (zfd c1 1 (pgs (zbC m.x.s.t (AL.take i))))++[.ob (.yl 0)],[a,b],[.loop [13,14] asg body N fr .ready]⟩) 0 (zFV _) ⟨rfl,trivial⟩ (by rw[show pgs (zbC m.x.s.t (AL.take 0))=[] from rfl,zgz]) (fun i=>⟨zF5 _,zF5 _,zF5 _⟩) ?_
 ·intro i hi;conv=>whnf
  refine⟨fun ht=>?_,fun ht=>?_⟩
  ·have hlt:i<AL.length:=by
    have:(i:Int)<(AL.length:Int):=by simpa using ht
    omega
   conv=>whnf
   refine⟨⟨(by omega:(0:Int)≤(i:Int)),(by omega:(i:Int)<(AL.length:Int))⟩,?_⟩;conv=>whnf
   refine zad (zlS m.x.s.t (AL.getD i 0)) ?_;conv=>whnf
   obtain⟨s1,s2⟩:=zqb m.x.s.t hlt;have hrl:=hgl (AL.getD i 0);generalize zaj m.x.s.t (AL.getD i 0)=g at s1 hrl ⊢;refine zao zaa (by kernel_rfl) 7 (by kernel_rfl) ?_;conv=>whnf
   refine zal (Con.le (zzI (k:=1) (z:=zdX g) (by decide) (l:=g.rs) (by omega) (c:=zfd c1 1 (pgs (zbC m.x.s.t (AL.take i)))) (R:=pgs (zbC m.x.s.t (AL.drop (i+1)))++(zb8 m 8++m.x.q)) (Fit.add (by rw[s2,s1,zcP,zcP]at hfit1;simpa using hfit1)) (hfr 12 (by decide) (by decide)) (hfr 13 (by decide) (by decide)) fun c p R r hF=>hround 1 c p R _ (by decide) hF) ⟨zbZ zca zar rn0 g.rs,SV.le_refl _,SV.le_refl _,trivial⟩) ?_;rintro _ _ ⟨rfl,rfl⟩;conv=>whnf
   refine⟨(fun h=>by cases h),fun _=>?_⟩;conv=>whnf
   refine⟨zac (x:=(i:Int)+1) (by omega) (by omega),?_⟩;conv=>whnf
   refine⟨i+1,hlt,by omega,⟨rfl,trivial⟩,⟨?_,(by show(_&&zbH 11 2 1 [_])=true;rw[hfr 11 (by decide) (by decide)];rfl)⟩,rfl⟩;rw[zgy,s1,zcP];rfl
  ·have hlt:i=AL.length:=by
    have:¬(i:Int)<(AL.length:Int):=by simpa using ht
    omega
   subst hlt;rw[zHe];have hfit2:=hfit1.add (k:=1);generalize zfd c1 1 (pgs (zbC m.x.s.t AL))=c2 at hfit2 ⊢;conv=>whnf
   refine zaD (l:=[(1,.pt 9 []),(2,.pt 8 []),(3,.pt 7 []),(4,.pt 10 []),(5,.fn (.func 95) (.pr (.pt 10 []) (.d .un)))]) (m':=⟨CB m a b c2++[.ob (.yl 0)],[a,b],[.loop [13,14] asg body N fr .ready]⟩) ⟨rfl,rfl,rfl,rfl,rfl,trivial⟩ rfl ?_;refine zav (zab zaa ?_);conv=>whnf
   refine zaB zaa (fun i=>i≤8) (fun i=>8 - i) (fun i=>[(56,I i)]) (fun i=>⟨CB m a b (zfd c2 2 (zb8 m i))++[.ob (.yl 0)],[a,b],[.loop [13,14] asg body N fr .ready]⟩) 0 (zFV _) ⟨rfl,trivial⟩ (by rw[show zb8 m 0=[] from rfl,zgz]) (fun i=>⟨zF5 _,zF5 _,zF5 _⟩) ?_;intro i hi;conv=>whnf
   refine⟨fun ht=>?_,fun ht=>?_⟩
   ·have hlt:i<8:=by
     have:(i:Int)<8:=by simpa using ht
     omega
    obtain⟨s1,r,s2⟩:=znq m hlt;conv=>whnf
    refine zal (zco (zq3 (m:=m) (a:=a) (b:=b) (i:Int) hr) rfl) ?_;rintro _ _ ⟨rfl,rfl⟩;conv=>whnf
    generalize hU:zqF m (i:Nat)=u at s1 ⊢;refine zaA zaa (by kernel_rfl) [0,1,2,4,5,6,3,7,8] [(3,113),(7,0)] (by kernel_rfl) ?_;conv=>whnf
    refine Or.inl ?_;conv=>whnf
    conv=>whnf
    refine⟨(show _∧_ from⟨rfl,rfl⟩),zas ?_ ?_⟩;rotate_left
    ·repeat' (first|exact trivial|refine And.intro (show _∧_ from⟨rfl,rfl⟩) ?_)
    conv=>whnf
    refine zal (Con.le (zzI (k:=2) (z:=zdL u) (by decide) (l:=[u.run]) (zFG rfl) (c:=zfd c2 2 (zb8 m i)) (R:=r++m.x.q) (Fit.add (by rw[s2,s1]at hfit2;simpa[pgs]using hfit2)) (hfr 12 (by decide) (by decide)) (hfr 13 (by decide) (by decide)) fun c p R r hF=>hround 2 c p R _ (by decide) hF) ⟨fun ro bl x hx=>zbZ zca zar rn0 [u.run] ro bl x (zlo _ _ _ _ _ ro bl x hx),SV.le_refl _,SV.le_refl _,trivial⟩) ?_;rintro _ _ ⟨rfl,rfl⟩;conv=>whnf
    refine⟨(fun h=>by cases h),fun _=>?_⟩;conv=>whnf
    refine⟨zac (x:=(i:Int)+1) (by omega) (by omega),?_⟩;conv=>whnf
    refine⟨i+1,hlt,by omega,⟨rfl,trivial⟩,⟨?_,(by show(_&&zbH 11 2 1 [_])=true;rw[hfr 11 (by decide) (by decide)];rfl)⟩,rfl⟩;rw[zgy,s1,show pgs [u.run]=pg u.run from zHm _];rfl
   ·have hlt:i=8:=by
     have:¬(i:Int)<8:=by simpa using ht
     omega
    subst hlt;have hfit3:=hfit2.add (k:=2);generalize zfd c2 2 (zb8 m 8)=c3 at hfit3 ⊢;conv=>whnf
    refine zaD (l:=[(1,.pt 9 []),(2,.pt 8 []),(3,.pt 7 []),(4,.pt 10 [])]) (m':=⟨CB m a b c3++[.ob (.yl 0)],[a,b],[.loop [13,14] asg body N fr .ready]⟩) ⟨rfl,rfl,rfl,rfl,trivial⟩ rfl ?_;refine zab zaa ?_;conv=>whnf
    refine⟨zac (x:=(m.x.q.length:Int)) (by omega) (by omega),?_⟩;conv=>whnf
    refine zaB zaa (fun i=>i≤m.x.q.length) (fun i=>m.x.q.length - i) (fun i=>[(78,I i)]) (fun i=>⟨CB m a b (zfd c3 3 (m.x.q.take i))++[.ob (.yl 0)],[a,b],[.loop [13,14] asg body N fr .ready]⟩) 0 (zFV _) ⟨rfl,trivial⟩ (by rw[zG2,zgz]) (fun i=>⟨zF5 _,zF5 _,zF5 _⟩) ?_;intro i hi;conv=>whnf
    refine⟨fun ht=>?_,fun ht=>?_⟩
    ·have hlt:i<m.x.q.length:=by
      have:(i:Int)<(m.x.q.length:Int):=by simpa using ht
      omega
     have hg:m.x.q=m.x.q.take i++m.x.q.getD i 0::m.x.q.drop (i+1):=by rw[zG9,zHa hlt];show _=_++m.x.q[i]::_;rw[←zHQ hlt,zG1]
     conv=>whnf
     refine⟨⟨(by omega:(0:Int)≤(i:Int)),(by omega:(i:Int)<(m.x.q.length:Int))⟩,?_⟩;conv=>whnf
     refine zao zaa (by kernel_rfl) 5 (by kernel_rfl) ?_;conv=>whnf
     refine zdS (hround 3 (zfd c3 3 (m.x.q.take i)) (m.x.q.getD i 0) (m.x.q.drop (i+1)) [.ob (.yl 0)] (by decide) (Fit.add (by rw[hg]at hfit3;simpa using hfit3))) ?_;rintro _ _ ⟨rfl,rfl⟩;conv=>whnf
     refine⟨(fun h=>by cases h),fun _=>?_⟩;conv=>whnf
     refine⟨zac (x:=(i:Int)+1) (by omega) (by omega),?_⟩;conv=>whnf
     refine⟨i+1,hlt,by omega,⟨rfl,trivial⟩,⟨?_,(by show(_&&zbH 11 2 1 [_])=true;rw[hfr 11 (by decide) (by decide)];rfl)⟩,rfl⟩;rw[zgy];have e:m.x.q.take (i+1)=m.x.q.take i++[m.x.q.getD i 0]:=by rw[zHb,zHa hlt,zG9,zHa hlt];rfl
     rw[e];rfl
    ·have hlt:i=m.x.q.length:=by
      have:¬(i:Int)<(m.x.q.length:Int):=by simpa using ht
      omega
     subst hlt;conv=>whnf
     exact⟨rfl,by rw[zHe]⟩
end
end Sx
namespace Sx
attribute [local irreducible] Con zax zan zau zai zaw zbt zak zaC zbh zba I64
section
variable {m:Mc} {a b:Nat}
def zy7:Cnt:=⟨fun _=>0,[]⟩
def ziJ(m:Mc):Cnt:=zfd (zfd (zfd (zfd zy7 0 (pgs m.x.p.fr)) 1 (pgs (zbC m.x.s.t (zb6 m.x.s.t.b)))) 2 (zb8 m 8)) 3 m.x.q
theorem zwJ(hfit:Fit zy7 (pgs m.x.p.fr++(pgs (zbC m.x.s.t (zb6 m.x.s.t.b))++(zb8 m 8++m.x.q))))
 (hgl:∀h,(zaj m.x.s.t h).rs.length≤1000)(hr:∀i,i<8→(m.ts i).c.regs.length≤64)(hfl:m.x.p.fr.length≤1000)(hq:m.x.q.length≤1000)(hn:(ziJ m).n 0+(ziJ m).n 1+(ziJ m).n 2+(ziJ m).n 3=m.x.p.n):
 Con Tryz.prog 15 [.pt 0 []] (MM m a b) fun o m'=>o=.ret (T2 (.d (ziO (ziJ m).n)) (I 0))∧m'=MM m a b:=by
 have hF:Fit (ziJ m) []:=by unfold ziJ;exact Fit.add (by rw[zHm];exact((hfit.add (k:=0)).add (k:=1)).add (k:=2))
 refine zcp Tryz.func15 rfl (by kernel_rfl) rfl rfl ?_;refine zav (zab zaa ?_);conv=>whnf
 refine zav (zab zaa ?_);conv=>whnf
 refine⟨(fun h=>by cases h),fun _=>?_⟩;conv=>whnf
 refine zaD (l:=[(0,.pt 0 []),(2,.pt 3 []),(3,.pt 4 [])]) (m':=⟨[za9 m b,.d (zaH m.x.p),zaT m.x a,.d zBI.zero.d,.d i62.zero.d],[a,b],[]⟩) ⟨rfl,rfl,rfl,trivial⟩ rfl ?_;refine zav (zab zaa ?_);conv=>whnf
 refine zav (zab zaa ?_);conv=>whnf
 refine zaD (l:=[(0,.pt 0 []),(2,.pt 3 []),(3,.pt 4 []),(4,.pt 5 []),(5,.pt 6 [])]) (m':=⟨[za9 m b,.d (zaH m.x.p),zaT m.x a,.d zBI.zero.d,.d i62.zero.d,.d (ziO zy7.n),.d (zuA zy7.v)],[a,b],[]⟩) ⟨rfl,rfl,rfl,rfl,rfl,trivial⟩ rfl ?_;refine zav (zab zaa ?_);conv=>whnf
 refine zaM Tryz.func48 rfl (by kernel_rfl) rfl rfl ?_;conv=>whnf
 refine zal (zco (zeB (m:=m) (a:=a) (b:=b) (by omega)) rfl) ?_;rintro _ _ ⟨rfl,rfl⟩;conv=>whnf
 refine zcs rfl rfl ?_;refine zxp 9 (v':=zxs m.x) rfl rfl (fun ro bl cs h=>zrt m.x h) ?_;refine zal (zu6 (c:=zy7) (fun n h1 h2=>?_) (fun k c p R e hk hF=>?_) hfit hgl hr hfl hq) ?_
 ·obtain rfl|rfl|rfl:n=11∨n=12∨n=13:=by omega
  all_goals rfl
 ·obtain⟨hp,hv⟩:=hF.new;have hlen:=hF.len;refine zct zaa rfl (by decide) ?_;conv=>whnf
  refine⟨fun _=>⟨hp.1,hp.2⟩,?_⟩;conv=>whnf
  refine⟨fun hq=>?_,fun _=>?_⟩
  ·have hq:((decide (p<0)||decide (p≥64))||c.v.contains ((p.toNat:Nat):Int))=true:=hq;rw[Int.toNat_of_nonneg hp.1,hv,zFT (show¬p<0 by omega),zFT (show¬p≥64 by omega)]at hq;cases hq
  conv=>whnf
  refine⟨⟨hp.1,hp.2⟩,?_⟩;conv=>whnf
  refine⟨_,zA8 c.v hp.1,?_⟩;conv=>whnf
  have hnk:=hF.n k hk
  match k,hk,hnk with
  |0,_,hnk=>
   conv=>whnf
   refine⟨zac (x:=c.n 0+1) (by omega) (by omega),?_⟩;conv=>whnf
   exact⟨rfl,rfl⟩
  |1,_,hnk=>
   conv=>whnf
   refine⟨zac (x:=c.n 1+1) (by omega) (by omega),?_⟩;conv=>whnf
   exact⟨rfl,rfl⟩
  |2,_,hnk=>
   conv=>whnf
   refine⟨zac (x:=c.n 2+1) (by omega) (by omega),?_⟩;conv=>whnf
   exact⟨rfl,rfl⟩
  |3,_,hnk=>
   conv=>whnf
   refine⟨zac (x:=c.n 3+1) (by omega) (by omega),?_⟩;conv=>whnf
   exact⟨rfl,rfl⟩
 ·rintro _ _ ⟨rfl,rfl⟩;conv=>whnf
  refine zaD (l:=[(0,.pt 0 []),(2,.pt 3 []),(3,.pt 4 []),(4,.pt 5 []),(5,.pt 6 [])]) (m':=⟨CB m a b (ziJ m)++[.ob (.yl 0)],[a,b],[.loop _ _ _ _ _ .over]⟩) ⟨rfl,rfl,rfl,rfl,rfl,trivial⟩ rfl ?_;have h0:=hF.n 0 (by decide);have h1:=hF.n 1 (by decide);have h2:=hF.n 2 (by decide);have h3:=hF.n 3 (by decide);have hlen:=hF.len;generalize ziJ m=c at hn h0 h1 h2 h3 hlen ⊢;refine zab zaa ?_;conv=>whnf
  refine zao zaa (by kernel_rfl) 16 (by kernel_rfl) ?_;conv=>whnf
  refine⟨zac (x:=c.n 0+c.n 1) (by omega) (by omega),?_⟩;conv=>whnf
  refine⟨zac (x:=c.n 0+c.n 1+c.n 2) (by omega) (by omega),?_⟩;conv=>whnf
  refine⟨zac (x:=c.n 0+c.n 1+c.n 2+c.n 3) (by omega) (by omega),?_⟩;conv=>whnf
  refine zdO (v:=zl9 m.x) (zco (zeB (m:=m) (a:=a) (b:=b) (by omega)) rfl) (fun _ h=>h) ?_;conv=>whnf
  refine zdO (v:=I m.x.p.n) (zco (zox (Z:=za9 m b) (p:=m.x.p) (C:=zaT m.x a) (zg5 (zhU m b) m.x a)) rfl) (fun _ h=>h) ?_;conv=>whnf
  refine⟨fun hq=>?_,fun _=>?_⟩
  ·have hq:(c.n 0+c.n 1+c.n 2+c.n 3 != m.x.p.n)=true:=hq;rw[hn]at hq;simp at hq
  conv=>whnf
  exact⟨zaJ rfl (za6 rfl m.x a),rfl,rfl⟩
end
end Sx
namespace Sx
section
variable {N A B:Int} {m:Mc} {a b:Nat}
theorem zoH(h:MI N m):zb8 m 8=zjW m.ts:=by
 unfold zb8 zjW;refine zc0 fun i hi=>?_;have e:zpf (i:Int)=true:=by unfold zpf;rw[zFQ (by omega),zFQ (by omega)];rfl
 unfold zqF;rw[e,zFC];cases hb:(m.ts i).busy with
 |true=>rfl
 |false=>rw[(h.rr i hi).idle hb];rfl
theorem zA1(h:MI N m)(x:Int):(zaj m.x.s.t x).rs.length≤1000:=by
 obtain⟨d,ht⟩:=h.s.t;have hr:=zc1 ht x;have h1:=zlr hr.ok;have h2:=hr.pg;have h3:=hr.q1;have h4:=zn9 (l:=(zaj m.x.s.t x).rs) fun y hy=>by have:=hr.ok y hy;unfold zbd at this;omega
 omega
theorem zrn(h:MI N m):Fit zy7 (pgs m.x.p.fr++(pgs (zbC m.x.s.t (zb6 m.x.s.t.b))++(zb8 m 8++m.x.q))):=by rw[zoH h];have hp:=zsI h;refine⟨hp.symm.nodup (zkc N),fun p hp2=>?_,fun k _=>⟨zFJ 0,zFJ 0⟩⟩;have:=zee.1 (hp.mem_iff.1 (show p∈_ from hp2));have:=h.hN;omega
theorem zrp(h:MI N m):(ziJ m).n 0+(ziJ m).n 1+(ziJ m).n 2+(ziJ m).n 3=N:=by
 have hp:=(zsI h).length_eq;rw[←zoH h]at hp;have h2:(zjF N).length=N.toNat:=by simp[zjF]
 have h3:=h.hN;simp only[zFY]at hp;have e0:(ziJ m).n 0=0+((pgs m.x.p.fr).length:Nat):=rfl;have e1:(ziJ m).n 1=0+((pgs (zbC m.x.s.t (zb6 m.x.s.t.b))).length:Nat):=rfl;have e2:(ziJ m).n 2=0+((zb8 m 8).length:Nat):=rfl;have e3:(ziJ m).n 3=0+(m.x.q.length:Nat):=rfl;rw[e0,e1,e2,e3];omega
theorem zoN(h:MI N m):∀k,k<4→0≤(ziJ m).n k∧(ziJ m).n k≤64:=fun k hk=>by have hF:Fit (ziJ m) []:=Fit.add (by rw[zHm];exact(((zrn h).add (k:=0)).add (k:=1)).add (k:=2));have h1:=hF.n k hk;have h2:=hF.len;omega
theorem zqL(h:MI N m)(hx:MX2 A B m):Con Tryz.prog 15 [.pt 0 []] (MM m a b) fun o m'=>o=.ret (T2 (.d (ziO (ziJ m).n)) (I 0))∧m'=MM m a b:=
 zwJ (zrn h) (zA1 h) (fun i hi=>(hx.rt i hi).rg) (zFU (zfK h.fr) (by decide)) (zFU h.q64 (by decide)) (by rw[zrp h,h.n])
end
end Sx
namespace Sx
def D.fl:D→Prop
 | .z .. | .bo _| .un=>True
 | .pr a b=>a.fl∧b.fl
 | .ar _ _ f=>∀i,(f i).fl
 |_=>False
theorem zbg.det{ro ro':Ro}:∀{d:D} {c1 c2:List Value},d.fl→zbg ro d c1→zbg ro' d c2→c1=c2
 | .z ..,_,_,_,h1,h2=>by rw[h1.1,h2.1]
 | .bo _,_,_,_,h1,h2=>by have h1:_=_:=h1;have h2:_=_:=h2;rw[h1,h2]
 | .un,_,_,_,h1,h2=>by have h1:_=_:=h1;have h2:_=_:=h2;rw[h1,h2]
 | .pr _ _,_,_,hf,⟨_,_,e1,a1,b1⟩,⟨_,_,e2,a2,b2⟩=>by rw[e1,e2,zbg.det hf.1 a1 a2,zbg.det hf.2 b1 b2]
 | .ar n t f,_,_,hf,⟨g1,e1,k1⟩,⟨g2,e2,k2⟩=>by rw[e1,e2];exact zc0 fun i hi=>zbg.det (hf i) (k1 i hi).2 (k2 i hi).2
 | .st _,_,_,hf,_,_| .np,_,_,hf,_,_| .nf,_,_,hf,_,_| .ni,_,_,hf,_,_| .nm,_,_,hf,_,_| .ic ..,_,_,hf,_,_| .sl ..,_,_,hf,_,_=>hf.elim
theorem zrN{P:Program}{w:World}{body:Nat→(Option Bool×Unit)→Sem (ForInStep (Option Bool×Unit))}:∀{l:List Nat},(∀i∈l,(body i (none,())).run P w=.ok (.yield (none,())) w)→(forIn l ((none,()):Option Bool×Unit) body).run P w=.ok (none,()) w
 |[],_=>rfl
 |i::l,h=>by rw[List.forIn_cons,Sem.run_bind,h i (zF3 ..),Result.andThen_ok];exact zrN fun j hj=>h j (zF4 _ hj)
theorem zD0(d:Nat)(k t h:Int)(w:World):(Op.equalIn (d+2) 98 (.agg #[.int .u8 k,.int .u8 t,.int .u8 h]) (.agg #[.int .u8 k,.int .u8 t,.int .u8 h])).run Tryz.prog w=.ok true w:=by
 have hs:Tryz.prog.stoodInHeld 98=false:=by kernel_rfl
 have h5:∀w,(isAgg 5).run Tryz.prog w=.ok false w:=fun w=>by kernel_rfl
 unfold Op.equalIn;simp only[Sem.run_bind,run_underlying Tryz.underlying98,Result.andThen_ok,run_program,hs];simp[part,h5,zoZ (d:=d) Tryz.underlying5]
theorem zCB(d:Nat)(g k t h:Int)(w:World):(Op.equalIn (d+3) 100 (.agg #[.int .u32 g,.int .u8 k,.int .u8 t,.int .u8 h]) (.agg #[.int .u32 g,.int .u8 k,.int .u8 t,.int .u8 h])).run Tryz.prog w=.ok true w:=by
 have hs:Tryz.prog.stoodInHeld 100=false:=by kernel_rfl
 have h69:∀w,(isAgg 69).run Tryz.prog w=.ok false w:=fun w=>by kernel_rfl
 have h98:∀w,(isAgg 98).run Tryz.prog w=.ok true w:=fun w=>by kernel_rfl
 have z98:∀w,(sizeOf 98).run Tryz.prog w=.ok 3 w:=fun w=>by kernel_rfl
 unfold Op.equalIn;simp only[Sem.run_bind,run_underlying Tryz.underlying100,Result.andThen_ok,run_program,hs];have:=zD0 d k t h w;simp[part,h69,h98,z98,zoZ (d:=d+1) Tryz.underlying69,this]
theorem zCC(d:Nat){o:Nat→Sd}{ro:Ro}{g:Nat→List Value}(hg:∀i,i<32→zbg ro (zxx (o i)) (g i))(w:World):(Op.equalIn (d+4) 101 (.agg ((List.range 32).flatMap g).toArray) (.agg ((List.range 32).flatMap g).toArray)).run Tryz.prog w=.ok true w:=by
 have hlen:∀i,i<32→(g i).length=4:=fun i hi=>(hg i hi).length;have hl:=zbK hlen;have zBX:∀w,(sizeOf 100).run Tryz.prog w=.ok 4 w:=fun w=>by kernel_rfl
 unfold Op.equalIn;simp only[Sem.run_bind,run_underlying Tryz.underlying101,Result.andThen_ok,zBX];rw[zHs];rw[zrN fun i hi=>?_]
 ·rfl
 ·have hi:i<32:=by have:=(List.mem_range'_1.1 hi).2;have e:[:32].start+[:32].size=32:=rfl;omega
  have hp:=zgZ (w:=w) (zaa 100 zCF rfl).1 (cells:=(List.range 32).flatMap g) (o:=i*4) (by rw[hl];show i*4+4≤32*4;omega) (fun h=>by cases h);have e2:zCF.size=4:=rfl;rw[e2,zdt hlen hi]at hp;have hp:(part 100 ((List.range 32).flatMap g).toArray (i*4)).run Tryz.prog w=.ok (.agg (g i).toArray) w:=hp;obtain⟨_,_,e3,⟨rfl,_⟩,_,_,rfl,⟨_,_,rfl,⟨rfl,_⟩,_,_,rfl,⟨rfl,_⟩,_,_,rfl,⟨rfl,_⟩,rfl⟩,rfl⟩:=hg i hi;rw[e3]at hp;have hq:=zCB d (o i).root (o i).own.kind (o i).own.task (o i).own.hold w;simp only[Sem.run_bind,hp,Result.andThen_ok];have hq:(Op.equalIn (d+3) 100 (.agg ([Value.int .u32 (o i).root]++([Value.int .u8 (o i).own.kind]++([Value.int .u8 (o i).own.task]++([Value.int .u8 (o i).own.hold]++[]))++[])).toArray) (.agg ([Value.int .u32 (o i).root]++([Value.int .u8 (o i).own.kind]++([Value.int .u8 (o i).own.task]++([Value.int .u8 (o i).own.hold]++[]))++[])).toArray)).run Tryz.prog w=.ok true w:=hq;rw[hq];rfl
theorem zz7{F:List Value}(hl:F.length=128)(w:World):(part 101 F.toArray 0).run Tryz.prog w=.ok (.agg F.toArray) w:=by have hp:=zgZ (w:=w) (zaa 101 zBH rfl).1 (cells:=F) (o:=0) (by rw[hl];exact zFG rfl) (fun h=>by cases h);have e1:zBH.size=128:=rfl;have e2:zBH.ag=true:=rfl;rw[e1,e2,if_pos rfl,zGX,zGN (by rw[hl];exact zF5 _)]at hp;exact hp
theorem zz8(d:Nat){F:List Value}(hp:∀w,(part 101 F.toArray 0).run Tryz.prog w=.ok (.agg F.toArray) w)(key:∀w,(Op.equalIn (d+4) 101 (.agg F.toArray) (.agg F.toArray)).run Tryz.prog w=.ok true w)(w:World):(Op.equalIn (d+5) 103 (.agg F.toArray) (.agg F.toArray)).run Tryz.prog w=.ok true w:=by
 have hs:Tryz.prog.stoodInHeld 103=false:=by kernel_rfl
 unfold Op.equalIn;simp only[Sem.run_bind,run_underlying Tryz.underlying103,Result.andThen_ok,run_program,hs];simp[hp,key]
theorem zD2(o:Nat→Sd):zvy Tryz.prog 103 (zds o) (zds o) true:=by
 intro ro bl x y X Y w op hx hy;obtain⟨c1,h1,rfl⟩:=hx.1 rfl;obtain⟨c2,h2,rfl⟩:=hy.1 rfl;have e:=zbg.det (show(zds o).fl from⟨fun i=>⟨trivial,⟨trivial,trivial,trivial,trivial⟩,trivial⟩,trivial⟩) h1 h2;subst e;refine⟨?_,?_⟩
 ·have hg:Tryz.prog.eqGuardType Tryz.prog.depth 103=false:=by kernel_rfl
  unfold eqGuard;cases op<;>simp[hg]
 ·obtain⟨_,_,rfl,⟨g,rfl,hg⟩,he⟩:=h1;have he:_=_:=he;subst he;rw[zHm];have hl:=zbK (k:=4) fun i hi=>(hg i hi).2.length;exact zz8 9995 (zz7 (by rw[hl])) (zCC 9995 fun i hi=>(hg i hi).2) w
def ev0:Ev:=⟨0,zbo 0,zaO,rs0,0,0⟩
def ofE(t:Int)(l:List Ev):List Ev:=l.filter fun e=>e.task==t
theorem ztk{l:List Ev}{i:Nat}(h:i<l.length):l.take (i+1)=l.take i++[l.getD i ev0]:=by rw[zHb,zHa h,zG9,zHa h];rfl
theorem ziQ{p:Ev→Bool}{l:List Ev}{i:Nat}(h:i<l.length):(l.take (i+1)).filter p=(l.take i).filter p++(bif p (l.getD i ev0)then[l.getD i ev0]else[]):=by rw[ztk h,zHR,zHS];cases p (l.getD i ev0)<;>rfl
theorem zkX{p:Ev→Bool}{l:List Ev}{i:Nat}:((l.take i).filter p).length≤i:=zFU (zHT _ _) (List.length_take_le _ _)
attribute [local irreducible] Con zax zan zau zai zaw zbt zak zaC zbh zba I64
theorem zBk(l:List Ev)(hn:l.length≤1000000)(t:Int):zay Tryz.prog 105 [.d (sls tEv (zgJ l)),I t] (.d (sls tEv (zgJ (ofE t l)))):=by
 refine zay.le (b:=[.d (.sl l.length tEv fun i=>zeu (l.getD i ev0)),I t]) ?_ ⟨zbZ tEv zeu ev0 l,SV.le_refl _,trivial⟩;refine zat Tryz.func105 rfl (by kernel_rfl) rfl rfl rfl ?_;conv=>whnf
 refine⟨zac (x:=(l.length:Int)) (by omega) (by omega),?_⟩;conv=>whnf
 refine zcJ 5 tEv (za4 []) rfl ?_;refine zaB zaa (fun i:Nat×Nat=>i.1≤l.length) (fun i=>l.length - i.1) (fun i=>[(10,I i.1),(5,owl 1 i.2 tEv (zgJ (ofE t (l.take i.1))))]) (fun i=>⟨[],[i.2],[]⟩) (0,0) (zFV _) ⟨rfl,rfl,trivial⟩ rfl (fun i=>⟨zF5 _,zF5 _,zF5 _⟩) ?_;rintro⟨i,v⟩ hi;have hi:i≤l.length:=hi;conv=>whnf
 refine⟨fun ht=>?_,fun ht=>?_⟩
 ·have hlt:i<l.length:=by
   have:(i:Int)<(l.length:Int):=by simpa using ht
   omega
  have hlen:(zgJ (ofE t (l.take i))).length≤i:=by rw[zFH];exact zkX
  have hs:ofE t (l.take (i+1))=_:=ziQ hlt;conv=>whnf
  refine⟨⟨(by omega:(0:Int)≤(i:Int)),(by omega:(i:Int)<(l.length:Int))⟩,?_⟩;conv=>whnf
  refine⟨fun hq=>?_,fun hq=>?_⟩
  ·have hq:((l.getD i ev0).task==t)=true:=hq;rw[hq]at hs;conv=>whnf
   refine Or.inl ?_;conv=>whnf
   conv=>whnf
   refine⟨⟨rfl,by show(zgJ (ofE t (l.take i))).length+1≤2147483648;omega⟩,?_⟩;conv=>whnf
   refine⟨zac (x:=(i:Int)+1) (by omega) (by omega),?_⟩;conv=>whnf
   refine⟨(i+1,v+1),hlt,by show l.length -(i+1)<l.length - i;omega,⟨rfl,?_,trivial⟩,⟨rfl,rfl⟩,rfl⟩;have e:zgJ (ofE t (l.take (i+1)))=zgJ (ofE t (l.take i))++[zeu (l.getD i ev0)]:=by rw[hs];exact zF6
   show _=some (owl 1 (v+1) tEv (zgJ (ofE t (l.take (i+1)))));rw[e,←zcq];rfl
  ·have hq:((l.getD i ev0).task==t)=false:=hq;rw[hq]at hs;have hs:ofE t (l.take (i+1))=ofE t (l.take i)++[]:=hs;rw[zHm]at hs;conv=>whnf
   refine⟨zac (x:=(i:Int)+1) (by omega) (by omega),?_⟩;conv=>whnf
   refine⟨(i+1,v),hlt,by show l.length -(i+1)<l.length - i;omega,⟨rfl,?_,trivial⟩,⟨rfl,rfl⟩,rfl⟩;show _=some (owl 1 v tEv (zgJ (ofE t (l.take (i+1)))));rw[hs];rfl
 ·have hlt:i=l.length:=by
   have:¬(i:Int)<(l.length:Int):=by simpa using ht
   omega
  subst hlt;conv=>whnf
  refine⟨rfl,zae ?_⟩;rw[zHe];rfl
def zmi(e:Ev):Bool:=e.r.e != 0
def zhc(p:Ev→Bool)(l:List Ev):Int:=((l.filter p).length:Nat)
theorem zAb(e:Ev):zay Tryz.prog 106 [.d (zeu e)] (B (zmi e)):=by
 refine zat Tryz.func106 rfl (by kernel_rfl) rfl rfl rfl ?_;conv=>whnf
 exact⟨rfl,zae rfl⟩
theorem zzY(l:List Ev)(hn:l.length≤1000000):zay Tryz.prog 60 [.fn (.func 106) (.d .un),.d (sls tEv (zgJ l))] (I (zhc zmi l)):=by
 refine zay.le (b:=[.fn (.func 106) (.d .un),.d (.sl l.length tEv fun i=>zeu (l.getD i ev0))]) ?_ ⟨SV.le_refl _,zbZ tEv zeu ev0 l,trivial⟩;refine zat Tryz.func60 rfl (by kernel_rfl) rfl rfl rfl ?_;conv=>whnf
 refine⟨zac (x:=(l.length:Int)) (by omega) (by omega),?_⟩;conv=>whnf
 refine zaB zaa (fun i:Nat=>i≤l.length) (fun i=>l.length - i) (fun i=>[(10,I i),(5,I (zhc zmi (l.take i)))]) (fun i=>⟨[],[],[]⟩) 0 (zFV _) ⟨rfl,rfl,trivial⟩ rfl (fun i=>⟨zF5 _,zF5 _,zF5 _⟩) ?_;intro i hi;conv=>whnf
 refine⟨fun ht=>?_,fun ht=>?_⟩
 ·have hlt:i<l.length:=by
   have:(i:Int)<(l.length:Int):=by simpa using ht
   omega
  have hlen:((l.take i).filter zmi).length≤i:=zkX;have hs:=ziQ (p:=zmi) hlt;have hc:zhc zmi (l.take i)=((l.take i).filter zmi).length:=rfl;conv=>whnf
  refine⟨⟨(by omega:(0:Int)≤(i:Int)),(by omega:(i:Int)<(l.length:Int))⟩,?_⟩;conv=>whnf
  refine zad (zAb (l.getD i ev0)) ?_;conv=>whnf
  refine⟨fun hq=>?_,fun hq=>?_⟩
  ·have hq:zmi (l.getD i ev0)=true:=hq;rw[hq]at hs;conv=>whnf
   refine⟨zac (x:=zhc zmi (l.take i)+1) (by omega) (by omega),?_⟩;conv=>whnf
   refine⟨zac (x:=(i:Int)+1) (by omega) (by omega),?_⟩;conv=>whnf
   refine⟨i+1,hlt,by omega,⟨rfl,?_,trivial⟩,⟨rfl,rfl⟩,rfl⟩;have:zhc zmi (l.take (i+1))=zhc zmi (l.take i)+1:=by unfold zhc;rw[hs,zFY];rfl
   rw[this];rfl
  ·have hq:zmi (l.getD i ev0)=false:=hq;rw[hq]at hs;conv=>whnf
   refine⟨zac (x:=(i:Int)+1) (by omega) (by omega),?_⟩;conv=>whnf
   refine⟨i+1,hlt,by omega,⟨rfl,?_,trivial⟩,⟨rfl,rfl⟩,rfl⟩;have:zhc zmi (l.take (i+1))=zhc zmi (l.take i):=by unfold zhc;rw[hs,zFY];rfl
   rw[this];rfl
 ·have hlt:i=l.length:=by
   have:¬(i:Int)<(l.length:Int):=by simpa using ht
   omega
  subst hlt;conv=>whnf
  refine⟨rfl,zae ?_⟩;rw[zHe];rfl
def zDr(l:List Ev):Bool:=(List.range l.length).all fun i=>!(decide ((l.getD i ev0).frm>(l.getD i ev0).to_)||(decide ((i:Int)>0)&&decide ((l.getD (i - 1) ev0).to_≥(l.getD i ev0).to_)))
theorem zCP(l:List Ev)(hn:l.length≤1000000)(ho:zDr l=true):zay Tryz.prog 26 [.d (sls tEv (zgJ l))] (B true):=by
 refine zay.le (b:=[.d (.sl l.length tEv fun i=>zeu (l.getD i ev0))]) ?_ ⟨zbZ tEv zeu ev0 l,trivial⟩;refine zat Tryz.func26 rfl (by kernel_rfl) rfl rfl rfl ?_;conv=>whnf
 refine⟨zac (x:=(l.length:Int)) (by omega) (by omega),?_⟩;conv=>whnf
 refine zaB zaa (fun i:Nat=>i≤l.length) (fun i=>l.length - i) (fun i=>[(6,I i)]) (fun i=>⟨[],[],[]⟩) 0 (zFV _) ⟨rfl,trivial⟩ rfl (fun i=>⟨zF5 _,zF5 _,zF5 _⟩) ?_;intro i hi;conv=>whnf
 refine⟨fun ht=>?_,fun ht=>?_⟩
 ·have hlt:i<l.length:=by
   have:(i:Int)<(l.length:Int):=by simpa using ht
   omega
  have ho:=zGr.1 ho i (zF1.2 hlt);simp only[zGC]at ho;conv=>whnf
  refine zao zaa (by kernel_rfl) 29 (by kernel_rfl) ?_;conv=>whnf
  refine⟨⟨(by omega:(0:Int)≤(i:Int)),(by omega:(i:Int)<(l.length:Int))⟩,?_⟩;conv=>whnf
  refine⟨⟨(by omega:(0:Int)≤(i:Int)),(by omega:(i:Int)<(l.length:Int))⟩,?_⟩;conv=>whnf
  refine⟨fun _ _=>zac (x:=(i:Int) - 1) (by omega) (by omega),?_⟩;conv=>whnf
  refine⟨fun hq _=>?_,?_⟩
  ·have hq:(decide ((i:Int)>0))=true:=by simpa using hq
   have hq:=zFL hq;exact⟨by omega,by omega⟩
  conv=>whnf
  refine⟨fun _ _=>⟨(by omega:(0:Int)≤(i:Int)),(by omega:(i:Int)<(l.length:Int))⟩,?_⟩;conv=>whnf
  refine⟨fun hq=>?_,fun _=>?_⟩
  ·have hq:(decide ((l.getD i ev0).frm>(l.getD i ev0).to_)||(decide ((i:Int)>0)&&decide ((l.getD ((i:Int) - 1).toNat ev0).to_≥(l.getD i ev0).to_)))=true:=hq;rw[show((i:Int) - 1).toNat=i - 1 by omega,ho]at hq;cases hq
  conv=>whnf
  refine⟨zac (x:=(i:Int)+1) (by omega) (by omega),?_⟩;conv=>whnf
  exact⟨i+1,hlt,by omega,⟨rfl,trivial⟩,⟨rfl,rfl⟩,rfl⟩
 ·have hlt:i=l.length:=by
   have:¬(i:Int)<(l.length:Int):=by simpa using ht
   omega
  subst hlt;conv=>whnf
  exact⟨rfl,zae rfl⟩
end Sx
namespace Sx
attribute [local irreducible] Con zax zan zau zai zaw zbt zak zaC zbh zba I64
section
variable {m:Mc} {a b:Nat}
theorem zvP{t:Nat}(hA:m.x.s.alive t=false):zfe m (t:Int)=false:=by unfold zfe;rw[zFC,hA,zHD]
theorem zpK{t:Nat}(hA:m.x.s.alive t=false)(hr:∀i,i<8→(m.ts i).c.regs.length≤64):Con Tryz.prog 103 [.pt 0 [],I t] (MM m a b) fun o m'=>o=.ret (B false)∧m'=MM m a b:=by
 refine zcp Tryz.func103 rfl (by kernel_rfl) rfl rfl ?_;refine zav (zab zaa ?_);conv=>whnf
 refine zab zaa ?_;conv=>whnf
 refine zal (zq3 (m:=m) (a:=a) (b:=b) (t:Int) hr) ?_;rintro _ _ ⟨rfl,rfl⟩;conv=>whnf
 refine zao zaa (by kernel_rfl) 25 (by kernel_rfl) ?_;conv=>whnf
 have h1:=zkC (m:=m) (a:=a) (b:=b) (t:Int);rw[zvP hA]at h1;refine zdO (v:=B false) (zco h1 rfl) (fun _ h _=>h) ?_;conv=>whnf
 refine zsN (B false) (fun hg=>?_) ?_
 ·have hg:((zBV m (t:Int)&&false)&&!(zqF m (t:Int)).chk)=true:=hg;simp at hg
 conv=>whnf
 refine⟨zaJ rfl (za6 rfl m.x a),?_,rfl⟩;exact congrArg (fun z=>Out.ret (B z)) (by simp)
theorem zt1{t:Nat}(hA:m.x.s.alive t=false)(hr:∀i,i<8→(m.ts i).c.regs.length≤64):Con Tryz.prog 104 [.pt 0 [],I t] (MM m a b) fun o m'=>o=.ret (B false)∧m'=MM m a b:=by
 refine zcp Tryz.func104 rfl (by kernel_rfl) rfl rfl ?_;refine zav (zab zaa ?_);conv=>whnf
 refine zab zaa ?_;conv=>whnf
 refine zal (zAl (m:=m) (a:=a) (b:=b) (t:Int)) ?_;rintro _ _ ⟨rfl,rfl⟩;conv=>whnf
 have h1:=zkC (m:=m) (a:=a) (b:=b) (t:Int);rw[zvP hA]at h1;refine zdO (v:=B false) h1 (fun _ h _=>h) ?_;conv=>whnf
 refine zdO (v:=B false) (zpK hA hr) (fun _ h _=>h) ?_;conv=>whnf
 refine⟨zaJ rfl (za6 rfl m.x a),?_,rfl⟩;exact congrArg (fun z=>Out.ret (B z)) (by simp)
theorem zt3(hA:∀t,t<8→m.x.s.alive t=false)(hr:∀i,i<8→(m.ts i).c.regs.length≤64):Con Tryz.prog 58 [.pt 0 []] (MM m a b) fun o m'=>o=.ret (zqE .c (za4 []))∧m'=MM m a b:=by
 refine zcp Tryz.func58 rfl (by kernel_rfl) rfl rfl ?_;refine zab zaa ?_;conv=>whnf
 refine zaB zaa (fun i:Nat=>i≤8) (fun i=>8 - i) (fun i=>[(8,I i),(3,zqE .c (za4 []))]) (fun i=>MM m a b) 0 (zFV _) ⟨rfl,rfl,trivial⟩ rfl (fun i=>⟨zF5 _,zF5 _,zF5 _⟩) ?_;intro i hi;conv=>whnf
 refine⟨fun ht=>?_,fun ht=>?_⟩
 ·have hlt:i<8:=by
   have:(i:Int)<8:=by simpa using ht
   omega
  conv=>whnf
  refine zal (zt1 (hA i hlt) hr) ?_;rintro _ _ ⟨rfl,rfl⟩;conv=>whnf
  refine⟨(fun h=>by cases h),fun _=>?_⟩;conv=>whnf
  refine zal (zpK (hA i hlt) hr) ?_;rintro _ _ ⟨rfl,rfl⟩;conv=>whnf
  refine⟨(fun h=>by cases h),fun _=>?_⟩;conv=>whnf
  refine⟨zac (x:=(i:Int)+1) (by omega) (by omega),?_⟩;conv=>whnf
  exact⟨i+1,hlt,by omega,⟨rfl,rfl,trivial⟩,⟨rfl,(by show(zaG 3 2 0 [za9 m b,.d (zaH m.x.p),zaT m.x a]&&zbH 3 2 0 [])=true;rw[za6 rfl m.x a];rfl)⟩,rfl⟩
 ·have hlt:i=8:=by
   have:¬(i:Int)<8:=by simpa using ht
   omega
  subst hlt;conv=>whnf
  exact⟨zaJ rfl (za6 rfl m.x a),rfl,rfl⟩
end
end Sx
end Go.Proofs.YtfbhkfhbnkncoaaGreatDoor
