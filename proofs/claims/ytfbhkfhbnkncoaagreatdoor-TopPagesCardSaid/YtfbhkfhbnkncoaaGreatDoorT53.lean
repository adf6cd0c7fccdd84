import Derived.Test.YtfbhkfhbnkncoaaGreatDoorT52
import Derived.Test.YtfbhkfhbnkncoaaGreatDoorRows
import Derived.LaidMore
import Derived.WideKeyElems2
import Derived.LaidHandle
import Derived.ProofKit
import Derived.SizedLaws
import Derived.Deep.Slices
import Derived.Lib.SmallJoins
import Derived.Test.YtfbhkfhbnkncoaaGreatDoorTie
import Derived.Test.YtfbhkfhbnkncoaaGreatDoorCards
import Derived.Stop.Joined
import Derived.SevenTiedAt
set_option linter.all false
set_option maxRecDepth 100000
set_option maxHeartbeats 8000000
namespace Go.Proofs.YtfbhkfhbnkncoaaGreatDoor
open Go.RowKit
namespace Sx
def zgF(x:Cr):SV:=.pr (.d (za7 x.s)) (.pr (.pt 2 []) (.pr (.d (za8 x.m)) (.pr (.d (sls .c (zL x.q))) (.d .un))))
theorem zD1{P:Program}{T:TypeId}{x y:D}{G:Prop→Prop}{K:Bool→Prop}(r:Bool)(h:G (zvy P T x y r))(hK:K r):zbt P T x y G K:=⟨r,h,hK⟩
theorem zxq{P:Program}{f:FuncId}{args:List SV}{m:MS}{v v':SV}(h:Con P f args m fun o m'=>o=.ret v∧m'=m)(hl:v.le v'):Con P f args m fun o m'=>o=.ret v'∧m'=m:=⟨h.1,fun E ro bl w xs hM hA=>(h.2 E ro bl w xs hM hA).mono (by
 rintro e w' ⟨ro',bl',m',out,h1,h2,h3,rfl,rfl⟩;obtain⟨x,he,hx⟩:=h3;exact⟨ro',bl',_,.ret v',h1,h2,⟨x,he,hl _ _ _ hx⟩,rfl,rfl⟩)⟩
attribute [local irreducible] Con zax zan zau zai zaw zbt zak zaC zbh zba I64
section
variable {N A B:Int} {m:Mc} {a b:Nat} {L:D} {e:List SV}
theorem zCD(h:MI N m){p:Int}(hp:0≤p){k:Nat}(h1:m.ev.length≤k)(h2:k<(zbI m p).ev.length):EvI m (zbI m p) ((zbI m p).ev.getD k ev0):=by
 rcases zsK h hp with e|⟨x,e,hx⟩
 ·rw[e]at h2;omega
 ·rw[e,zFY]at h2;have:k=m.ev.length:=by have:([x]:List Ev).length=1:=rfl;omega
  subst this;rw[e,zG9,zHY (zF5 _),zGd];exact hx
theorem zAc(h:MI N m){p:Int}(hp:0≤p):m.ev.length≤(zbI m p).ev.length:=by
 rcases zsK h hp with e|⟨x,e,_⟩
 ·rw[e];exact zF5 _
 ·rw[e,zFY];omega
end
theorem zxo{l:Lst}(h:zlN l=true)(i:Nat):(zbS l i).length≤64∧∀x∈zbS l i,InsOk x:=by
 unfold zbS zdK;cases hq:Nat.blt i l.ps.length with
 |false=>exact⟨zFV _,fun x hx=>by cases hx⟩
 |true=>
  have hlt:i<l.ps.length:=zFG hq;have hmem:l.ps.getD i ByteArray.empty∈l.ps:=by rw[zG9,zHa hlt];exact zHd hlt
  have hc:=zsc h hmem;refine⟨?_,zrw _⟩;show(zmc (l.ps.getD i ByteArray.empty)).length≤64;unfold isC at hc;simp only[zGC,zFM,zGy]at hc;have hm:=hc.2;unfold zwc at hm;simp only[zFR,zFS]at hm;omega
theorem zyd(l:Lst)(h1:I64 (l.ps.length:Int))(h2:I64 (l.pk.size:Int))(h3:∀p∈l.ps,I64 (p.size:Int)):zay Tryz.prog 4 [.d (zaZ l)] (B true):=by
 refine zgU Tryz.func4 rfl (by kernel_rfl) rfl rfl rfl ?_;refine zav (zab zaa ?_);conv=>whnf
 refine zaD (l:=[(1,.pt 0 [])]) (m':=⟨[.d (zaZ l)],[],[]⟩) ⟨rfl,trivial⟩ rfl ?_;refine zav (zab zaa ?_);conv=>whnf
 refine zad (zxM l h1 h2 h3) ?_;conv=>whnf
 refine⟨fun hg=>?_,fun hg=>?_⟩
 ·conv=>whnf
  refine zad (zts) ?_;conv=>whnf
  exact⟨rfl,zae rfl⟩
 have hg:zpc l=false:=hg;obtain⟨g1,g2⟩:=zuK hg;obtain⟨g3,g4,g5⟩:=zv1 g1;obtain⟨_,hN,hps⟩:=znW g2;conv=>whnf
 refine zaD (l:=[(1,.pt 0 [])]) (m':=⟨[.d (zaZ l)],[],[]⟩) ⟨rfl,trivial⟩ rfl ?_;refine zav (zab zaa ?_);conv=>whnf
 refine zal (zue l (zaZ l) (by omega) g5 g2) ?_;rintro _ _ ⟨rfl,a,b,rfl⟩;conv=>whnf
 refine zaD (l:=[(1,.pt 0 []),(3,.pt 1 [])]) (m':=M1 (zaZ l) (mc0 l.n (zbS l)) a b []) ⟨rfl,rfl,trivial⟩ rfl ?_;refine zav (zab zaa ?_);conv=>whnf
 refine⟨(fun h=>by cases h),fun _=>?_⟩;conv=>whnf
 have m0:=zst hN (zbS l);have x0:MX2 0 0 (mc0 l.n (zbS l)):=zAI fun i _=>zxo g2 i;generalize mc0 l.n (zbS l)=m0' at m0 x0 ⊢;refine zaD (l:=[(1,.pt 0 []),(3,.pt 1 [])]) (m':=M1 (zaZ l) m0' a b []) ⟨rfl,rfl,trivial⟩ rfl ?_;refine zav (zab zaa ?_);conv=>whnf
 refine zaB zaa (fun i:Nat×Mc×Nat×Nat=>i.1≤l.pk.size∧(MI l.n i.2.1∧zlL i.2.1)∧MX2 i.1 i.1 i.2.1) (fun i=>l.pk.size - i.1) (fun i=>[(4,I i.1)]) (fun i=>M1 (zaZ l) i.2.1 i.2.2.1 i.2.2.2 []) (0,m0',a,b) ⟨zFV _,m0,x0⟩ ⟨rfl,trivial⟩ rfl (fun i=>⟨zF5 _,zF5 _,zF5 _⟩) ?_;rintro⟨i,m,a,b⟩ ⟨hi,⟨k1,k2⟩,k3⟩;have hi:i≤l.pk.size:=hi;have k1:MI l.n m:=k1;have k2:zlL m:=k2;have k3:MX2 i i m:=k3;have hev:=k3.ev;have hq64:=k1.q64;conv=>whnf
 refine⟨zac (x:=(l.pk.size:Int)) (by omega) (by omega),?_⟩;conv=>whnf
 refine⟨fun ht=>?_,fun ht=>?_⟩
 ·have hlt:i<l.pk.size:=by
   have:(i:Int)<(l.pk.size:Int):=by simpa using ht
   omega
  have hp:=zep l.pk i;conv=>whnf
  refine zal (zdZ (L:=zaZ l) (e:=[]) (zeB (m:=m) (a:=a) (b:=b) (by omega)) rfl) ?_;rintro _ _ ⟨rfl,rfl⟩;conv=>whnf
  refine zal (zdZ (L:=zaZ l) (e:=[zgF m.x]) (zgt (m:=m) (a:=a) (b:=b) (by omega)) rfl) ?_;rintro _ _ ⟨rfl,rfl⟩;conv=>whnf
  refine⟨zac (x:=((zgJ m.ev).length:Int)) (by omega) (by rw[zFH];omega),?_⟩;conv=>whnf
  refine⟨⟨(by omega:(0:Int)≤(i:Int)),(by omega:(i:Int)<(l.pk.size:Int))⟩,?_⟩;conv=>whnf
  refine zal (zon (L:=zaZ l) (e:=[zgF m.x]) (zlU (a:=a) (b:=b) k1 k3 (by omega) (by omega) hp) rfl) ?_;rintro _ _ ⟨rfl,a2,b2,rfl⟩;have j:=zpw k1 k2 hp.1;have jx:=zmP k1 k3 hp.1;have jl:=zAc k1 hp.1;have je:∀k,m.ev.length≤k→k<(zbI m (zaL l.pk i)).ev.length→EvI m (zbI m (zaL l.pk i)) ((zbI m (zaL l.pk i)).ev.getD k ev0):=fun k=>zCD k1 hp.1 (k:=k);have hev2:=jx.ev;have hq2:=j.1.q64;generalize hm2:zbI m (zaL l.pk i)=m2 at j jx jl je hev2 hq2 ⊢;conv=>whnf
  refine zal (zdZ (L:=zaZ l) (e:=[zgF m.x]) (zqL (a:=a2) (b:=b2) j.1 jx) rfl) ?_;rintro _ _ ⟨rfl,rfl⟩;conv=>whnf
  have hS:=zrp j.1;have c0:=zoN j.1 0 (by decide);have c1:=zoN j.1 1 (by decide);have c2:=zoN j.1 2 (by decide);have c3:=zoN j.1 3 (by decide);generalize(ziJ m2).n=cn at hS c0 c1 c2 c3 ⊢;refine⟨fun _=>zac (x:=cn 0+cn 1) (by omega) (by omega),?_⟩;conv=>whnf
  refine⟨fun _=>zac (x:=cn 0+cn 1+cn 2) (by omega) (by omega),?_⟩;conv=>whnf
  refine⟨fun _=>zac (x:=cn 0+cn 1+cn 2+cn 3) (by omega) (by omega),?_⟩;conv=>whnf
  refine⟨fun hq=>?_,fun _=>?_⟩
  ·have hq:(((0:Int) != 0)||(cn 0+cn 1+cn 2+cn 3 != l.n))=true:=hq;rw[hS]at hq;simp at hq
  conv=>whnf
  refine zal (zxq (zdZ (L:=zaZ l) (e:=[zgF m.x,.d (ziO cn)]) (zgt (m:=m2) (a:=a2) (b:=b2) (by omega)) rfl) (zbZ tEv zeu ev0 m2.ev)) ?_;rintro _ _ ⟨rfl,rfl⟩;conv=>whnf
  refine zaB zaa (fun k:Nat=>m.ev.length≤k∧k≤m2.ev.length) (fun k=>m2.ev.length - k) (fun k=>[(10,I k)]) (fun _=>M1 (zaZ l) m2 a2 b2 [zgF m.x,.d (ziO cn)]) m.ev.length ⟨zF5 _,jl⟩ ⟨(by show some (I ((zgJ m.ev).length:Nat))=some (I (m.ev.length:Nat));rw[zFH]),trivial⟩ rfl (fun i=>⟨zF5 _,zF5 _,zF5 _⟩) ?_;rintro k ⟨hk1,hk2⟩;conv=>whnf
  refine⟨zac (x:=(m2.ev.length:Int)) (by omega) (by omega),?_⟩;conv=>whnf
  refine⟨fun ht2=>?_,fun ht2=>?_⟩
  ·have hlk:k<m2.ev.length:=by
    have:(k:Int)<(m2.ev.length:Int):=by simpa using ht2
    omega
   have hE:=je k hk1 hlk;have hkb:(0:Int)≤(k:Int)∧(k:Int)<(m2.ev.length:Int):=⟨by omega,by omega⟩;conv=>whnf
   refine zao zaa (by kernel_rfl) 14 (by kernel_rfl) ?_;conv=>whnf
   refine⟨hkb,?_⟩;conv=>whnf
   refine⟨hkb,?_⟩;conv=>whnf
   refine zam (ziu (s:=m.x.s) (task:=(m2.ev.getD k ev0).task) (c:=(m2.ev.getD k ev0).c) k1.s.std k1.s.mail ⟨hE.t.1.1,hE.t.1.2,hE.c.1,hE.c.2.1,hE.c.2.2.1,hE.c.2.2.2⟩ hE.t.2) (fun _ h=>h) ?_;conv=>whnf
   refine zal (zdZ (L:=zaZ l) (e:=[zgF m.x,.d (ziO cn)]) (zeB (m:=m2) (a:=a2) (b:=b2) (by omega)) rfl) ?_;rintro _ _ ⟨rfl,rfl⟩;conv=>whnf
   refine zal (zdZ (L:=zaZ l) (e:=[zgF m.x,.d (ziO cn)]) (zng (Z:=za9 m2 b2) (p:=m2.x.p) (C:=zaT m2.x a2) (zg5 (zhU m2 b2) m2.x a2)) rfl) ?_;rintro _ _ ⟨rfl,rfl⟩;conv=>whnf
   refine zad (zvA m2.x.p.fr (zaE m.x.s (m2.ev.getD k ev0).task (m2.ev.getD k ev0).c) (by have:=zfK j.1.fr;omega)) ?_;conv=>whnf
   refine⟨hkb,?_⟩;conv=>whnf
   refine⟨fun _=>hkb,?_⟩;conv=>whnf
   refine⟨fun hq=>?_,fun _=>?_⟩
   ·have hq:(((((m2.ev.getD k ev0).r.e==6)&&((m2.ev.getD k ev0).c.do_==2))&&decide (zaE m.x.s (m2.ev.getD k ev0).task (m2.ev.getD k ev0).c>0))&&(zdM m2.x.p.fr (zaE m.x.s (m2.ev.getD k ev0).task (m2.ev.getD k ev0).c)).isSome)=true:=hq;simp only[zFR,zGG,zFS]at hq;have:=(hE.mem hq.1.1.1 hq.1.2).2;rw[this]at hq;cases hq.2
   conv=>whnf
   refine zao zaa (by kernel_rfl) 41 (by kernel_rfl) ?_;conv=>whnf
   refine⟨hkb,?_⟩;conv=>whnf
   refine zdO (v:=zwp (zl9 m2.x)) (zdZ (L:=zaZ l) (e:=[zgF m.x,.d (ziO cn)]) (zeB (m:=m2) (a:=a2) (b:=b2) (by omega)) rfl) (fun _ h _=>h) ?_;conv=>whnf
   have hmem:(((m2.ev.getD k ev0).r.e==6)&&decide (zaE m.x.s (m2.ev.getD k ev0).task (m2.ev.getD k ev0).c>0))=true→m2.x.s=m.x.s:=fun hq=>by simp only[zFR,zGG,zFS]at hq;exact(hE.mem hq.1 hq.2).1
   refine zD1 true (fun hq=>?_) ?_
   ·have e1:=hmem hq;show zvy Tryz.prog 103 (zds m.x.s.o) (zds m2.x.s.o) true;rw[e1];exact zD2 _
   conv=>whnf
   have hla:∀b:zc7,I64 ((hL (zb6 b)).length:Int):=fun b=>zac (by omega) (by rw[zFH];have:=zem b;omega);refine zam (zqH m.x.s.t.b) (fun _ h _ _=>h) ?_;conv=>whnf
   refine⟨fun _ _=>hla _,?_⟩;conv=>whnf
   refine zdO (v:=zwp (zl9 m2.x)) (zdZ (L:=zaZ l) (e:=[zgF m.x,.d (ziO cn)]) (zeB (m:=m2) (a:=a2) (b:=b2) (by omega)) rfl) (fun _ h _ _=>h) ?_;conv=>whnf
   refine zam (zqH m2.x.s.t.b) (fun _ h _ _=>h) ?_;conv=>whnf
   refine⟨fun _ _=>hla _,?_⟩;conv=>whnf
   refine⟨fun hq=>?_,fun _=>?_⟩
   ·have hq:((((m2.ev.getD k ev0).r.e==6)&&decide (zaE m.x.s (m2.ev.getD k ev0).task (m2.ev.getD k ev0).c>0))&&((!true)||(((hL (zb6 m.x.s.t.b)).length:Int) !=((hL (zb6 m2.x.s.t.b)).length:Int))))=true:=hq;rw[zFR]at hq;rw[hmem hq.1]at hq;simp at hq
   conv=>whnf
   refine⟨zac (x:=(k:Int)+1) (by omega) (by omega),?_⟩;conv=>whnf
   exact⟨k+1,⟨by omega,hlk⟩,by omega,⟨rfl,trivial⟩,⟨rfl,rfl⟩,rfl⟩
  ·conv=>whnf
   refine⟨zac (x:=(i:Int)+1) (by omega) (by omega),?_⟩;conv=>whnf
   exact⟨(i+1,m2,a2,b2),⟨hlt,j,by show MX2 ((i+1:Nat):Int) ((i+1:Nat):Int) m2;rw[zHX];exact jx⟩,by show l.pk.size -(i+1)<l.pk.size - i;omega,⟨rfl,trivial⟩,⟨rfl,rfl⟩,rfl⟩
 ·have hlt:i=l.pk.size:=by
   have:¬(i:Int)<(l.pk.size:Int):=by simpa using ht
   omega
  conv=>whnf
  refine zaD (l:=[(3,.pt 1 [])]) (m':=M1 (zaZ l) m a b []) ⟨rfl,trivial⟩ rfl ?_;refine zav (zab zaa ?_);conv=>whnf
  have hw:∀x:Int,0≤x→x<256→IntKind.u8.wrap x=x:=fun x h1 h2=>zcC (zbL (by simp only[zcB];omega) (fun _=>h1) (by simp only[zcB];omega));refine zaB zaa (fun i:Nat×Mc×Nat×Nat=>i.1≤8∧(MI l.n i.2.1∧zlL i.2.1)∧MX2 (l.pk.size+i.1:Nat) (l.pk.size+i.1:Nat) i.2.1∧∀j,j<i.1→i.2.1.x.s.alive j=false) (fun i=>8 - i.1) (fun i=>[(14,.d (.z .u8 i.1))]) (fun i=>M1 (zaZ l) i.2.1 i.2.2.1 i.2.2.2 []) (0,m,a,b) ⟨zFV _,⟨k1,k2⟩,by show MX2 ((l.pk.size+0:Nat):Int) ((l.pk.size+0:Nat):Int) m;rw[zHZ,←hlt];exact k3,fun j hj=>by omega⟩ ⟨rfl,trivial⟩ rfl (fun i=>⟨zF5 _,zF5 _,zF5 _⟩) ?_;clear k1 k2 k3 hev hq64;rintro⟨t,m,a,b⟩ ⟨ht8,⟨k1,k2⟩,k3,k4⟩;have ht8:t≤8:=ht8;have k1:MI l.n m:=k1;have k2:zlL m:=k2;have k3:MX2 (l.pk.size+t:Nat) (l.pk.size+t:Nat) m:=k3;have k4:∀j,j<t→m.x.s.alive j=false:=k4;conv=>whnf
  refine⟨fun ht=>?_,fun ht=>?_⟩
  ·have htl:t<8:=by
    have:(t:Int)<8:=by simpa using ht
    omega
   conv=>whnf
   rw[hw (16+(t:Int)) (by omega) (by omega)];refine zal (zon (L:=zaZ l) (e:=[]) (zlU (a:=a) (b:=b) (p:=16+(t:Int)) k1 k3 (by omega) (by omega) ⟨by omega,by omega⟩) rfl) ?_;rintro _ _ ⟨rfl,a2,b2,rfl⟩;have j:=zpw k1 k2 (b:=16+(t:Int)) (by omega);have jx:=zmP k1 k3 (k:=16+(t:Int)) (by omega);obtain⟨d1,d2⟩:=ztf k1 htl;conv=>whnf
   rw[hw ((t:Int)+1) (by omega) (by omega)];refine⟨(t+1,zbI m (16+(t:Int)),a2,b2),⟨htl,j,by show MX2 ((l.pk.size+(t+1):Nat):Int) ((l.pk.size+(t+1):Nat):Int) _;rw[←zG0,zHX];exact jx,fun i hi=>?_⟩,by show 8 -(t+1)<8 - t;omega,⟨rfl,trivial⟩,⟨rfl,rfl⟩,rfl⟩;have hi:i<t+1:=hi;by_cases c:i=t
   ·rw[c];exact d1
   ·exact d2 i (by omega) (k4 i (by omega))
  ·have htl:t=8:=by
    have:¬(t:Int)<8:=by simpa using ht
    omega
   subst htl;have hq64:m.x.q.length≤64:=k1.q64;conv=>whnf
   refine zaD (l:=[(3,.pt 1 [])]) (m':=M1 (zaZ l) m a b []) ⟨rfl,trivial⟩ rfl ?_;refine zav (zab zaa ?_);conv=>whnf
   refine zal (zdZ (L:=zaZ l) (e:=[]) (zeB (m:=m) (a:=a) (b:=b) (by omega)) rfl) ?_;rintro _ _ ⟨rfl,rfl⟩;conv=>whnf
   refine⟨zac (x:=((zL m.x.q).length:Int)) (by omega) (by rw[zFH];omega),?_⟩;conv=>whnf
   refine zaB zaa (fun i:Mc×Nat×Nat=>(MI l.n i.1∧zlL i.1)∧MX2 (l.pk.size+72 - i.1.x.q.length:Nat) (l.pk.size+72 - i.1.x.q.length:Nat) i.1∧∀j,j<8→i.1.x.s.alive j=false) (fun i=>i.1.x.q.length) (fun i=>[(15,I i.1.x.q.length)]) (fun i=>M1 (zaZ l) i.1 i.2.1 i.2.2 []) (m,a,b) ⟨⟨k1,k2⟩,?_,k4⟩ ⟨(by show some (I ((zL m.x.q).length:Nat))=some (I (m.x.q.length:Nat));rw[zFH]),trivial⟩ rfl (fun i=>⟨zF5 _,zF5 _,zF5 _⟩) ?_
   ·have e1:=k3.ev;have e2:=k3.now;exact⟨k3.mks,k3.ts,k3.rt,by show(m.ev.length:Int)≤((l.pk.size+72 - m.x.q.length:Nat):Int);omega,by show 0≤m.now∧m.now≤((l.pk.size+72 - m.x.q.length:Nat):Int);omega⟩
   clear k1 k2 k3 k4 hq64;rintro⟨m,a,b⟩ ⟨⟨k1,k2⟩,k3,k4⟩;have k1:MI l.n m:=k1;have k2:zlL m:=k2;have k3:MX2 (l.pk.size+72 - m.x.q.length:Nat) (l.pk.size+72 - m.x.q.length:Nat) m:=k3;have k4:∀j,j<8→m.x.s.alive j=false:=k4;have hq64:m.x.q.length≤64:=k1.q64;conv=>whnf
   refine⟨fun ht=>?_,fun ht=>?_⟩
   ·have hpos:0<m.x.q.length:=by
     have:(m.x.q.length:Int)>0:=by simpa using ht
     omega
    obtain⟨y,q,hq⟩:∃y q,m.x.q=y::q:=by
     cases hq:m.x.q with
     |nil=>rw[hq]at hpos;exact absurd hpos (zH0 0)
     |cons y q=>exact⟨y,q,rfl⟩
    have hql:m.x.q.length=q.length+1:=by rw[hq];rfl
    obtain⟨r1,r2,r3,r4,r5⟩:=zsT k1 k2 hq;have jx:=zmP k1 k3 (k:=8) (by decide);conv=>whnf
    refine zal (zon (L:=zaZ l) (e:=[]) (zlU (a:=a) (b:=b) (p:=8) k1 k3 (by omega) (by omega) ⟨by decide,by decide⟩) rfl) ?_;rintro _ _ ⟨rfl,a2,b2,rfl⟩;rw[r1];conv=>whnf
    refine⟨(fun h=>by cases h),fun _=>?_⟩;conv=>whnf
    refine⟨zac (x:=(m.x.q.length:Int) - 1) (by omega) (by omega),?_⟩;conv=>whnf
    refine⟨(zbI m 8,a2,b2),⟨⟨r2,r3⟩,?_,fun j hj=>?_⟩,?_,⟨?_,trivial⟩,⟨rfl,rfl⟩,rfl⟩
    ·show MX2 ((l.pk.size+72 -(zbI m 8).x.q.length:Nat):Int) ((l.pk.size+72 -(zbI m 8).x.q.length:Nat):Int) (zbI m 8);rw[r4,show((l.pk.size+72 - q.length:Nat):Int)=((l.pk.size+72 - m.x.q.length:Nat):Int)+1 by omega];exact jx
    ·show(zbI m 8).x.s.alive j=false;rw[r5];exact k4 j hj
    ·show(zbI m 8).x.q.length<m.x.q.length;rw[r4];omega
    ·show some (I ((m.x.q.length:Int) - 1))=some (I ((zbI m 8).x.q.length:Nat));rw[r4,hql,zHX,Int.add_sub_cancel]
   ·have hq0:m.x.q=[]:=by
     have:¬(m.x.q.length:Int)>0:=by simpa using ht
     exact zHp.1 (by omega)
    conv=>whnf
    refine zaD (l:=[(3,.pt 1 [])]) (m':=M1 (zaZ l) m a b []) ⟨rfl,trivial⟩ rfl ?_;refine zab zaa ?_;conv=>whnf
    refine zal (zdZ (L:=zaZ l) (e:=[]) (zqW (m:=m) (a:=a) (b:=b) hq0 k4) rfl) ?_;rintro _ _ ⟨rfl,rfl⟩;conv=>whnf
    refine zdO (v:=zwp (B true)) (zdZ (L:=zaZ l) (e:=[]) (zq4 (m:=m) (a:=a) (b:=b) (by omega) (by rw[ztt k1 k2 k4 hq0,k1.n])) rfl) (fun _ h _=>h) ?_;conv=>whnf
    refine zam zts (fun _ h _=>h) ?_;conv=>whnf
    exact⟨rfl,zae rfl⟩
end Sx
namespace Sx
noncomputable def zn0(f:FuncId):List UInt8:=((Tryz.prog.funcs[f]?).map (·.name.toUTF8.data.toList)).getD []
noncomputable def zrC:List (Lit×DataW (List UInt8)):=zeH.map fun p=>(.int .u8 p.1,.held (zn0 p.2))
abbrev zsh:List (String×DataW Unit):=[("bailiwick/model.does",Rows.laid_bailiwick_model_does)]
def zxT:DataW Unit:=match(Rows.laid_bailiwick_model_does:DataW Unit)with
 | .iface _ d=>d
 |d=>d
theorem zxU:(Rows.laid_bailiwick_model_does:DataW Unit)=.iface "func table" zxT:=rfl
theorem zuQ:zxT.funcsOut=.map zrC:=by kernel_rfl
theorem zAg:Tryz.prog.globalNamed "bailiwick/model.does"=some 0:=by kernel_rfl
theorem zC2:(Tryz.prog.globals[0]?).map (·.type)=some 252:=by kernel_rfl
theorem zu0:(zeH.all fun p=>(((List.range Tryz.prog.funcs.size).filter fun f=>(Tryz.prog.funcs[f]?).any (·.name.toUTF8.data.toList==zn0 p.2))==[p.2])&&!(zn0 p.2).isEmpty)=true:=by kernel_rfl
theorem zuu:(zeH.all fun p=>ziS zeH p.1==some p.2)=true:=by kernel_rfl
theorem zo7:∀{l:List (Int×FuncId)} {n:Int} {f:FuncId},ziS l n=some f→(n,f)∈l
 |(k,g)::r,n,f,h=>by
  unfold ziS at h;split at h
  ·rename_i e;cases h;rw[e];exact zF3 ..
  ·exact zF4 _ (zo7 h)
 |[],_,_,h=>by cases h
theorem zo4{n:Int}:∀{l:List MapEntry} {i:Nat},(∀x∈l,∃m f,(m,f)∈zeH∧x.key=.int .u8 m∧x.val=.func (.func f) #[] #[])→
 (Instr.findNow (.int .u8) (.int .u8 n) l i=some none∧∀x∈l,x.key≠.int .u8 n)∨∃j f,Instr.findNow (.int .u8) (.int .u8 n) l i=some (some (j,.func (.func f) #[] #[]))∧(n,f)∈zeH
 |[],_,_=>.inl ⟨rfl,fun x hx=>by cases hx⟩
 |x::l,i,h=>by
  obtain⟨m,f,h1,h2,h3⟩:=h x (zF3 ..);have hs:Instr.findNow (.int .u8) (.int .u8 n) (x::l) i=bif n==m then some (some (i,x.val))else Instr.findNow (.int .u8) (.int .u8 n) l (i+1):=by
   show(match Instr.sameNow (.int .u8) (.int .u8 n) x.key with
    |some true=>some (some (i,x.val))
    |some false=>Instr.findNow (.int .u8) (.int .u8 n) l (i+1)
    |none=>none)=_
   rw[h2];show(match some (n==m)with
    |some true=>some (some (i,x.val))
    |some false=>Instr.findNow (.int .u8) (.int .u8 n) l (i+1)
    |none=>none)=_
   cases(n==m)<;>rfl
  rw[hs];cases hq:n==m with
  |true=>
   rw[zGG]at hq;subst hq;exact .inr ⟨i,f,by rw[h3];rfl,h1⟩
  |false=>
   rcases zo4 (l:=l) (i:=i+1) fun y hy=>h y (zF4 _ hy)with⟨g1,g2⟩|g
   ·refine .inl ⟨g1,fun y hy=>?_⟩;rcases zGm.1 hy with rfl|hy
    ·rw[h2];intro e;cases e;simp at hq
    ·exact g2 y hy
   ·exact .inr g
theorem zsf{v:Value}{m:Int}(h:keyOf Tryz.prog 5 v=some (.int .u8 m)):v=.int .u8 m:=by
 unfold keyOf at h;rw[Tryz.underlying5]at h;unfold mapKey at h;rw[Tryz.underlying5]at h;cases v with
 |int q n=>
  have h:(if q=.u8∧(Lit.int .u8 n).wf=true then some (Lit.int .u8 n)else none)=some (.int .u8 m):=h;split at h
  ·rename_i hq;cases h;rw[hq.1]
  ·cases h
 |_=>cases h
theorem zyX{W:World}{n:Nat}{v:Value}{f:FuncId}{q:DataW (List UInt8)×List MemPlace}(hf:∃m,(m,f)∈zeH)(h:Go.WideElems.elemAt (funcToken Tryz.prog) Tryz.prog W 0 (fun _=>true) true n 250 v=some q)(hq:q.1=.held (zn0 f)):v=.func (.func f) #[] #[]:=by
 obtain⟨m,hm⟩:=hf;have h1:=zGr.1 zu0 _ hm;simp only[zFR,zGG,zGC]at h1;obtain⟨h1,h2⟩:=h1;obtain⟨d,l⟩:=q;have hq:d=.held (zn0 f):=hq;subst hq;cases hn:zn0 f with
 |nil=>rw[hn]at h2;cases h2
 |cons b r=>
  rw[hn]at h h1;unfold Go.WideElems.elemAt at h;split at h
  ·rename_i hfm;have hc:v.cells.toList=[v]:=by
    cases v with
    |agg cs=>
     unfold Value.formed at hfm;rw[Tryz.underlying250]at hfm;cases hfm
    |_=>rfl
   rw[hc]at h;exact func_of_trod Tryz.underlying250 h1 h
  ·cases h
open Go.WideElems in
theorem zxI{W:World}(h:laidMetH Tryz.prog zsh W):∃g,GlobOk g W:=by
 obtain⟨g,t,cs,fuel,p,hg,ht,hv,hd⟩:=h.funcs (d:=zxT) (zHW.2 (by rw[zxU]));obtain rfl:=zH1 (zAg.symm.trans hg);obtain rfl:=zH1 (zC2.symm.trans ht);rw[zuQ]at hd;rcases Go.WideElems.open_map Tryz.underlying252 hd with⟨_,hx⟩|⟨b,es,clock,n,_,hcs,hb,_,F,hx⟩
 ·cases hx
 have hL:zrC=(es.toList.map (rg Tryz.prog 5 (elemAt (funcToken Tryz.prog) Tryz.prog W 0 (fun _=>true) true n 250))).foldr DataW.insert []:=by
  have:=congrArg (fun q:DataW (List UInt8)×List MemPlace=>match q.1 with
   | .map l=>l
   |_=>[]) hx
  exact this
 have hmem:∀y,y∈zrC↔y∈es.toList.map (rg Tryz.prog 5 (elemAt (funcToken Tryz.prog) Tryz.prog W 0 (fun _=>true) true n 250)):=fun y=>by
  rw[hL];generalize es.toList.map (rg Tryz.prog 5 (elemAt (funcToken Tryz.prog) Tryz.prog W 0 (fun _=>true) true n 250))=l;induction l with
  |nil=>exact Iff.rfl
  |cons x l ih=>rw[List.foldr_cons,Go.ChangeMaps.mem_insert_iff,ih,zGm]
 have hall:∀x∈es.toList,∃m f,(m,f)∈zeH∧x.key=.int .u8 m∧x.val=.func (.func f) #[] #[]:=fun x hx2=>by obtain⟨y,hy⟩:=F.reads x hx2;have hy2:y∈zrC:=(hmem y).2 (zHg.2 ⟨x,hx2,rg_of hy⟩);obtain⟨⟨m,f⟩,hp,rfl⟩:=zHg.1 hy2;obtain⟨z,hz,hz2⟩:=rd_val hy;exact⟨m,f,hp,zsf (rd_key hy),zyX ⟨m,hp⟩ hz hz2.symm⟩
 have hback:∀m f,(m,f)∈zeH→∃x∈es.toList,x.key=.int .u8 m:=fun m f hp=>by have h1:(Lit.int .u8 m,DataW.held (zn0 f))∈zrC:=zHg.2 ⟨(m,f),hp,rfl⟩;obtain⟨x,hx2,he⟩:=zHg.1 ((hmem _).1 h1);obtain⟨y,hy⟩:=F.reads x hx2;rw[rg_of hy]at he;subst he;exact⟨x,hx2,zsf (rd_key hy)⟩
 refine⟨b,⟨?_,es,clock,hb,fun n=>?_⟩⟩
 ·unfold World.var? at hv;rw[zAg]at hv;simp only[zGp]at hv;split at hv
  ·rename_i c ty fz hc;cases hv;refine⟨_,_,_,hc,?_⟩;rw[←zGo,hcs];rfl
  ·cases hv
 ·rcases zo4 (n:=n) (i:=0) hall with⟨g1,g2⟩|⟨j,f,g1,g2⟩
  ·refine .inl ⟨g1,?_⟩;cases hq:ziS zeH n with
   |none=>rfl
   |some f=>
    obtain⟨x,hx2,hk⟩:=hback n f (zo7 hq);exact absurd hk (g2 x hx2)
  ·have:=zGr.1 zuu _ g2;exact .inr ⟨j,f,g1,by simpa using this⟩
end Sx
open Go.ChangeShapes Go.WideShapes Go.ChangeAt Go.RowKit
namespace Sx
theorem zFi:ownKnob Tryz.prog.godebug=none:=by kernel_rfl
theorem zuP:laidOutB Tryz.prog=true:=by kernel_rfl
theorem zxf:Tryz.prog.cellsOf 24=3:=by kernel_rfl
theorem zzU:Tryz.prog.cellsOf 9=1:=by kernel_rfl
def roW(W:World):Ro:=fun b=>match W.heap[b]? with
 |some (.cells c _ _)=>some c.toList
 |_=>none
theorem zA0(W:World):Kn (roW W) W:=fun b row h=>by
 unfold roW at h;split at h
 ·rename_i c e fz hc;cases h;exact⟨c,e,fz,hc,zGM _⟩
 ·cases h
theorem zri{W:World}{a:Addr}{v:Value}(h:W.cell? a=some v):a.spot=none∧∃row,roW W a.block=some row∧row[a.off]?=some v:=by
 unfold World.cell? at h;split at h
 ·rename_i c e fz hc;split at h
  ·cases h
  ·rename_i hs;refine⟨by simpa using hs,c.toList,by unfold roW;rw[hc],by simpa using h⟩
 ·cases h
theorem ziH{α:Type}{Q:Nat→α→Prop}:∀n,(∀i,i<n→∃x,Q i x)→∃l:List α,l.length=n∧∀i x,l[i]?=some x→Q i x
 |0,_=>⟨[],rfl,fun i x h=>by simp at h⟩
 |n+1,h=>by
  obtain⟨l,hl,hp⟩:=ziH n (fun i hi=>h i (by omega));obtain⟨x,hx⟩:=h n (by omega);refine⟨l++[x],by simp[hl],fun i y hy=>?_⟩;by_cases hi:i<n
  ·rw[zH2 (by omega)]at hy;exact hp i y hy
  ·rw[zHY (by omega)]at hy;cases hq:i - l.length with
   |zero=>
    rw[hq]at hy;cases hy;have:i=n:=by omega
    rw[this];exact hx
   |succ k=>rw[hq]at hy;simp at hy
theorem zsF{H:Type}{enc:TypeId×Value→H}{W:World}{k:Nat}{v:Value}{y:DataW H×List MemPlace}(hf:DataW.trod enc Tryz.prog W 0 (fun _=>true) true k 22 [v]=some y):
 ∃ps:List ByteArray,zbg (roW W) (.sl ps.length .c fun i=>.st (ps.getD i ByteArray.empty)) [v]∧ps.length≤maxLen∧∀p∈ps,p.size≤maxLen:=by
 rcases Deep.open_slice Tryz.underlying22 hf with⟨hcs,_⟩|⟨a,len,cap,m,k,D,Pl,hcs,_,hlc,hcm,hm,hx,hi⟩
 ·simp only[zFD,zFE]at hcs;subst hcs;exact⟨[],⟨none,0,rfl,zF5 _,fun h=>absurd h (zH0 0)⟩,zFV _,fun p hp=>by cases hp⟩
 ·simp only[zFD,zFE]at hcs;subst hcs;simp only[zG7]at hm;subst hm;have hp:∀i,i<len→∃s:ByteArray,W.cell? (a.add i)=some (.string s)∧s.size≤maxLen:=by intro i hin;obtain⟨cs',hcell,ht⟩:=hi i (by omega);rw[zzU]at hcell;obtain⟨_,hcl,hat⟩:=World.cells?_some hcell;obtain⟨s,hs,_,hsz⟩:=DataW.trod_string Tryz.underlying9 ht;refine⟨s,?_,hsz⟩;have:=hat 0 (by decide);rw[hs]at this;simpa[Addr.add]using this
  obtain⟨l,hl,hlp⟩:=ziH len hp;refine⟨l,⟨some a,_,by rw[hl],by omega,fun hpos=>?_⟩,by omega,fun p hp=>?_⟩
  ·obtain⟨s0,hs0,_⟩:=hp 0 (by omega);obtain⟨hsp,row,hrow,_⟩:=zri hs0;obtain⟨blk,off,spot⟩:=a;have hsp:spot=none:=hsp;subst hsp;have hrow:roW W blk=some row:=hrow;have hat:∀i,i<l.length→row[off+i]?=some (.string (l.getD i ByteArray.empty)):=fun i hil=>by have h1:=(hlp i (l.getD i ByteArray.empty) (by rw[zG9,zHa hil];rfl)).1;rw[zbA]at h1;obtain⟨_,row2,hrow2,h2⟩:=zri h1;have hrow2:roW W blk=some row2:=hrow2;rw[hrow]at hrow2;cases hrow2;exact h2
   refine⟨blk,off,row,fun i=>[.string (l.getD i ByteArray.empty)],rfl,hrow,?_,fun i hil=>⟨rfl,rfl,?_⟩⟩
   ·have:=(zGf.1 (hat (l.length - 1) (by omega))).1;show off+l.length*1≤row.length;omega
   ·have h1:=hat i hil;show(row.drop (off+i*1)).take 1=_;rw[Nat.mul_one,List.take_one,List.head?_drop,h1];rfl
  ·obtain⟨i,hil⟩:=zGA.1 hp;exact(hlp i p hil).2
theorem zu2{H:Type}{enc:TypeId×Value→H}{W:World}{base g:Nat}{v:Value}{d:DataW H}{p:List MemPlace}(hval:Value.okWide Tryz.prog W .any base 24 v)
 (h:DataW.Trod enc Tryz.prog W 0 (fun _=>true) true 24 v d p):
 ∃l:Lst,zaX (roW W) ⟨[],[],[],[],g⟩ (.d (zaZ l)) v∧I64 (l.ps.length:Int)∧I64 (l.pk.size:Int)∧∀p∈l.ps,I64 (p.size:Int):=by
 obtain⟨c0,c1,c2,y0,y1,y2,m,rfl,_,_,hy0,hy1,hy2⟩:=Joins.open_agg3 Tryz.underlying24 (by kernel_rfl) zxf hval h;obtain⟨x,e0,_,hw⟩:=DataW.trod_int Tryz.underlying3 hy0;obtain⟨ps,hr,hl,hp⟩:=zsF hy1;obtain⟨s,e2,_,hs⟩:=DataW.trod_string Tryz.underlying9 hy2;simp only[zFD,zFE]at e0 e2;subst e0 e2;have hi:∀n:Nat,n≤maxLen→I64 (n:Int):=fun n hn=>by
  have:maxLen=9223372036854775807:=by decide+kernel
  exact zac (by omega) (by omega)
 refine⟨⟨x,ps,s⟩,⟨fun _=>⟨_,⟨[.int .i64 x],_,rfl,⟨rfl,?_⟩,[c1],_,rfl,hr,[.string s],[],rfl,rfl,rfl⟩,rfl⟩,fun h=>by cases h⟩,hi _ hl,hi _ hs,fun p h=>hi _ (hp p h)⟩;have hw:(decide (IntKind.i64.min≤x)&&decide (x≤IntKind.i64.max))=true:=hw;simp only[zFR,zFS]at hw;have e1:IntKind.i64.min= -9223372036854775808:=by decide
 have e2:IntKind.i64.max=9223372036854775807:=by decide
 exact zb9 (show I64 x from zac (by omega) (by omega))
theorem zpZ{W:World}{g:Nat}(hG:GlobOk g W){v:Value}{l:Lst}(hv:zaX (roW W) ⟨[],[],[],[],g⟩ (.d (zaZ l)) v)(h1:I64 (l.ps.length:Int))(h2:I64 (l.pk.size:Int))(h3:∀p∈l.ps,I64 (p.size:Int)):
 Calls Tryz.prog 4 #[v] W fun e w'=>e=.returned (.bool true)∧Below W.heap.size W w':=by
 have hb0:∀b,¬(Bl.mk [] [] [] [] g).hb b:=fun b hb=>by
  rcases hb with⟨i,x,h,_⟩|⟨i,x,h,_⟩|⟨i,x,h,_⟩
  all_goals exact absurd (show([]:List _)[i]?=some x from h) (by simp)
 have hM:Mem ⟨fun _ _ _=>True,fun _ _ _=>trivial⟩ (roW W) ⟨[],[],[],[],g⟩ ⟨[],[],[]⟩ W:=
  ⟨⟨rfl,rfl,(fun id blk t v h=>by simp at h),(fun i j x y h=>by simp at h),(fun id e blk h=>by simp at h),(fun i j e e' blk h=>by simp at h),zA0 W,rfl,(fun id y x h=>by simp at h),(fun i j x y b h=>by simp at h),(fun i j x y h=>by simp at h)⟩,trivial,hG,⟨hb0 0,hb0 _⟩,fun D hD=>by cases hD⟩
 refine((zyd l h1 h2 h3 ⟨[],[],[]⟩).2 _ (roW W) ⟨[],[],[],[],g⟩ W [v] hM ⟨hv,trivial⟩).mono ?_;rintro e w' ⟨ro',bl',m',out,_,hGr,ho,rfl,_⟩;obtain⟨x,rfl,hx⟩:=ho;have hx:zcD ro' bl' (B true) x:=hx;have hx:[x]=[.bool true]:=hx.2 rfl;cases hx;exact⟨rfl,hGr.os,hGr.tape,hGr.output,hGr.size,fun k hk=>(hGr.old k hk (hb0 k)).1⟩
end Sx
open Go.ChangeShapes Go.WideShapes Go.ChangeAt Go.RowKit
namespace Sx
theorem zg3{H:Type}{enc:TypeId×Value→H}{P:Program}(hl:laidOutB P=true){W W':World}(hb:Below W.heap.size W W'):
 ∀{ts:List TypeId} {vs:List Value} {ds:List (DataW H)} {ps:List MemPlace},(ts.all fun t=>P.readableRec t&&decide (t<P.types.size))=true→
  DataW.TrodAll enc P W 0 (fun _=>true) true ts vs ds ps→(∀x∈ps,x.block<W.heap.size)→DataW.TrodAll enc P W' 0 (fun b=>decide (b<W.heap.size)) true ts vs ds ps
 |[],[],[],_,_,h,_=>h
 |t::ts,v::vs,d::ds,ps,hts,h,hlt=>by
  obtain⟨p,q,h1,h2,rfl⟩:=h;simp only[List.all_cons,zFR,zFS]at hts;exact⟨p,q,Below.trod hl hts.1.1 hts.1.2 h1 hb (fun x hx=>hlt x (zF2.2 (.inl hx))),
   zg3 hl hb hts.2 h2 (fun x hx=>hlt x (zF2.2 (.inr hx))),rfl⟩
 |[],[],_::_,_,_,h,_=>h.elim
 |[],_::_,[],_,_,h,_=>h.elim
 |[],_::_,_::_,_,_,h,_=>h.elim
 |_::_,[],[],_,_,h,_=>h.elim
 |_::_,[],_::_,_,_,h,_=>h.elim
 |_::_,_::_,[],_,_,h,_=>h.elim
theorem zuR{H:Type}{enc:TypeId×Value→H}{P:Program}{f:Func}{s:ChangeSpec}{W W':World}{args:Array Value}{ds gs:List (DataW H)}{before:List MemPlace}{tb:TypeId}
 (hl:laidOutB P=true)(hts:(f.params.toList.all fun t=>P.readableRec t&&decide (t<P.types.size))=true)(hrt:f.resultTypes= #[tb])(hu:P.underlying tb=some .bool)(hvars:s.vars=[])
 (hres:(s.fn H (ds++[])).results=[.lit (.bool true)])(hargs:(s.fn H (ds++[])).args=ds)(hvs:(s.fn H (ds++[])).vars=[])
 (hW:DataW.Whole enc P f.params.toList s.vars false W args.toList ds gs before)(hb:Below W.heap.size W W'):
 s.post enc P f false true false false W args (.bool true) W':=by
 have hW':=hW;have hlt:∀x∈before,x.block<W.heap.size:=fun x hx=>hW.lt x hx;obtain⟨p,q,hA,hV,rfl,_,_⟩:=hW;rw[hvars]at hV;obtain⟨rfl,rfl⟩:=trodVars_none hV;refine⟨ds,[],_,[],p,[],hW',?_,?_,?_,World.keptBut_mono (fun x hx=>⟨hx,.inr (.inl (by simpa using hx))⟩) (hb.frame (·∈p++[])),fun h=>by cases h⟩
 ·rw[hres,hrt];exact trodAll_mk1 (shut_bool hu true)
 ·rw[hargs];exact zg3 hl hb hts hA (fun x hx=>hlt x (by simpa using hx))
 ·rw[hvs,hvars];rfl
theorem zuv(os:Os)(args:Array Value):laidMetH Tryz.prog zsh ((World.doorLaid Tryz.prog 124 os).forCall (fun _ _=>0) ⟨#[],args,[]⟩).memory:=
 laidMetH_of_parts3 (fuel:=8) (laidMet_of_run' 8 (by kernel_rfl) (by kernel_rfl)) (by kernel_rfl) (by kernel_rfl)
set_option maxRecDepth 100000 in
theorem zAt(os:Os)(started:os.Started)(H:Type)(enc:TypeId×Value→H):
 ReturnsInHanded {} Tryz.checked os 4 .any (fun w args=>(Rows.topPagesSpec.pre enc Tryz.prog Tryz.f4 [] false w args∧laidMetH Tryz.prog zsh w)∧sizedMet enc Tryz.prog Tryz.f4 (OpenSpec.ofChange Rows.topPagesSpec) false w args)
  (Rows.topPagesSpec.post enc Tryz.prog Tryz.f4 false true false false):=by
 refine returnsInHanded_of_change_and (C:=Tryz.checked) (X:=fun w _=>laidMetH Tryz.prog zsh w) (fun _ _ _ hh h=>h.of_heap hh) zFi started (by kernel_rfl) Tryz.func4
  (ChangeSpec.witness_shaped (enc:=enc) (C:=Tryz.checked) (os:=os) (X:=fun w _=>laidMetH Tryz.prog zsh w) false (World.doorLaid Tryz.prog 124 os) #[.agg #[.int .i64 0,.slice none 0 0,.string ByteArray.empty]] 8 rfl (World.shaped_of_RefB (by kernel_rfl) (by kernel_rfl)) (by kernel_rfl) (by kernel_rfl) (by kernel_rfl) (zuv os _)) ?_
 intro W base args ds gs before hval0 hW _ _ hL _;have hval:∀(j:Nat) t v,Tryz.f4.params[j]?=some t→args[j]?=some v→Value.okWide Tryz.prog W .any base t v:=hval0;have hW':=hW;obtain⟨p,q,hA0,hV,rfl,_,_⟩:=hW;have hA:DataW.TrodAll enc Tryz.prog W 0 (fun _=>true) true Tryz.f4.params.toList args.toList ds p:=hA0;rw[Tryz.params4]at hA hval;obtain⟨v0,d0,rfl,rfl,h0⟩:=trodAll_one hA;obtain⟨rfl,rfl⟩:=trodVars_none hV;obtain⟨g,hG⟩:=zxI hL;obtain⟨l,hv,h1,h2,h3⟩:=zu2 (g:=g) (hval 0 24 v0 rfl rfl) h0;clear hA0 hval0;refine(zpZ hG hv h1 h2 h3).mono fun e W' ⟨he,hb⟩=>?_;subst he;exact⟨_,rfl,zuR zuP (by kernel_rfl) rfl Tryz.underlying4 rfl rfl rfl rfl hW' hb⟩
theorem hcl:joinedFacts Tryz.prog 4 Tryz.f4 Rows.topPagesSpec Rows.topPagesRow=true:=by kernel_rfl
theorem hin:Tryz.f4.isInstance Tryz.prog Rows.topPagesRow.origin Rows.topPagesRow.targs:=zFL (by kernel_rfl)
theorem hwr:Tryz.f4.isWrapper Tryz.prog Rows.topPagesRow.wrapper Rows.topPagesRow.mainSum:=(by unfold Func.isWrapper;rw[if_neg (zFK (by kernel_rfl))];exact⟨rfl,rfl⟩)
theorem hfn:Tryz.prog.funcNamed Rows.topPagesRow.func=some 4:=by kernel_rfl
theorem row_holds:Rows.TopPagesSaid:=
 OpenClaim.holds_of_wide 4 Tryz.f4 rfl rfl rfl rfl rfl rfl rfl ⟨rfl,rfl,rfl,rfl,rfl⟩ rfl rfl rfl rfl rfl hfn Tryz.func4 hcl hin hwr
  (fun os started H enc _=>zAt os started H enc)
end Sx
namespace topPages
theorem holds:Rows.TopPagesCardSaid:=
 Claim7.holds_tied_plain_at .later [] [.funcs] true (true, "0175f18354d726fcc6f9b83f2d1f39aef72d485daa924d31e271b389dd184dec") true
  Sx.row_holds (fun _ h=>by cases h) (by kernel_rfl) (fun _ h=>by cases h) topPages_row_tie rfl ⟨rfl,rfl⟩ (by kernel_rfl) rfl
  (fun f fn hf hfn=>by
   obtain rfl:f=4:=zH1 ((show Tryz.prog.funcNamed "bailiwick/bailiwicktop.TopPages"=some 4 by kernel_rfl).symm.trans hf) |>.symm;obtain rfl:fn=Tryz.f4:=(zH1 (Tryz.func4.symm.trans hfn)).symm;exact⟨by kernel_rfl,fun j t ht=>by
    rw[Tryz.params4]at ht;have hm:t∈[24]:=by simpa using Array.mem_of_getElem? ht
    have hall:([24].all fun u=>!Tryz.prog.wantsStandIn u)=true:=by kernel_rfl
    exact(show Tryz.prog.wantsStandIn t=false by simpa using zGr.1 hall t hm)⟩)
  (by kernel_rfl)
#print axioms holds
end topPages
end Go.Proofs.YtfbhkfhbnkncoaaGreatDoor
