import Derived.Test.YtfbhkfhbnkncoaaGreatDoorT35
set_option linter.all false
set_option maxRecDepth 100000
set_option maxHeartbeats 8000000
namespace Go.Proofs.YtfbhkfhbnkncoaaGreatDoor
open Go.RowKit
namespace Sx
def CX(n:Int)(a:Bool)(s:St)(task:Int)(c:Call)(run:Rn)(x':Cl)(r:Rs):Prop:=
 (a=false→match zbu s task c run with
  | .ok (s',r',b)=>r=r'∧x'.s=s'∧x'.back=b
  | .error e=>r=⟨e,0,0⟩)∧
 (a=true→s.alive task.toNat=true→c.do_=2→match zh6 s task c with
  | .ok k=>r.e=0∧x'.needs=(bif k==0 then n else k)
  | .error e=>r.e=e)
def CZ(n:Int)(a:Bool)(s:St)(task:Int)(c:Call)(run:Rn)(o:Out)(m:MS):Prop:=
 ∃v' x',m=⟨[zaQ x' v'],[v'],[]⟩∧((∃r,o=.ret (.d (zaK r))∧CX n a s task c run x' r)∨∃e,o=thr e∧CX n a s task c run x' ⟨e,0,0⟩)
theorem zzK{t:Int}(h:0≤t∧t<8):zaC .and .i64 t 7=t:=by
 have:t=0∨t=1∨t=2∨t=3∨t=4∨t=5∨t=6∨t=7:=by omega
 rcases this with h|h|h|h|h|h|h|h<;>subst h<;>rfl
theorem zwa{n:Int}{K:Option SV→Prop}:∀{l:List (Int×FuncId)},(∀f,ziS l n=some f→K (some (.fn (.func f) (.d .un))))→(ziS l n=none→K none)→znT n K (l.map fun e=>(e.1,.fn (.func e.2) (.d .un)))
 |[],_,h2=>h2 rfl
 |(k,f)::l,h1,h2=>by
  refine⟨fun h=>?_,fun h=>zwa (fun f' hf=>h1 f' ?_) fun hn=>h2 ?_⟩
  ·exact h1 f (by unfold ziS;rw[if_pos h.symm])
  ·unfold ziS;rw[if_neg (fun e=>h e.symm)];exact hf
  ·unfold ziS;rw[if_neg (fun e=>h e.symm)];exact hn
theorem zAy{n:Int}{K:Option SV→Prop}(h1:∀f,ziS zeH n=some f→K (some (.fn (.func f) (.d .un))))(h2:ziS zeH n=none→K none):znT n K znA:=zwa (l:=zeH) h1 h2
theorem zAz{n:Int}{K:Option SV→Prop}{A:Prop}(hA:A=K (some (.fn (.func 291) (.d .un))))(h1:∀f,ziS zeH n=some f→K (some (.fn (.func f) (.d .un))))(h2:ziS zeH n=none→K none):(n=1→A)∧(n≠1→znT n K znA.tail):=by subst hA;exact zAy h1 h2
attribute [local irreducible] Con zax zan zau zai zaw zbt zak zaC zbh zba I64 OkW zhN zgr zlR
section
variable {s:St} {task:Int} {c:Call} {run:Rn} {n:Int} {a:Bool} {v:Nat} {d:Int→Nat}
theorem zCx{o:Out}{m:MS}{R:Ex}(hR:zbu s task c run=R)(hd:c.do_≠2)(h:MX R o m):CZ n a s task c run o m:=by
 obtain⟨v',x',hm,h⟩:=h;refine⟨v',x',hm,?_⟩;cases hq:R with
 |ok y=>
  obtain⟨s',r,b⟩:=y;rw[hq]at h;obtain⟨h1,h2,h3⟩:=h;exact .inl ⟨r,h1,(fun _=>by rw[hR,hq];exact⟨rfl,h2,h3⟩),fun _ _ e=>absurd e hd⟩
 |error e=>
  rw[hq]at h;exact .inr ⟨e,h,(fun _=>by rw[hR,hq]),fun _ _ e=>absurd e hd⟩
theorem zCw{o:Out}{m:MS}(hR:zbu s task c run=zdq s task c run)(h:AX n a s task c run o m):CZ n a s task c run o m:=by
 obtain⟨v',x',hm,h1,h2⟩:=h;refine⟨v',x',hm,?_⟩;cases a with
 |false=>
  have h1:=h1 rfl;cases hq:zdq s task c run with
  |ok y=>
   obtain⟨s',r,b⟩:=y;rw[hq]at h1;exact .inl ⟨r,h1.1,(fun _=>by rw[hR,hq];exact⟨rfl,h1.2⟩),fun h=>by cases h⟩
  |error e=>
   rw[hq]at h1;exact .inr ⟨e,h1,(fun _=>by rw[hR,hq]),fun h=>by cases h⟩
 |true=>
  have h2:=h2 rfl;cases hq:zh6 s task c with
  |ok k=>
   rw[hq]at h2;obtain⟨⟨r,he,hr⟩,hn⟩:=h2;exact .inl ⟨r,hr,(fun h=>by cases h),fun _ _ _=>by rw[hq];exact⟨he,hn⟩⟩
  |error e=>
   rw[hq]at h2;exact .inr ⟨e,h2.1,(fun h=>by cases h),fun _ _ _=>by rw[hq]⟩
theorem zAJ(hs:StD s)(hM:zit s)(hc:CallOk s task c)(hr:zbd run∨run.n=0)(hA:s.alive task.toNat=true){f:FuncId}(hf:ziS zeH c.do_=some f):Con Tryz.prog f [.pt 0 []] ⟨[zaQ (cl0 s task c run n a) v],[v],[]⟩ (CZ n a s task c run):=by
 obtain⟨d,hd⟩:=hs.ok;have hcall:no ((decide (task≥0)&&decide (task<8))&&s.alive task.toNat) 12=0:=by rw[zFQ hc.t0,zFQ hc.t1,hA];rfl
 have hR:∀{k:Int} {R:Ex},c.do_=k→(zbu s task c run=thn 0 R)→zbu s task c run=R:=fun _ h=>h.trans (zap rfl);have step:∀{k:Int} {g:FuncId} {l:List (Int×FuncId)},ziS ((k,g)::l) c.do_=some f→(c.do_=k∧f=g)∨(c.do_≠k∧ziS l c.do_=some f):=fun{k g l} h=>by
  unfold ziS at h;by_cases e:k=c.do_
  ·rw[if_pos e]at h;cases h;exact .inl ⟨e.symm,rfl⟩
  ·rw[if_neg e]at h;exact .inr ⟨fun h=>e h.symm,h⟩
 have hB:=fun b hb=>(hM b hb).1;have fin:∀{R:Ex},c.do_≠2→zbu s task c run=R→Con Tryz.prog f [.pt 0 []] ⟨[zaQ (cl0 s task c run n a) v],[v],[]⟩ (MX R)→Con Tryz.prog f [.pt 0 []] ⟨[zaQ (cl0 s task c run n a) v],[v],[]⟩ (CZ n a s task c run):=fun h1 h2 h3=>zal h3 fun o m h=>zCx h2 h1 h;rcases step hf with⟨e,rfl⟩|⟨_,hf⟩
 ·exact fin (by omega) (by unfold zbu;rw[hcall,e];rfl) (zCL hd hc)
 rcases step hf with⟨e,rfl⟩|⟨_,hf⟩
 ·exact zal (zw7 hd hc hr) fun o m h=>zCw (by unfold zbu;rw[hcall,e];rfl) h
 rcases step hf with⟨e,rfl⟩|⟨_,hf⟩
 ·exact fin (by omega) (by unfold zbu;rw[hcall,e];rfl) (zAx hd hc)
 rcases step hf with⟨e,rfl⟩|⟨_,hf⟩
 ·exact fin (by omega) (by unfold zbu;rw[hcall,e];rfl) (zyI hd hc)
 rcases step hf with⟨e,rfl⟩|⟨_,hf⟩
 ·exact fin (by omega) (by unfold zbu;rw[hcall,e];rfl) (zyj hd hc)
 rcases step hf with⟨e,rfl⟩|⟨_,hf⟩
 ·exact fin (by omega) (by unfold zbu;rw[hcall,e];rfl) (zus hd hc)
 rcases step hf with⟨e,rfl⟩|⟨_,hf⟩
 ·exact fin (by omega) (by unfold zbu;rw[hcall,e];rfl) (zCv hd hc)
 rcases step hf with⟨e,rfl⟩|⟨_,hf⟩
 ·exact fin (by omega) (by unfold zbu;rw[hcall,e];rfl) (zxL hd hc)
 rcases step hf with⟨e,rfl⟩|⟨_,hf⟩
 ·exact fin (by omega) (by unfold zbu;rw[hcall,e];rfl) (zuF hd hc)
 rcases step hf with⟨e,rfl⟩|⟨_,hf⟩
 ·exact fin (by omega) (by unfold zbu;rw[hcall,e];rfl) (zys hd hc)
 rcases step hf with⟨e,rfl⟩|⟨_,hf⟩
 ·exact fin (by omega) (by unfold zbu;rw[hcall,e];rfl) (zz6 hd hc)
 rcases step hf with⟨e,rfl⟩|⟨_,hf⟩
 ·exact fin (by omega) (by unfold zbu;rw[hcall,e];rfl) (zAr hd hc)
 rcases step hf with⟨e,rfl⟩|⟨_,hf⟩
 ·exact fin (by omega) (by unfold zbu;rw[hcall,e];rfl) (zp8 hd hs.r hc)
 rcases step hf with⟨e,rfl⟩|⟨_,hf⟩
 ·exact fin (by omega) (by unfold zbu;rw[hcall,e];rfl) (zA4 hd hB hc)
 rcases step hf with⟨e,rfl⟩|⟨_,hf⟩
 ·exact fin (by omega) (by unfold zbu;rw[hcall,e];rfl) (zwo hd (hB _ (by have:=hc.t0;have:=hc.t1;omega)) hc)
 rcases step hf with⟨e,rfl⟩|⟨_,hf⟩
 ·exact fin (by omega) (by unfold zbu;rw[hcall,e];rfl) (zwo hd (hB _ (by have:=hc.t0;have:=hc.t1;omega)) hc)
 rcases step hf with⟨e,rfl⟩|⟨_,hf⟩
 ·exact fin (by omega) (by unfold zbu;rw[hcall,e];rfl) (zxm hc)
 rcases step hf with⟨e,rfl⟩|⟨_,hf⟩
 ·exact fin (by omega) (by unfold zbu;rw[hcall,e];rfl) (zCS hd hc)
 rcases step hf with⟨e,rfl⟩|⟨_,hf⟩
 ·exact fin (by omega) (by unfold zbu;rw[hcall,e];rfl) (zxv hd hc)
 rcases step hf with⟨e,rfl⟩|⟨_,hf⟩
 ·exact fin (by omega) (by unfold zbu;rw[hcall,e];rfl) (zAd hs hM hc)
 rcases step hf with⟨e,rfl⟩|⟨_,hf⟩
 ·exact fin (by omega) (by unfold zbu;rw[hcall,e];rfl) (zAq hs hM hc)
 rcases step hf with⟨e,rfl⟩|⟨_,hf⟩
 ·exact fin (by omega) (by unfold zbu;rw[hcall,e];rfl) (zyz hc)
 cases hf
theorem noF{k:Int}(h:ziS zeH k=none):∀i:Int,1≤i→i≤22→k≠i:=by
 intro i h1 h2 e;subst e;have:k=1∨k=2∨k=3∨k=4∨k=5∨k=6∨k=7∨k=8∨k=9∨k=10∨k=11∨k=12∨k=13∨k=14∨k=15∨k=16∨k=17∨k=18∨k=19∨k=20∨k=21∨k=22:=by omega
 rcases this with h'|h'|h'|h'|h'|h'|h'|h'|h'|h'|h'|h'|h'|h'|h'|h'|h'|h'|h'|h'|h'|h'<;>subst h'<;>cases h
theorem zrg(hs:StD s)(hM:zit s)(hc:CallOk s task c)(hr:zbd run∨run.n=0):Con Tryz.prog 50 [.pt 0 []] ⟨[zaQ (cl0 s task c run n a) v],[v],[]⟩ fun o m=>∃v' x' r,o=.ret (.d (zaK r))∧m=⟨[zaQ x' v'],[v'],[]⟩∧CX n a s task c run x' r:=by
 refine zh9 (zal (K:=fun o m=>∃v' x' r,o=.ret (.d (zaK r))∧m=⟨[zaQ x' v',.d (zaK r)],[v'],[]⟩∧CX n a s task c run x' r) ?_ ?_)
 ·refine znx Tryz.func50 rfl (by kernel_rfl) rfl rfl (g:=97) Tryz.func97 (by kernel_rfl) rfl (List.range' 3 60) ?_;conv=>whnf
  refine⟨_,_,rfl,zxu (t:=2) (u:=5) rfl rfl rfl (by decide) rfl rfl rfl rfl rfl rfl,?_⟩;refine zmI (zab zaa ?_) (by kernel_rfl);conv=>whnf
  refine zao zaa (by kernel_rfl) 25 (by kernel_rfl) ?_;conv=>whnf
  refine⟨fun _=>⟨(zCc task).1,Int.lt_of_le_of_lt (zCc task).2 (by decide)⟩,?_⟩;conv=>whnf
  have ht:(0≤task∧task<8):=⟨hc.t0,hc.t1⟩;refine zcG ((decide (task≥0)&&decide (task<8))&&s.alive (zaC .and .i64 task 7).toNat) 12 _ (fun hb=>?_) (fun hb=>?_)
  ·rw[zzK ht]at hb;have hA:s.alive task.toNat=true:=(zHr.1 hb).2;conv=>whnf
   refine zaA zaa (by kernel_rfl) (List.range 12) [(6,0)] (by kernel_rfl) ?_;conv=>whnf
   refine zAz rfl (fun f hf=>?_) (fun hf=>?_)
   ·conv=>whnf
    refine zcG true 2 _ (fun _=>?_) (fun h=>by cases h);conv=>whnf
    refine zpW (zAJ hs hM hc hr hA hf) rfl (zka _ v) (fun o m ⟨v',x',hm,_⟩=>⟨_,_,hm⟩) fun o C' v' ⟨v2,x',hm,hk⟩=>?_;have e1:=congrArg MS.c hm;have e2:=congrArg MS.t hm;simp only[zFD,zFE]at e1 e2;subst e1 e2;rcases hk with⟨r,rfl,hk⟩|⟨e,rfl,hk⟩
    ·conv=>whnf
     refine zrh (r:=r) ?_;exact⟨_,rfl,v',x',r,rfl,rfl,hk⟩
    ·conv=>whnf
     refine ziF (r:=⟨0,0,0⟩) ?_;exact⟨_,rfl,v',x',⟨e,0,0⟩,rfl,rfl,hk⟩
   ·conv=>whnf
    refine zcG false 2 _ (fun h=>by cases h) (fun _=>?_);conv=>whnf
    refine ziF (r:=⟨0,0,0⟩) ?_;refine⟨_,rfl,v,cl0 s task c run n a,⟨2,0,0⟩,rfl,rfl,fun _=>?_,fun _ _ e=>absurd e (noF hf 2 (by decide) (by decide))⟩;have hz:∀i:Int,1≤i→i≤22→(c.do_==i)=false:=fun i h1 h2=>zFN.2 (noF hf i h1 h2);have:zbu s task c run=.error 2:=by unfold zbu;rw[zFQ hc.t0,zFQ hc.t1,hA,hz 1 (by decide) (by decide),hz 2 (by decide) (by decide),hz 3 (by decide) (by decide),hz 4 (by decide) (by decide),hz 5 (by decide) (by decide),hz 6 (by decide) (by decide),hz 7 (by decide) (by decide),hz 8 (by decide) (by decide),hz 9 (by decide) (by decide),hz 10 (by decide) (by decide),hz 11 (by decide) (by decide),hz 12 (by decide) (by decide),hz 13 (by decide) (by decide),hz 14 (by decide) (by decide),hz 15 (by decide) (by decide),hz 16 (by decide) (by decide),hz 17 (by decide) (by decide),hz 18 (by decide) (by decide),hz 19 (by decide) (by decide),hz 20 (by decide) (by decide),hz 21 (by decide) (by decide),hz 22 (by decide) (by decide)];rfl
    rw[this]
  ·rw[zzK ht]at hb;conv=>whnf
   refine ziF (r:=⟨0,0,0⟩) ?_;refine⟨_,rfl,v,cl0 s task c run n a,⟨12,0,0⟩,rfl,rfl,fun _=>?_,fun _ hA _=>?_⟩
   ·have:zbu s task c run=.error 12:=by unfold zbu;rw[hb];rfl
    rw[this]
   ·rw[hA,zFQ hc.t0,zFQ hc.t1]at hb;cases hb
 ·rintro o m' ⟨v',x',r,rfl,rfl,hk⟩;exact⟨.d (zaK r),fun _ _ _ h=>h,rfl,v',x',r,rfl,rfl,hk⟩
end
end Sx
namespace Sx
def zde(l:Line)(t:Int):Int:=zmu l.wait (tkB t) l.n.toNat
def woM(l:Line)(t:Int):Line:=
 bif decide (zde l t<0)then l
 else⟨l.has,l.n - 1,zaq (fun j=>bif Nat.ble (zde l t).toNat j&&Nat.blt j 7 then l.wait (j+1)else l.wait j) (l.n - 1).toNat 0⟩
def zzi(l:Line)(t:Int):Bool:=(l.has==0)&&((l.n==0)||(zde l t==0))
def ztq(m:Nat→Line)(s t:Int):Nat→Line:=
 bif zmC s t then
  (bif (m s.toNat).has==t+1 then m
  else bif zzi (m s.toNat) t then zaq m s.toNat {woM (m s.toNat) t with has:=IntKind.u8.wrap (t+1)}
  else bif decide (zde (m s.toNat) t<0)then zaq m s.toNat ⟨(m s.toNat).has,(m s.toNat).n+1,zaq (m s.toNat).wait (m s.toNat).n.toNat (tkB t)⟩
  else m)
 else m
def zrY(m:Nat→Line)(s t:Int):Bool:=zmC s t&&(((m s.toNat).has==t+1)||zzi (m s.toNat) t)
def zfl(t:Int)(m:Nat→Line)(i:Nat):Nat→Line:=
 bif zmC i t then zaq (zjI m i t) i (woM (zjI m i t i) t)else zjI m i t
def zAj(m:Nat→Line)(t:Int):Nat→Line:=(List.range 32).foldl (zfl t) m
structure Pl where
 n:Int
 fr:List Rn
 by_:Nat→Nat→Int
def pl0(n:Int):Pl:=⟨n,ofR n,fun _ _=>0⟩
def zb4(p:Pl)(n:Int):Int:=bif decide (n<1)then 2 else bif (zdM p.fr n).isSome then 0 else 6
def zgD(p:Pl)(n:Int):Int:=bif zb4 p n==0 then zmm p.fr n else 0
def zyM(l:List Rn)(x:Rn):List Rn:=(zjr l x).getD l
def zf0(p:Pl)(n:Int):Pl:=bif zb4 p n==0 then{p with fr:=zyM p.fr ⟨zmm p.fr n,n⟩}else p
def zdv(p:Pl)(page:Int):Int:=bif decide (page<0)||decide (page≥p.n)then 2 else bif zpe p.fr page then 12 else 0
def zCh(g:Nat→Int):Nat→Int:=fun j=>bif Nat.blt j 32 then 0 else g j
def zgE(p:Pl)(page:Int):Pl:=bif zdv p page==0 then{p with by_:=zaq p.by_ page.toNat (zCh (p.by_ page.toNat))}else p
def zxG(l:List Rn)(x:Rn):List Rn:=(zfk l x).getD l
def znp(p:Pl)(page:Int):Pl:=bif zdv p page==0 then{p with fr:=zxG p.fr ⟨page,1⟩}else p
def pgA(x:Int):Int:=IntKind.i64.wrap (x.tdiv 32)
def ofA(x:Int):Int:=x.tmod 32
def zeE(p:Pl)(at_:Int):Int:=bif decide (at_<0)then 2 else zdv p (pgA at_)
def zly(p:Pl)(at_:Int):Int:=bif zeE p at_==0 then p.by_ (pgA at_).toNat (ofA at_).toNat else 0
def zdI(p:Pl)(at_ b:Int):Pl:=bif zeE p at_==0 then{p with by_:=zaq p.by_ (pgA at_).toNat (zaq (p.by_ (pgA at_).toNat) (ofA at_).toNat b)}else p
def zb0(s:St)(c:Call):List Int:=
 bif (c.do_==6)||(c.do_==7)||(c.do_==9)||(c.do_==11)then zbW s.t c.r
 else bif c.do_==8 then(bif ((zbW s.t c.r).length==0)||!zah s.t.b c.s then[]else bif (zbW s.t c.r).contains c.s then zbW s.t c.r else zbW s.t c.r++[c.s])
 else bif c.do_==13 then(bif zah s.k.b c.s then zpu s (zcg s.k c.s).reg else[])
 else bif c.do_==14 then(bif c.b==1 then zpu s c.r else zbW s.t c.r)
 else bif (decide (1≤c.do_)&&decide (c.do_≤5))||(c.do_==10)||(c.do_==12)||(c.do_==18)||(c.do_==19)then zpu s c.r
 else[]
def zaO:Rn:=⟨0,0⟩
noncomputable def zns(s:St)(task:Int)(c:Call):Int:=bif decide (zaE s task c>0)then 0 else(doB s task c zaO).2.1.e
noncomputable def zg4(s:St)(task:Int)(c:Call):Bool:=(c.do_==15)&&(zns s task c==10)
def zdH(s:St)(c:Call):Int:=
 bif !zah s.t.b c.r then 4 else bif ((c.do_ != 3)&&(c.do_ != 4))||(decide (c.b<1)||decide (c.b>8))then 2
 else bif decide (c.a>(zaj s.t c.r).len - c.b)then 9 else 0
def zbU(s:St)(c:Call):List Int:=
 bif zdH s c==0 then(List.range c.b.toNat).map fun i:Nat=>(zhW (zaj s.t c.r).rs (c.a+(i:Int))).getD 0 else[]
structure Rt where
 task:Int
 c:Call
 chk:Bool
 regs:List Int
 run:Rn
 clr:Int
structure Cr where
 s:St
 p:Pl
 m:Nat→Line
 q:List Int
def rs0:Rs:=⟨0,0,0⟩
def zbn(x:Cr)(r:Rn):Cr:={x with q:=x.q++pg r}
def zfU(x:Cr)(c:Rt):Cr:={zbn x c.run with m:=zAj x.m c.task}
structure Sp where
 x:Cr
 c:Rt
 r:Rs
 e:Bool
def zuB(x:Cr)(c:Rt)(r:Rs):Sp:=⟨zfU x c,c,r,true⟩
noncomputable def zcZ(x:Cr)(c:Rt):Sp:=
 bif zg4 x.s c.task c.c then⟨x,c,rs0,false⟩
 else bif zns x.s c.task c.c != 0 then zuB x c ⟨zns x.s c.task c.c,0,0⟩
 else⟨x,{c with chk:=true,regs:=zb0 x.s c.c},rs0,false⟩
def zhT(x:Cr)(c:Rt)(h:Int)(l:List Int):Sp:=
 ⟨{x with m:=ztq x.m (slX h) c.task},{c with regs:=bif zrY x.m (slX h) c.task then l else c.regs},rs0,false⟩
def zbJ(x:Cr)(c:Rt)(n:Int):Sp:=
 bif zb4 x.p n != 0 then zuB x c ⟨zb4 x.p n,0,0⟩
 else⟨{x with p:=zf0 x.p n},{c with run:=⟨zgD x.p n,n⟩},rs0,false⟩
def zd9(x:Cr)(c:Rt):Sp:=⟨{x with p:=zgE x.p (c.run.at_+c.clr)},{c with clr:=c.clr+1},rs0,false⟩
def zbG(v:Int):Pl→List Int→Nat→Pl
 |p,[],_=>p
 |p,a::l,i=>zbG v (zdI p a (IntKind.u8.wrap (zba .u64 v (8*(i:Int))))) l (i+1)
def zeM(p:Pl):Int→List Int→Nat→Int
 |v,[],_=>v
 |v,a::l,i=>zeM p (zaC .or .u64 v (zbh .u64 (zly p a) (8*(i:Int)))) l (i+1)
noncomputable def zkN(x:Cr)(c:Rt)(r:Rs)(s':St)(back:List Rn):Sp:=
 zuB (back.foldl zbn {x with s:=s',p:=bif c.c.do_==4 then zbG c.c.v x.p (zbU x.s c.c) 0 else x.p}) {c with run:=zaO}
  (bif c.c.do_==3 then{r with v:=zeM x.p r.v (zbU x.s c.c) 0}else r)
noncomputable def zeq(x:Cr)(c:Rt):Sp:=
 bif (doB x.s c.task c.c c.run).2.1.e != 0 then zuB x c (doB x.s c.task c.c c.run).2.1
 else zkN x c (doB x.s c.task c.c c.run).2.1 (doB x.s c.task c.c c.run).1 (doB x.s c.task c.c c.run).2.2
noncomputable def zcU(x:Cr)(c:Rt):Sp:=
 bif decide (c.run.n>0)&&(zaE x.s c.task c.c != c.run.n)then zeq (zbn x c.run) {c with run:=zaO}else zeq x c
noncomputable def za1(x:Cr)(c:Rt):Sp:=
 bif !c.chk then zcZ x c
 else match c.regs with
 |h::l=>zhT x c h l
 |[]=>bif (zaE x.s c.task c.c != 0)&&decide (c.run.n≤0)then zbJ x c (zaE x.s c.task c.c)
  else bif decide (c.clr<c.run.n)then zd9 x c else zcU x c
def zdy(x:Cr):Cr:=match x.q with
 |[]=>x
 |a::l=>{x with p:=znp x.p a,q:=l}
structure Ins where
 op:Int
 a:Int
 b:Int
 c:Int
 n:Int
structure Tsk where
 code:List Ins
 next:Int
 regs:Nat→Int
def zh0:Ins:=⟨0,0,0,0,0⟩
def zid(t:Tsk):Bool:=!(decide (t.next<0)||decide (t.next≥t.code.length))
def zcN(t:Tsk):Ins:=bif zid t then t.code.getD t.next.toNat zh0 else zh0
def zf6(t:Tsk)(n:Int):Int:=t.regs (n.tmod 8).toNat
def zda(t:Tsk):Bool:=(!zid t||((zcN t).op==0))||!decide ((zcN t).op≤16)
def zbo(d:Int):Call:=⟨d,0,0,0,0,0⟩
def zcw(t:Tsk):Call:=
 bif !zid t||((zcN t).op==0)then zbo 20
 else bif decide ((zcN t).op≤16)then zbo 0
 else⟨IntKind.u8.wrap ((zcN t).op - 16),IntKind.u32.wrap (zf6 t (zcN t).b),IntKind.u32.wrap (zf6 t (zcN t).c),IntKind.u32.wrap (t.regs 6),IntKind.u32.wrap (zcN t).n,t.regs 5⟩
def zBM(t:Tsk)(x:Int):Nat→Int:=zaq t.regs ((zcN t).a.tmod 8).toNat x
def zC1(t:Tsk):Nat→Int:=
 bif (zcN t).op==1 then zBM t (zcN t).n
 else bif (zcN t).op==2 then zBM t (IntKind.u64.wrap (zf6 t (zcN t).b+zf6 t (zcN t).c))
 else bif (zcN t).op==3 then zBM t (IntKind.u64.wrap (zf6 t (zcN t).b - zf6 t (zcN t).c))
 else bif (zcN t).op==4 then zBM t (zbh .u64 (zf6 t (zcN t).b) (zcN t).n)
 else t.regs
def zvk(t:Tsk):Int:=
 bif ((zcN t).op==5)||(((zcN t).op==6)&&(zf6 t (zcN t).a != 0))then(zcN t).n else t.next+1
def zhG(t:Tsk):Tsk:=bif zda t then t else⟨t.code,zvk t,zC1 t⟩
def zgp(t:Tsk)(r:Rs):Tsk:=
 bif !zid t||!zda t then t
 else⟨t.code,t.next+1,zaq (zaq (zaq t.regs ((zcN t).a.tmod 8).toNat r.v) 4 r.w) 7 (IntKind.u64.wrap r.e)⟩
structure Rr where
 t:Tsk
 c:Rt
 busy:Bool
 frm:Int
structure Ev where
 task:Int
 c:Call
 run:Rn
 r:Rs
 frm:Int
 to_:Int
structure Mc where
 x:Cr
 ts:Nat→Rr
 now:Int
 ev:List Ev
def rt0:Rt:=⟨0,zbo 0,false,[],zaO,0⟩
def zfe(m:Mc)(t:Int):Bool:=(decide (t≥0)&&decide (t<8))&&m.x.s.alive t.toNat
def zga(m:Mc)(i:Nat):Mc:=
 bif (m.ts i).busy&&!zfe m i then{m with x:=zfU m.x (m.ts i).c,ts:=zaq m.ts i {m.ts i with c:=rt0,busy:=false}}else m
def zm9(m:Mc):Mc:=(List.range 8).foldl zga m
def zk9(was:Rn)(before now:Int):Rn:=bif decide (now - before≥was.n)&&decide (was.n>0)then zaO else was
def znb(m:Mc)(t:Nat)(c:Rt)(run:Rn)(r:Rs):Mc:=
 {m with ev:=m.ev++[⟨t,c.c,run,r,(m.ts t).frm,m.now⟩],ts:=zaq m.ts t {m.ts t with t:=zgp (m.ts t).t r,c:=rt0,busy:=false}}
def zBD(m:Mc)(t:Nat)(p:Sp):Mc:=
 bif p.e then znb {m with x:=p.x,ts:=zaq m.ts t {m.ts t with c:=p.c}} t p.c
  (zk9 (bif (p.r.e != 0)||(p.c.c.do_ != 2)then zaO else(m.ts t).c.run) m.x.q.length p.x.q.length) p.r
 else{m with x:=p.x,ts:=zaq m.ts t {m.ts t with c:=p.c}}
noncomputable def zkL(m:Mc)(t:Nat):Mc:=zBD m t (za1 m.x (m.ts t).c)
def zoD(m:Mc)(t:Nat):Mc:={m with ts:=zaq m.ts t {m.ts t with c:={rt0 with task:=t,c:=zcw (m.ts t).t},busy:=true,frm:=m.now}}
noncomputable def zjS(m:Mc)(t:Nat):Mc:=
 bif (m.ts t).busy then zkL m t
 else bif zda (m.ts t).t then zkL (zoD m t) t
 else{m with ts:=zaq m.ts t {m.ts t with t:=zhG (m.ts t).t}}
noncomputable def zmZ(m:Mc)(t:Nat):Mc:=
 {m with x:=(doB m.x.s t (zbo 20) zaO).2.2.foldl zbn {m.x with s:=(doB m.x.s t (zbo 20) zaO).1},ev:=m.ev++[⟨t,zbo 20,zaO,(doB m.x.s t (zbo 20) zaO).2.1,m.now,m.now⟩]}
def zhY(m:Mc):Mc:={m with now:=m.now+1}
def zcQ(m:Mc)(b:Int):Int:=
 bif (decide (b>8)&&decide (b<16))||decide (b≥24)then 2
 else bif b==8 then(bif m.x.q.length==0 then 10 else 0)
 else bif !zfe m (b.tmod 8)then 12 else 0
noncomputable def zbI(m:Mc)(b:Int):Mc:=
 bif zcQ m b != 0 then m
 else zm9 (bif b==8 then zhY {m with x:=zdy m.x}else bif decide (b≥16)then zmZ (zhY m) (b.tmod 8).toNat else zjS (zhY m) (b.tmod 8).toNat)
def TkG(k:Toks):Prop:=∀y∈zcE k.b,(zcg k y).above≠0→zba .u32 (zcg k y).above 8≤(k.b (slN (zcg k y).above)).gen∧((k.b (slN (zcg k y).above)).iss=false→(k.b (slN (zcg k y).above)).ret=false→zba .u32 (zcg k y).above 8<(k.b (slN (zcg k y).above)).gen)
theorem zk6{b:zc7}{x:Int}(h:zah b x=true):(b (slN x)).gen=zba .u32 x 8∧(b (slN x)).iss=true∧(b (slN x)).ret=false:=by unfold zah at h;simp only[zFR,zGG]at h;exact⟨h.2.1,h.2.2.1,h.2.2.2⟩
theorem ztr{b:zc7}(h:Int)(i:Nat):zbw b h i=b i∨((b i).iss=true∧(zbw b h i).iss=false∧(((zbw b h i).ret=true∧(zbw b h i).gen=(b i).gen)∨(zbw b h i).gen=IntKind.u32.wrap ((b i).gen+1))):=by
 unfold zbw;cases hg:zah b h with
 |false=>exact .inl rfl
 |true=>
  simp only[zHH];obtain⟨g1,g2,g3⟩:=zk6 hg;by_cases c:i=slN h
  ·subst c
   right
   rw[zag];cases hq:((b (slN h)).gen==8388607)with
   |true=>exact⟨g2,rfl,.inl ⟨rfl,rfl⟩⟩
   |false=>exact⟨g2,rfl,.inr rfl⟩
  ·exact .inl (zaf c)
theorem zrQ{k:Toks}{h y:Int}(hy:y∈zcE (zbw k.b h))(hg:zah (zbw k.b h) y=true):y∈zcE k.b∧zcg ⟨zbw k.b h,k.s⟩ y=zcg k y:=by refine⟨zlb hy,?_⟩;unfold zcg;rw[hg,(zmr hg).1]
theorem TkG.void{k:Toks}(h:TkG k)(hb:zlK k.b)(y:Int):TkG ⟨zbw k.b y,k.s⟩:=by
 intro z hz ha;have hgz:zah (zbw k.b y) z=true:=by
  cases hq:zah (zbw k.b y) z with
  |true=>rfl
  |false=>
   exfalso;apply ha;unfold zcg;rw[hq];rfl
 obtain⟨h1,h2⟩:=zrQ hz hgz;rw[h2]at ha ⊢;obtain⟨h3,h4⟩:=h z h1 ha;show zba .u32 (zcg k z).above 8≤(zbw k.b y (slN (zcg k z).above)).gen∧((zbw k.b y (slN (zcg k z).above)).iss=false→(zbw k.b y (slN (zcg k z).above)).ret=false→zba .u32 (zcg k z).above 8<(zbw k.b y (slN (zcg k z).above)).gen);generalize hi:slN (zcg k z).above=i at h3 h4 ⊢;have hi32:i<32:=hi▸zei _;have hgen:=hb i hi32;rcases ztr (b:=k.b) y i with e|⟨e1,e2,⟨e3,e4⟩|e3⟩
 ·rw[e];exact⟨h3,h4⟩
 ·rw[e4];exact⟨h3,fun _ hr=>by rw[e3]at hr;cases hr⟩
 ·have:(zbw k.b y i).gen=(k.b i).gen+1:=by rw[e3];exact zcC (zbL (by simp only[zcB];omega) (fun _=>by omega) (by simp only[zcB];omega))
  rw[this];exact⟨by omega,fun _ _=>by omega⟩
structure TkI (k:Toks):Prop where
 bk:zlK k.b
 rt:zg7 k.b
 ok:ziy k
 t:TkT k
 g:TkG k
theorem TkI.void{k:Toks}(h:TkI k){y:Int}(hu:U32 y):TkI ⟨zbw k.b y,k.s⟩:=by obtain⟨h1,h2,_⟩:=zoq h.bk h.rt hu;exact⟨h1,h2,zm1 h.ok y,h.t.void y,h.g.void h.bk y⟩
theorem TkI.wo:∀(l:List Int) {k:Toks},(∀y∈l,U32 y)→TkI k→TkI (woK k l)
 |[],_,_,h=>h
 |y::l,k,hl,h=>TkI.wo l (k:=⟨zbw k.b y,k.s⟩) (fun z hz=>hl z (zF4 _ hz)) (h.void (hl y (zF3 ..)))
theorem zse{b:zc7}(hb:zlK b)(hr:zg7 b){y:Int}(h:y∈zcE b):U32 y:=((zcX hb hr).1 h).1
theorem TkI.gone:∀(l:List Int) {k:Toks},TkI k→TkI (zeW k l)
 |[],_,h=>h
 |y::l,k,h=>by have g:=TkI.gone l (TkI.wo (zaN k (onP y) (zcE k.b)) (fun z hz=>zse h.bk h.rt (zGH.1 hz).1) h);unfold zeW at g ⊢;rw[zH4];exact g
theorem TkI.ret{k:Toks}(h:TkI k)(y:Int):TkI (zim k y):=by
 unfold zim;cases zah k.b y with
 |true=>exact TkI.wo _ (fun z hz=>zse h.bk h.rt (zGH.1 hz).1) h
 |false=>exact h
theorem TkI.rets:∀(l:List Int) {k:Toks},TkI k→TkI (l.foldl zim k)
 |[],_,h=>h
 |y::l,_,h=>TkI.rets l (h.ret y)
theorem TkI.lend{k:Toks}(h:TkI k){x:Tk}(he:zh2 k x=0):TkI (zjK k x):=by
 have hK:zjK k x=⟨zey k.b,zaq k.s (slN (zc8 k.b)) x⟩:=by unfold zjK;rw[he];rfl
 have he1:tkE k x=0:=by
  unfold zh2 at he;cases hq:(tkE k x != 0)with
  |false=>simpa using hq
  |true=>rw[hq]at he;simp at hq;exact absurd he hq
 have he2:znQ k=false:=by
  unfold zh2 at he;rw[he1]at he;cases hq:znQ k with
  |false=>rfl
  |true=>rw[hq]at he;cases he
 have hup:zhm k x.above=true:=by
  unfold tkE at he1;cases hq:zhm k x.above with
  |true=>rfl
  |false=>rw[hq]at he1;cases he1
 have hsl:slB (zc8 k.b)=false∧slX (zc8 k.b)<16:=by unfold znQ at he2;simp only[zFM,zHo,zFO]at he2;exact⟨he2.1,by omega⟩
 have hsome:(ze9 k.b).isSome=true:=by
  cases hq:(ze9 k.b).isSome with
  |true=>rfl
  |false=>
   exfalso;have:zc8 k.b=0:=by
    unfold zc8;cases hf:ze9 k.b with
    |none=>rfl
    |some i=>rw[hf]at hq;cases hq
   have h1:=hsl.1;rw[this]at h1;exact absurd h1 (by decide)
 obtain⟨i,f1,f2,f3,f4,f5,f6,f7,f8,f9,f10,f11⟩:=zpl h.bk h.rt hsome;have fret:=(zmn f1).2.2;have hi16:i<16:=by have:=hsl.2;have h3:slN (zc8 k.b)=i:=f3;unfold slN at h3;have:=zc5 (zc8 k.b);omega
 have hiss:zey k.b=zaq k.b i {k.b i with iss:=true}:=by unfold zey;rw[f1]
 have hgood:∀z,U32 z→(zah (zey k.b) z=true↔zah k.b z=true∨z=zc8 k.b):=f11;have hmem:∀z,z∈zcE (zey k.b)→z∈zcE k.b∨z=zc8 k.b:=fun z hz=>by
  have:=(zcX f9 f10).1 hz;rcases(hgood z this.1).1 this.2 with g|g
  ·exact .inl ((zcX h.bk h.rt).2 ⟨this.1,g⟩)
  ·exact .inr g
 have hnew:zcg ⟨zey k.b,zaq k.s (slN (zc8 k.b)) x⟩ (zc8 k.b)=x:=by unfold zcg;simp only[f8,zHH,zag]
 have hold:∀z,z∈zcE k.b→zcg ⟨zey k.b,zaq k.s (slN (zc8 k.b)) x⟩ z=zcg k z∧z≠zc8 k.b:=fun z hz=>by
  have hz2:=(zcX h.bk h.rt).1 hz;have hne:z≠zc8 k.b:=fun e=>by have:=hz2.2;rw[e,f7]at this;cases this
  have hg2:zah (zey k.b) z=true:=(hgood z hz2.1).2 (.inl hz2.2);have hs:slN z≠slN (zc8 k.b):=fun e=>hne (zdn f9 hz2.1 f6 hg2 f8 e);refine⟨?_,hne⟩;unfold zcg;simp only[hg2,hz2.2,zHH,zaf hs]
 have hnokid:∀y,y∈zcE k.b→(zcg k y).above≠zc8 k.b:=fun y hy ha=>by
  have hn0:zc8 k.b≠0:=fun e=>by have h1:=hsl.1;rw[e]at h1;exact absurd h1 (by decide)
  have:=(h.g y hy (by rw[ha];exact hn0)).2;rw[ha,f3]at this;have h2:=this f5 fret;have h3:=(zk6 f8).1;rw[f3,hiss,zag]at h3;have h3:(k.b i).gen=zba .u32 (zc8 k.b) 8:=h3;omega
 have hkid:∀z y,y∈zdg ⟨zey k.b,zaq k.s (slN (zc8 k.b)) x⟩ z→(y∈zdg k z∧y≠zc8 k.b)∨(y=zc8 k.b∧z=x.above):=fun z y hy=>by
  unfold zdg zaN at hy;obtain⟨h1,h2⟩:=zGH.1 hy;rcases hmem y h1 with g|g
  ·obtain⟨g1,g2⟩:=hold y g;rw[g1]at h2;exact .inl ⟨zGH.2 ⟨g,h2⟩,g2⟩
  ·rw[g,hnew]at h2;exact .inr ⟨g,by simpa using(zGG.1 h2).symm⟩
 have hxn:x.above≠zc8 k.b:=fun e=>by unfold zhm at hup;rw[e,f7]at hup;simp only[zIP,zGG]at hup;have h1:=hsl.1;rw[hup]at h1;exact absurd h1 (by decide)
 rw[hK];refine⟨f9,f10,fun j hj=>?_,⟨?_,fun z y hy=>?_⟩,fun y hy ha=>?_⟩
 ·show(zey k.b j).iss=false;rw[hiss,zaf (by omega)];exact h.ok j hj
 ·obtain⟨tr,Bd,hB,hT⟩:=h.t.ex;refine⟨fun y=>if y=zc8 k.b then tr x.above+1 else tr y,Bd+1,fun y=>?_,fun z y hz hy=>?_⟩
  ·show(if y=zc8 k.b then tr x.above+1 else tr y)<Bd+1;by_cases c:y=zc8 k.b
   ·rw[if_pos c];have:=hB x.above;omega
   ·rw[if_neg c];have:=hB y;omega
  ·rcases hkid z y hy with⟨g,gn⟩|⟨g,g2⟩
   ·have hzn:z≠zc8 k.b:=fun e=>by have h1:=zGH.1 g;exact hnokid y h1.1 (by rw[zGG.1 h1.2,e])
    simp only[if_neg gn,if_neg hzn];exact hT z y hz g
   ·subst g2;simp only[g,if_neg hxn,zG7];omega
 ·rcases hkid z y hy with⟨g,gn⟩|⟨g,g2⟩
  ·exact h.t.z z y g
  ·intro e;have h1:=hsl.1;rw[←g,e]at h1;exact absurd h1 (by decide)
 ·rcases hmem y hy with g|g
  ·obtain⟨g1,g2⟩:=hold y g;rw[g1]at ha ⊢;have hk:=h.g y g ha;show _≤(zey k.b (slN (zcg k y).above)).gen∧((zey k.b (slN (zcg k y).above)).iss=false→(zey k.b (slN (zcg k y).above)).ret=false→_<(zey k.b (slN (zcg k y).above)).gen);by_cases c:slN (zcg k y).above=i
   ·rw[hiss,c,zag];refine⟨?_,fun hf=>by cases hf⟩;have:=hk.1;rw[c]at this;exact this
   ·rw[hiss,zaf c];exact hk
  ·rw[g,hnew]at ha ⊢;show _≤(zey k.b (slN x.above)).gen∧((zey k.b (slN x.above)).iss=false→(zey k.b (slN x.above)).ret=false→_<(zey k.b (slN x.above)).gen);have hg:zah k.b x.above=true:=by unfold zhm at hup;rw[zFN.2 ha]at hup;simpa using hup
   obtain⟨q1,q2,q3⟩:=zk6 hg;have c:slN x.above≠i:=fun e=>by rw[e,f5]at q2;cases q2
   rw[hiss,zaf c,q1];exact⟨zFJ _,fun hf=>by rw[q2]at hf;cases hf⟩
end Sx
end Go.Proofs.YtfbhkfhbnkncoaaGreatDoor
