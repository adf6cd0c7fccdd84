import Derived.Test.YtfbhkfhbnkncoaaGreatDoorT32
set_option linter.all false
set_option maxRecDepth 100000
set_option maxHeartbeats 8000000
namespace Go.Proofs.YtfbhkfhbnkncoaaGreatDoor
open Go.RowKit
namespace Sx
theorem zhd{P:Program}{f:FuncId}{args:List SV}{m m':MS}{K:Out→MS→Prop}(e:m=m')(h:Con P f args m' K):Con P f args m K:=e▸h
def zbX(x:Cl)(k:Nat)(b:MBox):Cl:={x with s:={x.s with box:=zaq x.s.box k b}}
abbrev clS(x:Cl)(st:D)(v:Nat):SV:=.pr (.d st) (.pr (I x.task) (.pr (.d (zaW x.c)) (.pr (.d (zar x.run)) (.pr (I x.needs) (.pr (B x.asks) (.pr (owl 1 v zca (rnL x.back)) (.d .un)))))))
theorem zfg(x:Cl)(k:Nat)(b:MBox)(v:Nat):clS x ((za7 x.s).set [1,k] (zcc b)) v=zaQ (zbX x k b) v:=
 congrArg (fun f=>clS x (.pr (zgI x.s) (.pr (.ar 8 zzh f) (.pr (.ar 8 .c fun i=>.bo (x.s.alive i)) (.pr (.ar 8 .c fun i=>.bo (x.s.born i)) .un)))) v) (zaY zcc x.s.box k b)
theorem zfo{x:Int}(h:U32 x):inK .u32 x=true:=zbL (by have:=h.1;simp[zcB];omega) (fun _=>h.1) (by have:=h.2;simp[zcB];omega)
structure TkT (k:Toks):Prop where
 ex:∃tr:Int→Nat,∃Bd,(∀y,tr y<Bd)∧∀x y,x≠0→y∈zdg k x→tr x<tr y
 z:∀x y,y∈zdg k x→y≠0
attribute [local irreducible] Con zax zan zau zai zaw zbt zak zaC zbh zba I64
theorem zre(r:Rg)(c:Call)(hl:I64 r.len)(hb:U32 c.b)(hl2: -1000000≤r.len∧r.len≤1000000){m:MS}{K:Out→MS→Prop}(h1:decide (c.a≤r.len - c.b)=true→K unR m)(h2:decide (c.a≤r.len - c.b)=false→K (thr 9) m):Con Tryz.prog 324 [.d (zdX r),.d (zaW c)] m K:=by
 refine zl1 (Q:=fun o=>(decide (c.a≤r.len - c.b)=true∧o=unR)∨(decide (c.a≤r.len - c.b)=false∧o=thr 9)) rfl ?_ fun o h=>?_
 ·refine za3 Tryz.func324 rfl (by kernel_rfl) rfl rfl ?_;conv=>whnf
  refine⟨zac (x:=r.len - c.b) (by have:=hb.1;have:=hb.2;omega) (by have:=hb.1;have:=hb.2;omega),?_⟩;conv=>whnf
  refine zcG (decide (c.a≤r.len - c.b)) 9 _ (fun hb=>?_) (fun hb=>?_)
  ·conv=>whnf
   exact⟨rfl,.inl ⟨hb,rfl⟩,rfl⟩
  ·conv=>whnf
   exact⟨rfl,.inr ⟨hb,rfl⟩,rfl⟩
 ·rcases h with⟨hb,rfl⟩|⟨hb,rfl⟩
  ·exact h1 hb
  ·exact h2 hb
section
variable {s:St} {task:Int} {c:Call} {run:Rn} {n:Int} {a:Bool} {v:Nat} {d:Int→Nat}
theorem zv7(hs:StOk s d)(h:Int):0≤(zaj s.t h).len∧(zaj s.t h).len≤2048:=by have hg:=zc1 hs.t h;have h1:=hg.mx;unfold zmD at h1;simp only[zFR,zFS]at h1;have:=hg.pg;have:=hg.q1;omega
theorem zAx(hs:StOk s d)(hc:CallOk s task c):Con Tryz.prog 293 [.pt 0 []] ⟨[zaQ (cl0 s task c run n a) v],[v],[]⟩ (MX (zld s task c 0)):=by
 have hln:=zv7 hs c.r;refine za3 Tryz.func293 rfl (by kernel_rfl) rfl rfl ?_;conv=>whnf
 refine ztv c (fun hw=>?_) (fun hw=>?_)
 ·have e0:no (zwC c) 2=0:=by rw[hw];rfl
  conv=>whnf
  refine zea (x:=cl0 s task c run n a) hs hc.t0 hc.r 0 (.inl rfl) (fun h1=>?_) (fun h1=>?_)
  ·conv=>whnf
   refine zaA zaa (by kernel_rfl) [0,1,2,3,4,5,7,8,9,10,6,11] [(6,1920),(11,0)] (by kernel_rfl) ?_;conv=>whnf
   refine zkR (x:=cl0 s task c run n a) (fun h2=>?_) (fun h2=>?_)
   ·have e2:no (zah s.t.b c.r) 4=0:=by rw[h2];rfl
    conv=>whnf
    refine⟨(show _∧_ from⟨rfl,rfl⟩),zas ?_ ?_⟩;rotate_left
    ·repeat' (first|exact trivial|refine And.intro (show _∧_ from⟨rfl,rfl⟩) ?_)
    conv=>whnf
    refine zre (zaj s.t c.r) c (zac (by omega) (by omega)) hc.b (by omega) (fun h3=>?_) (fun h3=>?_)
    ·have e3:zjh s c=0:=by rw[zjh,h3];rfl
     conv=>whnf
     exact⟨rfl,zc2 (r:=⟨0,0,0⟩) (x':=cl0 s task c run n a) ((zap e0).trans ((zap h1).trans ((zap e2).trans (zap e3))))⟩
    ·conv=>whnf
     exact⟨rfl,zbb (x':=cl0 s task c run n a) ((zap e0).trans ((zap h1).trans ((zap e2).trans (by rw[zjh,h3];rfl))))⟩
   ·conv=>whnf
    exact⟨rfl,zbb (x':=cl0 s task c run n a) ((zap e0).trans ((zap h1).trans (by rw[h2];rfl)))⟩
  ·conv=>whnf
   exact⟨rfl,zbb (x':=cl0 s task c run n a) ((zap e0).trans (zaP h1))⟩
 ·conv=>whnf
  exact⟨rfl,zbb (x':=cl0 s task c run n a) (by rw[zld,hw];rfl)⟩
theorem zyI(hs:StOk s d)(hc:CallOk s task c):Con Tryz.prog 294 [.pt 0 []] ⟨[zaQ (cl0 s task c run n a) v],[v],[]⟩ (MX (zld s task c 1)):=by
 have hln:=zv7 hs c.r;refine za3 Tryz.func294 rfl (by kernel_rfl) rfl rfl ?_;conv=>whnf
 refine ztv c (fun hw=>?_) (fun hw=>?_)
 ·have e0:no (zwC c) 2=0:=by rw[hw];rfl
  conv=>whnf
  refine zea (x:=cl0 s task c run n a) hs hc.t0 hc.r 1 (.inr (.inl rfl)) (fun h1=>?_) (fun h1=>?_)
  ·conv=>whnf
   refine zaA zaa (by kernel_rfl) [0,1,2,3,4,5,7,8,9,10,6,11] [(6,1920),(11,0)] (by kernel_rfl) ?_;conv=>whnf
   refine zkR (x:=cl0 s task c run n a) (fun h2=>?_) (fun h2=>?_)
   ·have e2:no (zah s.t.b c.r) 4=0:=by rw[h2];rfl
    conv=>whnf
    refine⟨(show _∧_ from⟨rfl,rfl⟩),zas ?_ ?_⟩;rotate_left
    ·repeat' (first|exact trivial|refine And.intro (show _∧_ from⟨rfl,rfl⟩) ?_)
    conv=>whnf
    refine zre (zaj s.t c.r) c (zac (by omega) (by omega)) hc.b (by omega) (fun h3=>?_) (fun h3=>?_)
    ·have e3:zjh s c=0:=by rw[zjh,h3];rfl
     conv=>whnf
     exact⟨rfl,zc2 (r:=⟨0,0,0⟩) (x':=cl0 s task c run n a) ((zap e0).trans ((zap h1).trans ((zap e2).trans (zap e3))))⟩
    ·conv=>whnf
     exact⟨rfl,zbb (x':=cl0 s task c run n a) ((zap e0).trans ((zap h1).trans ((zap e2).trans (by rw[zjh,h3];rfl))))⟩
   ·conv=>whnf
    exact⟨rfl,zbb (x':=cl0 s task c run n a) ((zap e0).trans ((zap h1).trans (by rw[h2];rfl)))⟩
  ·conv=>whnf
   exact⟨rfl,zbb (x':=cl0 s task c run n a) ((zap e0).trans (zaP h1))⟩
 ·conv=>whnf
  exact⟨rfl,zbb (x':=cl0 s task c run n a) (by rw[zld,hw];rfl)⟩
theorem zyj(hs:StOk s d)(hc:CallOk s task c):Con Tryz.prog 295 [.pt 0 []] ⟨[zaQ (cl0 s task c run n a) v],[v],[]⟩ (MX (zpA s task c)):=by
 have hg:=zc1 hs.t c.r;have h3:=zdu hg.ok;have h4:=hg.pg;have h5:=hg.q1;refine za3 Tryz.func295 rfl (by kernel_rfl) rfl rfl ?_;conv=>whnf
 refine zea (x:=cl0 s task c run n a) hs hc.t0 hc.r 1 (.inr (.inl rfl)) (fun h1=>?_) (fun h1=>?_)
 ·conv=>whnf
  refine zkR (x:=cl0 s task c run n a) (fun h2=>?_) (fun h2=>?_)
  ·have e2:no (zah s.t.b c.r) 4=0:=by rw[h2];rfl
   conv=>whnf
   refine zaA zaa (by kernel_rfl) (List.range 12) [(8,1),(11,0)] (by kernel_rfl) ?_;conv=>whnf
   refine⟨⟨rfl,(by rw[zFH,zFH];show 0+_≤_;omega:(rnL ([]:List Rn)).length+((zaj s.t c.r).rs.map zar).length≤2147483648)⟩,?_⟩;conv=>whnf
   refine zao zaa (by kernel_rfl) 9 (by kernel_rfl) ?_;conv=>whnf
   refine zhd (m':=⟨zaQ {cl0 s task c run n a with back:=(zaj s.t c.r).rs} (v+1)::_,_,_⟩) (zcn (ce (congrArg (clW (cl0 s task c run n a)) (zcq 1 (v+1) zca [] (rnL (zaj s.t c.r).rs))) rfl) rfl rfl) ?_;refine zd7 (zCU (x:={cl0 s task c run n a with back:=(zaj s.t c.r).rs}) (h:=c.r) (r:={rg0 with quota:=(zaj s.t c.r).quota}) ⟨(fun y hy=>by cases hy),zFV _⟩) rfl (fun h6 v'=>?_) (fun h6 x' v'=>?_)
   ·conv=>whnf
    exact⟨rfl,zc2 (r:=⟨0,0,0⟩) (x':=zdQ {cl0 s task c run n a with back:=(zaj s.t c.r).rs} (zdm s.t c.r {rg0 with quota:=(zaj s.t c.r).quota})) ((zap h1).trans ((zap e2).trans (zap h6)))⟩
   ·conv=>whnf
    exact⟨rfl,zbb ((zap h1).trans ((zap e2).trans (zaP h6)))⟩
  ·conv=>whnf
   exact⟨rfl,zbb (x':=cl0 s task c run n a) ((zap h1).trans (by rw[h2];rfl))⟩
 ·conv=>whnf
  exact⟨rfl,zbb (x':=cl0 s task c run n a) (zaP h1)⟩
theorem zCL(hs:StOk s d)(hc:CallOk s task c):Con Tryz.prog 291 [.pt 0 []] ⟨[zaQ (cl0 s task c run n a) v],[v],[]⟩ (MX (ztF s task c)):=by
 refine za3 Tryz.func291 rfl (by kernel_rfl) rfl rfl ?_;conv=>whnf
 refine⟨fun hq=>?_,fun hq=>?_⟩
 ·have hq:(c.r != 0)=true:=hq;conv=>whnf
  refine zea (x:=cl0 s task c run n a) hs hc.t0 hc.r 1 (.inr (.inl rfl)) (fun h1=>?_) (fun h1=>?_)
  ·conv=>whnf
   refine zaA zaa (by kernel_rfl) (List.range 27) [(23,8388607),(24,6291456)] (by kernel_rfl) ?_;conv=>whnf
   refine⟨⟨zfo hc.a,rfl⟩,?_⟩;conv=>whnf
   refine zam (zvz hs.t.rk c.r (zbs c.a 65)) (fun _ h=>h) ?_;conv=>whnf
   refine⟨(show _∧_ from⟨rfl,rfl⟩),zas ?_ ?_⟩;rotate_left
   ·repeat' (first|exact trivial|refine And.intro (show _∧_ from⟨rfl,rfl⟩) ?_)
   conv=>whnf
   refine zbO (zjO s.t c.r (zbs c.a 65)) _ (fun h2=>?_) (fun h2=>?_)
   ·have h0:(c.r==0)=false:=by simpa using hq
    conv=>whnf
    refine⟨(fun h=>by rw[h0]at h;cases h),fun _=>?_⟩;conv=>whnf
    exact⟨rfl,zc2 (r:=⟨0,0,zdw s.t c.r (zbs c.a 65)⟩) (x':=zdQ (cl0 s task c run n a) (zdj s.t c.r (zbs c.a 65))) (by rw[ztF,hq,zHH,zap h1,zap h2,h0];rfl)⟩
   ·conv=>whnf
    exact⟨rfl,zbb (x':=cl0 s task c run n a) (by rw[ztF,hq,zHH,zap h1,zaP h2])⟩
  ·conv=>whnf
   exact⟨rfl,zbb (x':=cl0 s task c run n a) (by rw[ztF,hq,zHH,zaP h1])⟩
 ·have hq:(c.r != 0)=false:=hq;have h0:(c.r==0)=true:=by simpa using hq
  conv=>whnf
  refine zaA zaa (by kernel_rfl) (List.range 27) [(23,8388607),(24,6291456)] (by kernel_rfl) ?_;conv=>whnf
  refine⟨⟨zfo hc.a,rfl⟩,?_⟩;conv=>whnf
  refine zam (zvz hs.t.rk c.r (zbs c.a 65)) (fun _ h=>h) ?_;conv=>whnf
  refine⟨(show _∧_ from⟨rfl,rfl⟩),zas ?_ ?_⟩;rotate_left
  ·repeat' (first|exact trivial|refine And.intro (show _∧_ from⟨rfl,rfl⟩) ?_)
  conv=>whnf
  refine zbO (zjO s.t c.r (zbs c.a 65)) _ (fun h2=>?_) (fun h2=>?_)
  ·obtain⟨d',hT,_⟩:=zsz hs.t hc.r h2;conv=>whnf
   refine⟨fun _=>?_,(fun h=>by rw[h0]at h;cases h)⟩;conv=>whnf
   refine zd7 (zmK (x:=zdQ (cl0 s task c run n a) (zdj s.t c.r (zbs c.a 65))) hT (h:=zdw s.t c.r (zbs c.a 65)) (task:=task)) rfl (fun h4 v'=>?_) (fun h4 x' v'=>?_)
   ·conv=>whnf
    exact⟨rfl,zc2 (r:=⟨0,0,zdw s.t c.r (zbs c.a 65)⟩) (x':=zeP (zdQ (cl0 s task c run n a) (zdj s.t c.r (zbs c.a 65))) (zfv s.o (zdj s.t c.r (zbs c.a 65)) (zdw s.t c.r (zbs c.a 65)) task ⟨1,tkB task,0⟩)) (by rw[ztF,hq,zHJ,zap rfl,zap h2,h0,zHH];exact zap h4)⟩
   ·conv=>whnf
    exact⟨rfl,zbb (by rw[ztF,hq,zHJ,zap rfl,zap h2,h0,zHH];exact zaP h4)⟩
  ·conv=>whnf
   exact⟨rfl,zbb (x':=cl0 s task c run n a) (by rw[ztF,hq,zHJ,zap rfl,zaP h2])⟩
theorem zxm(hc:CallOk s task c):Con Tryz.prog 306 [.pt 0 []] ⟨[zaQ (cl0 s task c run n a) v],[v],[]⟩ (MX (zoL s task)):=by
 have ht:0≤task∧task<8:=⟨hc.t0,hc.t1⟩;refine za3 Tryz.func306 rfl (by kernel_rfl) rfl rfl ?_;conv=>whnf
 refine zaA zaa (by kernel_rfl) (List.range 17) [(14,16383),(15,8192)] (by kernel_rfl) ?_;conv=>whnf
 refine⟨ht,?_⟩;conv=>whnf
 refine zam (zwF (s.box task.toNat)) (fun _ h=>h) ?_;conv=>whnf
 refine And.intro (by first|exact(show _∧_ from⟨rfl,rfl⟩)|exact(show _∧_ from⟨ht,rfl,rfl⟩)) (zas ?_ ?_);rotate_left
 ·repeat' (first|exact trivial|refine And.intro (by first|exact(show _∧_ from⟨rfl,rfl⟩)|exact(show _∧_ from⟨ht,rfl,rfl⟩)) ?_)
 conv=>whnf
 refine zbO (bif (s.box task.toNat).cl then 11 else 0) _ (fun h1=>?_) (fun h1=>?_)
 ·conv=>whnf
  refine zao zaa (by kernel_rfl) 10 (by kernel_rfl) ?_;conv=>whnf
  refine⟨ht,?_⟩;conv=>whnf
  refine⟨zaQ (zbX (cl0 s task c run n a) task.toNat {s.box task.toNat with cl:=true}) v,zfg _ _ _ _,?_⟩;conv=>whnf
  exact⟨rfl,zc2 (r:=⟨0,0,0⟩) (x':=zbX (cl0 s task c run n a) task.toNat {s.box task.toNat with cl:=true}) (zap h1)⟩
 ·conv=>whnf
  exact⟨rfl,zbb (x':=cl0 s task c run n a) (zaP h1)⟩
end
end Sx
namespace Sx
def zm5(x:Cl)(k:Nat)(b:Bool):Cl:={x with s:={x.s with alive:=zaq x.s.alive k b}}
def ztw(x:Cl)(k:Nat)(b:Bool):Cl:={x with s:={x.s with born:=zaq x.s.born k b}}
theorem zvN(x:Cl)(k:Nat)(b:Bool)(v:Nat):clS x ((za7 x.s).set [2,k] (.bo b)) v=zaQ (zm5 x k b) v:=
 congrArg (fun f=>clS x (.pr (zgI x.s) (.pr (.ar 8 zzh fun i=>zcc (x.s.box i)) (.pr (.ar 8 .c f) (.pr (.ar 8 .c fun i=>.bo (x.s.born i)) .un)))) v) (zaY (fun b=>D.bo b) x.s.alive k b)
theorem zzQ(x:Cl)(k:Nat)(b:Bool)(v:Nat):clS x ((za7 x.s).set [3,k] (.bo b)) v=zaQ (ztw x k b) v:=
 congrArg (fun f=>clS x (.pr (zgI x.s) (.pr (.ar 8 zzh fun i=>zcc (x.s.box i)) (.pr (.ar 8 .c fun i=>.bo (x.s.alive i)) (.pr (.ar 8 .c f) .un)))) v) (zaY (fun b=>D.bo b) x.s.born k b)
attribute [local irreducible] Con zax zan zau zai zaw zbt zak zaC zbh zba I64
section
variable {s:St} {task:Int} {c:Call} {run:Rn} {n:Int} {a:Bool} {v:Nat} {d:Int→Nat}
theorem zp8(hs:StOk s d)(hk:TkT s.k)(hc:CallOk s task c):Con Tryz.prog 303 [.pt 0 []] ⟨[zaQ (cl0 s task c run n a) v],[v],[]⟩ (MX (zrb s task c)):=by
 obtain⟨tr,Bd,k1,k2⟩:=hk.ex;obtain⟨u,hu,hR⟩:=zlV hs.k k1 k2 hk.z c.s;refine za3 Tryz.func303 rfl (by kernel_rfl) rfl rfl ?_;conv=>whnf
 refine zaA zaa (by kernel_rfl) (List.range 18) [(15,32767),(16,16384)] (by kernel_rfl) ?_;conv=>whnf
 refine zam (zgw s.k c.s hs.k) (fun _ h=>h) ?_;conv=>whnf
 refine⟨(show _∧_ from⟨rfl,rfl⟩),zas ?_ ?_⟩;rotate_left
 ·repeat' (first|exact trivial|refine And.intro (show _∧_ from⟨rfl,rfl⟩) ?_)
 conv=>whnf
 cases hg:zah s.k.b c.s with
 |false=>
  have e0:no (zah s.k.b c.s) 4=4:=by rw[hg];rfl
  refine zbO 4 _ (fun h=>by cases h) (fun _=>?_);conv=>whnf
  exact⟨rfl,zbb (x':=cl0 s task c run n a) (by rw[zrb,hg];rfl)⟩
 |true=>
  have e0:no (zah s.k.b c.s) 4=0:=by rw[hg];rfl
  refine zbO 0 _ (fun _=>?_) (fun h=>absurd rfl h);conv=>whnf
  refine zao zaa (by kernel_rfl) 8 (by kernel_rfl) ?_;conv=>whnf
  refine zcG ((zcg s.k c.s).to_==task) 5 _ (fun h1=>?_) (fun h1=>?_)
  ·have e1:no ((zcg s.k c.s).to_==task) 5=0:=by rw[h1];rfl
   conv=>whnf
   refine zaA zaa (by kernel_rfl) (List.range 22) [(21,98304)] (by kernel_rfl) ?_;conv=>whnf
   refine zam hR (fun _ h=>h) ?_;conv=>whnf
   exact⟨rfl,zc2 (r:=⟨0,0,0⟩) (x':=zyZ (cl0 s task c run n a) (zim s.k c.s)) ((zap e0).trans (zap e1))⟩
  ·conv=>whnf
   exact⟨rfl,zbb (x':=cl0 s task c run n a) ((zap e0).trans (by rw[h1];rfl))⟩
set_option maxHeartbeats 4000000 in
theorem zAr(hs:StOk s d)(hc:CallOk s task c):Con Tryz.prog 302 [.pt 0 []] ⟨[zaQ (cl0 s task c run n a) v],[v],[]⟩ (MX (zuT s task c)):=by
 refine za3 Tryz.func302 rfl (by kernel_rfl) rfl rfl ?_;conv=>whnf
 refine zh8 (x:=cl0 s task c run n a) hc.a (fun h1=>?_) (fun h1=>?_)
 ·conv=>
   whnf
  refine zcG (decide (c.b≤1)) 2 _ (fun h2=>?_) (fun h2=>?_)
  ·have e2:no (decide (c.b≤1)) 2=0:=by rw[h2];rfl
   conv=>whnf
   refine zao zaa (by kernel_rfl) 14 (by kernel_rfl) ?_;conv=>whnf
   refine zam (zbz s.t.b c.r) (fun _ h=>h) ?_;conv=>whnf
   refine zcG (zah s.t.b c.r) 4 _ (fun h3=>?_) (fun h3=>?_)
   ·have e3:no (zah s.t.b c.r) 4=0:=by rw[h3];rfl
    conv=>whnf
    refine⟨fun h4=>?_,fun h4=>?_⟩
    ·have h4:(c.s==0)=true:=h4;conv=>whnf
     refine zaA zaa (by kernel_rfl) (List.range 20) [(18,262143),(19,0)] (by kernel_rfl) ?_;conv=>whnf
     refine zam (zlT s.o s.t c.r hs.t.rk) (fun _ h=>h) ?_;conv=>whnf
     refine⟨(show _∧_ from⟨rfl,rfl⟩),zas ?_ ?_⟩;rotate_left
     ·repeat' (first|exact trivial|refine And.intro (show _∧_ from⟨rfl,rfl⟩) ?_)
     conv=>whnf
     refine zao zaa (by kernel_rfl) 13 (by kernel_rfl) ?_;conv=>whnf
     refine zcG (((ofO s.o s.t c.r).kind==1)&&((ofO s.o s.t c.r).task==task)) 5 _ (fun h5=>?_) (fun h5=>?_)
     ·have e5:(bif c.s==0 then no (((ofO s.o s.t c.r).kind==1)&&((ofO s.o s.t c.r).task==task)) 5 else bif zah s.k.b c.s then no (((zcg s.k c.s).to_==task)&&((zcg s.k c.s).reg==c.r)) 5 else 4)=0:=by rw[h4,h5];rfl
      conv=>whnf
      refine zaA zaa (by kernel_rfl) (List.range 43) [(39,549755813887),(40,412316860416)] (by kernel_rfl) ?_;conv=>whnf
      refine zam (zvF hs.k ⟨c.r,tkB task,tkB c.a,c.b==1,c.s⟩) (fun _ h=>h) ?_;conv=>whnf
      refine⟨(show _∧_ from⟨rfl,rfl⟩),zas ?_ ?_⟩;rotate_left
      ·repeat' (first|exact trivial|refine And.intro (show _∧_ from⟨rfl,rfl⟩) ?_)
      conv=>whnf
      refine zbO (zh2 s.k ⟨c.r,tkB task,tkB c.a,c.b==1,c.s⟩) _ (fun h6=>?_) (fun h6=>?_)
      ·conv=>whnf
       exact⟨rfl,zc2 (r:=⟨0,0,znR s.k ⟨c.r,tkB task,tkB c.a,c.b==1,c.s⟩⟩) (x':=zyZ (cl0 s task c run n a) (zjK s.k ⟨c.r,tkB task,tkB c.a,c.b==1,c.s⟩)) ((zap h1).trans ((zap e2).trans ((zap e3).trans ((zap e5).trans (zap h6)))))⟩
      ·conv=>whnf
       exact⟨rfl,zbb (x':=cl0 s task c run n a) ((zap h1).trans ((zap e2).trans ((zap e3).trans ((zap e5).trans (zaP h6)))))⟩
     ·conv=>whnf
      exact⟨rfl,zbb (x':=cl0 s task c run n a) ((zap h1).trans ((zap e2).trans ((zap e3).trans (by rw[h4,h5];rfl))))⟩
    ·have h4:(c.s==0)=false:=h4;conv=>whnf
     refine zaA zaa (by kernel_rfl) (List.range 18) [(15,32767),(16,16384)] (by kernel_rfl) ?_;conv=>whnf
     refine zam (zgw s.k c.s hs.k) (fun _ h=>h) ?_;conv=>whnf
     refine⟨(show _∧_ from⟨rfl,rfl⟩),zas ?_ ?_⟩;rotate_left
     ·repeat' (first|exact trivial|refine And.intro (show _∧_ from⟨rfl,rfl⟩) ?_)
     conv=>whnf
     cases hg:zah s.k.b c.s with
     |false=>
      refine zbO 4 _ (fun h=>by cases h) (fun _=>?_);conv=>whnf
      exact⟨rfl,zbb (x':=cl0 s task c run n a) ((zap h1).trans ((zap e2).trans ((zap e3).trans (by rw[h4,hg];rfl))))⟩
     |true=>
      refine zbO 0 _ (fun _=>?_) (fun h=>absurd rfl h);conv=>whnf
      refine zao zaa (by kernel_rfl) 18 (by kernel_rfl) ?_;conv=>whnf
      refine zcG (((zcg s.k c.s).to_==task)&&((zcg s.k c.s).reg==c.r)) 5 _ (fun h5=>?_) (fun h5=>?_)
      ·have e5:(bif c.s==0 then no (((ofO s.o s.t c.r).kind==1)&&((ofO s.o s.t c.r).task==task)) 5 else bif zah s.k.b c.s then no (((zcg s.k c.s).to_==task)&&((zcg s.k c.s).reg==c.r)) 5 else 4)=0:=by rw[h4,hg,h5];rfl
       conv=>whnf
       refine zaA zaa (by kernel_rfl) (List.range 43) [(39,549755813887),(40,412316860416)] (by kernel_rfl) ?_;conv=>whnf
       refine zam (zvF hs.k ⟨c.r,tkB task,tkB c.a,c.b==1,c.s⟩) (fun _ h=>h) ?_;conv=>whnf
       refine⟨(show _∧_ from⟨rfl,rfl⟩),zas ?_ ?_⟩;rotate_left
       ·repeat' (first|exact trivial|refine And.intro (show _∧_ from⟨rfl,rfl⟩) ?_)
       conv=>whnf
       refine zbO (zh2 s.k ⟨c.r,tkB task,tkB c.a,c.b==1,c.s⟩) _ (fun h6=>?_) (fun h6=>?_)
       ·conv=>whnf
        exact⟨rfl,zc2 (r:=⟨0,0,znR s.k ⟨c.r,tkB task,tkB c.a,c.b==1,c.s⟩⟩) (x':=zyZ (cl0 s task c run n a) (zjK s.k ⟨c.r,tkB task,tkB c.a,c.b==1,c.s⟩)) ((zap h1).trans ((zap e2).trans ((zap e3).trans ((zap e5).trans (zap h6)))))⟩
       ·conv=>whnf
        exact⟨rfl,zbb (x':=cl0 s task c run n a) ((zap h1).trans ((zap e2).trans ((zap e3).trans ((zap e5).trans (zaP h6)))))⟩
      ·conv=>whnf
       exact⟨rfl,zbb (x':=cl0 s task c run n a) ((zap h1).trans ((zap e2).trans ((zap e3).trans (by rw[h4,hg,h5];rfl))))⟩
   ·conv=>whnf
    exact⟨rfl,zbb (x':=cl0 s task c run n a) ((zap h1).trans ((zap e2).trans (by rw[h3];rfl)))⟩
  ·conv=>whnf
   exact⟨rfl,zbb (x':=cl0 s task c run n a) ((zap h1).trans (by rw[h2];rfl))⟩
 ·conv=>whnf
  exact⟨rfl,zbb (x':=cl0 s task c run n a) (zaP h1)⟩
theorem zyz(hc:CallOk s task c):Con Tryz.prog 311 [.pt 0 []] ⟨[zaQ (cl0 s task c run n a) v],[v],[]⟩ (MX (zm0 s c)):=by
 refine za3 Tryz.func311 rfl (by kernel_rfl) rfl rfl ?_;conv=>whnf
 refine zao zaa (by kernel_rfl) 21 (by kernel_rfl) ?_;conv=>whnf
 have hm:0≤c.a.tmod 8∧c.a.tmod 8<8:=⟨zHh _ hc.a.1,zHi _ (by decide)⟩;refine⟨fun _=>⟨by decide,zfo (x:=c.a.tmod 8) ⟨hm.1,by omega⟩⟩,?_⟩;conv=>whnf
 refine⟨fun _=>hm,?_⟩;conv=>whnf
 refine zcG (decide (c.a<8)&&!s.born (c.a.tmod 8).toNat) 2 _ (fun h1=>?_) (fun h1=>?_)
 ·have e1:no (decide (c.a<8)&&!s.born (c.a.tmod 8).toNat) 2=0:=by rw[h1];rfl
  have ha:0≤c.a∧c.a<8:=⟨hc.a.1,by
   have:=(zHr.1 h1).1;simpa using this⟩
  conv=>whnf
  refine zaA zaa (by kernel_rfl) [0,1,2,3,4,5,6,7,8,9,10,11,12,13,14,15,17,18,19,16,20,21] [(16,917568),(21,0)] (by kernel_rfl) ?_;conv=>whnf
  refine⟨ha,?_⟩;conv=>whnf
  refine⟨zaQ (zm5 (cl0 s task c run n a) c.a.toNat true) v,zvN _ _ _ _,?_⟩;conv=>whnf
  refine And.intro (by first|exact(show _∧_ from⟨rfl,rfl⟩)|exact(show _∧_ from⟨ha,rfl,rfl⟩)) (zas ?_ ?_);rotate_left
  ·repeat' (first|exact trivial|refine And.intro (by first|exact(show _∧_ from⟨rfl,rfl⟩)|exact(show _∧_ from⟨ha,rfl,rfl⟩)) ?_)
  conv=>whnf
  refine⟨ha,?_⟩;conv=>whnf
  refine⟨zaQ (ztw (zm5 (cl0 s task c run n a) c.a.toNat true) c.a.toNat true) v,zzQ (zm5 (cl0 s task c run n a) c.a.toNat true) _ _ _,?_⟩;conv=>whnf
  exact⟨rfl,zc2 (r:=⟨0,0,0⟩) (x':=ztw (zm5 (cl0 s task c run n a) c.a.toNat true) c.a.toNat true) (zap e1)⟩
 ·conv=>whnf
  exact⟨rfl,zbb (x':=cl0 s task c run n a) (by rw[zm0,h1];rfl)⟩
end
end Sx
namespace Sx
attribute [local irreducible] Con zax zan zau zai zaw zbt zak zaC zbh zba I64
section
variable {s:St} {task:Int} {c:Call} {run:Rn} {n:Int} {a:Bool} {v:Nat} {d:Int→Nat}
theorem zxv(hs:StOk s d)(hc:CallOk s task c):Con Tryz.prog 308 [.pt 0 []] ⟨[zaQ (cl0 s task c run n a) v],[v],[]⟩ (MX (zoS s task c)):=by
 refine za3 Tryz.func308 rfl (by kernel_rfl) rfl rfl ?_;conv=>whnf
 refine zea (x:=cl0 s task c run n a) hs hc.t0 hc.r 0 (.inl rfl) (fun h1=>?_) (fun h1=>?_)
 ·conv=>whnf
  refine zaA zaa (by kernel_rfl) (List.range 24) [(18,0)] (by kernel_rfl) ?_;conv=>whnf
  refine⟨⟨zfo hc.a,rfl⟩,?_⟩;conv=>whnf
  refine zl1 rfl (zwK s.t c.r (zbs c.a 8)) ?_;rintro o ⟨y,rfl,hy⟩;conv=>whnf
  refine zbO (zf1 s.t c.r (zbs c.a 8)) _ (fun h2=>?_) (fun h2=>?_)
  ·have hy:=hy h2;conv=>whnf
   exact⟨rfl,zc2 (r:=⟨0,0,y⟩) (x':=cl0 s task c run n a) (by rw[hy];exact(zap h1).trans (zap h2))⟩
  ·conv=>whnf
   exact⟨rfl,zbb (x':=cl0 s task c run n a) ((zap h1).trans (zaP h2))⟩
 ·conv=>whnf
  exact⟨rfl,zbb (x':=cl0 s task c run n a) (zaP h1)⟩
theorem zCS(hs:StOk s d)(hc:CallOk s task c):Con Tryz.prog 307 [.pt 0 []] ⟨[zaQ (cl0 s task c run n a) v],[v],[]⟩ (MX (zAY s task c)):=by
 have hR:zvJ {zaj s.t c.r with cells:=zaq (zaj s.t c.r).cells (zbs c.a 8).toNat c.s}:=((zc1 hs.t c.r).cells (zaj s.t c.r).up _).ok';have hRef:=zB8 s.t c.r (zbs c.a 8) c.s ((ofO s.o s.t c.s).kind==3) hs.t.rk hR;have hEq:zAY s task c=thn (zf4 s task c.r 1) (thn (bif c.s != 0 then zf4 s task c.s 0 else 0) (thn (znf s.t c.r (zbs c.a 8) c.s ((ofO s.o s.t c.s).kind==3)) (ok0 {s with t:=zyh s.t c.r (zbs c.a 8) c.s}))):=rfl;rw[hEq];generalize znf s.t c.r (zbs c.a 8) c.s ((ofO s.o s.t c.s).kind==3)=e at hRef;refine za3 Tryz.func307 rfl (by kernel_rfl) rfl rfl ?_;conv=>whnf
 refine zea (x:=cl0 s task c run n a) hs hc.t0 hc.r 1 (.inr (.inl rfl)) (fun h1=>?_) (fun h1=>?_)
 ·conv=>whnf
  refine⟨fun hq=>?_,fun hq=>?_⟩
  ·have hq:(c.s != 0)=true:=hq;conv=>whnf
   refine zea (x:=cl0 s task c run n a) hs hc.t0 hc.s' 0 (.inl rfl) (fun h2=>?_) (fun h2=>?_)
   ·have h2':(bif c.s != 0 then zf4 s task c.s 0 else 0)=0:=by rw[hq];exact h2
    conv=>whnf
    refine zaA zaa (by kernel_rfl) (List.range 50) [(47,140737488355327),(48,70368744177664)] (by kernel_rfl) ?_;conv=>whnf
    refine⟨⟨zfo hc.a,rfl⟩,?_⟩;conv=>whnf
    refine zam (zlT s.o s.t c.s hs.t.rk) (fun _ h=>h) ?_;conv=>whnf
    refine zam hRef (fun _ h=>h) ?_;conv=>whnf
    refine⟨(show _∧_ from⟨rfl,rfl⟩),zas ?_ ?_⟩;rotate_left
    ·repeat' (first|exact trivial|refine And.intro (show _∧_ from⟨rfl,rfl⟩) ?_)
    conv=>whnf
    refine zbO e _ (fun h3=>?_) (fun h3=>?_)
    ·conv=>whnf
     refine⟨rfl,zc2 (r:=⟨0,0,0⟩) (x':=zdQ (cl0 s task c run n a) (bif e==0 then zyh s.t c.r (zbs c.a 8) c.s else s.t)) ?_⟩;rw[zap h1,zap h2',zap h3,h3];rfl
    ·conv=>whnf
     exact⟨rfl,zbb (x':=cl0 s task c run n a) ((zap h1).trans ((zap h2').trans (zaP h3)))⟩
   ·conv=>whnf
    exact⟨rfl,zbb (x':=cl0 s task c run n a) ((zap h1).trans (by rw[hq];exact zaP h2))⟩
  ·have hq:(c.s != 0)=false:=hq;have h2':(bif c.s != 0 then zf4 s task c.s 0 else 0)=0:=by rw[hq];rfl
   conv=>whnf
   refine zaA zaa (by kernel_rfl) (List.range 50) [(47,140737488355327),(48,70368744177664)] (by kernel_rfl) ?_;conv=>whnf
   refine⟨⟨zfo hc.a,rfl⟩,?_⟩;conv=>whnf
   refine zam (zlT s.o s.t c.s hs.t.rk) (fun _ h=>h) ?_;conv=>whnf
   refine zam hRef (fun _ h=>h) ?_;conv=>whnf
   refine⟨(show _∧_ from⟨rfl,rfl⟩),zas ?_ ?_⟩;rotate_left
   ·repeat' (first|exact trivial|refine And.intro (show _∧_ from⟨rfl,rfl⟩) ?_)
   conv=>whnf
   refine zbO e _ (fun h3=>?_) (fun h3=>?_)
   ·conv=>whnf
    refine⟨rfl,zc2 (r:=⟨0,0,0⟩) (x':=zdQ (cl0 s task c run n a) (bif e==0 then zyh s.t c.r (zbs c.a 8) c.s else s.t)) ?_⟩;rw[zap h1,zap h2',zap h3,h3];rfl
   ·conv=>whnf
    exact⟨rfl,zbb (x':=cl0 s task c run n a) ((zap h1).trans ((zap h2').trans (zaP h3)))⟩
 ·conv=>whnf
  exact⟨rfl,zbb (x':=cl0 s task c run n a) (zaP h1)⟩
end
end Sx
namespace Sx
attribute [local irreducible] Con zax zan zau zai zaw zbt zak zaC zbh zba I64
section
variable {s:St} {task:Int} {c:Call} {run:Rn} {n:Int} {a:Bool} {v:Nat} {d:Int→Nat}
theorem zsk{s:St}{a:Int}(h:znS s a=0):a<8∧s.alive a.toNat=true:=by
 unfold znS no at h;cases hq:(decide (a<8)&&s.alive a.toNat)with
 |true=>simpa using hq
 |false=>rw[hq]at h;cases h
theorem zA4(hs:StOk s d)(hB:∀a,a<8→BoxOk (s.box a))(hc:CallOk s task c):Con Tryz.prog 304 [.pt 0 []] ⟨[zaQ (cl0 s task c run n a) v],[v],[]⟩ (MX (zh4 s task c)):=by
 refine za3 Tryz.func304 rfl (by kernel_rfl) rfl rfl ?_;conv=>whnf
 refine zh8 (x:=cl0 s task c run n a) hc.a (fun h1=>?_) (fun h1=>?_)
 ·have hl:=zsk h1;have ha:0≤c.a∧c.a<8:=⟨hc.a.1,hl.1⟩;conv=>whnf
  refine zcG (decide (c.b≤1)) 2 _ (fun h2=>?_) (fun h2=>?_)
  ·have e2:no (decide (c.b≤1)) 2=0:=by rw[h2];rfl
   conv=>whnf
   refine zaA zaa (by kernel_rfl) (List.range 32) [(30,1073741823),(31,0)] (by kernel_rfl) ?_;conv=>whnf
   refine⟨(show _∧_ from⟨rfl,rfl⟩),zas ?_ ?_⟩;rotate_left
   ·repeat' (first|exact trivial|refine And.intro (show _∧_ from⟨rfl,rfl⟩) ?_)
   conv=>whnf
   refine⟨fun h3=>?_,fun h3=>?_⟩
   ·have h3:(zcA task c).sh=true:=h3;conv=>whnf
    refine zd7 (znM (x:=cl0 s task c run n a) hs.t hc.t0 (h:=c.r)) rfl (fun h4 v'=>?_) (fun h4 x' v'=>?_)
    ·conv=>whnf
     refine zaA zaa (by kernel_rfl) (List.range 30) [(27,134217727),(28,67108864)] (by kernel_rfl) ?_;conv=>whnf
     refine zam (zvE s.o s.t c.r c.a hs.t.rk) (fun _ h=>h) ?_;conv=>whnf
     refine⟨(show _∧_ from⟨rfl,rfl⟩),zas ?_ ?_⟩;rotate_left
     ·repeat' (first|exact trivial|refine And.intro (show _∧_ from⟨rfl,rfl⟩) ?_)
     conv=>whnf
     refine⟨fun h5=>?_,fun h5=>?_⟩
     ·have h5:(zgh s.o s.t c.r c.a true==0)=true:=h5;conv=>whnf
      refine zaA zaa (by kernel_rfl) (List.range 19) [(16,65535),(17,32768)] (by kernel_rfl) ?_;conv=>whnf
      refine⟨ha,?_⟩;conv=>whnf
      refine zam (zt0 (s.box c.a.toNat) (zcA task c) (hB _ (by omega))) (fun _ h=>h) ?_;conv=>whnf
      refine And.intro (by first|exact(show _∧_ from⟨rfl,rfl⟩)|exact(show _∧_ from⟨ha,rfl,rfl⟩)) (zas ?_ ?_);rotate_left
      ·repeat' (first|exact trivial|refine And.intro (by first|exact(show _∧_ from⟨rfl,rfl⟩)|exact(show _∧_ from⟨ha,rfl,rfl⟩)) ?_)
      conv=>whnf
      refine zbO (zlP (s.box c.a.toNat)) _ (fun h9=>?_) (fun h9=>?_)
      ·conv=>whnf
       refine zao zaa (by kernel_rfl) 11 (by kernel_rfl) ?_;conv=>whnf
       refine⟨ha,?_⟩;conv=>whnf
       refine⟨zaQ (zbX (zeP (cl0 s task c run n a) (ze5 s.o s.t c.r c.a true)) c.a.toNat (zjf (s.box c.a.toNat) (zcA task c))) _,zfg (zeP (cl0 s task c run n a) (ze5 s.o s.t c.r c.a true)) _ _ _,?_⟩;conv=>whnf
       refine⟨rfl,zc2 (r:=⟨0,0,0⟩) (x':=zbX (zeP (cl0 s task c run n a) (ze5 s.o s.t c.r c.a true)) c.a.toNat (zjf (s.box c.a.toNat) (zcA task c))) ?_⟩;rw[zh4,zap h1,zap e2,h3,zHH,zap h4,h5,zHH];exact zap h9
      ·conv=>whnf
       refine⟨rfl,zbb (x':=zeP (cl0 s task c run n a) (ze5 s.o s.t c.r c.a true)) ?_⟩;rw[zh4,zap h1,zap e2,h3,zHH,zap h4,h5,zHH];exact zaP h9
     ·have h5:(zgh s.o s.t c.r c.a true==0)=false:=h5;conv=>whnf
      refine zaA zaa (by kernel_rfl) (List.range 19) [(16,65535),(17,32768)] (by kernel_rfl) ?_;conv=>whnf
      refine⟨ha,?_⟩;conv=>whnf
      refine zam (zt0 (s.box c.a.toNat) (zcA task c) (hB _ (by omega))) (fun _ h=>h) ?_;conv=>whnf
      refine And.intro (by first|exact(show _∧_ from⟨rfl,rfl⟩)|exact(show _∧_ from⟨ha,rfl,rfl⟩)) (zas ?_ ?_);rotate_left
      ·repeat' (first|exact trivial|refine And.intro (by first|exact(show _∧_ from⟨rfl,rfl⟩)|exact(show _∧_ from⟨ha,rfl,rfl⟩)) ?_)
      conv=>whnf
      refine zbO (zlP (s.box c.a.toNat)) _ (fun h9=>?_) (fun h9=>?_)
      ·conv=>whnf
       refine zao zaa (by kernel_rfl) 11 (by kernel_rfl) ?_;conv=>whnf
       refine⟨ha,?_⟩;conv=>whnf
       refine⟨zaQ (zbX (cl0 s task c run n a) c.a.toNat (zjf (s.box c.a.toNat) (zcA task c))) _,zfg (cl0 s task c run n a) _ _ _,?_⟩;conv=>whnf
       refine⟨rfl,zc2 (r:=⟨0,0,0⟩) (x':=zbX (cl0 s task c run n a) c.a.toNat (zjf (s.box c.a.toNat) (zcA task c))) ?_⟩;rw[zh4,zap h1,zap e2,h3,zHH,zap h4,h5,zHJ];exact zap h9
      ·conv=>whnf
       refine⟨rfl,zbb (x':=cl0 s task c run n a) ?_⟩;rw[zh4,zap h1,zap e2,h3,zHH,zap h4,h5,zHJ];exact zaP h9
    ·conv=>whnf
     exact⟨rfl,zbb ((zap h1).trans ((zap e2).trans (by rw[h3];exact zaP h4)))⟩
   ·have h3:(zcA task c).sh=false:=h3;conv=>whnf
    refine⟨fun h4=>?_,fun h4=>?_⟩
    ·have h4:(c.r != 0)=true:=h4;conv=>whnf
     refine zea (x:=cl0 s task c run n a) hs hc.t0 hc.r 2 (.inr (.inr rfl)) (fun h5=>?_) (fun h5=>?_)
     ·conv=>whnf
      refine zd7 (zs0 (x:=cl0 s task c run n a) hs.t hc.r) rfl (fun h6 v'=>?_) (fun h6 x' v'=>?_)
      ·have hr:=(zii h5).1;obtain⟨_,_,d',hT,_⟩:=zj0 hs.t ⟨hc.r,hr⟩;conv=>whnf
       refine zaA zaa (by kernel_rfl) (List.range 24) [(21,2097151),(22,1048576)] (by kernel_rfl) ?_;conv=>whnf
       refine zam (zB2 s.o (zes s.t c.r) c.r hT.rk) (fun _ h=>h) ?_;conv=>whnf
       refine⟨(show _∧_ from⟨rfl,rfl⟩),zas ?_ ?_⟩;rotate_left
       ·repeat' (first|exact trivial|refine And.intro (show _∧_ from⟨rfl,rfl⟩) ?_)
       conv=>whnf
       refine zbO (zdP (zes s.t c.r) c.r 0) _ (fun h7=>?_) (fun h7=>?_)
       ·conv=>whnf
        refine zaA zaa (by kernel_rfl) (List.range 19) [(16,65535),(17,32768)] (by kernel_rfl) ?_;conv=>whnf
        refine⟨ha,?_⟩;conv=>whnf
        refine zam (zt0 (s.box c.a.toNat) (zcA task c) (hB _ (by omega))) (fun _ h=>h) ?_;conv=>whnf
        refine And.intro (by first|exact(show _∧_ from⟨rfl,rfl⟩)|exact(show _∧_ from⟨ha,rfl,rfl⟩)) (zas ?_ ?_);rotate_left
        ·repeat' (first|exact trivial|refine And.intro (by first|exact(show _∧_ from⟨rfl,rfl⟩)|exact(show _∧_ from⟨ha,rfl,rfl⟩)) ?_)
        conv=>whnf
        refine zbO (zlP (s.box c.a.toNat)) _ (fun h9=>?_) (fun h9=>?_)
        ·conv=>whnf
         refine zao zaa (by kernel_rfl) 11 (by kernel_rfl) ?_;conv=>whnf
         refine⟨ha,?_⟩;conv=>whnf
         refine⟨zaQ (zbX (zeP (zdQ (cl0 s task c run n a) (zes s.t c.r)) (zfv s.o (zes s.t c.r) c.r 0 ⟨2,0,0⟩)) c.a.toNat (zjf (s.box c.a.toNat) (zcA task c))) _,zfg (zeP (zdQ (cl0 s task c run n a) (zes s.t c.r)) (zfv s.o (zes s.t c.r) c.r 0 ⟨2,0,0⟩)) _ _ _,?_⟩;conv=>whnf
         refine⟨rfl,zc2 (r:=⟨0,0,0⟩) (x':=zbX (zeP (zdQ (cl0 s task c run n a) (zes s.t c.r)) (zfv s.o (zes s.t c.r) c.r 0 ⟨2,0,0⟩)) c.a.toNat (zjf (s.box c.a.toNat) (zcA task c))) ?_⟩;rw[zh4,zap h1,zap e2,h3,zHJ,h4,zHH,zap h5,zap h6,zap h7];exact zap h9
        ·conv=>whnf
         refine⟨rfl,zbb (x':=zeP (zdQ (cl0 s task c run n a) (zes s.t c.r)) (zfv s.o (zes s.t c.r) c.r 0 ⟨2,0,0⟩)) ?_⟩;rw[zh4,zap h1,zap e2,h3,zHJ,h4,zHH,zap h5,zap h6,zap h7];exact zaP h9
       ·conv=>whnf
        exact⟨rfl,zbb (x':=zdQ (cl0 s task c run n a) (zes s.t c.r)) ((zap h1).trans ((zap e2).trans (by rw[h3,h4,zHJ,zHH];exact(zap h5).trans ((zap h6).trans (zaP h7)))))⟩
      ·conv=>whnf
       exact⟨rfl,zbb ((zap h1).trans ((zap e2).trans (by rw[h3,h4,zHJ,zHH];exact(zap h5).trans (zaP h6))))⟩
     ·conv=>whnf
      exact⟨rfl,zbb (x':=cl0 s task c run n a) ((zap h1).trans ((zap e2).trans (by rw[h3,h4,zHJ,zHH];exact zaP h5)))⟩
    ·have h4:(c.r != 0)=false:=h4;conv=>whnf
     refine zaA zaa (by kernel_rfl) (List.range 19) [(16,65535),(17,32768)] (by kernel_rfl) ?_;conv=>whnf
     refine⟨ha,?_⟩;conv=>whnf
     refine zam (zt0 (s.box c.a.toNat) (zcA task c) (hB _ (by omega))) (fun _ h=>h) ?_;conv=>whnf
     refine And.intro (by first|exact(show _∧_ from⟨rfl,rfl⟩)|exact(show _∧_ from⟨ha,rfl,rfl⟩)) (zas ?_ ?_);rotate_left
     ·repeat' (first|exact trivial|refine And.intro (by first|exact(show _∧_ from⟨rfl,rfl⟩)|exact(show _∧_ from⟨ha,rfl,rfl⟩)) ?_)
     conv=>whnf
     refine zbO (zlP (s.box c.a.toNat)) _ (fun h9=>?_) (fun h9=>?_)
     ·conv=>whnf
      refine zao zaa (by kernel_rfl) 11 (by kernel_rfl) ?_;conv=>whnf
      refine⟨ha,?_⟩;conv=>whnf
      refine⟨zaQ (zbX (cl0 s task c run n a) c.a.toNat (zjf (s.box c.a.toNat) (zcA task c))) _,zfg (cl0 s task c run n a) _ _ _,?_⟩;conv=>whnf
      refine⟨rfl,zc2 (r:=⟨0,0,0⟩) (x':=zbX (cl0 s task c run n a) c.a.toNat (zjf (s.box c.a.toNat) (zcA task c))) ?_⟩;rw[zh4,zap h1,zap e2,h3,zHJ,h4,zHJ];exact zap h9
     ·conv=>whnf
      refine⟨rfl,zbb (x':=cl0 s task c run n a) ?_⟩;rw[zh4,zap h1,zap e2,h3,zHJ,h4,zHJ];exact zaP h9
  ·conv=>whnf
   exact⟨rfl,zbb (x':=cl0 s task c run n a) ((zap h1).trans (by rw[h2];rfl))⟩
 ·conv=>whnf
  exact⟨rfl,zbb (x':=cl0 s task c run n a) (zaP h1)⟩
end
end Sx
end Go.Proofs.YtfbhkfhbnkncoaaGreatDoor
