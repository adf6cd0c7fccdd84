import Derived.Test.YtfbhkfhbnkncoaaGreatDoorT31
set_option linter.all false
set_option maxRecDepth 100000
namespace Go.Proofs.YtfbhkfhbnkncoaaGreatDoor
open Go.RowKit
namespace Sx
structure Cl where
 s:St
 task:Int
 c:Call
 run:Rn
 needs:Int
 asks:Bool
 back:List Rn
def zaQ(x:Cl)(v:Nat):SV:=.pr (.d (za7 x.s)) (.pr (I x.task) (.pr (.d (zaW x.c)) (.pr (.d (zar x.run)) (.pr (I x.needs) (.pr (B x.asks) (.pr (owl 1 v zca (rnL x.back)) (.d .un)))))))
theorem zpW{P:Program}{f:FuncId}{args:List SV}{C:SV}{v:Nat}{c2:List SV}{t2:List Nat}{o2:List Ob}{Q:Out→MS→Prop}(h:Con P f args ⟨[C],[v],[]⟩ Q)(ha:zaG 1 1 0 args=true)(hi:zaG 1 1 0 [C]=true)(hQ:∀o m,Q o m→∃C' v',m=⟨[C'],[v'],[]⟩){K:Out→MS→Prop}(hK:∀o C' v',Q o ⟨[C'],[v'],[]⟩→K o ⟨C'::c2,v'::t2,o2⟩):Con P f args ⟨C::c2,v::t2,o2⟩ K:=
 zal (zcb c2 t2 o2 h ha (by rw[show[C].length=1 from rfl,show[v].length=1 from rfl,show([]:List Ob).length=0 from rfl,hi];rfl) fun o m hm=>by
  obtain⟨C',v',rfl⟩:=hQ o m hm;exact⟨rfl,rfl,rfl⟩) fun o m ⟨m',h1,h2⟩=>by
  obtain⟨C',v',rfl⟩:=hQ o m' h1;subst h2;exact hK o C' v' h1
theorem zka(x:Cl)(v:Nat):zaG 1 1 0 [zaQ x v]=true:=rfl
def zpm(lm:Nat)(m:MS):List (Nat×(MS→Prop))→Prop
 |[]=>True
 |(k,p)::r=>match lm.testBit k with
  |true=>p m∧zpm lm m r
  |false=>zpm lm m r
theorem zas{lm:Nat}{m:MS}{X:Prop}(hX:X):∀{S:List (Nat×(MS→Prop))},zpm lm m S→zlc lm m X S
 |[],_=>hX
 |(k,p)::r,h=>by
  unfold zpm at h;unfold zlc;cases hq:lm.testBit k with
  |true=>
   rw[hq]at h;exact⟨h.1,zas hX h.2⟩
  |false=>
   rw[hq]at h;exact zas hX h
abbrev unR:Out:=.ret (.tu (.d .un))
attribute [local irreducible] Con zax zan zau zai zaw zbt zak zaC zbh zba I64
theorem zea{x:Cl}{v:Nat}{c2:List SV}{t2:List Nat}{o2:List Ob}{d:Int→Nat}(hs:StOk x.s d)(ht:0≤x.task){h:Int}(hu:U32 h)(what:Int)(hw:what=0∨what=1∨what=2){K:Out→MS→Prop}(h1:zf4 x.s x.task h what=0→K unR ⟨zaQ x v::c2,v::t2,o2⟩)(h2:zf4 x.s x.task h what≠0→K (thr (zf4 x.s x.task h what)) ⟨zaQ x v::c2,v::t2,o2⟩):Con Tryz.prog 312 [.pt 0 [],H h,.d (.z .u8 what)] ⟨zaQ x v::c2,v::t2,o2⟩ K:=by
 refine zaM Tryz.func312 rfl (by kernel_rfl) rfl rfl ?_;conv=>whnf
 refine zao zaa (by kernel_rfl) 12 (by kernel_rfl) ?_;conv=>whnf
 refine zam (zB3 hs x.task ht hu what hw) (fun _ h=>h) ?_;conv=>whnf
 refine zbO (zf4 x.s x.task h what) _ (fun he=>?_) (fun he=>?_)
 ·conv=>whnf
  exact h1 he
 ·conv=>whnf
  exact h2 he
theorem zh8{x:Cl}{v:Nat}{c2:List SV}{t2:List Nat}{o2:List Ob}{a:Int}(hu:U32 a){K:Out→MS→Prop}(h1:znS x.s a=0→K unR ⟨zaQ x v::c2,v::t2,o2⟩)(h2:znS x.s a≠0→K (thr (znS x.s a)) ⟨zaQ x v::c2,v::t2,o2⟩):Con Tryz.prog 329 [.pt 0 [],H a] ⟨zaQ x v::c2,v::t2,o2⟩ K:=by
 refine zaM Tryz.func329 rfl (by kernel_rfl) rfl rfl ?_;conv=>whnf
 refine⟨fun hq=>⟨hu.1,by simpa using hq⟩,?_⟩;conv=>whnf
 refine zcG (decide (a<8)&&x.s.alive a.toNat) 2 _ (fun hb=>?_) (fun hb=>?_)
 ·have e:znS x.s a=0:=by rw[znS,hb];rfl
  conv=>whnf
  exact h1 e
 ·have e:znS x.s a=2:=by rw[znS,hb];rfl
  rw[e]at h2;conv=>whnf
  exact h2 (by decide)
theorem zva{x:Cl}{v:Nat}{h:Int}:Con Tryz.prog 317 [.pt 0 [],H h] ⟨[zaQ x v],[v],[]⟩ fun o m=>((zah x.s.t.b h=true∧o=.ret (.d (zdX (zaj x.s.t h))))∨(zah x.s.t.b h=false∧o=thr 4))∧m=⟨[zaQ x v],[v],[]⟩:=by
 refine za3 Tryz.func317 rfl (by kernel_rfl) rfl rfl ?_;conv=>whnf
 refine zad (zlS x.s.t h) ?_;conv=>whnf
 cases hg:zah x.s.t.b h with
 |true=>
  refine zbO 0 _ (fun _=>?_) (fun he=>absurd rfl he);conv=>whnf
  exact⟨rfl,.inl ⟨rfl,rfl⟩,rfl⟩
 |false=>
  refine zbO 4 _ (fun he=>by cases he) (fun _=>?_);conv=>whnf
  exact⟨rfl,.inr ⟨rfl,rfl⟩,rfl⟩
theorem zkR{x:Cl}{v:Nat}{c2:List SV}{t2:List Nat}{o2:List Ob}{h:Int}{K:Out→MS→Prop}(h1:zah x.s.t.b h=true→K (.ret (.d (zdX (zaj x.s.t h)))) ⟨zaQ x v::c2,v::t2,o2⟩)(h2:zah x.s.t.b h=false→K (thr 4) ⟨zaQ x v::c2,v::t2,o2⟩):Con Tryz.prog 317 [.pt 0 [],H h] ⟨zaQ x v::c2,v::t2,o2⟩ K:=
 zpW zva rfl (zka x v) (fun o m hm=>⟨_,_,hm.2⟩) fun o C' v' ⟨ho,hm⟩=>by
  have e:C'=zaQ x v∧v'=v:=by have h1:=congrArg MS.c hm;have h2:=congrArg MS.t hm;exact⟨by simpa using h1,by simpa using h2⟩
  rw[e.1,e.2];rcases ho with⟨hg,rfl⟩|⟨hg,rfl⟩
  ·exact h1 hg
  ·exact h2 hg
def MR(x:Cl)(R:Except Int Cl)(u:SV)(o:Out)(m:MS):Prop:=∃v',match R with
 | .ok x'=>o=.ret u∧m=⟨[zaQ x' v'],[v'],[]⟩
 | .error e=>o=thr e∧∃x',m=⟨[zaQ x' v'],[v'],[]⟩
theorem znn{f:FuncId}{args:List SV}{x:Cl}{v:Nat}{c2:List SV}{t2:List Nat}{o2:List Ob}{R:Except Int Cl}{u:SV}(h:Con Tryz.prog f args ⟨[zaQ x v],[v],[]⟩ (MR x R u))(ha:zaG 1 1 0 args=true){K:Out→MS→Prop}(h1:∀x' v',R=.ok x'→K (.ret u) ⟨zaQ x' v'::c2,v'::t2,o2⟩)(h2:∀e x' v',R=.error e→K (thr e) ⟨zaQ x' v'::c2,v'::t2,o2⟩):Con Tryz.prog f args ⟨zaQ x v::c2,v::t2,o2⟩ K:=
 zpW h ha (zka x v) (fun o m ⟨v',hm⟩=>by
  cases R with
  |ok x'=>exact⟨_,_,hm.2⟩
  |error e=>obtain⟨_,x',hm⟩:=hm;exact⟨_,_,hm⟩) fun o C' v' ⟨v2,hm⟩=>by
  cases R with
  |ok x'=>
   obtain⟨rfl,hm⟩:=hm;have g1:=congrArg MS.c hm;have g2:=congrArg MS.t hm;simp only[zFD,zFE]at g1 g2;rw[g1,g2];exact h1 x' v2 rfl
  |error e=>
   obtain⟨rfl,x',hm⟩:=hm;have g1:=congrArg MS.c hm;have g2:=congrArg MS.t hm;simp only[zFD,zFE]at g1 g2;rw[g1,g2];exact h2 e x' v2 rfl
theorem zap{α:Type}{e:Int}{k:Except Int α}(h:e=0):thn e k=k:=by rw[h];rfl
theorem zaP{α:Type}{e:Int}{k:Except Int α}(h:e≠0):thn e k=.error e:=by unfold thn;rw[zFN.2 h];rfl
theorem zmE{x x':Cl}{R:Except Int Cl}{u:SV}{v:Nat}(h:R=.ok x'):MR x R u (.ret u) ⟨[zaQ x' v],[v],[]⟩:=⟨v,by rw[h];exact⟨rfl,rfl⟩⟩
theorem zlj{x x':Cl}{R:Except Int Cl}{u:SV}{v:Nat}{e:Int}(h:R=.error e):MR x R u (thr e) ⟨[zaQ x' v],[v],[]⟩:=⟨v,by rw[h];exact⟨rfl,x',rfl⟩⟩
def zdQ(x:Cl)(t:Tb):Cl:={x with s:={x.s with t:=t}}
def zeP(x:Cl)(o:Nat→Sd):Cl:={x with s:={x.s with o:=o}}
def zyZ(x:Cl)(k:Toks):Cl:={x with s:={x.s with k:=k}}
theorem zCU{x:Cl}{v:Nat}{h:Int}{r:Rg}(hr:zvJ r):Con Tryz.prog 322 [.pt 0 [],H h,.d (zdX r)] ⟨[zaQ x v],[v],[]⟩ (MR x (thn (zfx x.s.t h r) (.ok (zdQ x (zdm x.s.t h r)))) (.tu (.d .un))):=by
 refine za3 Tryz.func322 rfl (by kernel_rfl) rfl rfl ?_;conv=>whnf
 refine zaA zaa (by kernel_rfl) (List.range 15) [(12,4095),(13,2048)] (by kernel_rfl) ?_;conv=>whnf
 refine zam (zt2 x.s.t h r hr) (fun _ h=>h) ?_;conv=>whnf
 refine⟨(show _∧_ from⟨rfl,rfl⟩),zas ?_ ?_⟩;rotate_left
 ·repeat' (first|exact trivial|refine And.intro (show _∧_ from⟨rfl,rfl⟩) ?_)
 conv=>whnf
 refine zbO (zfx x.s.t h r) _ (fun he=>?_) (fun he=>?_)
 ·conv=>whnf
  exact⟨rfl,zmE (x':=zdQ x (zdm x.s.t h r)) (zap he)⟩
 ·conv=>whnf
  exact⟨rfl,zlj (x':=x) (zaP he)⟩
theorem zs0{x:Cl}{v:Nat}{d:Int→Nat}(ht:TInv x.s.t d){h:Int}(hu:U32 h):Con Tryz.prog 326 [.pt 0 [],H h] ⟨[zaQ x v],[v],[]⟩ (MR x (thn (ztB x.s.t h) (.ok (zdQ x (zes x.s.t h)))) (.tu (.d .un))):=by
 refine za3 Tryz.func326 rfl (by kernel_rfl) rfl rfl ?_;conv=>whnf
 refine zad (zB0 ht hu) ?_;conv=>whnf
 refine zbO (ztB x.s.t h) _ (fun he=>?_) (fun he=>?_)
 ·conv=>whnf
  exact⟨rfl,zmE (x':=zdQ x (zes x.s.t h)) (zap he)⟩
 ·conv=>whnf
  exact⟨rfl,zlj (x':=x) (zaP he)⟩
theorem zmK{x:Cl}{v:Nat}{d:Int→Nat}(ht:TInv x.s.t d){h task:Int}:Con Tryz.prog 315 [.pt 0 [],H h,I task] ⟨[zaQ x v],[v],[]⟩ (MR x (thn (zdP x.s.t h task) (.ok (zeP x (zfv x.s.o x.s.t h task ⟨1,tkB task,0⟩)))) (.tu (.d .un))):=by
 refine za3 Tryz.func315 rfl (by kernel_rfl) rfl rfl ?_;conv=>whnf
 refine zaA zaa (by kernel_rfl) (List.range 21) [(18,262143),(19,131072)] (by kernel_rfl) ?_;conv=>whnf
 refine zam (zzs x.s.o x.s.t h task ht.rk) (fun _ h=>h) ?_;conv=>whnf
 refine⟨(show _∧_ from⟨rfl,rfl⟩),zas ?_ ?_⟩;rotate_left
 ·repeat' (first|exact trivial|refine And.intro (show _∧_ from⟨rfl,rfl⟩) ?_)
 conv=>whnf
 refine zbO (zdP x.s.t h task) _ (fun he=>?_) (fun he=>?_)
 ·conv=>whnf
  exact⟨rfl,zmE (x':=zeP x (zfv x.s.o x.s.t h task ⟨1,tkB task,0⟩)) (zap he)⟩
 ·conv=>whnf
  exact⟨rfl,zlj (x':=x) (zaP he)⟩
theorem znM{x:Cl}{v:Nat}{d:Int→Nat}(ht:TInv x.s.t d)(h0:0≤x.task){h:Int}:Con Tryz.prog 330 [.pt 0 [],H h] ⟨[zaQ x v],[v],[]⟩ (MR x (thn (ze6 x.s x.task h) (.ok x)) (.tu (.d .un))):=by
 refine za3 Tryz.func330 rfl (by kernel_rfl) rfl rfl ?_;conv=>whnf
 refine zad (zbz x.s.t.b h) ?_;conv=>whnf
 refine zcG (zah x.s.t.b h) 4 _ (fun hg=>?_) (fun hg=>?_)
 ·conv=>whnf
  refine zaA zaa (by kernel_rfl) (List.range 16) [(14,16383),(15,0)] (by kernel_rfl) ?_;conv=>whnf
  refine zam (zlT x.s.o x.s.t h ht.rk) (fun _ h=>h) ?_;conv=>whnf
  refine⟨(show _∧_ from⟨rfl,rfl⟩),zas ?_ ?_⟩;rotate_left
  ·repeat' (first|exact trivial|refine And.intro (show _∧_ from⟨rfl,rfl⟩) ?_)
  conv=>whnf
  refine zad (zhO x.s.t h ht.rk) ?_;conv=>whnf
  refine zcG ((zbN x.s.t h==h)&&((ofO x.s.o x.s.t h).kind==3)) 12 _ (fun hb=>?_) (fun hb=>?_)
  ·conv=>whnf
   refine zao zaa (by kernel_rfl) 9 (by kernel_rfl) ?_;conv=>whnf
   refine⟨h0,?_⟩;conv=>whnf
   refine zcG (zuN (ofO x.s.o x.s.t h) x.task) 5 _ (fun hc=>?_) (fun hc=>?_)
   ·have e:ze6 x.s x.task h=0:=by rw[ze6,hg,hb,hc];rfl
    conv=>whnf
    exact⟨rfl,zmE (x':=x) (zap e)⟩
   ·have e:ze6 x.s x.task h=5:=by rw[ze6,hg,hb,hc];rfl
    rw[e];conv=>whnf
    exact⟨rfl,zlj (x':=x) rfl⟩
  ·have e:ze6 x.s x.task h=12:=by rw[ze6,hg,hb];rfl
   rw[e];conv=>whnf
   exact⟨rfl,zlj (x':=x) rfl⟩
 ·have e:ze6 x.s x.task h=4:=by rw[ze6,hg];rfl
  rw[e];conv=>whnf
  exact⟨rfl,zlj (x':=x) rfl⟩
end Sx
namespace Sx
theorem zm1{k:Toks}(h:ziy k)(y:Int):∀i,16≤i→(zbw k.b y i).iss=false:=fun i hi=>by
 unfold zbw;cases zah k.b y with
 |false=>exact h i hi
 |true=>
  rw[zHH];unfold zaq;split
  ·cases((k.b (slN y)).gen==8388607)<;>rfl
  ·exact h i hi
theorem zop:∀(l:List Int) {k:Toks},ziy k→ziy (woK k l)
 |[],_,h=>h
 |y::l,k,h=>zop l (k:=⟨zbw k.b y,k.s⟩) (zm1 h y)
theorem zrV(k:Toks)(l:List Int)(y:Int):zeW k (l++[y])=woK (zeW k l) (zaN (zeW k l) (onP y) (zcE (zeW k l).b)):=by unfold zeW;rw[zHc];rfl
theorem zju:∀(l:List Int) {k:Toks},ziy k→ziy (zeW k l)
 |[],_,h=>h
 |y::l,k,h=>zju l (zop _ h)
def zuI(x:Cl)(h:Int):Cl:={x with s:=goneS x.s h,back:=x.back++zd4 x.s h}
def znF(x:Cl)(l:List Int):Cl:={x with s:={x.s with k:=zeW x.s.k l},back:=x.back++zbC x.s.t l}
theorem zp9(t:Tb)(l:List Int)(y:Int):zbC t (l++[y])=zbC t l++(zaj t y).rs:=by unfold zbC;simp
theorem zhl{t:Tb}{d:Int→Nat}(ht:TInv t d):∀l:List Int,(zbC t l).length≤64*l.length
 |[]=>zF5 _
 |y::l=>by have h1:=zhl ht l;have h2:=zc1 ht y;have h3:=zdu h2.ok;have h4:=h2.pg;have h5:=h2.q1;show((zaj t y).rs++zbC t l).length≤_;rw[zFY,zFI];omega
abbrev clW(x:Cl)(q:SV):SV:=.pr (.d (za7 x.s)) (.pr (I x.task) (.pr (.d (zaW x.c)) (.pr (.d (zar x.run)) (.pr (I x.needs) (.pr (B x.asks) (.pr q (.d .un)))))))
attribute [local irreducible] Con zax zan zau zai zaw zbt zak zaC zbh zba I64
theorem zo9{x:Cl}{v:Nat}{d:Int→Nat}(hs:StOk x.s d){h:Int}(hu:U32 h)(hb:x.back.length≤2000000000):Con Tryz.prog 325 [.pt 0 [],H h] ⟨[zaQ x v],[v],[]⟩ (MR x (.ok (zuI x h)) (.tu (.d .un))):=by
 have hn:=zlI hs.t hu;have hU:=(zha hs.t.ok hs.t.rk hu).out (zpS (l:=zbW x.s.t h));have hF:=zzp hs.t.ok hs.t.rk hu;have hG:zuI x h={znF x (zbW x.s.t h)with s:={(znF x (zbW x.s.t h)).s with t:=zbv x.s.t (zbW x.s.t h)}}:=rfl;rw[hG];generalize zbW x.s.t h=l at hn hU hF;refine za3 Tryz.func325 rfl (by kernel_rfl) rfl rfl ?_;conv=>whnf
 refine zad (hU) ?_;conv=>whnf
 refine⟨zac (x:=(l.length:Int)) (by omega) (by omega),?_⟩;conv=>whnf
 refine zaB zaa (fun i=>i≤l.length) (fun i=>l.length - i) (fun i=>[(17,I i)]) (fun i=>⟨[zaQ (znF x (l.take i)) (v+i)],[v+i],[]⟩) 0 (zFV _) ⟨rfl,trivial⟩ ?_ (fun i=>⟨zF5 _,zF5 _,zF5 _⟩) ?_
 ·exact zcn (ce (congrArg (fun b=>clW x (owl 1 v zca (rnL b))) (zHm x.back).symm) rfl) rfl rfl
 intro i hi;conv=>whnf
 refine⟨fun hq=>?_,fun hq=>?_⟩
 ·have hlt:i<l.length:=by
   have:(i:Int)<l.length:=by simpa using hq
   omega
  have hk:=zju (l.take i) hs.k;have hg:=zc1 hs.t (l.getD i 0);have hgl:=zhl hs.t (l.take i);have hl2:(l.take i).length≤33:=by simp;omega
  have h3:=zdu hg.ok;have h4:=hg.pg;have h5:=hg.q1;conv=>whnf
  refine⟨⟨(by omega:(0:Int)≤(i:Int)),(by omega:(i:Int)<(l.length:Int))⟩,?_⟩;conv=>whnf
  refine zad (zlS x.s.t (l.getD i 0)) ?_;conv=>whnf
  refine zaA zaa (by kernel_rfl) (List.range 12) [(8,1),(11,0)] (by kernel_rfl) ?_;conv=>whnf
  refine⟨⟨rfl,(by
   rw[zFH,zFH];show(x.back++zbC x.s.t (l.take i)).length+_≤_;rw[zFY];omega:(rnL (znF x (l.take i)).back).length+((zaj x.s.t (l.getD i 0)).rs.map zar).length≤2147483648)⟩,?_⟩
  conv=>whnf
  refine zad (zwE hk (l.getD i 0)) ?_;conv=>whnf
  refine⟨zac (x:=(i:Int)+1) (by omega) (by omega),?_⟩;conv=>whnf
  have htk:l.take (i+1)=l.take i++[l.getD i 0]:=by rw[zHb,zHa hlt,zG9,zHa hlt];rfl
  have ek:woK (zeW x.s.k (l.take i)) (zaN (zeW x.s.k (l.take i)) (onP (l.getD i 0)) (zcE (zeW x.s.k (l.take i)).b))=zeW x.s.k (l.take (i+1)):=by rw[htk,zrV]
  have eb:rnL (znF x (l.take i)).back++rnL (zaj x.s.t (l.getD i 0)).rs=rnL (x.back++zbC x.s.t (l.take (i+1))):=by rw[htk,zp9,←zG5];exact zF6.symm
  have fin:∀K' Bk,K'=zeW x.s.k (l.take (i+1))→Bk=rnL (x.back++zbC x.s.t (l.take (i+1)))→clW {x with s:={x.s with k:=K'}} (owl 1 (v+i+1) zca Bk)=zaQ (znF x (l.take (i+1))) (v+(i+1)):=by rintro _ _ rfl rfl;rfl
  refine⟨i+1,hlt,by omega,⟨rfl,trivial⟩,⟨?_,rfl⟩,rfl⟩;exact zcn (ce ((congrArg (clW {x with s:={x.s with k:=woK (zeW x.s.k (l.take i)) (zaN (zeW x.s.k (l.take i)) (onP (l.getD i 0)) (zcE (zeW x.s.k (l.take i)).b))}}) (zcq 1 (v+i+1) zca (rnL (znF x (l.take i)).back) (rnL (zaj x.s.t (l.getD i 0)).rs))).trans (fin _ _ ek eb)) rfl) rfl rfl
 ·have hlt:i=l.length:=by
   have:¬((i:Int)<l.length):=by simpa using hq
   omega
  subst hlt;rw[zHe];conv=>whnf
  refine zad (hF) ?_;conv=>whnf
  exact⟨rfl,zmE (v:=v+l.length) rfl⟩
def zj2(x:Cl)(h task:Int):Cl:={x with s:=(zci x.s h task).1,back:=x.back++(zci x.s h task).2}
theorem zrG{x:Cl}{v:Nat}{d:Int→Nat}(hs:StOk x.s d){h:Int}(hu:U32 h)(task:Int)(hb:x.back.length≤2000000000):Con Tryz.prog 332 [.pt 0 [],H h,I task] ⟨[zaQ x v],[v],[]⟩ (MR x (thn (zgh x.s.o x.s.t h task false) (.ok (zj2 x h task))) (.tu (.d .un))):=by
 refine za3 Tryz.func332 rfl (by kernel_rfl) rfl rfl ?_;conv=>whnf
 refine zaA zaa (by kernel_rfl) (List.range 23) [(19,524287),(20,393216)] (by kernel_rfl) ?_;conv=>whnf
 refine zam (zwY x.s.o x.s.t h task hs.t.rk) (fun _ h=>h) ?_;conv=>whnf
 refine⟨(show _∧_ from⟨rfl,rfl⟩),zas ?_ ?_⟩;rotate_left
 ·repeat' (first|exact trivial|refine And.intro (show _∧_ from⟨rfl,rfl⟩) ?_)
 conv=>whnf
 refine zbO (zgh x.s.o x.s.t h task false) _ (fun he=>?_) (fun he=>?_)
 ·conv=>whnf
  refine⟨fun hq=>?_,fun hq=>?_⟩
  ·have hq:(((zkg (zhp x.s.o x.s.t h task false).toNat:Nat):Int)==0)=true:=hq;have e0:(zkg (zhp x.s.o x.s.t h task false).toNat==0)=true:=by simpa using hq
   have e:zj2 x h task=zuI (zeP x (ze5 x.s.o x.s.t h task false)) h:=by unfold zj2 zci;rw[e0];rfl
   conv=>whnf
   refine znn (zo9 (x:=zeP x (ze5 x.s.o x.s.t h task false)) ⟨hs.t,hs.k⟩ hu hb) rfl (fun x' v' hx=>?_) (fun e x' v' hx=>by cases hx);cases hx;conv=>whnf
   exact⟨rfl,zmE (by rw[zap he,e])⟩
  ·have hq:(((zkg (zhp x.s.o x.s.t h task false).toNat:Nat):Int)==0)=false:=hq;have e0:(zkg (zhp x.s.o x.s.t h task false).toNat==0)=false:=by simpa using hq
   have e:zj2 x h task={zeP x (ze5 x.s.o x.s.t h task false)with back:=x.back++[]}:=by unfold zj2 zci;rw[e0];rfl
   rw[zHm]at e;conv=>whnf
   exact⟨rfl,zmE (x':=zeP x (ze5 x.s.o x.s.t h task false)) (by rw[zap he,e];rfl)⟩
 ·conv=>whnf
  exact⟨rfl,zlj (x':=x) (zaP he)⟩
end Sx
namespace Sx
def MX(R:Ex)(o:Out)(m:MS):Prop:=∃v' x',m=⟨[zaQ x' v'],[v'],[]⟩∧match R with
 | .ok (s',r,b)=>o=.ret (.d (zaK r))∧x'.s=s'∧x'.back=b
 | .error e=>o=thr e
theorem zc2{x':Cl}{R:Ex}{v:Nat}{r:Rs}(h:R=.ok (x'.s,r,x'.back)):MX R (.ret (.d (zaK r))) ⟨[zaQ x' v],[v],[]⟩:=⟨v,x',rfl,by rw[h];exact⟨rfl,rfl,rfl⟩⟩
theorem zbb{x':Cl}{R:Ex}{v:Nat}{e:Int}(h:R=.error e):MX R (thr e) ⟨[zaQ x' v],[v],[]⟩:=⟨v,x',rfl,by rw[h]⟩
theorem zd7{f:FuncId}{args:List SV}{x y:Cl}{v:Nat}{c2:List SV}{t2:List Nat}{o2:List Ob}{e:Int}{u:SV}(h:Con Tryz.prog f args ⟨[zaQ x v],[v],[]⟩ (MR x (thn e (.ok y)) u))(ha:zaG 1 1 0 args=true){K:Out→MS→Prop}(h1:e=0→∀v',K (.ret u) ⟨zaQ y v'::c2,v'::t2,o2⟩)(h2:e≠0→∀x' v',K (thr e) ⟨zaQ x' v'::c2,v'::t2,o2⟩):Con Tryz.prog f args ⟨zaQ x v::c2,v::t2,o2⟩ K:=
 znn h ha (fun x' v' hx=>by
  by_cases he:e=0
  ·rw[zap he]at hx;cases hx;exact h1 he v'
  ·rw[zaP he]at hx;cases hx) fun e' x' v' hx=>by
  by_cases he:e=0
  ·rw[zap he]at hx;cases hx
  ·rw[zaP he]at hx;cases hx;exact h2 he x' v'
structure CallOk (s:St) (task:Int) (c:Call):Prop where
 t0:0≤task
 t1:task<8
 r:U32 c.r
 s':U32 c.s
 a:U32 c.a
 b:U32 c.b
abbrev cl0(s:St)(task:Int)(c:Call)(run:Rn)(n:Int)(a:Bool):Cl:=⟨s,task,c,run,n,a,[]⟩
attribute [local irreducible] Con zax zan zau zai zaw zbt zak zaC zbh zba I64
section
variable {s:St} {task:Int} {c:Call} {run:Rn} {n:Int} {a:Bool} {v:Nat} {d:Int→Nat}
theorem zus(hs:StOk s d)(hc:CallOk s task c):Con Tryz.prog 296 [.pt 0 []] ⟨[zaQ (cl0 s task c run n a) v],[v],[]⟩ (MX (zkT s task c)):=by
 refine za3 Tryz.func296 rfl (by kernel_rfl) rfl rfl ?_;conv=>whnf
 refine zea (x:=cl0 s task c run n a) hs hc.t0 hc.r 2 (.inr (.inr rfl)) (fun h1=>?_) (fun h1=>?_)
 ·conv=>whnf
  refine znn (zo9 (x:=cl0 s task c run n a) hs hc.r (zFV _)) rfl (fun x' v' hx=>?_) (fun e x' v' hx=>by cases hx);cases hx;conv=>whnf
  exact⟨rfl,zc2 (r:=⟨0,0,0⟩) (x':=zuI (cl0 s task c run n a) c.r) (zap h1)⟩
 ·conv=>whnf
  exact⟨rfl,zbb (x':=cl0 s task c run n a) (zaP h1)⟩
theorem zz6(hs:StOk s d)(hc:CallOk s task c):Con Tryz.prog 301 [.pt 0 []] ⟨[zaQ (cl0 s task c run n a) v],[v],[]⟩ (MX (zuy s task c)):=by
 refine za3 Tryz.func301 rfl (by kernel_rfl) rfl rfl ?_;conv=>whnf
 refine zd7 (znM (x:=cl0 s task c run n a) hs.t hc.t0 (h:=c.r)) rfl (fun h1 v'=>?_) (fun h1 x' v'=>?_)
 ·conv=>whnf
  refine zao zaa (by kernel_rfl) 10 (by kernel_rfl) ?_;conv=>whnf
  refine zd7 (zrG (x:=cl0 s task c run n a) hs hc.r task (zFV _)) rfl (fun h2 v'=>?_) (fun h2 x' v'=>?_)
  ·conv=>whnf
   exact⟨rfl,zc2 (r:=⟨0,0,0⟩) (x':=zj2 (cl0 s task c run n a) c.r task) ((zap h1).trans (zap h2))⟩
  ·conv=>whnf
   exact⟨rfl,zbb ((zap h1).trans (zaP h2))⟩
 ·conv=>whnf
  exact⟨rfl,zbb (zaP h1)⟩
theorem zCv(hs:StOk s d)(hc:CallOk s task c):Con Tryz.prog 297 [.pt 0 []] ⟨[zaQ (cl0 s task c run n a) v],[v],[]⟩ (MX (zBE s task c)):=by
 refine za3 Tryz.func297 rfl (by kernel_rfl) rfl rfl ?_;conv=>whnf
 refine zea (x:=cl0 s task c run n a) hs hc.t0 hc.r 2 (.inr (.inr rfl)) (fun h1=>?_) (fun h1=>?_)
 ·conv=>whnf
  refine zao zaa (by kernel_rfl) 18 (by kernel_rfl) ?_;conv=>whnf
  refine zam (zhO s.t c.r hs.t.rk) (fun _ h=>h) ?_;conv=>whnf
  refine zcG (zbN s.t c.r != c.r) 12 _ (fun h2=>?_) (fun h2=>?_)
  ·have e2:no (zbN s.t c.r != c.r) 12=0:=by rw[h2];rfl
   conv=>whnf
   refine zd7 (zs0 (x:=cl0 s task c run n a) hs.t hc.r) rfl (fun h3 v'=>?_) (fun h3 x' v'=>?_)
   ·have hr:=(zii h1).1;obtain⟨_,_,d',hT,_⟩:=zj0 hs.t ⟨hc.r,hr⟩;conv=>whnf
    refine zao zaa (by kernel_rfl) 10 (by kernel_rfl) ?_;conv=>whnf
    refine zd7 (zmK (x:=zdQ (cl0 s task c run n a) (zes s.t c.r)) hT (h:=c.r) (task:=task)) rfl (fun h4 v'=>?_) (fun h4 x' v'=>?_)
    ·conv=>whnf
     exact⟨rfl,zc2 (r:=⟨0,0,0⟩) (x':=zeP (zdQ (cl0 s task c run n a) (zes s.t c.r)) (zfv s.o (zes s.t c.r) c.r task ⟨1,tkB task,0⟩)) ((zap h1).trans ((zap e2).trans ((zap h3).trans (zap h4))))⟩
    ·conv=>whnf
     exact⟨rfl,zbb ((zap h1).trans ((zap e2).trans ((zap h3).trans (zaP h4))))⟩
   ·conv=>whnf
    exact⟨rfl,zbb ((zap h1).trans ((zap e2).trans (zaP h3)))⟩
  ·conv=>whnf
   exact⟨rfl,zbb (x':=cl0 s task c run n a) ((zap h1).trans (by rw[h2];rfl))⟩
 ·conv=>whnf
  exact⟨rfl,zbb (x':=cl0 s task c run n a) (zaP h1)⟩
theorem zxL(hs:StOk s d)(hc:CallOk s task c):Con Tryz.prog 298 [.pt 0 []] ⟨[zaQ (cl0 s task c run n a) v],[v],[]⟩ (MX (zpa s task c)):=by
 refine za3 Tryz.func298 rfl (by kernel_rfl) rfl rfl ?_;conv=>whnf
 refine zea (x:=cl0 s task c run n a) hs hc.t0 hc.r 2 (.inr (.inr rfl)) (fun h1=>?_) (fun h1=>?_)
 ·conv=>whnf
  refine zea (x:=cl0 s task c run n a) hs hc.t0 hc.s' 1 (.inr (.inl rfl)) (fun h2=>?_) (fun h2=>?_)
  ·conv=>whnf
   refine zaA zaa (by kernel_rfl) (List.range 23) [(20,1048575),(21,524288)] (by kernel_rfl) ?_;conv=>whnf
   refine zam (zwN hs.t.ok hs.t.rk hc.r c.s) (fun _ h=>h) ?_;conv=>whnf
   refine⟨(show _∧_ from⟨rfl,rfl⟩),zas ?_ ?_⟩;rotate_left
   ·repeat' (first|exact trivial|refine And.intro (show _∧_ from⟨rfl,rfl⟩) ?_)
   conv=>whnf
   refine zbO (grE s.t c.r c.s) _ (fun h3=>?_) (fun h3=>?_)
   ·conv=>whnf
    exact⟨rfl,zc2 (r:=⟨0,0,0⟩) (x':=zdQ (cl0 s task c run n a) (grT s.t c.r c.s)) ((zap h1).trans ((zap h2).trans (zap h3)))⟩
   ·conv=>whnf
    exact⟨rfl,zbb (x':=cl0 s task c run n a) ((zap h1).trans ((zap h2).trans (zaP h3)))⟩
  ·conv=>whnf
   exact⟨rfl,zbb (x':=cl0 s task c run n a) ((zap h1).trans (zaP h2))⟩
 ·conv=>whnf
  exact⟨rfl,zbb (x':=cl0 s task c run n a) (zaP h1)⟩
theorem zuF(hs:StOk s d)(hc:CallOk s task c):Con Tryz.prog 299 [.pt 0 []] ⟨[zaQ (cl0 s task c run n a) v],[v],[]⟩ (MX (zk2 s task c)):=by
 refine za3 Tryz.func299 rfl (by kernel_rfl) rfl rfl ?_;conv=>whnf
 refine zea (x:=cl0 s task c run n a) hs hc.t0 hc.r 2 (.inr (.inr rfl)) (fun h1=>?_) (fun h1=>?_)
 ·conv=>whnf
  refine zd7 (zs0 (x:=cl0 s task c run n a) hs.t hc.r) rfl (fun h3 v'=>?_) (fun h3 x' v'=>?_)
  ·have hr:=(zii h1).1;obtain⟨_,_,d',hT,_⟩:=zj0 hs.t ⟨hc.r,hr⟩;conv=>whnf
   refine zaA zaa (by kernel_rfl) (List.range 28) [(25,33554431),(26,16777216)] (by kernel_rfl) ?_;conv=>whnf
   refine zam (ztT s.o (zes s.t c.r) c.r task hT.rk) (fun _ h=>h) ?_;conv=>whnf
   refine⟨(show _∧_ from⟨rfl,rfl⟩),zas ?_ ?_⟩;rotate_left
   ·repeat' (first|exact trivial|refine And.intro (show _∧_ from⟨rfl,rfl⟩) ?_)
   conv=>whnf
   refine zbO (zdP (zes s.t c.r) c.r task) _ (fun h4=>?_) (fun h4=>?_)
   ·conv=>whnf
    exact⟨rfl,zc2 (r:=⟨0,0,0⟩) (x':=zeP (zdQ (cl0 s task c run n a) (zes s.t c.r)) (zfv s.o (zes s.t c.r) c.r task ⟨3,0,zjB task⟩)) ((zap h1).trans ((zap h3).trans (zap h4)))⟩
   ·conv=>whnf
    exact⟨rfl,zbb (x':=zdQ (cl0 s task c run n a) (zes s.t c.r)) ((zap h1).trans ((zap h3).trans (zaP h4)))⟩
  ·conv=>whnf
   exact⟨rfl,zbb ((zap h1).trans (zaP h3))⟩
 ·conv=>whnf
  exact⟨rfl,zbb (x':=cl0 s task c run n a) (zaP h1)⟩
theorem zys(hs:StOk s d)(hc:CallOk s task c):Con Tryz.prog 300 [.pt 0 []] ⟨[zaQ (cl0 s task c run n a) v],[v],[]⟩ (MX (zpE s task c)):=by
 refine za3 Tryz.func300 rfl (by kernel_rfl) rfl rfl ?_;conv=>whnf
 refine zh8 (x:=cl0 s task c run n a) hc.a (fun h1=>?_) (fun h1=>?_)
 ·conv=>whnf
  refine zd7 (znM (x:=cl0 s task c run n a) hs.t hc.t0 (h:=c.r)) rfl (fun h2 v'=>?_) (fun h2 x' v'=>?_)
  ·conv=>whnf
   refine zaA zaa (by kernel_rfl) (List.range 30) [(27,134217727),(28,67108864)] (by kernel_rfl) ?_;conv=>whnf
   refine zam (zvE s.o s.t c.r c.a hs.t.rk) (fun _ h=>h) ?_;conv=>whnf
   refine⟨(show _∧_ from⟨rfl,rfl⟩),zas ?_ ?_⟩;rotate_left
   ·repeat' (first|exact trivial|refine And.intro (show _∧_ from⟨rfl,rfl⟩) ?_)
   conv=>whnf
   refine zbO (zgh s.o s.t c.r c.a true) _ (fun h3=>?_) (fun h3=>?_)
   ·conv=>whnf
    exact⟨rfl,zc2 (r:=⟨0,0,0⟩) (x':=zeP (cl0 s task c run n a) (ze5 s.o s.t c.r c.a true)) ((zap h1).trans ((zap h2).trans (zap h3)))⟩
   ·conv=>whnf
    exact⟨rfl,zbb (x':=cl0 s task c run n a) ((zap h1).trans ((zap h2).trans (zaP h3)))⟩
  ·conv=>whnf
   exact⟨rfl,zbb ((zap h1).trans (zaP h2))⟩
 ·conv=>whnf
  exact⟨rfl,zbb (x':=cl0 s task c run n a) (zaP h1)⟩
end
end Sx
end Go.Proofs.YtfbhkfhbnkncoaaGreatDoor
