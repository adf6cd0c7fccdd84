import Derived.Test.YtfbhkfhbnkncoaaGreatDoorT23
set_option linter.all false
namespace Go.Proofs.YtfbhkfhbnkncoaaGreatDoor
open Go.RowKit
namespace Sx
attribute [local irreducible] Con zax zan zau zai zaw zbt zak zaC zbh zba I64
def zfa(task:Int)(x:Ow):Bool:=(x.kind==1)&&(x.task==task)
def zeR(task:Int)(x:Ow):Bool:=(((x.kind==3)&&decide (task≥0))&&decide (task<8))&&(zaC .and .u8 x.hold (zjB task) != 0)
def za2(o:Nat→Sd)(t:Tb)(p:Ow→Bool)(l:List Int):List Int:=l.filter fun h=>(zbN t h==h)&&p (ofO o t h)
abbrev zzf(o:Nat→Sd)(t:Tb)(task:Int)(n:Nat):MS:=⟨[.d (zds o),.d (zaU t),I task,.d (zds o),.d (zaU t)],[n],[]⟩
theorem zAT(o:Nat→Sd)(t:Tb)(task:Int)(x:Ow)(n:Nat):Con Tryz.prog 182 [.d (zrI x),.pt 2 []] (zzf o t task n) fun out m'=>out=.ret (B (zfa task x))∧m'=zzf o t task n:=by
 refine za3 Tryz.func182 rfl (by kernel_rfl) rfl rfl ?_;conv=>whnf
 exact⟨rfl,rfl,rfl⟩
theorem zAn(o:Nat→Sd)(t:Tb)(task:Int)(x:Ow)(n:Nat):Con Tryz.prog 179 [.d (zrI x),.pt 2 []] (zzf o t task n) fun out m'=>out=.ret (B (zeR task x))∧m'=zzf o t task n:=by
 refine za3 Tryz.func179 rfl (by kernel_rfl) rfl rfl ?_;conv=>whnf
 refine zao zaa (by kernel_rfl) 20 (by kernel_rfl) ?_;conv=>whnf
 refine zam (zuf task) (fun _ h _=>h) ?_;conv=>whnf
 exact⟨rfl,rfl,rfl⟩
theorem zg2(o:Nat→Sd)(t:Tb)(p:Ow→Bool)(l:List Int):(za2 o t p l).length≤l.length:=zHT _ _
theorem zku(o:Nat→Sd)(t:Tb)(p:Ow→Bool){l:List Int}{i:Nat}(hi:i<l.length):za2 o t p (l.take (i+1))=za2 o t p (l.take i)++(if((zbN t (l.getD i 0)==l.getD i 0)&&p (ofO o t (l.getD i 0)))=true then[l.getD i 0]else[]):=by unfold za2;rw[zHb,zHR,zHa hi,zG9,zHa hi];simp only[zIx,zIy,zHS,zIz]
theorem zq1(o:Nat→Sd)(t:Tb)(task:Int){rk:Int→Nat}(hr:Rk t rk):zay Tryz.prog 109 [.d (zds o),.d (zaU t),I task] (HS (za2 o t (zfa task) (zb6 t.b))):=by
 have hA:=(zqH t.b).out (zbZ .c hD 0 (zb6 t.b));have hn:=zem t.b;generalize zb6 t.b=l at hA hn ⊢;refine zat Tryz.func109 rfl (by kernel_rfl) rfl rfl rfl ?_;conv=>whnf
 refine zaM Tryz.func178 rfl (by kernel_rfl) rfl rfl ?_;conv=>whnf
 refine zad (hA) ?_;conv=>whnf
 refine⟨zac (x:=(l.length:Int)) (by omega) (by omega),?_⟩;conv=>whnf
 refine zcJ 7 .c (za4 []) rfl ?_;refine zaB zaa (fun i=>i≤l.length) (fun i=>l.length - i) (fun i=>[(14,I i),(7,owl 1 (hL (za2 o t (zfa task) (l.take i))).length .c (hL (za2 o t (zfa task) (l.take i))))]) (fun i=>zzf o t task (hL (za2 o t (zfa task) (l.take i))).length) 0 (zFV _) ⟨rfl,rfl,trivial⟩ rfl (fun i=>⟨zF5 _,zF5 _,zF5 _⟩) ?_;intro i hi;have hlen:(hL (za2 o t (zfa task) (l.take i))).length≤32:=by
  have h1:=zg2 o t (zfa task) (l.take i);have h2:(l.take i).length≤l.length:=by simp;omega
  rw[zFH];omega
 conv=>whnf
 refine⟨fun hq=>?_,fun hq=>?_⟩
 ·have hlt:i<l.length:=by
   have:(i:Int)<l.length:=by simpa using hq
   omega
  have hs:=zku o t (zfa task) hlt;conv=>whnf
  refine⟨⟨(by omega:(0:Int)≤(i:Int)),(by omega:(i:Int)<(l.length:Int))⟩,?_⟩;conv=>whnf
  refine zad (zhO t (l.getD i 0) hr) ?_;conv=>whnf
  refine zam (zlT o t (l.getD i 0) hr) (fun _ h _=>h) ?_;conv=>whnf
  refine zdO (zAT o t task (ofO o t (l.getD i 0)) _) (fun _ h _=>h) ?_;conv=>whnf
  refine⟨fun hb=>?_,fun hb=>?_⟩
  ·rw[if_pos (show((zbN t (l.getD i 0)==l.getD i 0)&&zfa task (ofO o t (l.getD i 0)))=true from hb)]at hs;have e:hL (za2 o t (zfa task) (l.take (i+1)))=hL (za2 o t (zfa task) (l.take i))++[hD (l.getD i 0)]:=by rw[hs];simp
   generalize hL (za2 o t (zfa task) (l.take i))=L at e hlen ⊢;conv=>whnf
   refine Or.inl ?_;conv=>whnf
   refine⟨⟨rfl,(by omega:L.length+1≤2147483648)⟩,?_⟩;conv=>whnf
   refine⟨zac (x:=(i:Int)+1) (by omega) (by omega),?_⟩;conv=>whnf
   refine⟨i+1,hlt,by omega,⟨rfl,?_,trivial⟩,⟨?_,?_⟩,?_⟩<;>rw[e]
   ·show some (SV.ow 1 (L.length+1) (L.length+[hD (l.getD i 0)].length) .c (zdc L.length (za4 L) (za4 [hD (l.getD i 0)])))=_;rw[zcq,zFY];rfl
   ·rw[zFY];rfl
   ·rfl
   ·rfl
  ·rw[if_neg (show¬((zbN t (l.getD i 0)==l.getD i 0)&&zfa task (ofO o t (l.getD i 0)))=true by rw[show((zbN t (l.getD i 0)==l.getD i 0)&&zfa task (ofO o t (l.getD i 0)))=false from hb];simp),zHm]at hs;conv=>whnf
   refine⟨zac (x:=(i:Int)+1) (by omega) (by omega),?_⟩;conv=>whnf
   refine⟨i+1,hlt,by omega,⟨rfl,?_,trivial⟩,⟨?_,?_⟩,?_⟩<;>rw[hs]<;>rfl
 ·have hlt:i=l.length:=by
   have:¬((i:Int)<l.length):=by simpa using hq
   omega
  subst hlt;rw[zHe];conv=>whnf
  exact⟨rfl,zae rfl⟩
theorem zvD(o:Nat→Sd)(t:Tb)(task:Int){rk:Int→Nat}(hr:Rk t rk):zay Tryz.prog 107 [.d (zds o),.d (zaU t),I task] (HS (za2 o t (zeR task) (zb6 t.b))):=by
 have hA:=(zqH t.b).out (zbZ .c hD 0 (zb6 t.b));have hn:=zem t.b;generalize zb6 t.b=l at hA hn ⊢;refine zat Tryz.func107 rfl (by kernel_rfl) rfl rfl rfl ?_;conv=>whnf
 refine zaM Tryz.func178 rfl (by kernel_rfl) rfl rfl ?_;conv=>whnf
 refine zad (hA) ?_;conv=>whnf
 refine⟨zac (x:=(l.length:Int)) (by omega) (by omega),?_⟩;conv=>whnf
 refine zcJ 7 .c (za4 []) rfl ?_;refine zaB zaa (fun i=>i≤l.length) (fun i=>l.length - i) (fun i=>[(14,I i),(7,owl 1 (hL (za2 o t (zeR task) (l.take i))).length .c (hL (za2 o t (zeR task) (l.take i))))]) (fun i=>zzf o t task (hL (za2 o t (zeR task) (l.take i))).length) 0 (zFV _) ⟨rfl,rfl,trivial⟩ rfl (fun i=>⟨zF5 _,zF5 _,zF5 _⟩) ?_;intro i hi;have hlen:(hL (za2 o t (zeR task) (l.take i))).length≤32:=by
  have h1:=zg2 o t (zeR task) (l.take i);have h2:(l.take i).length≤l.length:=by simp;omega
  rw[zFH];omega
 conv=>whnf
 refine⟨fun hq=>?_,fun hq=>?_⟩
 ·have hlt:i<l.length:=by
   have:(i:Int)<l.length:=by simpa using hq
   omega
  have hs:=zku o t (zeR task) hlt;conv=>whnf
  refine⟨⟨(by omega:(0:Int)≤(i:Int)),(by omega:(i:Int)<(l.length:Int))⟩,?_⟩;conv=>whnf
  refine zad (zhO t (l.getD i 0) hr) ?_;conv=>whnf
  refine zam (zlT o t (l.getD i 0) hr) (fun _ h _=>h) ?_;conv=>whnf
  refine zdO (zAn o t task (ofO o t (l.getD i 0)) _) (fun _ h _=>h) ?_;conv=>whnf
  refine⟨fun hb=>?_,fun hb=>?_⟩
  ·rw[if_pos (show((zbN t (l.getD i 0)==l.getD i 0)&&zeR task (ofO o t (l.getD i 0)))=true from hb)]at hs;have e:hL (za2 o t (zeR task) (l.take (i+1)))=hL (za2 o t (zeR task) (l.take i))++[hD (l.getD i 0)]:=by rw[hs];simp
   generalize hL (za2 o t (zeR task) (l.take i))=L at e hlen ⊢;conv=>whnf
   refine Or.inl ?_;conv=>whnf
   refine⟨⟨rfl,(by omega:L.length+1≤2147483648)⟩,?_⟩;conv=>whnf
   refine⟨zac (x:=(i:Int)+1) (by omega) (by omega),?_⟩;conv=>whnf
   refine⟨i+1,hlt,by omega,⟨rfl,?_,trivial⟩,⟨?_,?_⟩,?_⟩<;>rw[e]
   ·show some (SV.ow 1 (L.length+1) (L.length+[hD (l.getD i 0)].length) .c (zdc L.length (za4 L) (za4 [hD (l.getD i 0)])))=_;rw[zcq,zFY];rfl
   ·rw[zFY];rfl
   ·rfl
   ·rfl
  ·rw[if_neg (show¬((zbN t (l.getD i 0)==l.getD i 0)&&zeR task (ofO o t (l.getD i 0)))=true by rw[show((zbN t (l.getD i 0)==l.getD i 0)&&zeR task (ofO o t (l.getD i 0)))=false from hb];simp),zHm]at hs;conv=>whnf
   refine⟨zac (x:=(i:Int)+1) (by omega) (by omega),?_⟩;conv=>whnf
   refine⟨i+1,hlt,by omega,⟨rfl,?_,trivial⟩,⟨?_,?_⟩,?_⟩<;>rw[hs]<;>rfl
 ·have hlt:i=l.length:=by
   have:¬((i:Int)<l.length):=by simpa using hq
   omega
  subst hlt;rw[zHe];conv=>whnf
  exact⟨rfl,zae rfl⟩
def zkg(n:Nat):Nat:=(List.range 8).countP fun i=>n.testBit i
theorem zAV{s:ByteArray}(hs:(List.range 256).map (fun i:Nat=>zaL s (i:Int))=(List.range 256).map fun i=>(zkg i:Int)){n:Nat}(hn:n<256):zaL s (n:Int)=zkg n:=by have:=congrArg (fun l=>l[n]?) hs;simpa[hn]using this
theorem zxZ{s:ByteArray}(h:s.size=256){n:Nat}(hn:n<256):(n:Int)<(s.size:Int):=by rw[h];omega
theorem zzA{h:Int}(h1:0≤h∧h<256):zay Tryz.prog 373 [.d (.z .u8 h)] (I (zkg h.toNat)):=by
 obtain⟨n,rfl⟩:∃n:Nat,h=n:=⟨h.toNat,by omega⟩;have hn:n<256:=by omega
 refine zat Tryz.func373 rfl (by kernel_rfl) rfl rfl rfl ?_;conv=>whnf
 refine⟨⟨by omega,zxZ (by kernel_rfl) hn⟩,?_⟩;conv=>whnf
 exact⟨rfl,zae (congrArg (fun x=>SV.d (D.z .i64 x)) (zAV (by kernel_rfl) hn))⟩
theorem zug(op:BinOp)(a b:Int):0≤zaC op .u8 a b∧zaC op .u8 a b<256:=by
 have key:∀x:Int,0≤IntKind.u8.wrap x∧IntKind.u8.wrap x<256:=fun x=>by obtain⟨_,h2,h3⟩:=zkb (zcI .u8 x);refine⟨h2 rfl,?_⟩;simp[zcB]at h3;omega
 unfold zaC;split<;>first|exact key _|exact⟨by omega,by omega⟩
theorem zxP(o:Nat→Sd)(t:Tb)(root task:Int)(hold:Bool):0≤zhp o t root task hold∧zhp o t root task hold<256:=by
 unfold zhp znL;cases(zgh o t root task hold==0)with
 |true=>exact zug _ _ _
 |false=>exact⟨zFJ 0,(by decide:(0:Int)<256)⟩
theorem zwY(o:Nat→Sd)(t:Tb)(root task:Int){rk:Int→Nat}(hr:Rk t rk):zay Tryz.prog 357 [.d (zds o),.d (zaU t),H root,I task] (T3 (.d (zds (ze5 o t root task false))) (I (zkg (zhp o t root task false).toNat)) (I (zgh o t root task false))):=by
 refine zat Tryz.func357 rfl (by kernel_rfl) rfl rfl rfl ?_;conv=>whnf
 refine zad (zv3 o t root task false hr) ?_;conv=>whnf
 refine zaA zaa (by kernel_rfl) (List.range 7) [(4,8)] (by kernel_rfl) ?_;conv=>whnf
 refine zam (zzA (zxP o t root task false)) (fun _ h=>h) ?_;conv=>whnf
 repeat' (first|(refine⟨(show _∧_ from⟨rfl,rfl⟩),?_⟩;conv=>whnf))
 exact⟨rfl,zae rfl⟩
def rn0:Rn:=⟨0,0⟩
abbrev rF(l:List Rn):Nat→D:=fun i=>zar (l.getD i rn0)
abbrev RS(l:List Rn):D:=.sl l.length zca (rF l)
theorem zkt{α:Type}{l:List α}{x:α}{n:Nat}(h:l.length=n):(l++[x]).take n=l:=by subst h;rw[zG3]
theorem zgM(l:List SV)(x:SV):zg6 (l++[x]) l.length=some x:=by rw[zdi,zHY (zF5 _),zGd];rfl
theorem zjm(l:List SV)(x y:SV):zmV (l++[x]) l.length y=l++[y]:=by rw[zfy,zIQ _ _ (zF5 _),zGd];rfl
theorem zo8(l:List SV)(x y:SV):zg6 (zmV (l++[x]) l.length y) l.length=some y:=by rw[zjm,zgM]
theorem zvO{l:List Rn}(hn:l.length≤2147483648){ps:List Nat}{asg body:Code}{N:Nat}{fr:List Ent}{σ:Type}(cs:σ→List SV)(ts:σ→List Nat)(pos:σ→Nat)(inv:σ→Prop)(a nc nt:Nat)(s0:σ)
 (ha:∀s,zg6 (cs s) a=some (.d (RS l)))(hc:∀s,(cs s).length=nc∧(ts s).length=nt∧zaG nc nt 1 (cs s)=true)(hi0:inv s0)(hp0:pos s0=0){K:Out→MS→Prop}(hfr:zbH nc nt 1 [.loop ps asg body N fr .ready]=true)
 (hround:∀s,inv s→pos s<l.length→zak Tryz.prog 0 ps asg body N fr [I (pos s),.d (zar (l.getD (pos s) rn0))] ⟨cs s++[.d (zar (l.getD (pos s) rn0))],ts s,[.loop ps asg body N fr .ready]⟩ fun v m'=>
  (v=B true∧∃s',(inv s'∧pos s'=pos s+1)∧m'=⟨cs s'++[.d (zar (l.getD (pos s) rn0))],ts s',[.loop ps asg body N fr .ready]⟩)∨(v=B false∧K (.ret (.tu (.d .un))) m'))
 (hK:∀s,inv s→pos s=l.length→K (.ret (.tu (.d .un))) ⟨cs s,ts s,[.loop ps asg body N fr .ready]⟩):
 Con Tryz.prog 175 [.ob (.yl 0),.pt a []] ⟨cs s0,ts s0,[.loop ps asg body N fr .ready]⟩ K:=by
 refine zaM Tryz.func175 rfl (by kernel_rfl) rfl rfl ?_;conv=>whnf
 have e0:pv tbl (cs s0) (evL [] (zen 0 [SV.ob (Hd.yl 0),SV.pt a []]) []) (.load 88 (.tmp 1))=some (.d (RS l)):=zsO rfl (ha s0) rfl rfl;rw[e0];conv=>whnf
 refine⟨zac (x:=(l.length:Int)) (by omega) (by omega),?_⟩;conv=>whnf
 refine zaB zaa (fun s:σ=>inv s∧pos s≤l.length) (fun s=>l.length - pos s) (fun s=>[(7,I (pos s))]) (fun s=>⟨cs s,ts s,[.loop ps asg body N fr .ready]⟩) s0 ⟨hi0,by omega⟩ ⟨by show some (I (0:Int))=some (I (pos s0:Int));rw[hp0];rfl,trivial⟩ rfl ?_ ?_
 ·intro s;obtain⟨h1,h2,_⟩:=hc s;obtain⟨h3,h4,_⟩:=hc s0;exact⟨by show(cs s0).length≤(cs s).length;omega,by show(ts s0).length≤(ts s).length;omega,zF5 _⟩
 rintro s ⟨hi,hp⟩;conv=>whnf
 refine⟨fun hq=>?_,fun hq=>?_⟩
 ·have hlt:pos s<l.length:=by
   have:(pos s:Int)<l.length:=by simpa using hq
   omega
  conv=>whnf
  refine⟨⟨(by omega:(0:Int)≤(pos s:Int)),(by omega:(pos s:Int)<(l.length:Int))⟩,?_⟩;conv=>whnf
  rw[zgM (cs s) i74.zero.sv];conv=>whnf
  have hρ:∀ρ:Operand→Option SV,ρ (.tmp 4)=some (.pt (cs s).length [])→pv tbl (zmV (cs s++[i74.zero.sv]) (cs s).length ((SV.d (rF l (pos s:Int).toNat)).into i74.zero.sv)) ρ (.load 74 (.tmp 4))=some (.d (zar (l.getD (pos s) rn0))):=fun ρ h1=>zsO h1 (zo8 _ _ _) rfl rfl;rw[hρ];rotate_left
  ·rfl
  conv=>whnf
  rw[zjm (cs s) i74.zero.sv ((SV.d (rF l (pos s:Int).toNat)).into i74.zero.sv)];refine zdS (hround s hi hlt) ?_;rintro _ _ (⟨rfl,s',⟨hi',hp'⟩,rfl⟩|⟨rfl,hk⟩)
  ·conv=>whnf
   refine⟨fun hq=>absurd hq (by simp),fun _=>?_⟩;conv=>whnf
   refine⟨zac (x:=(pos s:Int)+1) (by omega) (by omega),?_⟩;conv=>whnf
   obtain⟨c1,c2,c3⟩:=hc s';refine⟨s',⟨hi',by omega⟩,by omega,⟨?_,trivial⟩,⟨?_,?_⟩,rfl⟩
   ·show some (I ((pos s:Int)+1))=some (I (pos s':Int));rw[hp'];rfl
   ·show(⟨(cs s'++[_]).take (cs s').length,(ts s').take (ts s').length,[_]⟩:MS)=⟨cs s',ts s',[_]⟩;rw[zkt rfl,zHe]
   ·show(zaG (cs s').length (ts s').length 1 (cs s')&&zbH (cs s').length (ts s').length 1 [.loop ps asg body N fr .ready])=true;rw[c1,c2,c3];exact hfr
  ·conv=>whnf
   refine⟨fun _=>?_,fun hq=>absurd hq (by simp)⟩;conv=>whnf
   exact hk
 ·have hlt:pos s=l.length:=by
   have:¬((pos s:Int)<l.length):=by simpa using hq
   omega
  conv=>whnf
  exact hK s hi hlt
end Sx
namespace Sx
theorem zwr{ro:Ro}{l:List Rn}{cs:List Value}(h:zbg ro (sls zca (l.map zar)) cs):zbg ro (RS l) cs:=by obtain⟨A,c,rfl,h⟩:=h;have h:zbg ro (.sl (l.map zar).length zca (za4 (l.map zar))) [.slice A (l.map zar).length c]:=⟨A,c,rfl,h⟩;rw[zFH]at h ⊢;exact h.congr fun i hi=>(zc3 zar rn0 hi).symm
theorem zA2{ro:Ro}{l:List Rn}{cs:List Value}(h:zbg ro (RS l) cs):zbg ro (sls zca (l.map zar)) cs:=by obtain⟨A,c,rfl,h⟩:=h;have h:zbg ro (RS l) [.slice A l.length c]:=⟨A,c,rfl,h⟩;show zbg ro (.sl (l.map zar).length zca (za4 (l.map zar))) _;rw[zFH];exact h.congr fun i hi=>zc3 zar rn0 hi
abbrev RsF(l:List Rn):D:=.pr (RS l) .un
theorem zpD(l:List Rn):(SV.d (zeT l)).le (.d (RsF l)):=fun ro bl x h=>by refine⟨fun ha=>?_,fun ha=>by cases ha⟩;obtain⟨cs,⟨c1,c2,rfl,h1,h2⟩,rfl⟩:=h.1 rfl;exact⟨_,⟨c1,c2,rfl,zwr h1,h2⟩,rfl⟩
theorem zpC(l:List Rn):(SV.d (RsF l)).le (.d (zeT l)):=fun ro bl x h=>by refine⟨fun ha=>?_,fun ha=>by cases ha⟩;obtain⟨cs,⟨c1,c2,rfl,h1,h2⟩,rfl⟩:=h.1 rfl;exact⟨_,⟨c1,c2,rfl,zA2 h1,h2⟩,rfl⟩
attribute [local irreducible] Con zax zan zau zai zaw zbt zak zaC zbh zba I64
def zdM(l:List Rn)(n:Int):Option Rn:=l.find? fun x=>decide (n≥1)&&decide (x.n≥n)
def zmm(l:List Rn)(n:Int):Int:=match zdM l n with
 |some x=>x.at_
 |none=>0
theorem zvA(l:List Rn)(n:Int)(hn:l.length≤2147483648):zay Tryz.prog 18 [.d (zeT l),I n] (T2 (I (zmm l n)) (B (zdM l n).isSome)):=by
 refine zay.le (b:=[.d (RsF l),I n]) ?_ ⟨zpD l,SV.le_refl _,trivial⟩;refine zat Tryz.func18 rfl (by kernel_rfl) rfl rfl rfl ?_;conv=>whnf
 refine zaM Tryz.func51 rfl (by kernel_rfl) rfl rfl ?_;conv=>whnf
 refine zaM Tryz.func99 rfl (by kernel_rfl) rfl rfl ?_;conv=>whnf
 refine zcs rfl rfl ?_;refine zvO hn (σ:=Nat) (fun _=>[.d (RsF l),I n,I 0,B false,.d (RsF l),.d (RS l)]) (fun _=>[]) id (fun i=>zdM l n=zdM (l.drop i) n) 5 6 0 0 (fun _=>rfl) (fun _=>⟨rfl,rfl,rfl⟩) rfl rfl rfl ?_ ?_
 ·intro i hi hlt;have hlt:i<l.length:=hlt;have hd:l.drop i=l.getD i rn0::l.drop (i+1):=by rw[zdC (l:=l) (s:=i) (x:=l.getD i rn0) (by rw[zG9,zHa hlt];rfl)]
  refine zeO (zct zaa rfl (by decide) ?_);conv=>whnf
  refine⟨fun hq=>?_,fun hq=>?_⟩
  ·have hb:(decide (n≥1)&&decide ((l.getD i rn0).n≥n))=true:=hq;have e:zdM l n=some (l.getD i rn0):=by rw[hi,hd];unfold zdM;rw[List.find?_cons,hb]
   conv=>whnf
   refine⟨rfl,.inr ⟨rfl,?_⟩⟩;conv=>whnf
   refine⟨rfl,zae ?_⟩;unfold zmm;rw[e];rfl
  ·have hb:(decide (n≥1)&&decide ((l.getD i rn0).n≥n))=false:=hq;conv=>whnf
   refine⟨rfl,.inl ⟨rfl,i+1,⟨?_,rfl⟩,rfl⟩⟩;rw[hi,hd];unfold zdM;rw[List.find?_cons,hb]
 ·intro i hi hl;have hl:i=l.length:=hl;subst hl;have e:zdM l n=none:=by rw[hi,zHG];rfl
  conv=>whnf
  refine⟨rfl,zae ?_⟩;unfold zmm;rw[e];rfl
end Sx
namespace Sx
theorem zhP{a a' b:SV}(h:∀ro bl x,zcD ro bl a x→zcD ro bl a' x):(T2 a b).le (T2 a' b):=fun ro bl x ⟨vs,h1,h2⟩=>by obtain⟨x1,r1,rfl,g1,g2⟩:=h1;exact⟨_,⟨x1,_,rfl,h _ _ _ g1,g2⟩,h2⟩
def zbd(r:Rn):Prop:=0≤r.at_∧1≤r.n∧r.at_+r.n≤64
theorem zi4{r:Rn}:zqD r=true↔zbd r:=by unfold zqD zbd;simp only[zFR,zFS];omega
structure Gv where
 x:Rn
 put:Bool
 out:List Rn
def Gv.fin(g:Gv):List Rn:=bif g.put then g.out else g.out++[g.x]
def zbT(g:Gv)(y:Rn):Option Gv:=
 bif decide (y.at_+y.n<g.x.at_)then some ⟨g.x,g.put,g.out++[y]⟩
 else bif decide (y.at_>g.x.at_+g.x.n)then some ⟨g.x,true,g.fin++[y]⟩
 else bif y.at_+y.n==g.x.at_ then some ⟨⟨y.at_,y.n+g.x.n⟩,g.put,g.out⟩
 else bif y.at_==g.x.at_+g.x.n then some ⟨⟨g.x.at_,g.x.n+y.n⟩,g.put,g.out⟩
 else none
def zgg:Gv→List Rn→Option Gv
 |g,[]=>some g
 |g,y::l=>match zbT g y with
  |some g'=>zgg g' l
  |none=>none
def zfk(l:List Rn)(x:Rn):Option (List Rn):=bif zqD x then(zgg ⟨x,false,[]⟩ l).map Gv.fin else none
theorem zxN{g g':Gv}{y:Rn}(hg:zbd g.x)(hy:zbd y)(h:zbT g y=some g'):zbd g'.x:=by
 unfold zbT at h;unfold zbd at*;cases h1:decide (y.at_+y.n<g.x.at_)with
 |true=>rw[h1]at h;simp only[zHH,zGh]at h;subst h;exact hg
 |false=>
  rw[h1]at h;cases h2:decide (y.at_>g.x.at_+g.x.n)with
  |true=>rw[h2]at h;simp only[zHH,zHJ,zGh]at h;subst h;exact hg
  |false=>
   rw[h2]at h;cases h3:(y.at_+y.n==g.x.at_)with
   |true=>
    rw[h3]at h;simp only[zHH,zHJ,zGh]at h;subst h;have:y.at_+y.n=g.x.at_:=by simpa using h3
    simp only;omega
   |false=>
    rw[h3]at h;cases h4:(y.at_==g.x.at_+g.x.n)with
    |true=>
     rw[h4]at h;simp only[zHH,zHJ,zGh]at h;subst h;have:y.at_=g.x.at_+g.x.n:=by simpa using h4
     simp only;omega
    |false=>rw[h4]at h;cases h
theorem zxC(g:Gv):g.fin.length≤g.out.length+1:=by unfold Gv.fin;cases g.put<;>simp
theorem zAk{g g':Gv}{y:Rn}:zbT g y=some g'→g'.out.length≤g.out.length+2:=by
 have hf:=zxC g;unfold zbT;cases decide (y.at_+y.n<g.x.at_)with
 |true=>
  intro h;simp only[zHH,zGh]at h;subst h;simp
 |false=>
  cases decide (y.at_>g.x.at_+g.x.n)with
  |true=>
   intro h;simp only[zHH,zHJ,zGh]at h;subst h;simp;omega
  |false=>
   cases(y.at_+y.n==g.x.at_)with
   |true=>
    intro h;simp only[zHH,zHJ,zGh]at h;subst h;simp
   |false=>
    cases(y.at_==g.x.at_+g.x.n)with
    |true=>
     intro h;simp only[zHH,zHJ,zGh]at h;subst h;simp
    |false=>
     intro h;cases h
attribute [local irreducible] Con zax zan zau zai zaw zbt zak zaC zbh zba I64
abbrev rnL(l:List Rn):List D:=l.map zar
theorem zsZ(id v:Nat)(out:List Rn)(y:Rn):SV.ow id v ((rnL out).length+[zar y].length) zca (zdc (rnL out).length (za4 (rnL out)) (za4 [zar y]))=.ow id v (rnL (out++[y])).length zca (za4 (rnL (out++[y]))):=by rw[zcq,show rnL out++[zar y]=rnL (out++[y]) by simp]
theorem zcn{c c':List SV}{t t':List Nat}{o o':List Ob}(h1:c=c')(h2:t=t')(h3:o=o'):(⟨c,t,o⟩:MS)=⟨c',t',o'⟩:=by rw[h1,h2,h3]
theorem ce{α:Type}{a b:α}{l m:List α}(h:a=b)(k:l=m):a::l=b::m:=by rw[h,k]
set_option maxHeartbeats 4000000 in
theorem zqN{l:List Rn}(hl:∀y∈l,zbd y)(x:Rn)(hx:I64 x.n)(hn:l.length≤1000000):zay Tryz.prog 121 [.d (zeT l),I x.at_,I x.n] (T2 (.d (zeT ((zfk l x).getD l))) (B (zfk l x).isSome)):=by
 refine zay.le (b:=[.d (RsF l),I x.at_,I x.n]) ?_ ⟨zpD l,SV.le_refl _,SV.le_refl _,trivial⟩;refine zat Tryz.func121 rfl (by kernel_rfl) rfl rfl rfl ?_;conv=>whnf
 refine zad (zx3 x hx) ?_;conv=>whnf
 refine⟨fun hq=>?_,fun hq=>?_⟩
 ·have hm:zqD x=false:=by simpa using hq
  conv=>whnf
  refine⟨rfl,⟨_,rfl,?_⟩,rfl⟩;rw[zfk,hm];exact zhP fun ro bl x h=>zpC l ro bl x h
 ·have hm:zqD x=true:=by simpa using hq
  have hok:=zi4.1 hm;conv=>whnf
  refine zaM Tryz.func51 rfl (by kernel_rfl) rfl rfl ?_;conv=>whnf
  refine zaM Tryz.func99 rfl (by kernel_rfl) rfl rfl ?_;conv=>whnf
  refine zfP 4 [] zca (za4 []) rfl rfl rfl ⟨_,_,rfl⟩ (zcs rfl rfl ?_);refine zvO (zFU hn (by decide)) (σ:=Nat×Gv×Nat) (fun s=>[.d (RsF l),.d (ZT.d zDf),B false,.d (zar s.2.1.x),.ow 1 s.2.2 (rnL s.2.1.out).length zca (za4 (rnL s.2.1.out)),B s.2.1.put,.d (RsF l),.d (RS l)]) (fun s=>[s.2.2]) (·.1) (fun s=>(zgg ⟨x,false,[]⟩ l=zgg s.2.1 (l.drop s.1)∧zbd s.2.1.x)∧s.2.1.out.length≤2*s.1) 7 8 1 (0,⟨x,false,[]⟩,0) (fun _=>rfl) (fun _=>⟨rfl,rfl,rfl⟩) ⟨⟨rfl,hok⟩,zF5 _⟩ rfl rfl ?_ ?_
  ·rintro⟨i,g,v⟩ ⟨⟨hi,hg⟩,hlen⟩ hlt;simp only at hi hg hlen hlt;have hd:l.drop i=l.getD i rn0::l.drop (i+1):=by rw[zdC (l:=l) (s:=i) (x:=l.getD i rn0) (by rw[zG9,zHa hlt];rfl)]
   have hy:zbd (l.getD i rn0):=hl _ (by rw[zG9,zHa hlt];simp);rw[hd]at hi;simp only[zgg]at hi;have hok':=fun g' h=>zxN (g:=g) (g':=g') hg hy h;have hle':=fun g' h=>zAk (g:=g) (g':=g') (y:=l.getD i rn0) h;generalize l.getD i rn0=y at hi hy hok' hle' ⊢;obtain⟨x',put,out⟩:=g;obtain⟨y1,y2,y3⟩:=hy;obtain⟨x1,x2,x3⟩:=hg;simp only at x1 x2 x3 hlen;refine zeO (zct zaa rfl (by decide) ?_);conv=>whnf
   refine zao zaa (by kernel_rfl) 6 (by kernel_rfl) ?_;conv=>whnf
   refine zam (zfV y (zac (by omega) (by omega))) (fun _ h=>h) ?_;conv=>whnf
   refine⟨fun hq=>?_,fun hq=>?_⟩
   ·have h1:decide (y.at_+y.n<x'.at_)=true:=hq;have e:zbT ⟨x',put,out⟩ y=some ⟨x',put,out++[y]⟩:=by simp only[zbT,h1,zHH]
    rw[e]at hi;conv=>whnf
    refine Or.inl ?_;conv=>whnf
    refine⟨⟨rfl,by simp;omega⟩,?_⟩;conv=>whnf
    refine⟨rfl,.inl ⟨rfl,(i+1,⟨x',put,out++[y]⟩,v+1),⟨⟨⟨hi,hok' _ e⟩,by have:=hle' _ e;simp only at this ⊢;omega⟩,rfl⟩,?_⟩⟩;exact zcn (ce rfl (ce rfl (ce rfl (ce rfl (ce (zsZ 1 (v+1) out y) rfl))))) rfl rfl
   ·have h1:decide (y.at_+y.n<x'.at_)=false:=hq;conv=>whnf
    refine zao zaa (by kernel_rfl) 6 (by kernel_rfl) ?_;conv=>whnf
    refine zam (zfV x' (zac (by omega) (by omega))) (fun _ h=>h) ?_;conv=>whnf
    refine⟨fun hq=>?_,fun hq=>?_⟩
    ·have h2:decide (y.at_>x'.at_+x'.n)=true:=hq;have e:zbT ⟨x',put,out⟩ y=some ⟨x',true,(Gv.mk x' put out).fin++[y]⟩:=by simp only[zbT,h1,h2,zHH,zHJ]
     rw[e]at hi;have hl2:=hle' _ e;have ho2:=hok' _ e;conv=>whnf
     refine⟨fun hq=>?_,fun hq=>?_⟩
     ·have hp:put=false:=by simpa using hq
      subst hp;conv=>whnf
      refine Or.inl ?_;conv=>whnf
      refine⟨⟨rfl,by simp;omega⟩,?_⟩;conv=>whnf
      refine Or.inl ?_;conv=>whnf
      refine⟨⟨rfl,by simp;omega⟩,?_⟩;conv=>whnf
      refine⟨rfl,.inl ⟨rfl,(i+1,⟨x',true,(Gv.mk x' false out).fin++[y]⟩,v+1+1),⟨⟨⟨hi,ho2⟩,by simp only at hl2 ⊢;omega⟩,rfl⟩,?_⟩⟩;have e2:SV.ow 1 (v+1+1) ((rnL out).length+[zar x'].length+[zar y].length) zca (zdc ((rnL out).length+[zar x'].length) (zdc (rnL out).length (za4 (rnL out)) (za4 [zar x'])) (za4 [zar y]))=.ow 1 (v+1+1) (rnL (out++[x']++[y])).length zca (za4 (rnL (out++[x']++[y]))):=by rw[zeg,show(rnL out).length+[zar x'].length=(rnL (out++[x'])).length by simp,show rnL out++[zar x']=rnL (out++[x']) by simp];exact zsZ 1 (v+1+1) (out++[x']) y
      exact zcn (ce rfl (ce rfl (ce rfl (ce rfl (ce e2 rfl))))) rfl rfl
     ·have hp:put=true:=by simpa using hq
      subst hp;conv=>whnf
      refine Or.inl ?_;conv=>whnf
      refine⟨⟨rfl,by simp;omega⟩,?_⟩;conv=>whnf
      refine⟨rfl,.inl ⟨rfl,(i+1,⟨x',true,(Gv.mk x' true out).fin++[y]⟩,v+1),⟨⟨⟨hi,ho2⟩,by simp only at hl2 ⊢;omega⟩,rfl⟩,?_⟩⟩;exact zcn (ce rfl (ce rfl (ce rfl (ce rfl (ce (zsZ 1 (v+1) out y) rfl))))) rfl rfl
    ·have h2:decide (y.at_>x'.at_+x'.n)=false:=hq;conv=>whnf
     refine zao zaa (by kernel_rfl) 6 (by kernel_rfl) ?_;conv=>whnf
     refine zam (zfV y (zac (by omega) (by omega))) (fun _ h=>h) ?_;conv=>whnf
     refine⟨fun hq=>?_,fun hq=>?_⟩
     ·have h3:(y.at_+y.n==x'.at_)=true:=hq;have e:zbT ⟨x',put,out⟩ y=some ⟨⟨y.at_,y.n+x'.n⟩,put,out⟩:=by simp only[zbT,h1,h2,h3,zHH,zHJ]
      rw[e]at hi;conv=>whnf
      refine⟨zac (x:=y.n+x'.n) (by omega) (by omega),?_⟩;conv=>whnf
      exact⟨rfl,.inl ⟨rfl,(i+1,⟨⟨y.at_,y.n+x'.n⟩,put,out⟩,v),⟨⟨⟨hi,hok' _ e⟩,by simp only;omega⟩,rfl⟩,rfl⟩⟩
     ·have h3:(y.at_+y.n==x'.at_)=false:=hq;conv=>whnf
      refine zao zaa (by kernel_rfl) 6 (by kernel_rfl) ?_;conv=>whnf
      refine zam (zfV x' (zac (by omega) (by omega))) (fun _ h=>h) ?_;conv=>whnf
      refine⟨fun hq=>?_,fun hq=>?_⟩
      ·have h4:(y.at_==x'.at_+x'.n)=true:=hq;have e:zbT ⟨x',put,out⟩ y=some ⟨⟨x'.at_,x'.n+y.n⟩,put,out⟩:=by simp only[zbT,h1,h2,h3,h4,zHH,zHJ]
       rw[e]at hi;conv=>whnf
       refine⟨zac (x:=x'.n+y.n) (by omega) (by omega),?_⟩;conv=>whnf
       exact⟨rfl,.inl ⟨rfl,(i+1,⟨⟨x'.at_,x'.n+y.n⟩,put,out⟩,v),⟨⟨⟨hi,hok' _ e⟩,by simp only;omega⟩,rfl⟩,rfl⟩⟩
      ·have h4:(y.at_==x'.at_+x'.n)=false:=hq;have e:zbT ⟨x',put,out⟩ y=none:=by simp only[zbT,h1,h2,h3,h4,zHJ]
       rw[e]at hi;conv=>whnf
       refine⟨rfl,.inr ⟨rfl,?_⟩⟩;conv=>whnf
       refine⟨rfl,⟨_,rfl,?_⟩,rfl⟩;rw[zfk,hm,hi];exact zhP fun ro bl x h=>zpC l ro bl x h
  ·rintro⟨i,g,v⟩ ⟨⟨hi,hg⟩,hlen⟩ hlt;simp only at hi hg hlen hlt;subst hlt;rw[zHG]at hi;have e:zfk l x=some g.fin:=by rw[zfk,hm,hi];rfl
   obtain⟨x',put,out⟩:=g;simp only at hlen;conv=>whnf
   refine⟨fun hq=>?_,fun hq=>?_⟩
   ·have hp:put=false:=by simpa using hq
    subst hp;conv=>whnf
    refine Or.inl ?_;conv=>whnf
    refine⟨⟨rfl,by simp;omega⟩,?_⟩;conv=>whnf
    refine⟨rfl,zae ?_⟩;rw[e];show T2 (.d (.pr (.sl ((rnL out).length+[zar x'].length) zca (zdc (rnL out).length (za4 (rnL out)) (za4 [zar x']))) .un)) (B true)=T2 (.d (zeT (out++[x']))) (B true);rw[zeg,show rnL out++[zar x']=rnL (out++[x']) by simp,show(rnL out).length+[zar x'].length=(rnL (out++[x'])).length by simp];rfl
   ·have hp:put=true:=by simpa using hq
    subst hp;conv=>whnf
    refine⟨rfl,zae ?_⟩;rw[e];rfl
end Sx
namespace Sx
attribute [local irreducible] Con zax zan zau zai zaw zbt zak zaC zbh zba I64
theorem zz9(a b:Rn):zvy Tryz.prog 74 (zar a) (zar b) (a.at_==b.at_&&a.n==b.n):=by
 intro ro bl x y X Y w op hx hy;obtain⟨c1,h1,rfl⟩:=hx.1 rfl;obtain⟨c2,h2,rfl⟩:=hy.1 rfl;obtain⟨_,_,rfl,⟨rfl,_⟩,_,_,rfl,⟨rfl,_⟩,rfl⟩:=h1;obtain⟨_,_,rfl,⟨rfl,_⟩,_,_,rfl,⟨rfl,_⟩,rfl⟩:=h2;refine⟨?_,?_⟩
 ·have hg:Tryz.prog.eqGuardType Tryz.prog.depth 74=false:=by kernel_rfl
  unfold eqGuard;cases op<;>simp[hg]
 ·have hs:Tryz.prog.stoodInHeld 74=false:=by kernel_rfl
  have h3:∀w,(isAgg 3).run Tryz.prog w=.ok false w:=fun w=>by kernel_rfl
  unfold Op.equal Op.maxDepth Op.equalIn;simp only[Sem.run_bind,run_underlying Tryz.underlying74,Result.andThen_ok,run_program,hs];simp[part,h3,zoZ (d:=9998) Tryz.underlying3];by_cases h1:a.at_=b.at_<;>by_cases h2:a.n=b.n<;>simp[h1,h2]
def zcl(r x:Rn):Bool:=(x.at_==r.at_&&x.n==r.n)||(decide (x.at_≥r.at_)&&decide (x.at_+x.n≤r.at_+r.n))
theorem zr4(r x:Rn)(h1:I64 (r.at_+r.n))(h2:I64 (x.at_+x.n)):zay Tryz.prog 233 [.d (zar r),.d (zar x)] (B (zcl r x)):=by
 refine zat Tryz.func233 rfl (by kernel_rfl) rfl rfl rfl ?_;conv=>whnf
 refine zao zaa (by kernel_rfl) 18 (by kernel_rfl) ?_;conv=>whnf
 refine zBG (zz9 x r) (fun _ h=>h) ?_;conv=>whnf
 refine zam (zfV x h2) (fun _ h _ _=>h) ?_;conv=>whnf
 refine zam (zfV r h1) (fun _ h _ _=>h) ?_;conv=>whnf
 exact⟨rfl,zae rfl⟩
def zhC(p:Rn→Bool):List Rn→Nat→Int
 |[],_=> -1
 |y::l,i=>bif p y then i else zhC p l (i+1)
theorem zou{k a:Nat}{m:MS}{l:List Rn}{p:Rn→Bool}(hn:l.length≤2147483648)(hk:∀y∈l,Con Tryz.prog k [.d (zar y),.pt a []] m fun o m'=>o=.ret (B (p y))∧m'=m):Con Tryz.prog 252 [.d (RS l),.fn (.func k) (.pr (.pt a []) (.d .un))] m fun o m'=>o=.ret (I (zhC p l 0))∧m'=m:=by
 refine zaM Tryz.func252 rfl (by kernel_rfl) rfl rfl ?_;conv=>whnf
 refine⟨zac (x:=(l.length:Int)) (by omega) (by omega),?_⟩;conv=>whnf
 refine zed zaa (fun i=>i≤l.length∧zhC p l 0=zhC p (l.drop i) i) (fun i=>l.length - i) (fun i=>[(8,I i)]) (fun _=>m) 0 ⟨zFV _,rfl⟩ ⟨rfl,trivial⟩ rfl (fun i=>⟨zF5 _,zF5 _,zF5 _⟩) ?_;rintro i ⟨hi,hf⟩;conv=>whnf
 refine⟨fun hq=>?_,fun hq=>?_⟩
 ·have hlt:i<l.length:=by
   have:(i:Int)<l.length:=by simpa using hq
   omega
  have hg:l[i]?=some (l.getD i rn0):=by rw[zG9,zHa hlt];rfl
  have hmem:l.getD i rn0∈l:=zGz hg;rw[zdC hg]at hf;simp only[zhC]at hf;conv=>whnf
  refine⟨⟨(by omega:(0:Int)≤(i:Int)),(by omega:(i:Int)<(l.length:Int))⟩,?_⟩;conv=>whnf
  refine zbk (hk _ hmem) ?_;conv=>whnf
  refine⟨fun hb=>?_,fun hb=>?_⟩
  ·have hb:p (l.getD i rn0)=true:=hb;rw[hb]at hf;conv=>whnf
   exact⟨by rw[hf];rfl,rfl⟩
  ·have hb:p (l.getD i rn0)=false:=hb;rw[hb]at hf;conv=>whnf
   refine⟨zac (x:=(i:Int)+1) (by omega) (by omega),?_⟩;conv=>whnf
   exact⟨i+1,⟨hlt,hf⟩,by omega,⟨rfl,trivial⟩,.inl rfl⟩
 ·have hlt:i=l.length:=by
   have:¬((i:Int)<l.length):=by simpa using hq
   omega
  subst hlt;rw[zHG]at hf;conv=>whnf
  exact⟨by rw[hf];rfl,rfl⟩
theorem ztO{k a:Nat}{m:MS}{l:List Rn}{p:Rn→Bool}(hn:l.length≤2147483648)(hk:∀y∈l,Con Tryz.prog k [.d (zar y),.pt a []] m fun o m'=>o=.ret (B (p y))∧m'=m):Con Tryz.prog 231 [.d (RS l),.fn (.func k) (.pr (.pt a []) (.d .un))] m fun o m'=>o=.ret (B (decide (zhC p l 0≥0)))∧m'=m:=by
 refine zaM Tryz.func231 rfl (by kernel_rfl) rfl rfl ?_;conv=>whnf
 refine zbk (zou hn hk) ?_;conv=>whnf
 exact⟨rfl,rfl⟩
def zpe(l:List Rn)(page:Int):Bool:=zqD ⟨page,1⟩&&decide (zhC (fun y=>zcl y ⟨page,1⟩) l 0≥0)
theorem ztU{l:List Rn}(hl:∀y∈l,zbd y)(hn:l.length≤2147483648)(page:Int):zay Tryz.prog 189 [.d (zeT l),I page] (B (zpe l page)):=by
 refine zay.le (b:=[.d (RsF l),I page]) ?_ ⟨zpD l,SV.le_refl _,trivial⟩;refine zat Tryz.func189 rfl (by kernel_rfl) rfl rfl rfl ?_;conv=>whnf
 refine zad (zx3 ⟨page,1⟩ (zac (x:=(1:Int)) (by decide) (by decide))) ?_;conv=>whnf
 refine zsM (B (decide (zhC (fun y=>zcl y ⟨page,1⟩) l 0≥0))) (fun hq=>?_) ?_
 ·have hm:zqD ⟨page,1⟩=true:=hq;have hx:=zi4.1 hm;unfold zbd at hx;simp only at hx;refine ztO hn fun y hy=>?_;have h1:=hl y hy;unfold zbd at h1;refine za3 Tryz.func232 rfl (by kernel_rfl) rfl rfl ?_;conv=>whnf
  refine zad (zr4 y ⟨page,1⟩ (zac (by omega) (by omega)) (zac (by simp only;omega) (by simp only;omega))) ?_;conv=>whnf
  exact⟨rfl,rfl,rfl⟩
 conv=>whnf
 exact⟨rfl,zae rfl⟩
end Sx
namespace Sx
theorem zkG{n:Nat}{t:Ty}{g f:Nat→D}:(SV.d (.sl (0+n) t (zdc 0 g f))).le (.d (.sl n t f)):=by
 have e:zdc 0 g f=f:=by funext i;rfl
 rw[e,zGt];exact SV.le_refl _
attribute [local irreducible] Con zax zan zau zai zaw zbt zak zaC zbh zba I64
theorem ztM(n:Nat)(f:Nat→D)(hn:n≤2147483648):zay Tryz.prog 101 [.d (.sl n zca f)] (.d (.sl n zca f)):=by
 refine zat Tryz.func101 rfl (by kernel_rfl) rfl rfl rfl ?_;conv=>whnf
 intro b hb;conv=>whnf
 refine⟨fun hq=>?_,fun hq=>?_⟩
 ·have h0:n=0:=by
   rcases zHq n with h|h
   ·exact h
   ·have h1:=hb h;subst h1;cases hq
  subst h0;conv=>whnf
  exact⟨rfl,⟨_,rfl,zcO _ _ _ _⟩,rfl⟩
 ·conv=>whnf
  refine Or.inl ?_;conv=>whnf
  refine⟨hn,.inl ?_⟩;conv=>whnf
  exact⟨rfl,⟨_,rfl,zkG⟩,rfl⟩
theorem ztL(n:Nat)(f:Nat→D)(hn:n≤2147483648):zay Tryz.prog 47 [.d (.sl n .c f)] (.d (.sl n .c f)):=by
 refine zat Tryz.func47 rfl (by kernel_rfl) rfl rfl rfl ?_;conv=>whnf
 intro b hb;conv=>whnf
 refine⟨fun hq=>?_,fun hq=>?_⟩
 ·have h0:n=0:=by
   rcases zHq n with h|h
   ·exact h
   ·have h1:=hb h;subst h1;cases hq
  subst h0;conv=>whnf
  exact⟨rfl,⟨_,rfl,zcO _ _ _ _⟩,rfl⟩
 ·conv=>whnf
  refine Or.inl ?_;conv=>whnf
  refine⟨hn,.inl ?_⟩;conv=>whnf
  exact⟨rfl,⟨_,rfl,zkG⟩,rfl⟩
theorem zvI(l:List Rn)(hn:l.length≤2147483648):zay Tryz.prog 53 [.d (zeT l)] (.d (sls zca (rnL l))):=by
 refine zat Tryz.func53 rfl (by kernel_rfl) rfl rfl rfl ?_;conv=>whnf
 refine zad (ztM (rnL l).length (za4 (rnL l)) (by rw[zFH];exact hn)) ?_;conv=>whnf
 exact⟨rfl,zae rfl⟩
end Sx
end Go.Proofs.YtfbhkfhbnkncoaaGreatDoor
