import Derived.Test.YtfbhkfhbnkncoaaGreatDoorT24
set_option linter.all false
namespace Go.Proofs.YtfbhkfhbnkncoaaGreatDoor
open Go.RowKit
namespace Sx
theorem zwm{tb:TT}{cs:List SV}{ρ:Operand→Option SV}{T:TypeId}{x:Operand}{id k:Nat}{path:List Nat}{v v':SV}(h1:ρ x=some (.pt id path))(h2:zg6 cs id=some v)(h3:v.nav path=some v')(h4:zkY tb T k v'.shape=true):pv tb cs ρ (.fieldAddr T x k)=some (.pt id (path++[k])):=by simp only[pv,h1,h2,h3,h4]
theorem zwl{tb:TT}{cs:List SV}{ρ:Operand→Option SV}{T:TypeId}{x:Operand}{id:Nat}{path:List Nat}{v v':SV}{i:TI}(h1:ρ x=some (.pt id path))(h2:zg6 cs id=some v)(hn:v.nav path=some v')(h3:tb.get T=some i)(h4:zc4 v'.shape v'.agg i=true):pv tb cs ρ (.load T x)=some v':=by simp only[pv,h1,h2,hn,h3,h4]
attribute [local irreducible] Con zax zan zau zai zaw zbt zak zaC zbh zba I64
abbrev ExF(l:List Rn)(len:Int):D:=.pr (RS l) (.pr (.z .i64 len) .un)
def zaS:List Rn→Int
 |[]=>0
 |y::l=>y.n+zaS l
theorem zi9:∀(l m:List Rn),zaS (l++m)=zaS l+zaS m
 |[],m=>by simp[zaS]
 |y::l,m=>by simp only[zHP,zaS,zi9 l m];omega
theorem zhx{l:List Rn}{i:Nat}(hi:i<l.length):zaS (l.take (i+1))=zaS (l.take i)+(l.getD i rn0).n:=by rw[zHb,zi9,zHa hi,zG9,zHa hi];simp[zaS]
theorem zfN{l:List Rn}(h:∀y∈l,zbd y):0≤zaS l∧zaS l≤64*l.length:=by
 induction l with
 |nil=>simp[zaS]
 |cons y l ih=>
  have h1:=ih fun z hz=>h z (by simp[hz]);obtain⟨a,b,c⟩:=h y (by simp);simp only[zaS,zFI];omega
theorem zoK{l:List Rn}{len:Int}(hl:∀y∈l,zbd y)(hn:l.length≤1000000){ps:List Nat}{asg body:Code}{N:Nat}{fr:List Ent}{σ:Type}(cs:σ→List SV)(pos:σ→Nat)(inv:σ→Prop)(a nc:Nat)(s0:σ)
 (ha:∀s,zg6 (cs s) a=some (.d (ExF l len)))(hc:∀s,(cs s).length=nc∧zaG nc 0 1 (cs s)=true)(hi0:inv s0)(hp0:pos s0=0){K:Out→MS→Prop}(hfr:zbH nc 0 1 [.loop ps asg body N fr .ready]=true)
 (hround:∀s,inv s→pos s<l.length→zak Tryz.prog 0 ps asg body N fr [I (zaS (l.take (pos s))*32),.d (zar (l.getD (pos s) rn0))] ⟨cs s++[.d (zar (l.getD (pos s) rn0))],[],[.loop ps asg body N fr .ready]⟩ fun v m'=>
  (v=B true∧∃s',(inv s'∧pos s'=pos s+1)∧m'=⟨cs s'++[.d (zar (l.getD (pos s) rn0))],[],[.loop ps asg body N fr .ready]⟩)∨(v=B false∧K (.ret (.tu (.d .un))) m'))
 (hK:∀s,inv s→pos s=l.length→K (.ret (.tu (.d .un))) ⟨cs s,[],[.loop ps asg body N fr .ready]⟩):
 Con Tryz.prog 171 [.ob (.yl 0),.pt a []] ⟨cs s0,[],[.loop ps asg body N fr .ready]⟩ K:=by
 refine zaM Tryz.func171 rfl (by kernel_rfl) rfl rfl ?_;conv=>whnf
 have h1:∀ρ:Operand→Option SV,ρ (.tmp 1)=some (.pt a [])→pv tbl (cs s0) ρ (.fieldAddr 90 (.tmp 1) 0)=some (.pt a ([]++[0])):=fun ρ h=>zwm h (ha s0) rfl rfl;rw[h1];rotate_left
 ·rfl
 conv=>whnf
 have h2:∀ρ:Operand→Option SV,ρ (.tmp 6)=some (.pt a ([]++[0]))→pv tbl (cs s0) ρ (.load 88 (.tmp 6))=some (.d (RS l)):=fun ρ h=>zwl h (ha s0) rfl rfl rfl;rw[h2];rotate_left
 ·rfl
 conv=>whnf
 refine⟨zac (x:=(l.length:Int)) (by omega) (by omega),?_⟩;conv=>whnf
 refine zaB zaa (fun s:σ=>inv s∧pos s≤l.length) (fun s=>l.length - pos s) (fun s=>[(9,I (pos s)),(3,I (zaS (l.take (pos s))*32))]) (fun s=>⟨cs s,[],[.loop ps asg body N fr .ready]⟩) s0 ⟨hi0,by omega⟩ ⟨by show some (I (0:Int))=some (I (pos s0:Int));rw[hp0];rfl,by show some (I (0:Int))=some (I (zaS (l.take (pos s0))*32));rw[hp0];rfl,trivial⟩ rfl ?_ ?_
 ·intro s;obtain⟨h1,_⟩:=hc s;obtain⟨h3,_⟩:=hc s0;exact⟨by show(cs s0).length≤(cs s).length;omega,zF5 _,zF5 _⟩
 rintro s ⟨hi,hp⟩;conv=>whnf
 refine⟨fun hq=>?_,fun hq=>?_⟩
 ·have hlt:pos s<l.length:=by
   have:(pos s:Int)<l.length:=by simpa using hq
   omega
  have hpt:=zhx hlt;have hp1:=zfN (l:=l.take (pos s)) fun y hy=>hl y (zHU hy);have hln:(l.take (pos s)).length≤1000000:=by rw[zHf];omega
  have hy:zbd (l.getD (pos s) rn0):=hl _ (by rw[zG9,zHa hlt];simp);obtain⟨y1,y2,y3⟩:=hy;conv=>whnf
  refine⟨⟨(by omega:(0:Int)≤(pos s:Int)),(by omega:(pos s:Int)<(l.length:Int))⟩,?_⟩;conv=>whnf
  rw[zgM (cs s) i74.zero.sv];conv=>whnf
  have hρ:∀ρ:Operand→Option SV,ρ (.tmp 5)=some (.pt (cs s).length [])→pv tbl (zmV (cs s++[i74.zero.sv]) (cs s).length ((SV.d (rF l (pos s:Int).toNat)).into i74.zero.sv)) ρ (.load 74 (.tmp 5))=some (.d (zar (l.getD (pos s) rn0))):=fun ρ h1=>zsO h1 (zo8 _ _ _) rfl rfl;rw[hρ];rotate_left
  ·rfl
  conv=>whnf
  rw[zjm (cs s) i74.zero.sv ((SV.d (rF l (pos s:Int).toNat)).into i74.zero.sv)];refine zdS (hround s hi hlt) ?_;rintro _ _ (⟨rfl,s',⟨hi',hp'⟩,rfl⟩|⟨rfl,hk⟩)
  ·conv=>whnf
   refine⟨fun hq=>absurd hq (by simp),fun _=>?_⟩;conv=>whnf
   obtain⟨c1,c2⟩:=hc s';have hcl:(cs s).length=(cs s').length:=by rw[c1,(hc s).1]
   have hgn:zg6 (cs s'++[.d (zar (l.getD (pos s) rn0))]) (cs s).length=some (.d (zar (l.getD (pos s) rn0))):=by rw[hcl];exact zgM _ _
   have h3:∀ρ:Operand→Option SV,ρ (.tmp 5)=some (.pt (cs s).length [])→pv tbl (cs s'++[.d (zar (l.getD (pos s) rn0))]) ρ (.fieldAddr 74 (.tmp 5) 1)=some (.pt (cs s).length ([]++[1])):=fun ρ h=>zwm h hgn rfl rfl;rw[h3];rotate_left
   ·rfl
   conv=>whnf
   have h4:∀ρ:Operand→Option SV,ρ (.tmp 19)=some (.pt (cs s).length ([]++[1]))→pv tbl (cs s'++[.d (zar (l.getD (pos s) rn0))]) ρ (.load 3 (.tmp 19))=some (I (l.getD (pos s) rn0).n):=fun ρ h=>zwl h hgn rfl rfl rfl;rw[h4];rotate_left
   ·rfl
   conv=>whnf
   refine⟨zac (x:=(l.getD (pos s) rn0).n*32) (by omega) (by omega),?_⟩;conv=>whnf
   refine⟨zac (x:=zaS (l.take (pos s))*32+(l.getD (pos s) rn0).n*32) (by omega) (by omega),?_⟩;conv=>whnf
   refine⟨zac (x:=(pos s:Int)+1) (by omega) (by omega),?_⟩;conv=>whnf
   refine⟨s',⟨hi',by omega⟩,by omega,⟨?_,?_,trivial⟩,⟨?_,?_⟩,rfl⟩
   ·show some (I ((pos s:Int)+1))=some (I (pos s':Int));rw[hp'];rfl
   ·show some (I (zaS (l.take (pos s))*32+(l.getD (pos s) rn0).n*32))=some (I (zaS (l.take (pos s'))*32));rw[hp',hpt,Int.add_mul]
   ·show(⟨(cs s'++[_]).take (cs s').length,[],[_]⟩:MS)=⟨cs s',[],[_]⟩;rw[zkt rfl]
   ·show(zaG (cs s').length 0 1 (cs s')&&zbH (cs s').length 0 1 [.loop ps asg body N fr .ready])=true;rw[c1,c2];exact hfr
  ·conv=>whnf
   refine⟨fun _=>?_,fun hq=>absurd hq (by simp)⟩;conv=>whnf
   exact hk
 ·have hlt:pos s=l.length:=by
   have:¬((pos s:Int)<l.length):=by simpa using hq
   omega
  conv=>whnf
  exact hK s hi hlt
theorem zxA(l:List Rn)(len:Int):(SV.d (zhf l len)).le (.d (ExF l len)):=fun ro bl x h=>by refine⟨fun ha=>?_,fun ha=>by cases ha⟩;obtain⟨cs,⟨c1,c2,rfl,h1,h2⟩,rfl⟩:=h.1 rfl;exact⟨_,⟨c1,c2,rfl,zwr h1,h2⟩,rfl⟩
theorem zqV{l:List Rn}(hl:∀y∈l,zbd y)(hn:l.length≤1000000)(len:Int):zay Tryz.prog 319 [.d (ExF l len)] (I (zaS l)):=by
 refine zat Tryz.func319 rfl (by kernel_rfl) rfl rfl rfl ?_;conv=>whnf
 refine zaM Tryz.func91 rfl (by kernel_rfl) rfl rfl ?_;conv=>whnf
 refine zcs rfl rfl ?_;refine zoK hl hn (σ:=Nat) (fun i=>[.d (ExF l len),I (zaS (l.take i)),.d (ExF l len)]) id (fun i=>i≤l.length) 2 3 0 (fun _=>rfl) (fun _=>⟨rfl,rfl⟩) (zFV _) rfl rfl ?_ ?_
 ·intro i _ hlt;have hlt:i<l.length:=hlt;have hpt:=zhx hlt;have hp1:=zfN (l:=l.take i) fun y hy=>hl y (zHU hy);have hln:(l.take i).length≤1000000:=by rw[zHf];omega
  obtain⟨y1,y2,y3⟩:zbd (l.getD i rn0):=hl _ (by rw[zG9,zHa hlt];simp);refine zeO (zct zaa rfl (by decide) ?_);conv=>whnf
  refine⟨zac (x:=zaS (l.take i)+(l.getD i rn0).n) (by omega) (by omega),?_⟩;conv=>whnf
  refine⟨rfl,.inl ⟨rfl,i+1,⟨hlt,rfl⟩,?_⟩⟩;exact zcn (ce rfl (ce (by rw[hpt];rfl) rfl)) rfl rfl
 ·intro i _ hi;have hi:i=l.length:=hi;subst hi;conv=>whnf
  refine⟨rfl,zae ?_⟩;rw[zHe];rfl
theorem znh{l:List Rn}(hl:∀y∈l,zbd y)(hn:l.length≤1000000)(len:Int):zay Tryz.prog 319 [.d (zhf l len)] (I (zaS l)):=(zqV hl hn len).le ⟨zxA l len,trivial⟩
end Sx
namespace Sx
theorem zuD{g g':Gv}{y:Rn}:zbT g y=some g'→g'.fin.length≤g.fin.length+1:=by
 obtain⟨x,put,out⟩:=g;unfold zbT;cases decide (y.at_+y.n<(Gv.mk x put out).x.at_)with
 |true=>
  intro h;simp only[zHH,zGh]at h;subst h;cases put<;>simp[Gv.fin]
 |false=>
  cases decide (y.at_>(Gv.mk x put out).x.at_+(Gv.mk x put out).x.n)with
  |true=>
   intro h;simp only[zHH,zHJ,zGh]at h;subst h;cases put<;>simp[Gv.fin]
  |false=>
   cases(y.at_+y.n==(Gv.mk x put out).x.at_)with
   |true=>
    intro h;simp only[zHH,zHJ,zGh]at h;subst h;cases put<;>simp[Gv.fin]
   |false=>
    cases(y.at_==(Gv.mk x put out).x.at_+(Gv.mk x put out).x.n)with
    |true=>
     intro h;simp only[zHH,zHJ,zGh]at h;subst h;cases put<;>simp[Gv.fin]
    |false=>
     intro h;cases h
theorem zAS{g g':Gv}{y:Rn}(hg:∀z∈g.fin,zbd z)(hx:zbd g.x)(hy:zbd y)(h:zbT g y=some g'):∀z∈g'.fin,zbd z:=by
 have hx':=zxN hx hy h
 revert h
 obtain⟨x,put,out⟩:=g;have ho:∀z∈out,zbd z:=fun z hz=>hg z (by cases put<;>simp[Gv.fin,hz]);unfold zbT;cases decide (y.at_+y.n<(Gv.mk x put out).x.at_)with
 |true=>
  intro h;simp only[zHH,zGh]at h;subst h;intro z hz;cases put<;>simp[Gv.fin]at hz<;>rcases hz with hz|hz<;>first|exact ho z hz|(subst hz;exact hy)|(rcases hz with rfl|rfl<;>first|exact hy|exact hx)
 |false=>
  cases decide (y.at_>(Gv.mk x put out).x.at_+(Gv.mk x put out).x.n)with
  |true=>
   intro h;simp only[zHH,zHJ,zGh]at h;subst h;intro z hz;rcases zF2.1 (show z∈(Gv.mk x put out).fin++[y] from hz)with hz|hz
   ·exact hg z hz
   ·simp at hz;subst hz;exact hy
  |false=>
   cases(y.at_+y.n==(Gv.mk x put out).x.at_)with
   |true=>
    intro h;simp only[zHH,zHJ,zGh]at h;subst h;intro z hz;cases put<;>simp[Gv.fin]at hz
    ·rcases hz with hz|hz
     ·exact ho z hz
     ·subst hz;exact hx'
    ·exact ho z hz
   |false=>
    cases(y.at_==(Gv.mk x put out).x.at_+(Gv.mk x put out).x.n)with
    |true=>
     intro h;simp only[zHH,zHJ,zGh]at h;subst h;intro z hz;cases put<;>simp[Gv.fin]at hz
     ·rcases hz with hz|hz
      ·exact ho z hz
      ·subst hz;exact hx'
     ·exact ho z hz
    |false=>
     intro h;cases h
theorem zpd:∀{l:List Rn} {g g':Gv},(∀y∈l,zbd y)→(∀z∈g.fin,zbd z)→zbd g.x→zgg g l=some g'→(∀z∈g'.fin,zbd z)∧g'.fin.length≤g.fin.length+l.length
 |[],g,g',_,hg,_,h=>by cases h;exact⟨hg,zF5 _⟩
 |y::l,g,g',hl,hg,hx,h=>by
  unfold zgg at h;split at h
  ·rename_i g2 h2;have hy:=hl y (by simp);obtain⟨h3,h4⟩:=zpd (l:=l) (fun z hz=>hl z (by simp[hz])) (zAS hg hx hy h2) (zxN hx hy h2) h;have:=zuD h2;exact⟨h3,by simp only[zFI];omega⟩
  ·cases h
theorem zxH{l l':List Rn}{x:Rn}(hl:∀y∈l,zbd y)(h:zfk l x=some l'):zbd x∧(∀y∈l',zbd y)∧l'.length≤l.length+1:=by
 unfold zfk at h;cases hm:zqD x with
 |false=>rw[hm]at h;cases h
 |true=>
  rw[hm]at h;simp only[zHH,zGj]at h;obtain⟨g,hg,rfl⟩:=h;have hx:=zi4.1 hm;obtain⟨h1,h2⟩:=zpd hl (g:=⟨x,false,[]⟩) (fun z hz=>by simp[Gv.fin]at hz;subst hz;exact hx) hx hg;refine⟨hx,h1,?_⟩;have h3:(Gv.mk x false []).fin.length=1:=rfl;omega
def zAG:List Rn→List Rn→Option (List Rn)
 |all,[]=>some all
 |all,y::l=>match zfk all y with
  |some a=>zAG a l
  |none=>none
def zmD(l:List Rn)(len:Int):Bool:=(zAG [] l).isSome&&(decide (len≥0)&&decide (len≤zaS l*32))
attribute [local irreducible] Con zax zan zau zai zaw zbt zak zaC zbh zba I64
theorem zzy{l:List Rn}(hl:∀y∈l,I64 y.n)(hn:l.length≤1000)(len:Int):zay Tryz.prog 285 [.d (zhf l len)] (B (zmD l len)):=by
 refine zay.le (b:=[.d (ExF l len)]) ?_ ⟨zxA l len,trivial⟩;refine zat Tryz.func285 rfl (by kernel_rfl) rfl rfl rfl ?_;conv=>whnf
 refine⟨zac (x:=(l.length:Int)) (by omega) (by omega),?_⟩;conv=>whnf
 refine zaB zaa (fun s:Nat×List Rn=>(s.1≤l.length∧s.2.length≤s.1)∧zAG [] l=zAG s.2 (l.drop s.1)∧(∀y∈s.2,zbd y)∧∀y∈l.take s.1,zbd y) (fun s=>l.length - s.1) (fun s=>[(11,I s.1)]) (fun s=>⟨[.d (ExF l len),.d (zeT s.2)],[],[]⟩) (0,[]) ⟨⟨zFV _,zF5 _⟩,rfl,(fun y hy=>by cases hy),(fun y hy=>by simp at hy)⟩ ⟨rfl,trivial⟩ rfl (fun i=>⟨zF5 _,zF5 _,zF5 _⟩) ?_;rintro⟨i,all⟩ ⟨⟨hi,hal⟩,hf,hok,htk⟩;simp only at hi hal hf hok htk;conv=>whnf
 refine⟨fun hq=>?_,fun hq=>?_⟩
 ·have hlt:i<l.length:=by
   have:(i:Int)<l.length:=by simpa using hq
   omega
  have hg:l[i]?=some (l.getD i rn0):=by rw[zG9,zHa hlt];rfl
  have hx:=hl _ (zGz hg);rw[zdC hg]at hf;simp only[zAG]at hf;conv=>whnf
  refine⟨⟨(by omega:(0:Int)≤(i:Int)),(by omega:(i:Int)<(l.length:Int))⟩,?_⟩;conv=>whnf
  refine zad (zqN hok (l.getD i rn0) hx (by omega)) ?_;conv=>whnf
  refine⟨fun hb=>?_,fun hb=>?_⟩
  ·have hb:zfk all (l.getD i rn0)=none:=by have:(!(zfk all (l.getD i rn0)).isSome)=true:=hb;simpa using this
   rw[hb]at hf;conv=>whnf
   refine⟨rfl,zae ?_⟩;rw[zmD,hf];rfl
  ·obtain⟨a,ha⟩:∃a,zfk all (l.getD i rn0)=some a:=by have:(!(zfk all (l.getD i rn0)).isSome)=false:=hb;exact zH7.1 (by simpa using this)
   obtain⟨h1,h2,h3⟩:=zxH hok ha;rw[ha]at hf;conv=>whnf
   refine⟨zac (x:=(i:Int)+1) (by omega) (by omega),?_⟩;conv=>whnf
   refine⟨(i+1,a),⟨⟨hlt,by simp only;omega⟩,hf,h2,fun y hy=>?_⟩,by simp only;omega,⟨rfl,trivial⟩,⟨?_,rfl⟩,rfl⟩
   ·rw[zHb,hg]at hy;rcases zF2.1 hy with hy|hy
    ·exact htk y hy
    ·simp at hy;subst hy;exact h1
   ·exact zcn (ce rfl (ce (by rw[ha];rfl) rfl)) rfl rfl
 ·have hlt:i=l.length:=by
   have:¬((i:Int)<l.length):=by simpa using hq
   omega
  subst hlt;rw[zHe]at htk;rw[zHG]at hf;have hp:=zfN htk;conv=>whnf
  refine zao zaa (by kernel_rfl) 12 (by kernel_rfl) ?_;conv=>whnf
  refine zam (zqV htk (by omega) len) (fun _ h _=>h) ?_;conv=>whnf
  refine⟨fun _=>zac (x:=zaS l*32) (by omega) (by omega),?_⟩;conv=>whnf
  refine⟨rfl,zae ?_⟩;rw[zmD,hf];rfl
end Sx
namespace Sx
attribute [local irreducible] Con zax zan zau zai zaw zbt zak zaC zbh zba I64
def zvJ(r:Rg):Prop:=(∀y∈r.rs,I64 y.n)∧r.rs.length≤1000
def zfx(t:Tb)(h:Int)(r:Rg):Int:=bif !zah t.b h then 4 else bif !(decide (r.quota≥0)&&decide (r.quota≤64))||!zmD r.rs r.len then 2 else 0
def zdm(t:Tb)(h:Int)(r:Rg):Tb:=bif zfx t h r==0 then⟨t.b,zaq t.r (slN h) {r with up:=(t.r (slN h)).up}⟩else t
theorem zt2(t:Tb)(h:Int)(r:Rg)(hr:zvJ r):zay Tryz.prog 348 [.d (zaU t),H h,.d (zdX r)] (T2 (.d (zaU (zdm t h r))) (I (zfx t h r))):=by
 refine zat Tryz.func348 rfl (by kernel_rfl) rfl rfl rfl ?_;conv=>whnf
 refine zad (zbz t.b h) ?_;conv=>whnf
 refine⟨fun hq=>?_,fun hq=>?_⟩
 ·have h1:(!zah t.b h)=true:=hq;conv=>whnf
  refine⟨rfl,zae ?_⟩;rw[zdm,zfx,h1];rfl
 ·have h1:(!zah t.b h)=false:=hq;conv=>whnf
  refine zad (zsQ r.quota) ?_;conv=>whnf
  refine zam (zzy hr.1 hr.2 r.len) (fun _ h _=>h) ?_;conv=>whnf
  refine⟨fun hq=>?_,fun hq=>?_⟩
  ·have h2:(!(decide (r.quota≥0)&&decide (r.quota≤64))||!zmD r.rs r.len)=true:=hq;conv=>whnf
   refine⟨rfl,zae ?_⟩;rw[zdm,zfx,h1,h2];rfl
  ·have h2:(!(decide (r.quota≥0)&&decide (r.quota≤64))||!zmD r.rs r.len)=false:=hq;conv=>whnf
   refine zad (zeC h) ?_;conv=>whnf
   refine⟨zc5 _,?_⟩;conv=>whnf
   refine⟨zc5 _,?_⟩;conv=>whnf
   refine⟨.d (zaU ⟨t.b,zaq t.r (slN h) {r with up:=(t.r (slN h)).up}⟩),congrArg (fun f=>SV.d (.pr (.pr (zbp t.b) .un) (.pr (.ar 32 tRg f) .un))) (zaY zdX t.r (slN h) {r with up:=(t.r (slN h)).up}),?_⟩;conv=>whnf
   refine⟨rfl,zae ?_⟩;rw[zdm,zfx,h1,h2];rfl
def upA(n a:Int):Int:=zaC .andNot .i64 (n+a - 1) (a - 1)
def zjD(l:List Rn)(len s a:Int):Bool:=zjQ s a&&!decide (upA len a+s>zaS l*32)
def zrK(l:List Rn)(len s a:Int):Int:=bif zjD l len s a then upA len a else 0
theorem zvB{l:List Rn}(hl:∀y∈l,zbd y)(hn:l.length≤1000){len s a:Int}(hlen:0≤len∧len≤1000000)(hs:0≤s∧s≤1000)(ha:0≤a∧a≤1000)(hu:0≤upA len a∧upA len a≤2000000):zay Tryz.prog 318 [.d (zhf l len),I s,I a] (T2 (I (zrK l len s a)) (B (zjD l len s a))):=by
 have hp:=zfN hl;refine zat Tryz.func318 rfl (by kernel_rfl) rfl rfl rfl ?_;conv=>whnf
 refine zad (zps s a) ?_;conv=>whnf
 refine⟨fun hq=>?_,fun hq=>?_⟩
 ·have h1:zjQ s a=false:=by simpa using hq
  conv=>whnf
  refine⟨rfl,zae ?_⟩;rw[zrK,zjD,h1];rfl
 ·have h1:zjQ s a=true:=by simpa using hq
  conv=>whnf
  refine zaM Tryz.func346 rfl (by kernel_rfl) rfl rfl ?_;conv=>whnf
  refine⟨zac (x:=len+a) (by omega) (by omega),?_⟩;conv=>whnf
  refine⟨zac (x:=len+a - 1) (by omega) (by omega),?_⟩;conv=>whnf
  refine⟨zac (x:=a - 1) (by omega) (by omega),?_⟩;conv=>whnf
  refine⟨zac (x:=upA len a+s) (by omega) (by omega),?_⟩;conv=>whnf
  refine zad (znh hl (by omega) len) ?_;conv=>whnf
  refine⟨zac (x:=zaS l*32) (by omega) (by omega),?_⟩;conv=>whnf
  refine⟨fun hq=>?_,fun hq=>?_⟩
  ·have h2:decide (upA len a+s>zaS l*32)=true:=hq;conv=>whnf
   refine⟨rfl,zae ?_⟩;rw[zrK,zjD,h1,h2];rfl
  ·have h2:decide (upA len a+s>zaS l*32)=false:=hq;conv=>whnf
   refine⟨rfl,zae ?_⟩;rw[zrK,zjD,h1,h2];rfl
def zoc(l:List Rn)(len s a:Int):Int:=bif zjD l len s a then upA len a+s else len
theorem zvx{l:List Rn}(hl:∀y∈l,zbd y)(hn:l.length≤1000){len s a:Int}(hlen:0≤len∧len≤1000000)(hs:0≤s∧s≤1000)(ha:0≤a∧a≤1000)(hu:0≤upA len a∧upA len a≤2000000):zay Tryz.prog 321 [.d (zhf l len),I s,I a] (T3 (.d (zhf l (zoc l len s a))) (I (zrK l len s a)) (B (zjD l len s a))):=by
 refine zat Tryz.func321 rfl (by kernel_rfl) rfl rfl rfl ?_;conv=>whnf
 refine zad (zvB hl hn hlen hs ha hu) ?_;conv=>whnf
 refine⟨fun hq=>?_,fun hq=>?_⟩
 ·have h1:zjD l len s a=true:=hq;have e:zrK l len s a=upA len a:=by rw[zrK,h1];rfl
  rw[e];conv=>whnf
  refine⟨zac (x:=upA len a+s) (by omega) (by omega),?_⟩;conv=>whnf
  refine⟨rfl,zae ?_⟩;rw[zoc,h1];rfl
 ·have h1:zjD l len s a=false:=hq;conv=>whnf
  refine⟨rfl,zae ?_⟩;rw[zoc,h1];rfl
def zjc(at_:Int):List Rn→Int→Option Int
 |[],_=>none
 |y::l,base=>bif decide (at_≥base)&&decide (at_<base+y.n*32)then some (y.at_*32+at_ - base)else zjc at_ l (base+y.n*32)
def zhW(l:List Rn)(at_:Int):Option Int:=zjc at_ l 0
theorem zw0{l:List Rn}(hl:∀y∈l,zbd y)(hn:l.length≤1000)(len at_:Int)(ha: -4000000≤at_∧at_≤4294967296):zay Tryz.prog 45 [.d (zhf l len),I at_] (T2 (I ((zhW l at_).getD 0)) (B (zhW l at_).isSome)):=by
 refine zay.le (b:=[.d (ExF l len),I at_]) ?_ ⟨zxA l len,SV.le_refl _,trivial⟩;refine zat Tryz.func45 rfl (by kernel_rfl) rfl rfl rfl ?_;conv=>whnf
 refine zaM Tryz.func91 rfl (by kernel_rfl) rfl rfl ?_;conv=>whnf
 refine zcs rfl rfl ?_;refine zoK hl (by omega) (σ:=Nat) (fun _=>[.d (ExF l len),I at_,I 0,B false,.d (ExF l len)]) id (fun i=>i≤l.length∧zhW l at_=zjc at_ (l.drop i) (zaS (l.take i)*32)) 4 5 0 (fun _=>rfl) (fun _=>⟨rfl,rfl⟩) ⟨zFV _,rfl⟩ rfl rfl ?_ ?_
 ·rintro i ⟨_,hi⟩ hlt;have hlt:i<l.length:=hlt;have hg:l[i]?=some (l.getD i rn0):=by rw[zG9,zHa hlt];rfl
  have hpt:=zhx hlt;have hp1:=zfN (l:=l.take i) fun y hy=>hl y (zHU hy);have hln:(l.take i).length≤1000:=by rw[zHf];omega
  obtain⟨y1,y2,y3⟩:zbd (l.getD i rn0):=hl _ (zGz hg);rw[zdC hg]at hi;simp only[zjc]at hi;simp only[id];generalize hy:l.getD i rn0=y at y1 y2 y3 hi hpt ⊢;generalize hb:zaS (l.take i)=p at hi hp1 hpt ⊢;refine zeO (zct zaa rfl (by decide) ?_);conv=>whnf
  refine⟨fun _=>zac (x:=y.n*32) (by omega) (by omega),?_⟩;conv=>whnf
  refine⟨fun _=>zac (x:=p*32+y.n*32) (by omega) (by omega),?_⟩;conv=>whnf
  refine⟨fun hq=>?_,fun hq=>?_⟩
  ·have h1:(decide (at_≥p*32)&&decide (at_<p*32+y.n*32))=true:=hq;rw[h1]at hi;conv=>whnf
   refine⟨zac (x:=y.at_*32) (by omega) (by omega),?_⟩;conv=>whnf
   refine⟨zac (x:=y.at_*32+at_) (by omega) (by omega),?_⟩;conv=>whnf
   refine⟨zac (x:=y.at_*32+at_ - p*32) (by omega) (by omega),?_⟩;conv=>whnf
   refine⟨rfl,.inr ⟨rfl,?_⟩⟩;conv=>whnf
   refine⟨rfl,zae ?_⟩;rw[hi];rfl
  ·have h1:(decide (at_≥p*32)&&decide (at_<p*32+y.n*32))=false:=hq;rw[h1]at hi;conv=>whnf
   refine⟨rfl,.inl ⟨rfl,i+1,⟨⟨hlt,?_⟩,rfl⟩,rfl⟩⟩;rw[hi,hpt,Int.add_mul];rfl
 ·rintro i ⟨_,hi⟩ hlt;have hlt:i=l.length:=hlt;subst hlt;rw[zHG]at hi;conv=>whnf
  refine⟨rfl,zae ?_⟩;rw[hi];rfl
def onP(r:Int)(x:Tk):Bool:=x.reg==r
def toP(task:Int)(x:Tk):Bool:=x.to_==task
def zaN(k:Toks)(p:Tk→Bool)(l:List Int):List Int:=l.filter fun h=>p (zcg k h)
abbrev zDu(k:Toks)(v:SV)(n:Nat):MS:=⟨[.d (zbe k),v,.d (zbe k)],[n],[]⟩
abbrev zvs(k:Toks)(v:SV)(n:Nat)(x:Tk):MS:=⟨[.d (zbe k),v,.d (zbe k),.d (ziP x)],[n],[]⟩
theorem zCN(k:Toks)(r:Int)(x:Tk)(n:Nat):Con Tryz.prog 86 [.d (ziP x),.pt 1 []] (zvs k (H r) n x) fun out m'=>out=.ret (B (onP r x))∧m'=zvs k (H r) n x:=by
 refine za3 Tryz.func86 rfl (by kernel_rfl) rfl rfl ?_;conv=>whnf
 exact⟨rfl,rfl,rfl⟩
theorem zC3(k:Toks)(r:Int)(x:Tk)(n:Nat):Con Tryz.prog 181 [.d (ziP x),.pt 1 []] (zvs k (I r) n x) fun out m'=>out=.ret (B (toP r x))∧m'=zvs k (I r) n x:=by
 refine za3 Tryz.func181 rfl (by kernel_rfl) rfl rfl ?_;conv=>whnf
 exact⟨rfl,rfl,rfl⟩
theorem zcv(k:Toks)(p:Tk→Bool)(l:List Int):(zaN k p l).length≤l.length:=zHT _ _
theorem ze2(k:Toks)(p:Tk→Bool){l:List Int}{i:Nat}(hi:i<l.length):zaN k p (l.take (i+1))=zaN k p (l.take i)++(if p (zcg k (l.getD i 0))=true then[l.getD i 0]else[]):=by unfold zaN;rw[zHb,zHR,zHa hi,zG9,zHa hi];simp only[zIx,zIy,zHS,zIz]
theorem zdo(b:zc7):(zcE b).length≤32:=zem b
theorem zw1{k:Toks}(hk:ziy k)(r:Int):zay Tryz.prog 40 [.d (zbe k),H r] (HS (zaN k (onP r) (zcE k.b))):=by
 have hA:=(zgu k.b).out (zbZ .c hD 0 (zcE k.b));have hn:=zdo k.b;generalize zcE k.b=l at hA hn ⊢;refine zat Tryz.func40 rfl (by kernel_rfl) rfl rfl rfl ?_;conv=>whnf
 refine zaM Tryz.func85 rfl (by kernel_rfl) rfl rfl ?_;conv=>whnf
 refine zad (hA) ?_;conv=>whnf
 refine⟨zac (x:=(l.length:Int)) (by omega) (by omega),?_⟩;conv=>whnf
 refine zcJ 5 .c (za4 []) rfl ?_;refine zaB zaa (fun i=>i≤l.length) (fun i=>l.length - i) (fun i=>[(14,I i),(5,owl 1 (hL (zaN k (onP r) (l.take i))).length .c (hL (zaN k (onP r) (l.take i))))]) (fun i=>zDu k (H r) (hL (zaN k (onP r) (l.take i))).length) 0 (zFV _) ⟨rfl,rfl,trivial⟩ rfl (fun i=>⟨zF5 _,zF5 _,zF5 _⟩) ?_;intro i hi;have hlen:(hL (zaN k (onP r) (l.take i))).length≤32:=by
  have h1:=zcv k (onP r) (l.take i);have h2:(l.take i).length≤l.length:=by simp;omega
  rw[zFH];omega
 conv=>whnf
 refine⟨fun hq=>?_,fun hq=>?_⟩
 ·have hlt:i<l.length:=by
   have:(i:Int)<l.length:=by simpa using hq
   omega
  have hs:=ze2 k (onP r) hlt;conv=>whnf
  refine⟨⟨(by omega:(0:Int)≤(i:Int)),(by omega:(i:Int)<(l.length:Int))⟩,?_⟩;conv=>whnf
  refine zad (zgw k (l.getD i 0) hk) ?_;conv=>whnf
  refine zbk (zCN k r (zcg k (l.getD i 0)) _) ?_;conv=>whnf
  refine⟨fun hb=>?_,fun hb=>?_⟩
  ·rw[if_pos (show onP r (zcg k (l.getD i 0))=true from hb)]at hs;have e:hL (zaN k (onP r) (l.take (i+1)))=hL (zaN k (onP r) (l.take i))++[hD (l.getD i 0)]:=by rw[hs];simp
   generalize hL (zaN k (onP r) (l.take i))=L at e hlen ⊢;conv=>whnf
   refine Or.inl ?_;conv=>whnf
   refine⟨⟨rfl,(by omega:L.length+1≤2147483648)⟩,?_⟩;conv=>whnf
   refine⟨zac (x:=(i:Int)+1) (by omega) (by omega),?_⟩;conv=>whnf
   refine⟨i+1,hlt,by omega,⟨rfl,?_,trivial⟩,⟨?_,?_⟩,?_⟩<;>rw[e]
   ·show some (SV.ow 1 (L.length+1) (L.length+[hD (l.getD i 0)].length) .c (zdc L.length (za4 L) (za4 [hD (l.getD i 0)])))=_;rw[zcq,zFY];rfl
   ·rw[zFY];rfl
   ·rfl
   ·rfl
  ·rw[if_neg (show¬onP r (zcg k (l.getD i 0))=true by rw[show onP r (zcg k (l.getD i 0))=false from hb];simp),zHm]at hs;conv=>whnf
   refine⟨zac (x:=(i:Int)+1) (by omega) (by omega),?_⟩;conv=>whnf
   refine⟨i+1,hlt,by omega,⟨rfl,?_,trivial⟩,⟨?_,?_⟩,?_⟩<;>rw[hs]<;>rfl
 ·have hlt:i=l.length:=by
   have:¬((i:Int)<l.length):=by simpa using hq
   omega
  subst hlt;rw[zHe];conv=>whnf
  exact⟨rfl,zae rfl⟩
theorem zzH{k:Toks}(hk:ziy k)(r:Int):zay Tryz.prog 108 [.d (zbe k),I r] (HS (zaN k (toP r) (zcE k.b))):=by
 have hA:=(zgu k.b).out (zbZ .c hD 0 (zcE k.b));have hn:=zdo k.b;generalize zcE k.b=l at hA hn ⊢;refine zat Tryz.func108 rfl (by kernel_rfl) rfl rfl rfl ?_;conv=>whnf
 refine zaM Tryz.func85 rfl (by kernel_rfl) rfl rfl ?_;conv=>whnf
 refine zad (hA) ?_;conv=>whnf
 refine⟨zac (x:=(l.length:Int)) (by omega) (by omega),?_⟩;conv=>whnf
 refine zcJ 5 .c (za4 []) rfl ?_;refine zaB zaa (fun i=>i≤l.length) (fun i=>l.length - i) (fun i=>[(14,I i),(5,owl 1 (hL (zaN k (toP r) (l.take i))).length .c (hL (zaN k (toP r) (l.take i))))]) (fun i=>zDu k (I r) (hL (zaN k (toP r) (l.take i))).length) 0 (zFV _) ⟨rfl,rfl,trivial⟩ rfl (fun i=>⟨zF5 _,zF5 _,zF5 _⟩) ?_;intro i hi;have hlen:(hL (zaN k (toP r) (l.take i))).length≤32:=by
  have h1:=zcv k (toP r) (l.take i);have h2:(l.take i).length≤l.length:=by simp;omega
  rw[zFH];omega
 conv=>whnf
 refine⟨fun hq=>?_,fun hq=>?_⟩
 ·have hlt:i<l.length:=by
   have:(i:Int)<l.length:=by simpa using hq
   omega
  have hs:=ze2 k (toP r) hlt;conv=>whnf
  refine⟨⟨(by omega:(0:Int)≤(i:Int)),(by omega:(i:Int)<(l.length:Int))⟩,?_⟩;conv=>whnf
  refine zad (zgw k (l.getD i 0) hk) ?_;conv=>whnf
  refine zbk (zC3 k r (zcg k (l.getD i 0)) _) ?_;conv=>whnf
  refine⟨fun hb=>?_,fun hb=>?_⟩
  ·rw[if_pos (show toP r (zcg k (l.getD i 0))=true from hb)]at hs;have e:hL (zaN k (toP r) (l.take (i+1)))=hL (zaN k (toP r) (l.take i))++[hD (l.getD i 0)]:=by rw[hs];simp
   generalize hL (zaN k (toP r) (l.take i))=L at e hlen ⊢;conv=>whnf
   refine Or.inl ?_;conv=>whnf
   refine⟨⟨rfl,(by omega:L.length+1≤2147483648)⟩,?_⟩;conv=>whnf
   refine⟨zac (x:=(i:Int)+1) (by omega) (by omega),?_⟩;conv=>whnf
   refine⟨i+1,hlt,by omega,⟨rfl,?_,trivial⟩,⟨?_,?_⟩,?_⟩<;>rw[e]
   ·show some (SV.ow 1 (L.length+1) (L.length+[hD (l.getD i 0)].length) .c (zdc L.length (za4 L) (za4 [hD (l.getD i 0)])))=_;rw[zcq,zFY];rfl
   ·rw[zFY];rfl
   ·rfl
   ·rfl
  ·rw[if_neg (show¬toP r (zcg k (l.getD i 0))=true by rw[show toP r (zcg k (l.getD i 0))=false from hb];simp),zHm]at hs;conv=>whnf
   refine⟨zac (x:=(i:Int)+1) (by omega) (by omega),?_⟩;conv=>whnf
   refine⟨i+1,hlt,by omega,⟨rfl,?_,trivial⟩,⟨?_,?_⟩,?_⟩<;>rw[hs]<;>rfl
 ·have hlt:i=l.length:=by
   have:¬((i:Int)<l.length):=by simpa using hq
   omega
  subst hlt;rw[zHe];conv=>whnf
  exact⟨rfl,zae rfl⟩
def zcT(r a:Int)(x:Tk):Bool:=(x.reg==r)&&(x.above==a)
def zzc(k:Toks)(r a:Int)(l:List Int):Bool:=l.any fun h=>zcT r a (zcg k h)&&(zcg k h).mu
abbrev rgM(k:Toks)(r a:Int)(b:Bool)(n:Nat):MS:=⟨[.d (zbe k),H r,H a,B b,.d (zbe k)],[n],[]⟩
abbrev zDs(k:Toks)(r a:Int)(b:Bool)(n:Nat)(x:Tk):MS:=⟨[.d (zbe k),H r,H a,B b,.d (zbe k),.d (ziP x)],[n],[]⟩
theorem zvd(k:Toks)(r a:Int)(b:Bool)(n:Nat)(x:Tk):Con Tryz.prog 170 [.d (ziP x),.pt 1 [],.pt 2 [],.pt 3 []] (zDs k r a b n x) fun out m'=>out=.ret (B (zcT r a x))∧m'=zDs k r a (b||(zcT r a x&&x.mu)) n x:=by
 refine za3 Tryz.func170 rfl (by kernel_rfl) rfl rfl ?_;conv=>whnf
 exact⟨rfl,rfl,rfl⟩
theorem zsw(k:Toks)(r a:Int){l:List Int}{i:Nat}(hi:i<l.length):zzc k r a (l.take (i+1))=(zzc k r a (l.take i)||(zcT r a (zcg k (l.getD i 0))&&(zcg k (l.getD i 0)).mu)):=by unfold zzc;rw[zHb,List.any_append,zHa hi,zG9,zHa hi];simp
def zf7(k:Toks)(r a:Int):List Int:=zaN k (zcT r a) (zcE k.b)
def zpB(k:Toks)(r a:Int):Bool:=zzc k r a (zcE k.b)
theorem zoi{k:Toks}(hk:ziy k)(r a:Int):zay Tryz.prog 87 [.d (zbe k),H r,H a] (T2 (I (zf7 k r a).length) (B (zpB k r a))):=by
 have hA:=(zgu k.b).out (zbZ .c hD 0 (zcE k.b));have hn:=zdo k.b;unfold zf7 zpB;generalize zcE k.b=l at hA hn ⊢;refine zat Tryz.func87 rfl (by kernel_rfl) rfl rfl rfl ?_;conv=>whnf
 refine zaM Tryz.func85 rfl (by kernel_rfl) rfl rfl ?_;conv=>whnf
 refine zad (hA) ?_;conv=>whnf
 refine⟨zac (x:=(l.length:Int)) (by omega) (by omega),?_⟩;conv=>whnf
 refine zcJ 5 .c (za4 []) rfl ?_;refine zaB zaa (fun i=>i≤l.length) (fun i=>l.length - i) (fun i=>[(14,I i),(5,owl 1 (hL (zaN k (zcT r a) (l.take i))).length .c (hL (zaN k (zcT r a) (l.take i))))]) (fun i=>rgM k r a (zzc k r a (l.take i)) (hL (zaN k (zcT r a) (l.take i))).length) 0 (zFV _) ⟨rfl,rfl,trivial⟩ rfl (fun i=>⟨zF5 _,zF5 _,zF5 _⟩) ?_;intro i hi;have hlen:(hL (zaN k (zcT r a) (l.take i))).length≤32:=by
  have h1:=zcv k (zcT r a) (l.take i);have h2:(l.take i).length≤l.length:=by simp;omega
  rw[zFH];omega
 conv=>whnf
 refine⟨fun hq=>?_,fun hq=>?_⟩
 ·have hlt:i<l.length:=by
   have:(i:Int)<l.length:=by simpa using hq
   omega
  have hs:=ze2 k (zcT r a) hlt;have hm:=zsw k r a hlt;conv=>whnf
  refine⟨⟨(by omega:(0:Int)≤(i:Int)),(by omega:(i:Int)<(l.length:Int))⟩,?_⟩;conv=>whnf
  refine zad (zgw k (l.getD i 0) hk) ?_;conv=>whnf
  refine zal (zvd k r a (zzc k r a (l.take i)) _ (zcg k (l.getD i 0))) ?_;rintro _ _ ⟨rfl,rfl⟩;rw[←hm];conv=>whnf
  refine⟨fun hb=>?_,fun hb=>?_⟩
  ·rw[if_pos (show zcT r a (zcg k (l.getD i 0))=true from hb)]at hs;have e:hL (zaN k (zcT r a) (l.take (i+1)))=hL (zaN k (zcT r a) (l.take i))++[hD (l.getD i 0)]:=by rw[hs];simp
   generalize hL (zaN k (zcT r a) (l.take i))=L at e hlen ⊢;conv=>whnf
   refine Or.inl ?_;conv=>whnf
   refine⟨⟨rfl,(by omega:L.length+1≤2147483648)⟩,?_⟩;conv=>whnf
   refine⟨zac (x:=(i:Int)+1) (by omega) (by omega),?_⟩;conv=>whnf
   refine⟨i+1,hlt,by omega,⟨rfl,?_,trivial⟩,⟨?_,?_⟩,?_⟩<;>rw[e]
   ·show some (SV.ow 1 (L.length+1) (L.length+[hD (l.getD i 0)].length) .c (zdc L.length (za4 L) (za4 [hD (l.getD i 0)])))=_;rw[zcq,zFY];rfl
   ·rw[zFY];rfl
   ·rfl
   ·rfl
  ·rw[if_neg (show¬zcT r a (zcg k (l.getD i 0))=true by rw[show zcT r a (zcg k (l.getD i 0))=false from hb];simp),zHm]at hs;conv=>whnf
   refine⟨zac (x:=(i:Int)+1) (by omega) (by omega),?_⟩;conv=>whnf
   refine⟨i+1,hlt,by omega,⟨rfl,?_,trivial⟩,⟨?_,?_⟩,?_⟩<;>rw[hs]<;>rfl
 ·have hlt:i=l.length:=by
   have:¬((i:Int)<l.length):=by simpa using hq
   omega
  subst hlt;rw[zHe]at hlen ⊢;have hl2:(hL (zaN k (zcT r a) l)).length=(zaN k (zcT r a) l).length:=by simp
  conv=>whnf
  refine zao zaa (by kernel_rfl) 5 (by kernel_rfl) ?_;conv=>whnf
  refine⟨zac (x:=((hL (zaN k (zcT r a) l)).length:Int)) (by omega) (by omega),?_⟩;conv=>whnf
  refine⟨rfl,zae ?_⟩;rw[hl2];rfl
def zu9(k:Toks)(r a:Int):Bool:=zhm k a&&!zpB k r a
def ztx(k:Toks)(r a:Int):Bool:=zhm k a&&((zf7 k r a).length==0)
theorem zqY{k:Toks}(hk:ziy k)(r a:Int):zay Tryz.prog 41 [.d (zbe k),H r,H a] (B (zu9 k r a)):=by
 refine zat Tryz.func41 rfl (by kernel_rfl) rfl rfl rfl ?_;conv=>whnf
 refine zad (zoi hk r a) ?_;conv=>whnf
 refine zad (znH k a) ?_;conv=>whnf
 exact⟨rfl,zae rfl⟩
theorem zoz{k:Toks}(hk:ziy k)(r a:Int):zay Tryz.prog 163 [.d (zbe k),H r,H a] (B (zhm k a&&((zf7 k r a).length==(0:Int)))):=by
 refine zat Tryz.func163 rfl (by kernel_rfl) rfl rfl rfl ?_;conv=>whnf
 refine zad (zoi hk r a) ?_;conv=>whnf
 refine zad (znH k a) ?_;conv=>whnf
 exact⟨rfl,zae rfl⟩
end Sx
end Go.Proofs.YtfbhkfhbnkncoaaGreatDoor
