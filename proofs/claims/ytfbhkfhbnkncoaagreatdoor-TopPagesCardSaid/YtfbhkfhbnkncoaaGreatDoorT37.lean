import Derived.Test.YtfbhkfhbnkncoaaGreatDoorT36
set_option linter.all false
namespace Go.Proofs.YtfbhkfhbnkncoaaGreatDoor
open Go.RowKit
namespace Sx
structure SInv (s:St):Prop where
 t:∃d,TInv s.t d
 k:TkI s.k
 o:OInv s.t s.o s.box s.alive s.alive []
def zdh(s:St)(ex:List Int)(R:Ex):Prop:=∀s' r b,R=.ok (s',r,b)→SInv s'∧(zch s.t++ex).Perm (zch s'.t++pgs b)
theorem zaF{α:Type}{e:Int}{k:Except Int α}{x:α}(h:thn e k=.ok x):e=0∧k=.ok x:=by
 unfold thn at h;cases hq:(e==0)with
 |true=>rw[hq]at h;exact⟨by simpa using hq,h⟩
 |false=>rw[hq]at h;cases h
theorem zjP{b:Bool}{e:Int}(he:e≠0)(h:no b e=0):b=true:=by
 cases b with
 |true=>rfl
 |false=>exact absurd h he
theorem zaz{s:St}{ex:List Int}{e:Int}{R:Ex}(h:e=0→zdh s ex R):zdh s ex (thn e R):=fun s' r b hk=>by obtain⟨h1,h2⟩:=zaF hk;exact h h1 s' r b h2
theorem zbj{s s':St}{ex:List Int}{r:Rs}{b:List Rn}(h:SInv s')(hp:(zch s.t++ex).Perm (zch s'.t++pgs b)):zdh s ex (.ok (s',r,b)):=fun _ _ _ hk=>by cases hk;exact⟨h,hp⟩
theorem zdl{t t':Tb}(h:zch t'=zch t):(zch t++[]).Perm (zch t'++pgs []):=by rw[h];exact .refl _
section
variable {s:St} {task:Int} {c:Call} {run:Rn}
theorem zsy(hs:SInv s)(hc:CallOk s task c)(hA:s.alive task.toNat=true):zdh s [] (ztF s task c):=by
 refine zaz fun _=>zaz fun he=>?_;obtain⟨d,ht⟩:=hs.t;obtain⟨d',n1,_,_,_,_,_,_,n8⟩:=zsz ht hc.r he;obtain⟨i1,i2⟩:=zxR ht hs.o hc.r he hc.t0 hc.t1 hA;cases hq:(c.r==0)with
 |true=>exact zaz fun _=>zbj ⟨⟨d',n1⟩,hs.k,(i2 (by simpa using hq)).2⟩ (zdl (zd2 n8))
 |false=>exact zbj ⟨⟨d',n1⟩,hs.k,i1 (by simpa using hq)⟩ (zdl (zd2 n8))
theorem zki{r:Rg}{ex:List Int}(hs:SInv s)(hok:∀y∈r.rs,zbd y)(hpg:zaS r.rs≤r.quota)(hrs:(pgs r.rs).Perm (pgs (s.t.r (slN c.r)).rs++ex)):zdh s ex (zlO s c r):=by
 refine zaz fun he=>?_;obtain⟨d,ht⟩:=hs.t;obtain⟨_,e2,e3,e4⟩:=zvh he;refine zbj ⟨⟨d,zwu ht fun _=>⟨e3,e4,hok,hpg,e2⟩⟩,hs.k,ziX (zg0 _ _) hs.o⟩ ?_;have h1:=zmY he;have h2:(zch s.t++pgs r.rs).Perm ((zch s.t++ex)++pgs (s.t.r (slN c.r)).rs):=by rw[zG5];exact(hrs.trans zIK).append_left _
 have h3:=(zIV _).1 (h1.trans h2);rw[show pgs ([]:List Rn)=[] from rfl,zHm];exact h3.symm
theorem ziC(hs:SInv s)(hr:zaE s task c>0→run.n=zaE s task c→zbd run)(hd:c.do_=2):zdh s (bif decide (zaE s task c>0)then pg run else[]) (zdq s task c run)∧(∀x,zdq s task c run=.ok x→zaE s task c>0→run.n=zaE s task c):=by
 have key:∀x,zdq s task c run=.ok x→zah s.t.b c.r=true∧((zjD (zaj s.t c.r).rs (zaj s.t c.r).len (zbs c.a 129) (zbs c.b 9)=true∧zlO s c (zaj s.t c.r)=.ok x∧zaE s task c=0)∨(zlO s c (zcV (zaj s.t c.r) run)=.ok x∧zaS (zaj s.t c.r).rs+run.n≤(zaj s.t c.r).quota∧run.n=zaE s task c∧zaE s task c>0)):=by
  intro x h;have hA:=h;unfold zdq at h;have hn:zaE s task c=(match zh6 s task c with
   | .ok n=>n
   | .error _=>0):=by unfold zaE;rw[hd];rfl
  have hk:zh6 s task c=thn (no (zjQ (zbs c.a 129) (zbs c.b 9)) 2) (thn (zf4 s task c.r 1) (thn (no (zah s.t.b c.r) 4) (bif zjD (zaj s.t c.r).rs (zaj s.t c.r).len (zbs c.a 129) (zbs c.b 9)then(match zlO s c (zaj s.t c.r)with
   | .ok _=>.ok (0:Int)
   | .error e=>.error e)
   else thn (no (decide (zaS (zaj s.t c.r).rs+zbm (zbs c.a 129) (zbs c.b 9)≤(zaj s.t c.r).quota)) 6) (.ok (zbm (zbs c.a 129) (zbs c.b 9)))))):=rfl
  obtain⟨h1,h⟩:=zaF h;obtain⟨h2,h⟩:=zaF h;obtain⟨h3,h⟩:=zaF h;rw[h1,h2,h3]at hk;refine⟨zjP (by decide) h3,?_⟩;cases hf:zjD (zaj s.t c.r).rs (zaj s.t c.r).len (zbs c.a 129) (zbs c.b 9)with
  |true=>
   rw[hf]at h hk;have h:zlO s c (zaj s.t c.r)=.ok x:=h;rw[h]at hk;have hk:zh6 s task c=.ok 0:=hk;exact .inl ⟨rfl,h,by rw[hn,hk]⟩
  |false=>
   rw[hf]at h hk;obtain⟨h4,h⟩:=zaF h;obtain⟨h5,h⟩:=zaF h;rw[h4]at hk;have hk:zh6 s task c=.ok (zbm (zbs c.a 129) (zbs c.b 9)):=hk;have h4:=zFL (zjP (by decide) h4);have h5:=zjP (by decide) h5;simp only[zFR,zGG]at h5;have hnd:=zll (zjP (by decide) h1);refine .inr ⟨h,by rw[h5.1];exact h4,by rw[hn,hk];exact h5.1,by rw[hn,hk];show zbm _ _>0;omega⟩
 obtain⟨d,ht⟩:=hs.t;refine⟨fun s' r b h=>?_,fun x h hp=>?_⟩
 ·obtain⟨hg,hf⟩:=key _ h;have hR:=zc1 ht c.r;have e:=(zk4 hg).1;rcases hf with⟨_,h,hn⟩|⟨h,hq,hn,hp⟩
  ·rw[hn];exact zki (ex:=[]) hs hR.ok hR.pg (by rw[e,zHm]) s' r b h
  ·rw[zFQ hp];refine zki (r:=zcV (zaj s.t c.r) run) (ex:=pg run) hs (fun y hy=>?_) ?_ ?_ s' r b h
   ·rcases zF2.1 hy with hy|hy
    ·exact hR.ok y hy
    ·rw[zHW.1 hy];exact hr hp hn
   ·show zaS ((zaj s.t c.r).rs++[run])≤(zaj s.t c.r).quota;rw[zi9];have:zaS [run]=run.n:=by simp[zaS]
    omega
   ·show(pgs ((zaj s.t c.r).rs++[run])).Perm _;rw[zcP,e];simp[pgs]
 ·obtain⟨hg,hf⟩:=key _ h;rcases hf with⟨_,_,hn⟩|⟨_,_,hn,_⟩
  ·omega
  ·exact hn
theorem zke(hs:SInv s)(what:Int):zdh s [] (zld s task c what):=
 zaz fun _=>zaz fun _=>zaz fun _=>zaz fun _=>zbj hs (.refl _)
theorem zoh(hs:SInv s):zdh s [] (zpA s task c):=by refine zaz fun _=>zaz fun h2=>zaz fun he=>?_;obtain⟨d,ht⟩:=hs.t;obtain⟨_,e2,e3,e4⟩:=zvh he;have hg:=zjP (by decide) h2;refine zbj ⟨⟨d,zwu ht fun _=>⟨e3,e4,(fun y hy=>by cases hy),e3,e2⟩⟩,hs.k,ziX (zg0 _ _) hs.o⟩ ?_;have h1:=zmY he;rw[(zk4 hg).1];exact h1.symm
theorem zqa(hs:SInv s){h:Int}(hr:IsR s.t h)(hn:h∉[]++FL s.box):SInv (goneS s h)∧(zch s.t).Perm (zch (goneS s h).t++pgs (zd4 s h)):=by obtain⟨d,ht⟩:=hs.t;obtain⟨_,d',ht',_⟩:=zeV ht hr;exact⟨⟨⟨d',ht'⟩,TkI.gone _ hs.k,ziY ht hs.o hr hn⟩,zeK ht hr⟩
theorem zme(hs:SInv s)(hc:CallOk s task c):zdh s [] (zkT s task c):=by refine zaz fun h1=>?_;obtain⟨d,ht⟩:=hs.t;obtain⟨hg,hk⟩:=zi5 (.inr rfl) h1;obtain⟨g1,g2⟩:=zqa hs ⟨hc.r,hg⟩ (zgk ht hs.o hk (by decide));exact zbj g1 (by rw[zHm];exact g2)
theorem zlp{A:Nat→Bool}{F:List Int}{h:Int}(h0:0≤task)(h1:task<8)(hA:A task.toNat=true):ziw A F h ⟨1,tkB task,0⟩:=
 .inl ⟨rfl,by simp only;rw[zjt h0 (by omega)];exact⟨h0,h1⟩,by simp only;rw[zjt h0 (by omega)];exact hA⟩
theorem zrP{A:Nat→Bool}{F:List Int}{h:Int}(h0:0≤task)(h1:task<8)(hA:A task.toNat=true):ziw A F h ⟨3,0,zjB task⟩:=by
 have key:∀b:Nat,b<8→zho (zjB task) b=decide (task.toNat=b)∧0≤zjB task∧zjB task<256:=fun b hb=>by have:=zxc ⟨task.toNat,by omega⟩ ⟨b,hb⟩;simp only at this;rw[show((task.toNat:Nat):Int)=task by omega]at this;exact this
 refine .inr (.inr ⟨rfl,⟨(key 0 (by decide)).2.1,(key 0 (by decide)).2.2⟩,⟨task.toNat,by omega,?_⟩,fun b hb hh=>?_⟩)
 ·rw[(key _ (by omega)).1];simp
 ·simp only at hh;rw[(key b hb).1]at hh;rw[←zFL hh];exact hA
theorem zrv(hs:SInv s)(hc:CallOk s task c)(hA:s.alive task.toNat=true):zdh s [] (zBE s task c):=by refine zaz fun h1=>zaz fun _=>zaz fun _=>zaz fun he=>?_;obtain⟨d,ht⟩:=hs.t;obtain⟨hg,hk⟩:=zi5 (.inr rfl) h1;obtain⟨_,hb,d',ht',hup,hrs⟩:=zj0 ht ⟨hc.r,hg⟩;have hn:=zgk ht hs.o hk (by decide);refine zbj ⟨⟨d',ht'⟩,hs.k,?_⟩ (zdl (zd2 hrs));show OInv (zes s.t c.r) (zfv s.o (zes s.t c.r) c.r task ⟨1,tkB task,0⟩) s.box s.alive s.alive [];rw[zfw he];exact zie ht ht' hs.o ⟨hc.r,hg⟩ hb hup (fun _ h _=>h) (fun _ h _=>h) (zlp hc.t0 hc.t1 hA) (fun h=>absurd h hn) hs.o.nd (fun _ _ h=>h) hs.o.dead hs.o.bx
theorem zmo(hs:SInv s)(hc:CallOk s task c)(hA:s.alive task.toNat=true):zdh s [] (zk2 s task c):=by refine zaz fun h1=>zaz fun _=>zaz fun he=>?_;obtain⟨d,ht⟩:=hs.t;obtain⟨hg,hk⟩:=zi5 (.inr rfl) h1;obtain⟨_,hb,d',ht',hup,hrs⟩:=zj0 ht ⟨hc.r,hg⟩;have hn:=zgk ht hs.o hk (by decide);refine zbj ⟨⟨d',ht'⟩,hs.k,?_⟩ (zdl (zd2 hrs));show OInv (zes s.t c.r) (zfv s.o (zes s.t c.r) c.r task ⟨3,0,zjB task⟩) s.box s.alive s.alive [];rw[zfw he];exact zie ht ht' hs.o ⟨hc.r,hg⟩ hb hup (fun _ h _=>h) (fun _ h _=>h) (zrP hc.t0 hc.t1 hA) (fun h=>absurd h hn) hs.o.nd (fun _ _ h=>h) hs.o.dead hs.o.bx
theorem znI(hs:SInv s)(hc:CallOk s task c):zdh s [] (zpa s task c):=by refine zaz fun h1=>zaz fun _=>zaz fun he=>?_;obtain⟨d,ht⟩:=hs.t;obtain⟨hg,hk⟩:=zi5 (.inr rfl) h1;obtain⟨_,_,_,d',ht',_,hrs⟩:=zpb ht hc.r hc.s' he;exact zbj ⟨⟨d',ht'⟩,hs.k,zsb ht hs.o hc.r hc.s' he (zgk ht hs.o hk (by decide))⟩ (zdl (zd2 hrs))
theorem zpi{o:Nat→Sd}{t:Tb}{d:Int→Nat}(ht:TInv t d){r:Int}(hu:U32 r){hold:Bool}(he:zgh o t r task hold=0):zf8 t r∧(0≤task∧task<8)∧(ofO o t r).kind=3∧zr1 (ofO o t r) task=!hold∧ze5 o t r task hold=zaq o (slN r) ⟨r,znL o t r task⟩:=by
 have hO:ze5 o t r task hold=zfv (zfv o t r task (ofO o t r)) t r task (znL o t r task):=by unfold ze5;rw[he];rfl
 unfold zgh at he;have hB:zuM t r task=false:=by
  cases hq:zuM t r task with
  |false=>rfl
  |true=>
   exfalso;rw[hq]at he;have he:zdP t r task=0:=he;obtain⟨⟨g1,g2⟩,_⟩:=zws ht hu he;have:=(zdz ht g1).2 g2;unfold zuM at hq;rw[he,g1.2,this]at hq;simp at hq
 rw[hB]at he;have hk:((ofO o t r).kind != 3)=false:=by
  cases hq:((ofO o t r).kind != 3)with
  |false=>rfl
  |true=>rw[hq]at he;cases he
 rw[hk]at he;have hse:(zdP t r task != 0)=false:=by
  cases hq:(zdP t r task != 0)with
  |false=>rfl
  |true=>rw[hq]at he;have he:zdP t r task=0:=he;rw[he]at hq;cases hq
 have hs0:zdP t r task=0:=by simpa using hse
 rw[hse]at he;obtain⟨g1,g2⟩:=zws ht hu hs0;refine⟨g1,g2,by simpa using hk,?_,?_⟩
 ·cases hb:zr1 (ofO o t r) task<;>cases hold<;>rw[hb]at he<;>first|rfl|exact absurd (show(5:Int)=0 from he) (by decide)|exact absurd (show(7:Int)=0 from he) (by decide)
 ·rw[hO,zfw hs0,zfw hs0]
  funext j
  by_cases c:j=slN r
  ·rw[c,zag,zag]
  ·rw[zaf c,zaf c,zaf c]
theorem zpg{x:Ow}(h0:0≤task):zr1 x task=zho x.hold task.toNat:=by unfold zr1 zho;rw[show((task.toNat:Nat):Int)=task by omega]
theorem zr3{o:Nat→Sd}{t:Tb}{d:Int→Nat}(ht:TInv t d){box:Nat→MBox}{alive A:Nat→Bool}{P:List Int}(h:OInv t o box alive A P){r:Int}(hu:U32 r)(hA:A task.toNat=true)(he:zgh o t r task true=0):OInv t (ze5 o t r task true) box alive A P:=by
 obtain⟨g1,g2,g3,g4,g5⟩:=zpi ht hu he;have hof:=zkf ht g1 (h.rt r g1).1;have hOk:=(h.rt r g1).2;rw[←hof]at hOk;have hH:zwP A (ofO o t r).hold:=by
  rcases hOk with⟨k,_⟩|⟨k,_⟩|⟨_,k⟩
  ·rw[g3]at k;cases k
  ·rw[g3]at k;cases k
  ·exact k
 have hx:∀b,b<8→zho (znL o t r task).hold b=(zho (ofO o t r).hold b != decide (task.toNat=b))∧0≤(znL o t r task).hold∧(znL o t r task).hold<256:=fun b hb=>by have:=zpN hH.1.1 hH.1.2 (a:=task.toNat) (by omega) hb;rw[show((task.toNat:Nat):Int)=task by omega]at this;exact this
 have hb:=zpg (x:=ofO o t r) g2.1;rw[g4]at hb;have hn:=zgk ht h g3 (by decide);rw[g5];refine zif ht h g1 (fun _ h _=>h) (fun _ h _=>h) (.inr (.inr ⟨g3,⟨(hx 0 (by decide)).2.1,(hx 0 (by decide)).2.2⟩,⟨task.toNat,by omega,?_⟩,fun b hb' hh=>?_⟩)) (fun h=>absurd h hn) h.nd (fun _ _ h=>h) h.dead h.bx
 ·rw[(hx _ (by omega)).1,←hb];simp
 ·rw[(hx b hb').1]at hh;by_cases c:task.toNat=b
  ·rw[←c];exact hA
  ·rw[zFT c]at hh;exact hH.2.2 b hb' (by simpa using hh)
theorem zok(hs:SInv s)(hc:CallOk s task c):zdh s [] (zpE s task c):=by
 refine zaz fun h1=>zaz fun _=>zaz fun he=>?_;obtain⟨d,ht⟩:=hs.t;have hl:s.alive c.a.toNat=true:=by have:=zjP (by decide) h1;simp only[zFR]at this;exact this.2
 exact zbj ⟨⟨d,ht⟩,hs.k,zr3 ht hs.o hc.r hl he⟩ (.refl _)
theorem zqi(hs:SInv s):zdh s [] (zuT s task c):=by refine zaz fun _=>zaz fun _=>zaz fun _=>zaz fun _=>zaz fun he=>?_;exact zbj ⟨hs.t,hs.k.lend he,hs.o⟩ (.refl _)
theorem zpY(hs:SInv s):zdh s [] (zrb s task c):=by refine zaz fun _=>zaz fun _=>?_;exact zbj ⟨hs.t,hs.k.ret _,hs.o⟩ (.refl _)
theorem znt(hs:SInv s)(hc:CallOk s task c):zdh s [] (zoL s task):=by
 refine zaz fun _=>?_;have ht8:task.toNat<8:=by have:=hc.t0;have:=hc.t1;omega
 have hm:∀a,zfb (zaq s.box task.toNat {s.box task.toNat with cl:=true} a)=zfb (s.box a):=fun a=>by
  by_cases c:a=task.toNat
  ·rw[c,zag];rfl
  ·rw[zaf c]
 have hF:FL (zaq s.box task.toNat {s.box task.toNat with cl:=true})=FL s.box:=zc0 fun a _=>by rw[hm]
 refine zbj ⟨hs.t,hs.k,?_⟩ (.refl _);show OInv s.t s.o (zaq s.box task.toNat {s.box task.toNat with cl:=true}) s.alive s.alive [];have ho:=hs.o;refine⟨by rw[hF];exact ho.rt,by rw[hF];exact ho.nd,by rw[hF];exact ho.fr,fun a ha hd=>?_,fun a ha=>?_⟩
 ·by_cases c:a=task.toNat
  ·rw[c,zag];exact ho.dead _ (c▸ha) (c▸hd)
  ·rw[zaf c];exact ho.dead a ha hd
 ·rw[hm];refine⟨?_,(ho.bx a ha).2⟩;by_cases c:a=task.toNat
  ·rw[c,zag];have:=(ho.bx _ ht8).1;exact⟨this.f0,this.f1,this.n0,this.n1⟩
  ·rw[zaf c];exact(ho.bx a ha).1
theorem zsV(hs:SInv s):zdh s [] (zAY s task c):=by refine zaz fun _=>zaz fun _=>zaz fun _=>?_;obtain⟨d,ht⟩:=hs.t;have hC:=zmX s.t c.r (zaq (zaj s.t c.r).cells (zbs c.a 8).toNat c.s) (zaj s.t c.r).up;exact zbj ⟨⟨d,hC.inv ht⟩,hs.k,ziX hC.toAlike hs.o⟩ (zdl (zd2 fun i hi=>hC.rs hi))
theorem zny(hs:SInv s):zdh s [] (zoS s task c):=
 zaz fun _=>zaz fun _=>zbj hs (.refl _)
theorem zom(hs:SInv s):zdh s [] (zm0 s c):=by
 refine zaz fun _=>?_;refine zbj ⟨hs.t,hs.k,?_⟩ (.refl _);show OInv s.t s.o s.box (zaq s.alive c.a.toNat true) (zaq s.alive c.a.toNat true) [];have hup:∀a,a<8→s.alive a=true→zaq s.alive c.a.toNat true a=true:=fun a _ h=>by
  by_cases c:a=c.a.toNat
  ·rw[c,zag]
  ·rw[zaf c];exact h
 refine⟨fun x hx=>⟨(hs.o.rt x hx).1,(hs.o.rt x hx).2.sub hup fun h=>h⟩,hs.o.nd,hs.o.fr,fun a ha hd=>hs.o.dead a ha ?_,hs.o.bx⟩;cases hq:s.alive a with
 |false=>rfl
 |true=>rw[hup a ha hq]at hd;cases hd
end
end Sx
namespace Sx
theorem zzo{box:Nat→MBox}{a:Nat}(ha:a<8){b:MBox}{L:List Int}(h:flL (zfb b)=flL (zfb (box a))++L):(FL (zaq box a b)).Perm (FL box++L):=by
 have h1:=zqM ha b (box:=box);rw[h]at h1;have h2:(FL box++(flL (zfb (box a))++L)).Perm ((FL box++L)++flL (zfb (box a))):=by rw[zG5];exact(zIK).append_left _
 exact(zIV _).1 (h1.trans h2)
theorem zoF{box:Nat→MBox}{a:Nat}{b:MBox}{Q:MBox→Prop}(hb:Q b)(h:∀i,i<8→Q (box i)):∀i,i<8→Q (zaq box a b i):=fun i hi=>by
 by_cases c:i=a
 ·rw[c,zag];exact hb
 ·rw[zaf c];exact h i hi
theorem zkS{box:Nat→MBox}{alive:Nat→Bool}{a:Nat}{b:MBox}(hb:alive a=false→b.n=0)(h:∀i,i<8→alive i=false→(box i).n=0):∀i,i<8→alive i=false→(zaq box a b i).n=0:=fun i hi hd=>by
 by_cases c:i=a
 ·rw[c,zag];exact hb (c▸hd)
 ·rw[zaf c];exact h i hi hd
section
variable {s:St} {task:Int} {c:Call} {run:Rn}
abbrev zBx(b:MBox):Prop:=BoxOk b∧∀m∈zfb b,(0≤m.frm∧m.frm<8)∧U32 m.reg
theorem zwk{b:MBox}{m:Msg}(h:zBx b)(hm:(0≤m.frm∧m.frm<8)∧U32 m.reg)(he:zlP b=0):zBx (zjf b m):=by
 obtain⟨h1,h2,_⟩:=zlw h.1 (m:=m) he;refine⟨h1,fun x hx=>?_⟩;rw[h2]at hx;rcases zF2.1 hx with hx|hx
 ·exact h.2 x hx
 ·rw[zHW.1 hx];exact hm
theorem zvg(hc:CallOk s task c):(0≤(zcA task c).frm∧(zcA task c).frm<8)∧U32 (zcA task c).reg:=by have:(zcA task c).frm=task:=zjt hc.t0 (by have:=hc.t1;omega);rw[this];exact⟨⟨hc.t0,hc.t1⟩,hc.r⟩
theorem zjg{t:Tb}{o:Nat→Sd}{box:Nat→MBox}{alive A:Nat→Bool}{P:List Int}(h:OInv t o box alive A P){a:Nat}(ha:a<8)(hl:alive a=true){m:Msg}(hm:(0≤m.frm∧m.frm<8)∧U32 m.reg)(hf:zhi m=false)(he:zlP (box a)=0):OInv t o (zaq box a (zjf (box a) m)) alive A P:=by
 have h2:=(zlw (h.bx a ha).1 (m:=m) he).2.1;have hF:FL (zaq box a (zjf (box a) m))=FL box:=zc0 fun i _=>by
  by_cases c:i=a
  ·subst c;rw[zag,h2,zrL];have:flL [m]=[]:=by unfold flL;rw[zHS,hf];rfl
   rw[this,zHm]
  ·rw[zaf c]
 refine⟨by rw[hF];exact h.rt,by rw[hF];exact h.nd,by rw[hF];exact h.fr,zkS (fun hd=>by rw[hl]at hd;cases hd) h.dead,zoF (zwk (h.bx a ha) hm he) h.bx⟩
theorem zxX{a:Int}(hu:U32 a)(h:znS s a=0):a.toNat<8∧s.alive a.toNat=true:=by have:=zjP (by decide) h;simp only[zFR,zFS]at this;exact⟨by have:=hu.1;omega,this.2⟩
theorem zqr(hs:SInv s)(hc:CallOk s task c):zdh s [] (zh4 s task c):=by
 refine zaz fun h1=>zaz fun h2=>?_;obtain⟨ha8,hal⟩:=zxX hc.a h1;obtain⟨d,ht⟩:=hs.t;have hM:=zvg hc;cases hsh:(zcA task c).sh with
 |true=>
  have hf:zhi (zcA task c)=false:=by unfold zhi;rw[hsh];simp
  refine zaz fun h3=>zaz fun h4=>?_;cases hq:(zgh s.o s.t c.r c.a true==0)with
  |true=>
   rw[hq]at h4;have ho:=zr3 ht hs.o hc.r hal (by simpa using hq);exact zbj ⟨⟨d,ht⟩,hs.k,zjg ho ha8 hal hM hf h4⟩ (.refl _)
  |false=>
   rw[hq]at h4;exact zbj ⟨⟨d,ht⟩,hs.k,zjg hs.o ha8 hal hM hf h4⟩ (.refl _)
 |false=>
  cases hr:(c.r != 0)with
  |true=>
   refine zaz fun h3=>zaz fun h4=>zaz fun h5=>zaz fun h6=>?_;obtain⟨hg,hk⟩:=zi5 (.inr rfl) h3;obtain⟨_,hb,d',ht',hup,hrs⟩:=zj0 ht ⟨hc.r,hg⟩;have hn:=zgk ht hs.o hk (by decide);have hfl:flL [zcA task c]=[c.r]:=by
    have:zhi (zcA task c)=true:=by unfold zhi;rw[hsh];simp[zcA];simpa using hr
    unfold flL;rw[zHS,this];rfl
   have hm2:=(zlw (hs.o.bx _ ha8).1 (m:=zcA task c) h6).2.1;have hP:=zzo ha8 (box:=s.box) (b:=zjf (s.box c.a.toNat) (zcA task c)) (L:=[c.r]) (by rw[hm2,zrL,hfl]);have hmem:∀x,x∈[]++FL (zaq s.box c.a.toNat (zjf (s.box c.a.toNat) (zcA task c)))↔x∈[]++FL s.box∨x=c.r:=fun x=>by rw[zG4,zG4,hP.mem_iff,zF2,zHW]
   refine zbj ⟨⟨d',ht'⟩,hs.k,?_⟩ (zdl (zd2 hrs));show OInv (zes s.t c.r) (zfv s.o (zes s.t c.r) c.r 0 ⟨2,0,0⟩) (zaq s.box c.a.toNat (zjf (s.box c.a.toNat) (zcA task c))) s.alive s.alive [];rw[zfw h5];refine zie ht ht' hs.o ⟨hc.r,hg⟩ hb hup (fun x hx hne=>((hmem x).1 hx).resolve_right hne) (fun x hx _=>(hmem x).2 (.inl hx)) (.inr (.inl ⟨rfl,(hmem _).2 (.inr rfl)⟩)) (fun _=>rfl) ?_ (fun _ _ h=>h) (zkS (fun hd=>by rw[hal]at hd;cases hd) hs.o.dead) (zoF (zwk (hs.o.bx _ ha8) hM h6) hs.o.bx);rw[zG4,hP.nodup_iff,zHO];have hnd:=hs.o.nd;rw[zG4]at hnd;exact⟨hnd,by simp,fun x hx y hy e=>hn (by rw[zG4,←zHW.1 hy,←e];exact hx)⟩
  |false=>
   refine zaz fun h6=>?_;have hf:zhi (zcA task c)=false:=by have:(c.r != 0)=false:=hr;unfold zhi zcA;simp only;rw[this];rfl
   exact zbj ⟨⟨d,ht⟩,hs.k,zjg hs.o ha8 hal hM hf h6⟩ (.refl _)
theorem zkl(hs:SInv s)(hc:CallOk s task c)(hA:s.alive task.toNat=true):zdh s [] (zh3 s task):=by
 refine zaz fun h1=>?_;obtain⟨d,ht⟩:=hs.t;have ht8:task.toNat<8:=by have:=hc.t0;have:=hc.t1;omega
 obtain⟨hb,hms⟩:=ztl (hs.o.bx _ ht8).1 h1;have hbx:zBx (zcu (s.box task.toNat)):=⟨hb,fun m hm=>(hs.o.bx _ ht8).2 m (by rw[hms];exact zF4 _ hm)⟩;have hmR:=(hs.o.bx _ ht8).2 (zbV (s.box task.toNat)) (by rw[hms];exact zF3 ..);have hdead:=zkS (box:=s.box) (alive:=s.alive) (a:=task.toNat) (b:=zcu (s.box task.toNat)) (fun hd=>by rw[hA]at hd;cases hd) hs.o.dead;have hbxs:=zoF (a:=task.toNat) hbx hs.o.bx;have h2:=zqM ht8 (zcu (s.box task.toNat)) (box:=s.box);rw[hms]at h2;cases hq:(((zbV (s.box task.toNat)).reg != 0)&&!(zbV (s.box task.toNat)).sh)with
 |false=>
  have hfl:flL (zbV (s.box task.toNat)::zfb (zcu (s.box task.toNat)))=flL (zfb (zcu (s.box task.toNat))):=by unfold flL;rw[zHS,show zhi (zbV (s.box task.toNat))=false from hq];rfl
  rw[hfl]at h2;have hP:=(zIV _).1 h2;refine zbj ⟨⟨d,ht⟩,hs.k,?_⟩ (.refl _);show OInv s.t s.o (zaq s.box task.toNat (zcu (s.box task.toNat))) s.alive s.alive [];refine⟨fun x hx=>⟨(hs.o.rt x hx).1,(hs.o.rt x hx).2.sub (fun _ _ h=>h) fun h=>?_⟩,?_,fun x hx=>hs.o.fr x ?_,hdead,hbxs⟩
  ·exact hP.mem_iff.2 h
  ·rw[zG4,hP.nodup_iff];exact hs.o.nd
  ·exact hP.mem_iff.1 hx
 |true=>
  have hfl:flL (zbV (s.box task.toNat)::zfb (zcu (s.box task.toNat)))=(zbV (s.box task.toNat)).reg::flL (zfb (zcu (s.box task.toNat))):=by unfold flL;rw[zHS,show zhi (zbV (s.box task.toNat))=true from hq];rfl
  rw[hfl]at h2;generalize hr:(zbV (s.box task.toNat)).reg=r at*;have hP:((FL (zaq s.box task.toNat (zcu (s.box task.toNat))))++[r]).Perm (FL s.box):=by
   have h3:(FL (zaq s.box task.toNat (zcu (s.box task.toNat)))++r::flL (zfb (zcu (s.box task.toNat)))).Perm ((FL (zaq s.box task.toNat (zcu (s.box task.toNat)))++[r])++flL (zfb (zcu (s.box task.toNat)))):=by rw[zG5];exact .refl _
   exact(zIV _).1 (h3.symm.trans h2)
  have hnd:=hs.o.nd;rw[zG4,←hP.nodup_iff,zHO]at hnd;have hmem:∀x,x∈[]++FL s.box↔x∈[]++FL (zaq s.box task.toNat (zcu (s.box task.toNat)))∨x=r:=fun x=>by rw[zG4,zG4,←hP.mem_iff,zF2,zHW]
  have hn:r∉[]++FL (zaq s.box task.toNat (zcu (s.box task.toNat))):=fun h=>hnd.2.2 r h r (zHW.2 rfl) rfl;obtain⟨g1,g2⟩:=hs.o.fr r ((hmem r).2 (.inr rfl));refine zaz fun h3=>zbj ⟨⟨d,ht⟩,hs.k,?_⟩ (.refl _);show OInv s.t (zfv s.o s.t r task ⟨1,tkB task,0⟩) (zaq s.box task.toNat (zcu (s.box task.toNat))) s.alive s.alive [];rw[zfw h3];exact zif ht hs.o g1 (fun x hx _=>(hmem x).2 (.inl hx)) (fun x hx hne=>((hmem x).1 hx).resolve_right hne) (zlp hc.t0 hc.t1 hA) (fun h=>absurd h hn) hnd.1 (fun _ _ h=>h) hdead hbxs
theorem zrF{t:Tb}{d:Int→Nat}(ht:TInv t d){o:Nat→Sd}{box:Nat→MBox}{alive A:Nat→Bool}{P:List Int}(h:OInv t o box alive A P){r:Int}(hu:U32 r)(he:zgh o t r task false=0):
 (zkg (zhp o t r task false).toNat=0→OInv (zbv t (zbW t r)) (ze5 o t r task false) box alive A P)∧(zkg (zhp o t r task false).toNat≠0→OInv t (ze5 o t r task false) box alive A P∧zho (znL o t r task).hold task.toNat=false):=by
 obtain⟨g1,g2,g3,g4,g5⟩:=zpi ht hu he;have hH:zhp o t r task false=(znL o t r task).hold:=by unfold zhp;rw[he];rfl
 have hof:=zkf ht g1 (h.rt r g1).1;have hOk:=(h.rt r g1).2;rw[←hof]at hOk;have hHo:zwP A (ofO o t r).hold:=by
  rcases hOk with⟨k,_⟩|⟨k,_⟩|⟨_,k⟩
  ·rw[g3]at k;cases k
  ·rw[g3]at k;cases k
  ·exact k
 have hx:∀b,b<8→zho (znL o t r task).hold b=(zho (ofO o t r).hold b != decide (task.toNat=b))∧0≤(znL o t r task).hold∧(znL o t r task).hold<256:=fun b hb=>by have:=zpN hHo.1.1 hHo.1.2 (a:=task.toNat) (by omega) hb;rw[show((task.toNat:Nat):Int)=task by omega]at this;exact this
 have hb:=zpg (x:=ofO o t r) g2.1;rw[g4]at hb;have hn:=zgk ht h g3 (by decide);have hx0:=(hx 0 (by decide)).2;rw[hH,g5];refine⟨fun hp=>?_,fun hp=>⟨?_,?_⟩⟩
 ·have hG:=ziY ht h g1.1 hn;obtain⟨hD,_⟩:=zeV ht g1.1;have hne:∀x,IsR (zbv t (zbW t r)) x→slN x≠slN r:=fun x hx e=>by have hg:=(hD.good x hx.1).1 hx.2;have:=zgX ht.ok ⟨hx.1,hg.1⟩ g1.1 e;exact hg.2 (by rw[this];exact(zce ht g1.1).2 ⟨g1.1,.refl _⟩)
  exact hG.move (fun x hx=>.inl ⟨hx,zaf (hne x hx.1),fun h=>h⟩) hG.nd (fun x hx=>⟨(hG.fr x hx).1,by rw[zaf (hne x (hG.fr x hx).1.1)];exact(hG.fr x hx).2⟩) hG.dead hG.bx
 ·refine zif ht h g1 (fun _ h _=>h) (fun _ h _=>h) (.inr (.inr ⟨g3,hx0,?_,fun b hb' hh=>?_⟩)) (fun h=>absurd h hn) h.nd (fun _ _ h=>h) h.dead h.bx
  ·refine zGq fun hno=>hp ((zFj hx0.1 hx0.2).2 fun a ha=>?_);cases hq:zho (znL o t r task).hold a with
   |false=>rfl
   |true=>exact absurd ⟨a,ha,hq⟩ hno
  ·rw[(hx b hb').1]at hh;by_cases c:task.toNat=b
   ·rw[←c,←hb]at hh;simp at hh
   ·rw[zFT c]at hh;exact hHo.2.2 b hb' (by simpa using hh)
 ·rw[(hx _ (by omega)).1,←hb];simp
theorem zoX{h:Int}(hp:zkg (zhp s.o s.t h task false).toNat=0):zci s h task=(goneS {s with o:=ze5 s.o s.t h task false} h,zd4 s h):=by unfold zci;rw[hp];rfl
theorem zoY{h:Int}(hp:zkg (zhp s.o s.t h task false).toNat≠0):zci s h task=({s with o:=ze5 s.o s.t h task false},[]):=by unfold zci;rw[zFN.2 hp];rfl
theorem zp4(hs:SInv s)(hc:CallOk s task c):zdh s [] (zuy s task c):=by
 refine zaz fun _=>zaz fun he=>?_;obtain⟨d,ht⟩:=hs.t;obtain⟨i1,i2⟩:=zrF ht hs.o hc.r he;have hr:=(zpi ht hc.r he).1;obtain⟨_,d',ht',_⟩:=zeV ht hr.1;by_cases hp:zkg (zhp s.o s.t c.r task false).toNat=0
 ·rw[zoX hp];exact zbj ⟨⟨d',ht'⟩,TkI.gone _ hs.k,i1 hp⟩ (by rw[zHm];exact zeK ht hr.1)
 ·rw[zoY hp];exact zbj ⟨⟨d,ht⟩,hs.k,(i2 hp).1⟩ (.refl _)
end
end Sx
namespace Sx
structure DInv (al A:Nat→Bool) (bx:Nat→MBox) (s:St) (P:List Int):Prop where
 t:∃d,TInv s.t d
 k:TkI s.k
 o:OInv s.t s.o bx al A P
 ea:s.alive=al
 eb:s.box=bx
section
variable {al A:Nat→Bool} {bx:Nat→MBox}
theorem zkZ{α:Type}{f:St→α→Except Int (St×List Rn)}{J:St→List α→Prop}(hf:∀s x l,J s (x::l)→∃s' b,f s x=.ok (s',b)∧J s' l∧(zch s.t).Perm (zch s'.t++pgs b)):∀(l:List α) (s:St) (b:List Rn),J s l→∃s' b',zdD f l s b=.ok (s',b')∧J s' []∧(zch s.t++pgs b).Perm (zch s'.t++pgs b')
 |[],s,b,h=>⟨s,b,rfl,h,.refl _⟩
 |x::l,s,b,h=>by
  obtain⟨s1,b1,h1,h2,h3⟩:=hf s x l h;obtain⟨s',b',g1,g2,g3⟩:=zkZ hf l s1 (b++b1) h2;refine⟨s',b',by simp only[zdD,h1];exact g1,g2,.trans ?_ g3⟩;rw[zcP];have:(zch s1.t++(pgs b++pgs b1)).Perm ((zch s1.t++pgs b1)++pgs b):=by rw[zG5];exact(zIK).append_left _
  exact((h3.append_right _).trans this.symm)
theorem zqj(hA:∀a,a<8→al a=true→A a=true):∀(s:St) (m:Msg) (l:List Msg),(DInv al A bx s (flL (m::l))∧∀x∈m::l,(0≤x.frm∧x.frm<8)∧U32 x.reg)→∃s' b,zdW s m=.ok (s',b)∧(DInv al A bx s' (flL l)∧∀x∈l,(0≤x.frm∧x.frm<8)∧U32 x.reg)∧(zch s.t).Perm (zch s'.t++pgs b):=by
 rintro s m l ⟨h,hm⟩;have hl:∀x∈l,(0≤x.frm∧x.frm<8)∧U32 x.reg:=fun x hx=>hm x (zF4 _ hx);have hm:=hm m (zF3 ..);cases hf:zhi m with
 |false=>
  have hfl:flL (m::l)=flL l:=by unfold flL;rw[zHS,hf];rfl
  rw[hfl]at h;have hq:((m.reg==0)||m.sh)=true:=by unfold zhi at hf;cases h1:m.sh<;>cases h2:(m.reg==0)<;>first|rfl|(exfalso;rw[h1]at hf;simp only[bne,h2]at hf;cases hf)
  exact⟨s,[],by unfold zdW;rw[hq];rfl,⟨h,hl⟩,by simp[pgs]⟩
 |true=>
  have hfl:flL (m::l)=m.reg::flL l:=by unfold flL;rw[zHS,hf];rfl
  rw[hfl]at h;have hq:((m.reg==0)||m.sh)=false:=by unfold zhi at hf;cases h1:m.sh<;>cases h2:(m.reg==0)<;>first|rfl|(exfalso;rw[h1]at hf;simp only[bne,h2]at hf;cases hf)
  obtain⟨d,ht⟩:=h.t;have ho:=h.o;obtain⟨g1,g2⟩:=ho.fr m.reg (zF2.2 (.inl (zF3 ..)));have hnd:=ho.nd;rw[zHP,zIp]at hnd;have hmem:∀x,x∈(m.reg::flL l)++FL bx↔x∈flL l++FL bx∨x=m.reg:=fun x=>by rw[zHP,zGm];exact Or.comm
  cases ha:s.alive m.frm.toNat with
  |true=>
   have hs0:=zta ht g1 hm.1.1 hm.1.2;refine⟨ztG s m.reg m.frm,[],by unfold zdW;rw[hq,ha,hs0];rfl,⟨⟨⟨d,ht⟩,h.k,?_,h.ea,h.eb⟩,hl⟩,by simp[pgs,ztG]⟩;show OInv s.t (zfv s.o s.t m.reg m.frm ⟨1,tkB m.frm,0⟩) bx al A (flL l);rw[zfw hs0];exact zif ht ho g1 (fun x hx _=>(hmem x).2 (.inl hx)) (fun x hx hne=>((hmem x).1 hx).resolve_right hne) (zlp hm.1.1 hm.1.2 (hA _ (by omega) (by rw[←h.ea];exact ha))) (fun h=>absurd h hnd.1) hnd.2 (fun _ _ h=>h) ho.dead ho.bx
  |false=>
   obtain⟨_,d',ht',_⟩:=zeV ht g1.1;refine⟨goneS s m.reg,zd4 s m.reg,by unfold zdW;rw[hq,ha];rfl,⟨⟨⟨d',ht'⟩,TkI.gone _ h.k,?_,h.ea,h.eb⟩,hl⟩,zeK ht g1.1⟩;exact zpj ht ho g1.1 (fun x=>⟨fun hx=>⟨(hmem x).2 (.inl hx),fun e=>hnd.1 (e▸hx)⟩,fun⟨hx,hne⟩=>((hmem x).1 hx).resolve_right hne⟩) hnd.2
structure DL (p:Ow→Bool) (s:St) (l:List Int):Prop where
 all:∀h,zf8 s.t h→p (s.o (slN h)).own=true→h∈l
 each:∀h∈l,zf8 s.t h∧p (s.o (slN h)).own=true
 nd:l.Nodup
theorem zz3{s:St}{P:List Int}(h:DInv al A bx s P)(p:Ow→Bool):DL p s (za2 s.o s.t p (zb6 s.t.b)):=by
 obtain⟨d,ht⟩:=h.t;have key:∀x,x∈za2 s.o s.t p (zb6 s.t.b)↔zf8 s.t x∧p (s.o (slN x)).own=true:=fun x=>by
  unfold za2;rw[zGH,zcX ht.ok.bk ht.ok.ret];simp only[zFR,zGG];constructor
  ·rintro⟨h1,h2,h3⟩;have hr:zf8 s.t x:=⟨h1,(zdz ht h1).1 h2⟩;rw[zkf ht hr (h.o.rt x hr).1]at h3;exact⟨hr,h3⟩
  ·rintro⟨h1,h2⟩;refine⟨h1.1,(zdz ht h1.1).2 h1.2,?_⟩;rw[zkf ht h1 (h.o.rt x h1).1];exact h2
 exact⟨fun x h1 h2=>(key x).2 ⟨h1,h2⟩,fun x hx=>(key x).1 hx,(ziB ht.ok.bk).filter _⟩
theorem zDt{t:Tb}{d:Int→Nat}(ht:TInv t d){r:Int}(hr:zf8 t r):(∀x,zf8 (zbv t (zbW t r)) x→zf8 t x∧x≠r∧slN x≠slN r)∧∀x,zf8 t x→x≠r→zf8 (zbv t (zbW t r)) x∧slN x≠slN r:=by
 obtain⟨hD,d',ht',hup⟩:=zeV ht hr.1;refine⟨fun x hx=>?_,fun x hx hne=>?_⟩
 ·have hg:=(hD.good x hx.1.1).1 hx.1.2;have hne:x≠r:=fun e=>hg.2 (by rw[e];exact(zce ht hr.1).2 ⟨hr.1,.refl _⟩);have hx2:=hx.2;rw[hup x hx.1]at hx2;exact⟨⟨⟨hx.1.1,hg.1⟩,hx2⟩,hne,fun e=>hne (zgX ht.ok ⟨hx.1.1,hg.1⟩ hr.1 e)⟩
 ·have hn:x∉zaV t r:=fun hm=>hne (znk ((zce ht hr.1).1 hm).2 hx.2);have hi:IsR (zbv t (zbW t r)) x:=⟨hx.1.1,(hD.good x hx.1.1).2 ⟨hx.1.2,hn⟩⟩;exact⟨⟨hi,by rw[hup x hi];exact hx.2⟩,fun e=>hne (zgX ht.ok hx.1 hr.1 e)⟩
theorem zmq{p:Ow→Bool}(hp:∀w,p w=true→w.kind≠2):∀(l:List Int) (s:St) (b:List Rn),DInv al A bx s []→DL p s l→DInv al A bx (ze7 s l b).1 []∧DL p (ze7 s l b).1 []∧(zch s.t++pgs b).Perm (zch (ze7 s l b).1.t++pgs (ze7 s l b).2)
 |[],s,b,h,hl=>⟨h,hl,.refl _⟩
 |r::l,s,b,h,hl=>by
  obtain⟨d,ht⟩:=h.t;obtain⟨g1,g2⟩:=hl.each r (zF3 ..);have hnd:=zIp.1 hl.nd;have hn:r∉[]++FL bx:=fun hm=>hp _ g2 (h.o.fr r hm).2;obtain⟨_,d',ht',_⟩:=zeV ht g1.1;obtain⟨s1,s2⟩:=zDt ht g1;have h1:DInv al A bx (goneS s r) []:=⟨⟨d',ht'⟩,TkI.gone _ h.k,ziY ht h.o g1.1 hn,h.ea,h.eb⟩;have h2:DL p (goneS s r) l:=⟨fun x hx hq=>by
   obtain⟨q1,q2,_⟩:=s1 x hx;exact(zGm.1 (hl.all x q1 hq)).resolve_left q2,fun x hx=>by
   obtain⟨q1,q2⟩:=hl.each x (zF4 _ hx);exact⟨(s2 x q1 (fun e=>hnd.1 (e▸hx))).1,q2⟩,hnd.2⟩
  obtain⟨i1,i2,i3⟩:=zmq hp l (goneS s r) (b++zd4 s r) h1 h2;refine⟨i1,i2,.trans ?_ i3⟩;have h3:(zch s.t).Perm (zch (goneS s r).t++pgs (zd4 s r)):=zeK ht g1.1;rw[zcP];have:(zch (goneS s r).t++(pgs b++pgs (zd4 s r))).Perm ((zch (goneS s r).t++pgs (zd4 s r))++pgs b):=by rw[zG5];exact(zIK).append_left _
  exact((h3.append_right _).trans this.symm)
theorem zr2{t:Int}(h0:0≤t)(h8:t<8)(q:Ow→Bool)(hqk:∀w,q w=true→w.kind≠3):∀(s:St) (r:Int) (l:List Int),(DInv al A bx s []∧DL (zeR t) s (r::l)∧DL q s [])→∃s' b,ze8 t s r=.ok (s',b)∧(DInv al A bx s' []∧DL (zeR t) s' l∧DL q s' [])∧(zch s.t).Perm (zch s'.t++pgs b):=by
 rintro s r l ⟨h,hl,hz⟩;obtain⟨d,ht⟩:=h.t;obtain⟨g1,g2⟩:=hl.each r (zF3 ..);have hnd:=zIp.1 hl.nd;have hu:=g1.1.1;have hof:=zkf ht g1 (h.o.rt r g1).1;have hs0:=zta ht g1 h0 h8;have g2':=g2;unfold zeR at g2';simp only[zFR,zGG]at g2';have hE:zgh s.o s.t r t false=0:=by
  have hB:zuM s.t r t=false:=by unfold zuM;rw[hs0,g1.1.2,(zdz ht g1.1).2 g1.2];simp
  have hk:((ofO s.o s.t r).kind != 3)=false:=by rw[hof];simp[g2'.1.1.1]
  have hh:zr1 (ofO s.o s.t r) t=true:=by rw[hof];exact g2'.2
  unfold zgh;rw[hB,hk,hs0,hh];rfl
 obtain⟨i1,i2⟩:=zrF ht h.o hu hE;obtain⟨_,_,k3,_,k5⟩:=zpi ht hu hE;have hD:ze8 t s r=.ok (zci s r t):=by unfold ze8;rw[hE];rfl
 have hoth:∀x,slN x≠slN r→ze5 s.o s.t r t false (slN x)=s.o (slN x):=fun x hx=>by rw[k5];exact zaf hx
 have hslr:∀x,zf8 s.t x→x≠r→slN x≠slN r:=fun x hx hne e=>hne (zgX ht.ok hx.1 g1.1 e);by_cases hp:zkg (zhp s.o s.t r t false).toNat=0
 ·rw[zoX hp]at hD;obtain⟨_,d',ht',_⟩:=zeV ht g1.1;obtain⟨s1,s2⟩:=zDt ht g1;refine⟨_,_,hD,⟨⟨⟨d',ht'⟩,TkI.gone _ h.k,i1 hp,h.ea,h.eb⟩,⟨fun x hx hq=>?_,fun x hx=>?_,hnd.2⟩,⟨fun x hx hq=>?_,fun x hx=>(by cases hx),zHV⟩⟩,zeK ht g1.1⟩
  ·obtain⟨q1,q2,q3⟩:=s1 x hx;have hq:zeR t (ze5 s.o s.t r t false (slN x)).own=true:=hq;rw[hoth x q3]at hq;exact(zGm.1 (hl.all x q1 hq)).resolve_left q2
  ·obtain⟨q1,q2⟩:=hl.each x (zF4 _ hx);obtain⟨q3,q4⟩:=s2 x q1 (fun e=>hnd.1 (e▸hx));refine⟨q3,?_⟩;show zeR t (ze5 s.o s.t r t false (slN x)).own=true;rw[hoth x q4];exact q2
  ·obtain⟨q1,q2,q3⟩:=s1 x hx;have hq:q (ze5 s.o s.t r t false (slN x)).own=true:=hq;rw[hoth x q3]at hq;exact hz.all x q1 hq
 ·rw[zoY hp]at hD;obtain⟨j1,j2⟩:=i2 hp;refine⟨_,_,hD,⟨⟨⟨d,ht⟩,h.k,j1,h.ea,h.eb⟩,⟨fun x hx hq=>?_,fun x hx=>?_,hnd.2⟩,⟨fun x hx hq=>?_,fun x hx=>(by cases hx),zHV⟩⟩,by simp[pgs]⟩
  ·have hx:zf8 s.t x:=hx;have hq:zeR t (ze5 s.o s.t r t false (slN x)).own=true:=hq;by_cases c:x=r
   ·exfalso;rw[c,k5,zag]at hq;unfold zeR at hq;simp only[zFR]at hq;have h2:=hq.2;unfold zho at j2;rw[show((t.toNat:Nat):Int)=t by omega]at j2;rw[j2]at h2;cases h2
   ·rw[hoth x (hslr x hx c)]at hq;exact(zGm.1 (hl.all x hx hq)).resolve_left c
  ·obtain⟨q1,q2⟩:=hl.each x (zF4 _ hx);refine⟨q1,?_⟩;show zeR t (ze5 s.o s.t r t false (slN x)).own=true;rw[hoth x (hslr x q1 (fun e=>hnd.1 (e▸hx)))];exact q2
  ·have hx:zf8 s.t x:=hx;have hq':q (ze5 s.o s.t r t false (slN x)).own=true:=hq;by_cases c:x=r
   ·exfalso;rw[c,k5,zag]at hq';exact hqk _ hq' k3
   ·rw[hoth x (hslr x hx c)]at hq';exact hz.all x hx hq'
end
end Sx
end Go.Proofs.YtfbhkfhbnkncoaaGreatDoor
