import Derived.Test.YtfbhkfhbnkncoaaGreatDoorV48
import Derived.Test.YtfbhkfhbnkncoaaGreatDoorRows
import Derived.LaidMore
import Derived.WideKeyElems2
import Derived.LaidHandle
import Derived.ProofKit
import Derived.SizedLaws
import Derived.Deep.Slices
import Derived.Lib.SmallJoins
import Derived.Test.YtfbhkfhbnkncoaaGreatDoorTie
import Derived.Test.YtfbhkfhbnkncoaaGreatDoorCards
import Derived.Stop.Joined
import Derived.SevenTiedAt
set_option linter.all false
set_option maxRecDepth 100000
set_option maxHeartbeats 8000000
namespace Go.Proofs.YtfbhkfhbnkncoaaGreatDoor
open Go.RowKit Go.Proofs.Tryz
open Go.Proofs.Tryz renaming prog→a6
namespace Sx
def FQ:ByteArray:=⟨#[1,6,0,0,1,0,17,3,0,0,0,0]⟩
def Cb:Lst:=⟨2,[FQ],ByteArray.empty⟩
def zeZ:oB Cb=true:=by decide+kernel
def zeR:oZ FQ=[⟨1,6,0,0,1⟩,⟨17,3,0,0,0⟩]:=rfl
def zeO:gH Cb=FT:=by
 funext i
 cases i with
 |zero=>exact zeR
 |succ i=>rfl
def ze0:QM kN.M=true:=by decide+kernel
def zeT:pB kN.M 23 1=1:=by decide+kernel
def zeY:(SV.d (.H (.z .i64 2) (.H (.X 1 .c (c7 [.st FQ])) (.H (.st ByteArray.empty) .un)))).le (.d (ig Cb)):=λO J x h=>by
 obtain⟨b,d,e⟩:=h.1 rfl;refine⟨λ_=>⟨b,?_,e⟩,ef⟩;obtain⟨j,k,rfl,f,c,l,rfl,a,g⟩:=d;refine⟨_,_,rfl,f,_,_,rfl,?_,g⟩;have a:dM O (.X 1 .c (c7 [.st FQ])) c:=a;exact a.congr λi m=>by
  obtain rfl:i=0:=a3
  rfl
attribute [local irreducible] b6 eF fR ez eH eB eM fx dC ec dU dx
def Tj:c5 a6 6 [] (B true):=by
 refine zu func6 ?_;refine dB (dB (Or.inl ?_));conv=>whnf
 have q:∀p∈Cb.ps,p.size<=1000:=λp o=>by rw[nZ.1 o];decide
 refine fa (b6.le (Wp Cb a8 q zeZ) ⟨zeY,trivial⟩) ?_;rintro _ _ ⟨rfl,a,b,rfl⟩;rw[zeO];refine dA (l:=[(1,.B 0 [])]) (U:=MM (oe 0) a b) ⟨rfl,trivial⟩ rfl ?_;refine dB (b0 (dA (l:=[(1,.B 0 [])]) (U:=MM (oe 0) a b) ⟨rfl,trivial⟩ rfl ?_));refine dB (dX c6 (λi:Nat×Nat×Nat=>i.1<=3) (λi=>3 - i.1) (λi=>[(2,I i.1)]) (λi=>MM (oe i.1) i.2.1 i.2.2) (0,a,b) (dG _) ⟨rfl,trivial⟩ rfl (λi=>⟨a9 _,a9 _,a9 _⟩) ?_);rintro⟨i,a,b⟩ f;have f:i<=3:=f;apply a4<;>intro k
 .have d:i<3:=eZ k
  obtain⟨g,s,j⟩:=FU i;refine fa (GK (p:=0) g j a3 a3 ⟨a8,a8⟩) ?_;rintro _ _ ⟨rfl,c,Q,rfl⟩;rw[zeU i d];refine b0 (b2 (x:=(i:Int)+1) ?_);conv=>whnf
  exact⟨(i+1,c,Q),d,by show 3 -(i+1)<3 - i;omega,⟨rfl,trivial⟩,⟨rfl,(by show(eV 3 2 0 [fH (oe (i+1)) Q,.d (dT (oe (i+1)).x.p),eO (oe (i+1)).x c]&&true)=true;rw[gK rfl (oe (i+1)).x c];rfl)⟩,rfl⟩
 .have d:i=3:=e9 k
  subst d;obtain⟨g,s,j⟩:=FU 3;obtain⟨e,r,n⟩:=zeN;refine dA (l:=[(1,.B 0 [])]) (U:=MM (oe 3) a b) ⟨rfl,trivial⟩ rfl ?_;refine dB (fa (tG (m:=oe 3) (a:=a) (b:=b) (by have:=g.F1;omega)) ?_);rintro _ _ ⟨rfl,rfl⟩;refine bo (jA (oe 3).x.s.t.b 1) ?_;rw[zeW];refine dA (l:=[(1,.B 0 []),(3,B true)]) (U:=MM (oe 3) a b) ⟨rfl,rfl,trivial⟩ rfl ?_;refine dB (fa (GK (p:=16) g j a8 a8 ⟨a8,a8⟩) ?_);rintro _ _ ⟨rfl,c,Q,rfl⟩;rw[zeV];refine dA (l:=[(1,.B 0 []),(3,B true),(4,I 0)]) (U:=MM kN c Q) ⟨rfl,rfl,rfl,trivial⟩ rfl ?_;refine dB (fa (zcT (m:=kN) (a:=c) (b:=Q) Ls (λi f=>(n.rt i f).rg) zeP e.s.F2 (by have:=e.F1;omega) (by rw[Lt];decide) ze1 zeS (UM e n)) ?_);rintro _ _ ⟨A,rfl,rfl⟩;refine dA (l:=[(1,.B 0 []),(3,B true),(4,I 0),(5,.B 3 []),(6,I 0)]) (U:=⟨[fH kN Q,.d (dT kN.x.p),eO kN.x c,.d (tZ kN.now A (pB kN.M 23) (o5 (n6 kN).n))],[c,Q],[]⟩) ⟨rfl,rfl,rfl,rfl,rfl,trivial⟩ rfl ?_;refine eJ c6 (mI (v:=xd kN.x) (oW (tG (m:=kN) (a:=c) (b:=Q) (by have:=e.F1;omega)) rfl) (λ_ h _=>h) ?_);refine c9 (jA kN.x.s.t.b 1) (λ_ h _=>h) ?_;rw[zeX];refine mI (v:=B true) (oW (VG (m:=kN) (a:=c) (b:=Q) Lu Ls) rfl) (λ_ h _=>h) ?_;refine mI (v:=B true) (oW (VW (m:=kN) (a:=c) (b:=Q) (by rw[Lu];decide) (by rw[zeL e r Ls Lu,e.n])) rfl) (λ_ h _=>h) ?_;refine a4 (λ_=>⟨(a8:(0:Int)<=1),(a8:(1:Int)<23)⟩) (mI (v:=.d (fq jj (lj kN.M))) (oW (Co (m:=kN) (a:=c) (b:=Q) (by rw[Lt];decide)) rfl) (λ_ h _=>h) ?_);refine c9 (zbn kN.M (by rw[Lt];decide) ze0) (λ_ h _=>h) (a4 rfl (uY (dE (λz=>SV.d (.I z)) ?_)));show(((((((true&&((0:Int)==0))&&!false)&&true)&&true)&&((0:Int)==0))&&(pB kN.M 23 1==1))&&true)=true;rw[zeT];rfl
end Sx
namespace Sx
variable{f:FuncId}{args e:List SV}{l:Lst}{m:Mc}{a b:Nat}{v:SV}{W:World}
def ST{p:ByteArray}(h:qN p=true):o9 p=true:=by
 unfold qN at h;simp only[jL,gX,kq,lD]at h;obtain⟨c,a⟩:=h;have b:wx (oZ p)=true:=by rw[zaI];exact a
 have e:(oZ p).length=p.size / 6:=As _ _;have d:p.size / 6<=64:=by unfold uv at a;simp only[dH,jL,kq]at a;omega
 unfold o9 Ak;rw[Lc,b,fe a3,show((p.size % 6:Nat):Int)=0 by omega];rfl
def zbA{x:Int}(a:0<=x):(!wF x)=true->zs x=true:=λh=>by unfold wF at h;unfold zs;simp only[jL,gX,Gi,kq,fc]at h;simp only[pP,dH,fY];omega
def zaJ(h:vg l=true):oB l=true:=by
 unfold vg at h;simp only[dH,jL]at h;obtain⟨d,e,f⟩:=h;unfold oB;have b:(l.ps.any λp=>!o9 p)=false:=vL.2 λp k=>by have:=vL.1 e p k;rw[ST (b8 this)];decide
 have c:((qg l.pk).any λx=>!wF x)=false:=vL.2 λx a j=>by have g:=vL.1 f x a;obtain⟨i,_,rfl⟩:=l6.1 a;exact g (zbA (tW l.pk i).1 j)
 rw[d,b,c];rfl
def YU(h:Ee l=false):zc l=false/\oB l=true:=by unfold Ee at h;simp only[gX,lD]at h;exact⟨h.1,zaJ h.2⟩
abbrev M1(L:D)(m:Mc)(a b:Nat)(e:List SV):MS:=⟨.d L::nr 3 m b::.d (dT m.x.p)::o4 2 m.x a::e,[a,b],[]⟩
def Bz(v:SV):SV:=((v.F (fD 2 3)).F (fD 1 2)).F (fD 0 1)
def zcS:Out->Out
 | .ret v=>.ret (Bz v)
 | .P d=>.P d
def Qd(L:D)(m:Mc)(a b:Nat)(e:List SV):M1 L m a b e=⟨nS (nS (nS (fH m b::.d (dT m.x.p)::eO m.x a::.d L::((e.map (SV.F (fD 0 1))).map (SV.F (fD 1 2))).map (SV.F (fD 2 3))) 2 3) 1 2) 0 1,[a,b],[]⟩:=by show(⟨_::_::_::_::e,_,_⟩:MS)=⟨_::_::_::_::(((((e.map (SV.F (fD 0 1))).map (SV.F (fD 1 2))).map (SV.F (fD 2 3))).map (SV.F (fD 2 3))).map (SV.F (fD 1 2))).map (SV.F (fD 0 1)),_,_⟩;rw[AZ,AZ,AZ];rfl
def Nj(L:D)(e:List SV){R:Out->MS->Prop}(h:b6 a6 f args (MM m a b) R)(q:eV 3 2 0 args=true)(l:∀o U,R o U->∃c d Q,U=MM c d Q){K:Out->MS->Prop}(p:∀o c d Q,R o (MM c d Q)->K (zcS o) (M1 L c d Q e)):
 b6 a6 f (((args.map (SV.F (fD 2 3))).map (SV.F (fD 1 2))).map (SV.F (fD 0 1))) (M1 L m a b e) K:=by
 rw[Qd];have n:=ry (.d L::((e.map (SV.F (fD 0 1))).map (SV.F (fD 1 2))).map (SV.F (fD 2 3))) [] [] h q (by show(eV 3 2 0 [fH m b,.d (dT m.x.p),eO m.x a]&&gV 3 2 0 [])=true;rw[gK rfl m.x a];rfl) λo U r=>by obtain⟨c,d,Q,rfl⟩:=l o U r;exact⟨rfl,rfl,rfl⟩
 have j:∀(c:Mc) (d Q:Nat) (o:Out),R o (MM c d Q)->K (((o.F (fD 2 3)).F (fD 1 2)).F (fD 0 1)) ⟨nS (nS (nS (fH c Q::.d (dT c.x.p)::eO c.x d::.d L::((e.map (SV.F (fD 0 1))).map (SV.F (fD 1 2))).map (SV.F (fD 2 3))) 2 3) 1 2) 0 1,[d,Q],[]⟩:=λc d Q o g=>by have:=p o c d Q g;rw[Qd]at this;cases o<;>exact this
 refine HI 0 1 (by simp[zI]) (by simp[zI]) (C:=λo U=>∃c d Q i,R i (MM c d Q)/\o=(i.F (fD 2 3)).F (fD 1 2)/\U=⟨nS (nS (fH c Q::.d (dT c.x.p)::eO c.x d::.d L::((e.map (SV.F (fD 0 1))).map (SV.F (fD 1 2))).map (SV.F (fD 2 3))) 2 3) 1 2,[d,Q],[]⟩) ?_ ?_
 .refine HI 1 2 (by simp[zI]) (by simp[zI]) (C:=λo U=>∃c d Q i,R i (MM c d Q)/\o=i.F (fD 2 3)/\U=⟨nS (fH c Q::.d (dT c.x.p)::eO c.x d::.d L::((e.map (SV.F (fD 0 1))).map (SV.F (fD 1 2))).map (SV.F (fD 2 3))) 2 3,[d,Q],[]⟩) ?_ ?_
  .refine HI 2 3 eA eA n ?_;rintro o U ⟨k,g,rfl⟩;obtain⟨c,d,Q,rfl⟩:=l o k g;exact⟨rfl,c,d,Q,o,g,rfl,rfl⟩
  .rintro _ _ ⟨c,d,Q,o,g,rfl,rfl⟩;exact⟨rfl,c,d,Q,o,g,rfl,rfl⟩
 .rintro _ _ ⟨c,d,Q,o,g,rfl,rfl⟩;exact⟨rfl,j c d Q o g⟩
def AU{L:D}(h:b6 a6 f args (MM m a b) λo U=>o=.ret v/\U=MM m a b)(g:eV 3 2 0 args=true):
 b6 a6 f (((args.map (SV.F (fD 2 3))).map (SV.F (fD 1 2))).map (SV.F (fD 0 1))) (M1 L m a b e) λo U=>o=.ret (Bz v)/\U=M1 L m a b e:=by
 refine Nj (R:=λo U=>o=.ret v/\U=MM m a b) L e h g (λo U i=>⟨m,a,b,i.2⟩) ?_;rintro o k j Q ⟨rfl,d⟩;have c:∀(m:Mc) (a b:Nat),M1 L m a b e=⟨.d L::((MM m a b).c.map Bz++e),(MM m a b).t,[]⟩:=λ_ _ _=>rfl;exact⟨rfl,by rw[c,c,d]⟩
def zdV{U:Mc}{L:D}(h:b6 a6 f args (MM m a b) λo d=>o=.ret v/\∃c Q,d=MM U c Q)(k:eV 3 2 0 args=true):
 b6 a6 f (((args.map (SV.F (fD 2 3))).map (SV.F (fD 1 2))).map (SV.F (fD 0 1))) (M1 L m a b e) λo d=>o=.ret (Bz v)/\∃c Q,d=M1 L U c Q e:=by
 refine Nj L e h k (λo d l=>?_) ?_
 .obtain⟨_,c,Q,h⟩:=l;exact⟨_,c,Q,h⟩
 rintro o n c Q ⟨rfl,i,F,j⟩;have g:∀(m:Mc) (a b:Nat),M1 L m a b e=⟨.d L::((MM m a b).c.map Bz++e),(MM m a b).t,[]⟩:=λ_ _ _=>rfl;exact⟨rfl,i,F,by rw[g,g,j]⟩
def XF{P:Program}{m:MS}{v':SV}(h:b6 P f args m λo U=>o=.ret v/\U=m)(l:v.le v'):b6 P f args m λo U=>o=.ret v'/\U=m:=⟨h.1,λE O J w G j i=>(h.2 E O J w G j i).mono (by
 rintro e M ⟨b,a,U,p,c,d,g,rfl,rfl⟩;obtain⟨x,k,n⟩:=g;exact⟨b,a,_,.ret v',c,d,⟨x,k,l _ _ _ n⟩,rfl,rfl⟩)⟩
def Xy(h:oB l=true)(i:Nat):(gH l i).length<=64/\∀x∈gH l i,InsOk x:=by
 unfold gH l9;cases e:Nat.blt i l.ps.length with
 |false=>exact⟨dG _,λx f=>by cases f⟩
 |true=>
  have a:i<l.ps.length:=dF e;have b:l.ps.getD i ByteArray.empty∈l.ps:=by rw[eu,ed a];exact oi a
  have c:=IT h b;refine⟨?_,N9 _⟩;show(oZ (l.ps.getD i ByteArray.empty)).length<=64;unfold o9 at c;simp only[jL,gX,lD]at c;have d:=c.2;unfold wx at d;simp only[dH,fY]at d;omega
noncomputable def xH(f:FuncId):List UInt8:=((a6.funcs[f]?).map (·.name.toUTF8.data.toList)).getD []
noncomputable def Av:List (Lit×DataW (List UInt8)):=nI.map λp=>(.int .u8 p.1,.held (xH p.2))
abbrev AP:List (String×DataW Unit):=[("bailiwick/model.does",Rows.laid_bailiwick_model_does)]
def IY:DataW Unit:=match(Rows.laid_bailiwick_model_does:DataW Unit)with
 | .iface _ d=>d
 |d=>d
def zad:(Rows.laid_bailiwick_model_does:DataW Unit)=.iface "func table" IY:=rfl
def zae:IY.funcsOut=.map Av:=ey
def O2:a6.globalNamed "bailiwick/model.does"=some 0:=ey
def zec:(a6.globals[0]?).map (·.type)=some 252:=ey
def zbf:(nI.all λp=>(((List.range a6.funcs.size).filter λf=>(a6.funcs[f]?).any (·.name.toUTF8.data.toList==xH p.2))==[p.2])&&!(xH p.2).isEmpty)=true:=ey
def X2:(nI.all λp=>mF nI p.1==some p.2)=true:=ey
def O6:∀{l:List (Int×FuncId)} {n:Int} {f:FuncId},mF l n=some f->(n,f)∈l
 |(k,g)::r,n,f,h=>by
  unfold mF at h;split at h
  .rename_i e;cases h;rw[e];exact fQ ..
  .exact fA _ (O6 h)
 |[],_,_,h=>by cases h
def OR{n:Int}:∀{l:List MapEntry} {i:Nat},(∀x∈l,∃m f,(m,f)∈nI/\x.key=.int .u8 m/\x.val=.func (.func f) #[] #[])->
 (Instr.findNow (.int .u8) (.int .u8 n) l i=some none/\∀x∈l,x.key≠.int .u8 n)\/∃j f,Instr.findNow (.int .u8) (.int .u8 n) l i=some (some (j,.func (.func f) #[] #[]))/\(n,f)∈nI
 |[],_,_=>.inl ⟨rfl,λx r=>by cases r⟩
 |x::l,i,h=>by
  obtain⟨m,f,o,c,p⟩:=h x (fQ ..);have q:Instr.findNow (.int .u8) (.int .u8 n) (x::l) i=bif n==m then some (some (i,x.val))else Instr.findNow (.int .u8) (.int .u8 n) l (i+1):=by
   show(match Instr.sameNow (.int .u8) (.int .u8 n) x.key with
    |some true=>some (some (i,x.val))
    |some false=>Instr.findNow (.int .u8) (.int .u8 n) l (i+1)
    |none=>none)=_
   rw[c];show(match some (n==m)with
    |some true=>some (some (i,x.val))
    |some false=>Instr.findNow (.int .u8) (.int .u8 n) l (i+1)
    |none=>none)=_
   cases(n==m)<;>rfl
  rw[q];cases b:n==m with
  |true=>
   rw[gG]at b;subst b;exact .inr ⟨i,f,by rw[p];rfl,o⟩
  |false=>
   rcases OR (l:=l) (i:=i+1) λy a=>h y (fA _ a)with⟨d,k⟩|g
   .refine .inl ⟨d,λy a=>?_⟩;rcases iB.1 a with rfl|a
    .rw[c];intro e;cases e;simp at b
    .exact k y a
   .exact .inr g
def PS{v:Value}{m:Int}(h:keyOf a6 5 v=some (.int .u8 m)):v=.int .u8 m:=by
 unfold keyOf at h;rw[underlying5]at h;unfold mapKey at h;rw[underlying5]at h;cases v with
 |int q n=>
  have h:(if q=.u8/\(Lit.int .u8 n).wf=true then some (Lit.int .u8 n)else none)=some (.int .u8 m):=h;split at h
  .rename_i a;cases h;rw[a.1]
  .cases h
 |_=>cases h
def zeI{n:Nat}{v:Value}{q:DataW (List UInt8)×List MemPlace}(k:∃m,(m,f)∈nI)(h:Go.WideElems.elemAt (funcToken a6) a6 W 0 (λ_=>true) true n 250 v=some q)(e:q.1=.held (xH f)):v=.func (.func f) #[] #[]:=by
 obtain⟨m,o⟩:=k;have c:=pQ.1 zbf _ o;simp only[dH,gG,jL]at c;obtain⟨c,g⟩:=c;obtain⟨d,l⟩:=q;have e:d=.held (xH f):=e;subst e;cases i:xH f with
 |nil=>rw[i]at g;cases g
 |cons b r=>
  rw[i]at h c;unfold Go.WideElems.elemAt at h;split at h
  .rename_i a;have j:v.cells.toList=[v]:=by
    cases v with
    |agg p=>
     unfold Value.formed at a;rw[underlying250]at a;cases a
    |_=>rfl
   rw[j]at h;exact func_of_trod underlying250 c h
  .cases h
open Go.WideElems in
def YG(h:laidMetH a6 AP W):∃g,GlobOk g W:=by
 obtain⟨g,t,cs,fuel,p,hg,ht,hv,hd⟩:=h.funcs (d:=IY) (nZ.2 (by rw[zad]));obtain rfl:=z8 (O2.symm.trans hg);obtain rfl:=z8 (zec.symm.trans ht);rw[zae]at hd;rcases Go.WideElems.open_map underlying252 hd with⟨_,hx⟩|⟨b,es,clock,n,_,hcs,hb,_,F,hx⟩
 .cases hx
 have hL:Av=(es.toList.map (rg a6 5 (elemAt (funcToken a6) a6 W 0 (λ_=>true) true n 250))).foldr DataW.insert []:=by
  have:=dE (λq:DataW (List UInt8)×List MemPlace=>match q.1 with
   | .map l=>l
   |_=>[]) hx
  exact this
 have hmem:∀y,y∈Av↔y∈es.toList.map (rg a6 5 (elemAt (funcToken a6) a6 W 0 (λ_=>true) true n 250)):=λy=>by
  rw[hL];generalize es.toList.map (rg a6 5 (elemAt (funcToken a6) a6 W 0 (λ_=>true) true n 250))=l;induction l with
  |nil=>exact Iff.rfl
  |cons x l ih=>rw[List.foldr_cons,Go.ChangeMaps.mem_insert_iff,ih,iB]
 have hall:∀x∈es.toList,∃m f,(m,f)∈nI/\x.key=.int .u8 m/\x.val=.func (.func f) #[] #[]:=λx hx2=>by obtain⟨y,hy⟩:=F.reads x hx2;have hy2:y∈Av:=(hmem y).2 (l6.2 ⟨x,hx2,rg_of hy⟩);obtain⟨⟨m,f⟩,hp,rfl⟩:=l6.1 hy2;obtain⟨z,hz,hz2⟩:=rd_val hy;exact⟨m,f,hp,PS (rd_key hy),zeI ⟨m,hp⟩ hz hz2.symm⟩
 have hback:∀m f,(m,f)∈nI->∃x∈es.toList,x.key=.int .u8 m:=λm f hp=>by have h1:(Lit.int .u8 m,DataW.held (xH f))∈Av:=l6.2 ⟨(m,f),hp,rfl⟩;obtain⟨x,hx2,he⟩:=l6.1 ((hmem _).1 h1);obtain⟨y,hy⟩:=F.reads x hx2;rw[rg_of hy]at he;subst he;exact⟨x,hx2,PS (rd_key hy)⟩
 refine⟨b,⟨?_,es,clock,hb,λn=>?_⟩⟩
 .unfold World.var? at hv;rw[O2]at hv;simp only[sd]at hv;split at hv
  .rename_i c ty fz hc;cases hv;refine⟨_,_,_,hc,?_⟩;rw[<-pN,hcs];rfl
  .cases hv
 .rcases OR (n:=n) (i:=0) hall with⟨g1,g2⟩|⟨j,f,g1,g2⟩
  .refine .inl ⟨g1,?_⟩;cases hq:mF nI n with
   |none=>rfl
   |some f=>
    obtain⟨x,hx2,hk⟩:=hback n f (O6 hq);exact b3 hk (g2 x hx2)
  .have:=pQ.1 X2 _ g2;exact .inr ⟨j,f,g1,by simpa using this⟩
end Sx
open Go.ChangeShapes Go.WideShapes Go.ChangeAt Go.RowKit
namespace Sx
def zbp:ownKnob a6.godebug=none:=ey
def zac:laidOutB a6=true:=ey
def WQ:a6.cellsOf 24=3:=ey
def WR:a6.cellsOf 9=1:=ey
def tq(W:World):Ro:=λb=>match W.heap[b]? with
 |some (.cells c _ _)=>some c.toList
 |_=>none
def zc2(W:World):Kn (tq W) W:=λb Y h=>by
 unfold tq at h;split at h
 .rename_i c e a d;cases h;exact⟨c,e,a,d,wX _⟩
 .cases h
def NL{W:World}{a:Addr}{v:Value}(h:W.cell? a=some v):a.spot=none/\∃Y,tq W a.block=some Y/\Y[a.off]?=some v:=by
 unfold World.cell? at h;split at h
 .rename_i c e f b;split at h
  .cases h
  .rename_i d;refine⟨b8 d,c.toList,by unfold tq;rw[b],b8 h⟩
 .cases h
def NM{α:Type}{Q:Nat->α->Prop}:∀n,(∀i,i<n->∃x,Q i x)->∃l:List α,l.length=n/\∀i x,l[i]?=some x->Q i x
 |0,_=>⟨[],rfl,λi x h=>by simp at h⟩
 |n+1,h=>by
  obtain⟨l,d,e⟩:=NM n λi c=>h i a3;obtain⟨x,f⟩:=h n a3;refine⟨l++[x],by simp[d],λi y a=>?_⟩;by_cases c:i<n
  .rw[pV a3]at a;exact e i y a
  .rw[oh a3]at a;cases b:i - l.length with
   |zero=>
    rw[b]at a;cases a;have:i=n:=a3
    rw[this];exact f
   |succ k=>rw[b]at a;simp at a
def zbi{H:Type}{enc:TypeId×Value->H}{W:World}{k:Nat}{v:Value}{y:DataW H×List MemPlace}(K:DataW.trod enc a6 W 0 (λ_=>true) true k 22 [v]=some y):
 ∃ps:List ByteArray,dM (tq W) (.X ps.length .c λi=>.st (ps.getD i ByteArray.empty)) [v]/\ps.length<=maxLen/\∀p∈ps,p.size<=maxLen:=by
 rcases Deep.open_slice underlying22 K with⟨e,_⟩|⟨a,F,C,m,k,D,Pl,e,_,O,J,z,R,L⟩
 .simp only[oP,px]at e;subst e;exact⟨[],⟨none,0,rfl,a9 _,λh=>b3 h (ri 0)⟩,dG _,λp o=>by cases o⟩
 .simp only[oP,px]at e;subst e;simp only[xw]at z;subst z;have o:∀i,i<F->∃s:ByteArray,W.cell? (a.add i)=some (.string s)/\s.size<=maxLen:=by intro i M;obtain⟨S,d,Q⟩:=L i a3;rw[WR]at d;obtain⟨_,G,g⟩:=World.cells?_some d;obtain⟨s,P,_,x⟩:=DataW.trod_string underlying9 Q;refine⟨s,?_,x⟩;have:=g 0 a8;rw[P]at this;simpa[Addr.add]using this
  obtain⟨l,N,q⟩:=NM F o;refine⟨l,⟨some a,_,by rw[N],a3,λA=>?_⟩,a3,λp o=>?_⟩
  .obtain⟨T,w,_⟩:=o 0 a3;obtain⟨n,Y,c,_⟩:=NL w;obtain⟨j,off,t⟩:=a;have n:t=none:=n;subst n;have c:tq W j=some Y:=c;have g:∀i,i<l.length->Y[off+i]?=some (.string (l.getD i ByteArray.empty)):=λi f=>by have u:=(q i (l.getD i ByteArray.empty) (by rw[eu,ed f];rfl)).1;rw[na]at u;obtain⟨_,r,b,E⟩:=NL u;have b:tq W j=some r:=b;rw[c]at b;cases b;exact E
   refine⟨j,off,Y,λi=>[.string (l.getD i ByteArray.empty)],rfl,c,?_,λi f=>⟨rfl,rfl,?_⟩⟩
   .have:=(iA.1 (g (l.length - 1) a3)).1;show off+l.length*1<=Y.length;omega
   .have u:=g i f;show(Y.drop (off+i*1)).take 1=_;rw[Ms,List.take_one,List.head?_drop,u];rfl
  .obtain⟨i,f⟩:=Mn.1 o;exact(q i p f).2
def zbh{H:Type}{enc:TypeId×Value->H}{W:World}{a g:Nat}{v:Value}{d:DataW H}{p:List MemPlace}(b:Value.okWide a6 W .any a 24 v)
 (h:DataW.Trod enc a6 W 0 (λ_=>true) true 24 v d p):
 ∃l:Lst,du (tq W) ⟨[],[],[],[],g⟩ (.d (ig l)) v/\dx (l.ps.length:Int)/\dx (l.pk.size:Int)/\∀p∈l.ps,dx (p.size:Int):=by
 obtain⟨y,q,z,E,F,G,m,rfl,_,_,i,j,k⟩:=Joins.open_agg3 underlying24 ey WQ b h;obtain⟨x,o,_,f⟩:=DataW.trod_int underlying3 i;obtain⟨ps,u,r,t⟩:=zbi j;obtain⟨s,c,_,w⟩:=DataW.trod_string underlying9 k;simp only[oP,px]at o c;subst o c;have e:∀n:Nat,n<=maxLen->dx (n:Int):=λn C=>by
  have:maxLen=9223372036854775807:=by decide+kernel
  exact eD a3 a3
 refine⟨⟨x,ps,s⟩,⟨λ_=>⟨_,⟨[.int .i64 x],_,rfl,⟨rfl,?_⟩,[q],_,rfl,u,[.string s],[],rfl,rfl,rfl⟩,rfl⟩,ef⟩,e _ r,e _ w,λp h=>e _ (t p h)⟩;have f:(decide (IntKind.i64.min<=x)&&decide (x<=IntKind.i64.max))=true:=f;simp only[dH,fY]at f;have A:IntKind.i64.min= -9223372036854775808:=a8
 have c:IntKind.i64.max=9223372036854775807:=a8
 exact nM (show dx x from eD a3 a3)
section
def S9{H:Type}{enc:TypeId×Value->H}{P:Program}(j:laidOutB P=true){W g:World}(i:Below W.heap.size W g):
 ∀{C:List TypeId} {vs:List Value} {e:List (DataW H)} {ps:List MemPlace},(C.all λt=>P.readableRec t&&decide (t<P.types.size))=true->
  DataW.TrodAll enc P W 0 (λ_=>true) true C vs e ps->(∀x∈ps,x.block<W.heap.size)->DataW.TrodAll enc P g 0 (λb=>decide (b<W.heap.size)) true C vs e ps
 |[],[],[],_,_,h,_=>h
 |t::C,v::vs,d::e,ps,a,h,c=>by
  obtain⟨p,q,k,l,rfl⟩:=h;simp only[List.all_cons,dH,fY]at a;exact⟨p,q,Below.trod j a.1.1 a.1.2 k i λx f=>c x (eP.2 (.inl f)),
   S9 j i a.2 l λx f=>c x (eP.2 (.inr f)),rfl⟩
 |[],[],_::_,_,_,h,_=>h.elim
 |[],_::_,[],_,_,h,_=>h.elim
 |[],_::_,_::_,_,_,h,_=>h.elim
 |_::_,[],[],_,_,h,_=>h.elim
 |_::_,[],_::_,_,_,h,_=>h.elim
 |_::_,_::_,[],_,_,h,_=>h.elim
def zaf{H:Type}{enc:TypeId×Value->H}{P:Program}{f:Func}{s:ChangeSpec}{W m:World}{args:Array Value}{c r:List (DataW H)}{A:List MemPlace}{tb:TypeId}
 (v:laidOutB P=true)(k:(f.params.toList.all λt=>P.readableRec t&&decide (t<P.types.size))=true)(j:f.resultTypes= #[tb])(w:P.underlying tb=some .bool)(a:s.vars=[])
 (e:(s.fn H (c++[])).results=[.lit (.bool true)])(b:(s.fn H (c++[])).args=c)(l:(s.fn H (c++[])).vars=[])
 (g:DataW.Whole enc P f.params.toList s.vars false W args.toList c r A)(o:Below W.heap.size W m):
 s.post enc P f false true false false W args (.bool true) m:=by
 have h:=g;have i:∀x∈A,x.block<W.heap.size:=λx d=>g.lt x d;obtain⟨p,q,u,n,rfl,_,_⟩:=g;rw[a]at n;obtain⟨rfl,rfl⟩:=trodVars_none n;refine⟨c,[],_,[],p,[],h,?_,?_,?_,World.keptBut_mono (λx d=>⟨d,.inr (.inl (b8 d))⟩) (o.frame (·∈p++[])),ef⟩
 .rw[e,j];exact trodAll_mk1 (shut_bool w true)
 .rw[b];exact S9 v o k u λx d=>i x (b8 d)
 .rw[l,a];rfl
def X4(os:Os)(args:Array Value):laidMetH a6 AP ((World.doorLaid a6 124 os).forCall (λ_ _=>0) ⟨#[],args,[]⟩).memory:=
 laidMetH_of_parts3 (fuel:=8) (laidMet_of_run' 8 ey ey) ey ey
end
end Sx
namespace Sx
attribute [local irreducible] b6 eF fR ez eH eB eM fx dC ec dU dx
def Yv{s:St}{M h c:Int}(e:(dy s.o s.t h).kind=2):j5 s M h c=false:=by unfold j5;rw[e];rfl
section
variable {m:Mc} {a b:Nat} {d:Int->Nat}
def S7(E:m.x.q.length<=1000000)(p:TInv m.x.s.t d)(C:l8 m.x.s.k)(P:TkT m.x.s.k)(s:TkD m.x.s.k):b6 a6 12 [.B 0 []] (MM m a b) λo U=>o=.ret (B true)/\U=MM m a b:=by
 have O:=(Cg m.x.s.t.b).out (iE .c hD 0 (dW m.x.s.t.b));have T:=oV m.x.s.t.b;refine ov func12 ?_;refine dB (dB (fa (tG E) λo U h=>?_));obtain⟨rfl,rfl⟩:=h;refine dA (l:=[(2,B false),(3,.B (MM m a b).c.length [])]) (U:=⟨(MM m a b).c++[.d (fw m.x.s)],(MM m a b).t,(MM m a b).o⟩) ⟨rfl,rfl,trivial⟩ rfl ?_;have v:∀x∈dW m.x.s.t.b,di x/\bk m.x.s.t.b x=true:=λx F=>(mM p.ok.Q p.ok.ret).1 F;generalize dW m.x.s.t.b=L at O T v;refine eJ c6 (bo (O) (dX c6 (λi:Nat=>i<=L.length) (λi=>L.length - i) (λi=>[(5,I i)]) (λ_=>⟨(MM m a b).c++[.d (fw m.x.s)],(MM m a b).t,(MM m a b).o⟩) 0 (dG _) ⟨rfl,trivial⟩ rfl (λi=>⟨a9 _,a9 _,a9 _⟩) ?_));intro i hi;refine b2 (x:=(L.length:Int)) ?_;apply a4<;>intro J
 .have g:i<L.length:=eZ J
  have F:=v _ (qG g);have c:(0:Int)<=(i:Int)/\(i:Int)<(L.length:Int):=⟨a3,a3⟩;refine dX c6 (λj:Nat×Nat=>j.1<=8/\(j.2=0\/j.2=1/\∃u:Nat,u<j.1/\j5 m.x.s (u:Int) (L.getD i 0) 1=true)) (λj=>8 - j.1) (λj=>[(7,I j.1),(6,I j.2)]) (λ_=>⟨(MM m a b).c++[.d (fw m.x.s)],(MM m a b).t,(MM m a b).o⟩) (0,0) ⟨dG _,.inl rfl⟩ ⟨rfl,rfl,trivial⟩ rfl (λi=>⟨a9 _,a9 _,a9 _⟩) ?_;rintro⟨j,n⟩ ⟨Q,e⟩;have Q:j<=8:=Q;have e:n=0\/n=1/\∃u:Nat,u<j/\j5 m.x.s (u:Int) (L.getD i 0) 1=true:=e;apply a4<;>intro K
  .have f:j<8:=eZ K
   refine dL 9 (a4 c (c9 (GC ⟨p,C⟩ (j:Int) a3 F.1 1 (.inr (.inl rfl))) (λ_ h=>h) (a4 (λq=>?u1) λq=>?u2)))
   case' u1=>
    have q:j5 m.x.s (j:Int) (L.getD i 0) 1=true:=(qc (eq_of_beq (show(eh m.x.s (j:Int) (L.getD i 0) 1==0)=true from q))).2;have Z:n=0:=by
     rcases e with h|⟨_,u,G,y⟩
     .exact h
     .have:=(QL P s q).2.2 _ y;omega
    have k:n+1=0\/n+1=1/\∃u:Nat,u<j+1/\j5 m.x.s (u:Int) (L.getD i 0) 1=true:=.inr ⟨a3,j,mL j,q⟩;refine b2 (x:=(n:Int)+1) ?_;conv=>whnf
   case' u2=>
    have k:n=0\/n=1/\∃u:Nat,u<j+1/\j5 m.x.s (u:Int) (L.getD i 0) 1=true:=e.imp_right λ⟨h,u,G,y⟩=>⟨h,u,Nat.lt_succ_of_lt G,y⟩;conv=>whnf
   all_goals
    refine dL 24 (a4 c (c9 (tN m.x.s.o m.x.s.t (L.getD i 0) p.rk) (λ_ h=>h) (a4 (λ_=>c) (c9 (GC ⟨p,C⟩ (j:Int) a3 F.1 0 (.inl rfl)) (λ_ h _=>h) (a4 (λr=>?_) λ_=>?_)))))
    .have r:(((dy m.x.s.o m.x.s.t (L.getD i 0)).kind==2)&&(eh m.x.s (j:Int) (L.getD i 0) 0==0))=true:=r;rw[dH]at r;have N:=(qc (eq_of_beq r.2)).2;rw[Yv (eq_of_beq r.1)]at N;cases N
    refine b2 (x:=(j:Int)+1) ?_;conv=>whnf
    first
    |exact⟨(j+1,n+1),⟨f,k⟩,by show 8 -(j+1)<8 - j;omega,⟨rfl,rfl,trivial⟩,⟨rfl,rfl⟩,rfl⟩
    |exact⟨(j+1,n),⟨f,k⟩,by show 8 -(j+1)<8 - j;omega,⟨rfl,rfl,trivial⟩,⟨rfl,rfl⟩,rfl⟩
  .have f:j=8:=e9 K
   subst f;have t:=(CP C (L.getD i 0)).out (wR (l:=eg m.x.s.k (gq (L.getD i 0)) (dI m.x.s.k.b)));have w:(eg m.x.s.k (gq (L.getD i 0)) (dI m.x.s.k.b)).length<=32:=eY (qY _ _ _) (qb m.x.s.k.b);have A:(decide ((n:Int)>1)||(decide ((n:Int)>0)&&((decide (((eg m.x.s.k (gq (L.getD i 0)) (dI m.x.s.k.b)).length:Int)>0)&&qi m.x.s.k (L.getD i 0) 0)||((dy m.x.s.o m.x.s.t (L.getD i 0)).kind != 1))))=false:=by
    rcases e with h|⟨h,u,G,y⟩
    .subst h;rfl
    .subst h;obtain⟨R,S,_⟩:=QL P s y;rw[R,show((1:Int) != 1)=false from rfl,wP];cases E:(decide (((eg m.x.s.k (gq (L.getD i 0)) (dI m.x.s.k.b)).length:Int)>0)&&qi m.x.s.k (L.getD i 0) 0)with
     |false=>rfl
     |true=>
      exfalso;rw[dH,fY]at E;obtain⟨z,V⟩:=List.exists_mem_of_length_pos (l:=eg m.x.s.k (gq (L.getD i 0)) (dI m.x.s.k.b)) a3;obtain⟨W,Y⟩:=jM.1 V;exact S ⟨⟨z,W,by simpa[gq]using Y⟩,E.2⟩
   generalize eg m.x.s.k (gq (L.getD i 0)) (dI m.x.s.k.b)=M at t w A;refine dL 21 (a4 c (c9 t (λ_ h=>h) (b2 (x:=(M.length:Int)) (a4 (λ_=>c) (c9 (GL C (L.getD i 0) 0) (λ_ h _=>h) (dL 24 (a4 (λ_ _ _=>c) (c9 (tN m.x.s.o m.x.s.t (L.getD i 0) p.rk) (λ_ h _ _ _=>h) (a4 (λh=>b3 (A.symm.trans h) a8) λ_=>?_)))))))));refine b2 (x:=(i:Int)+1) ?_;conv=>whnf
   exact⟨i+1,g,a3,⟨rfl,trivial⟩,⟨rfl,rfl⟩,rfl⟩
 .have g:i=L.length:=e9 J
  subst g;exact a4 rfl (a4 rfl rfl)
end
section
variable {m:Mc} {a b:Nat} {d:Int->Nat} {l:List (Int×Ow)} {Z:Nat->Tk} {y yr:Nat->List Int} {C:List Rn}
abbrev GB(m:Mc)(a b:Nat)(X:D):MS:=⟨[fH m b,.d (dT m.x.p),eO m.x a,.d X,xd m.x],[a,b],[]⟩
def S8(w:m.x.q.length<=1000000)(n:TInv m.x.s.t d)(hE:ExR m.x.s l Z)(Y:∀y∈m.x.p.K,dw y)(hl:m.x.p.K.length<=500)(hp:m.x.p.n<=64)(V:PB m.x.p m.x.s.t y)(F:∀i,i<32->yr i=y i)(hL:∀q,q / 32∈eG m.x.s.t->kF m.x.p q=0/\0<=q/\q<2048):b6 a6 13 [.B 0 [],.d (ei m.x.s l Z yr C)] (MM m a b) λo U=>o=.ret (B true)/\U=MM m a b:=by
 have M:=(J6 n.r.Q m.x.s.t.r).out (iE .c (λx=>D.z .i64 x) 0 (dW m.x.s.t.b));have hn:=oV m.x.s.t.b;have r:∀x∈dW m.x.s.t.b,di x/\bk m.x.s.t.b x=true:=λx f=>(mM n.ok.Q n.ok.ret).1 f;refine ov func13 ?_;refine dB (dB (Nh (tG w) rfl (gK rfl m.x a) (λo U h=>⟨_,_,_,_,_,h.2⟩) λo Z' Q' C' T b' h=>?_));obtain⟨rfl,t⟩:=h;cases t;refine dA (l:=[(0,.B 0 []),(3,.B 3 []),(4,B false),(5,.B 4 [])]) (U:=GB m a b (ei m.x.s l Z yr C)) ⟨rfl,rfl,rfl,rfl,trivial⟩ rfl ?_;generalize dW m.x.s.t.b=L at M hn r;refine eJ c6 (bo (M) (dX c6 (λi:Nat=>i<=L.length) (λi=>L.length - i) (λi=>[(7,I i)]) (λ_=>GB m a b (ei m.x.s l Z yr C)) 0 (dG _) ⟨rfl,trivial⟩ rfl (λi=>⟨a9 _,a9 _,a9 _⟩) ?_));intro i hi;refine b2 (x:=(L.length:Int)) ?_;apply a4<;>intro K
 .have e:i<L.length:=eZ K
  have f:=r _ (qG e);have c:(0:Int)<=(i:Int)/\(i:Int)<(L.length:Int):=⟨a3,a3⟩;have O:=mn n.r.Q n.r.ret f.1;rw[m7 f.2]at O;have k:=iq (L.getD i 0);have E:(0:Int)<=(a5 (L.getD i 0):Int)/\(a5 (L.getD i 0):Int)<32:=⟨a3,a3⟩;have hw:IntKind.u32.wrap (L.getD i 0)=L.getD i 0:=l5 (iL (by have:=f.1.1;simp only[eU];omega) (λ_=>f.1.1) (by have:=f.1.2;simp only[eU];omega));have S:c5 a6 43 [.d (eN m.x.s.t),H (IntKind.u32.wrap (L.getD i 0))] (T2 (.d (lU (b1 m.x.s.t (L.getD i 0)))) (I 0)):=by have:=uK m.x.s.t (L.getD i 0);rw[f.2,dZ]at this;rw[hw];exact this
  have p:=pF n (L.getD i 0);obtain⟨P,q2,q3⟩:=su f.2;obtain⟨r1,r2⟩:=rV p;have ac:=BD p;have W:=vW p.ok;obtain⟨G,y2⟩:=V _ k;rw[<-F _ k,<-P]at G;have ad:(yr (a5 (L.getD i 0))).length=(gj (b1 m.x.s.t (L.getD i 0)).rs).length:=by rw[<-G,dD]
  have ab:(qU (yr (a5 (L.getD i 0)))).length=(yr (a5 (L.getD i 0))).length:=dD _;have s:∀q,q∈gj (b1 m.x.s.t (L.getD i 0)).rs->kF m.x.p q=0/\0<=q/\q<2048:=λq w=>hL q (Km k (by rw[<-P];exact zk.1 w));refine fg (List.range 16) [(13,8191),(14,4096)] (a4 c (c9 S (λ_ h=>h) (iF (by first|exact(show _/\_ from⟨rfl,rfl⟩)|exact(show _/\_ from⟨c,rfl,rfl⟩)) (kT ?_ ?_))));rotate_left
  .repeat' (first|exact trivial|refine iF (by first|exact(show _/\_ from⟨rfl,rfl⟩)|exact(show _/\_ from⟨c,rfl,rfl⟩)) ?_)
  conv=>whnf
  generalize hR:b1 m.x.s.t (L.getD i 0)=R at*;refine dL 13 (a4 c (c9 O (λ_ h=>h) (a4 E (a4 (λ_=>eD (x:=((qU (yr (a5 (L.getD i 0)))).length:Int)) a3 a3) (a4 (λh=>?_) λ_=>?_)))))
  .have h:(((0:Int) != 0)||decide (R.len>((qU (yr (a5 (L.getD i 0)))).length:Int)))=true:=h;rw[fe a3]at h;cases h
  refine dX c6 (λj:Nat=>(j:Int)<=R.len) (λj=>R.len.toNat - j) (λj=>[(11,I j)]) (λ_=>⟨(GB m a b (ei m.x.s l Z yr C)).c++[.d (lU R)],[a,b],[]⟩) 0 (by show(0:Int)<=R.len;omega) ⟨rfl,trivial⟩ rfl (λi=>⟨a9 _,a9 _,a9 _⟩) ?_;intro j hj;apply a4<;>intro t
  .have aa:(j:Int)<R.len:=gM t;have u:j<(gj R.rs).length:=a3
   obtain⟨A,g⟩:∃A,(gj R.rs)[j]?=some A:=⟨_,ed u⟩;have v:tp R.rs (j:Int)=some A:=by rw[Q8 p.ok a3,nE];exact g
   obtain⟨J,e2,e3⟩:=s A (oU g);have N:=MA p.ok a3 R.len (j:Int) ⟨a3,a3⟩;rw[v]at N;refine bo (N) (w7 rfl (R:=λo=>o=.ret (T2 (.d (.z .u8 (pf m.x.p A))) (I (kF m.x.p A)))) (GI (rb rfl m.x a) Y hl A hp ⟨a3,a3⟩) rfl λo ho=>?_);subst ho;conv=>whnf
   have z:pf m.x.p A=rd m.x.p A:=by unfold pf rd;rw[J];rfl
   have Q:c7 (qU (yr ((a5 (L.getD i 0):Int)).toNat)) ((j:Int)).toNat=.z .u8 (pf m.x.p A):=by rw[nE,nE,EC _ _ a3,z,<-G,eu,pr,g];rfl
   refine⟨λ_=>⟨(a3:(0:Int)<=(j:Int)),by show(j:Int)<((qU (yr (a5 (L.getD i 0)))).length:Int);omega⟩,?_⟩;conv=>whnf
   rw[Q];refine a4 (λh=>?_) λ_=>?_
   .have h:((!true||(kF m.x.p A != 0))||(pf m.x.p A != pf m.x.p A))=true:=h;rw[J]at h;simp at h
   refine b2 (x:=(j:Int)+1) ?_;conv=>whnf
   exact⟨j+1,by show((j+1:Nat):Int)<=R.len;omega,by show R.len.toNat -(j+1)<R.len.toNat - j;omega,⟨rfl,trivial⟩,⟨rfl,rfl⟩,rfl⟩
  .refine b2 (x:=(i:Int)+1) ?_;conv=>whnf
   exact⟨i+1,e,a3,⟨rfl,trivial⟩,⟨rfl,rfl⟩,rfl⟩
 .have e:i=L.length:=e9 K
  subst e;exact a4 (gK rfl m.x a) (a4 rfl rfl)
end
end Sx
namespace Sx
variable{c:Call}{M:Int}
def X1{s:St}(d:SInv s)(hd:TkD s.k){G:Rn}(f:di c.s):TkD (dz s M c G).1.k:=by
 unfold dz;cases a:fr s M c G with
 |error e=>exact hd
 |ok x=>
  obtain⟨W,r,b⟩:=x;exact((Hu f _ _ _ a).k.d d.k hd).2
def zez{s W:St}{G:Rn}{r:Rs}{y y':Nat->List Int}(d:SInv s)(hd:TkD s.k)(a:gp s.t)(b:di c.s)(h:sf s W M c G r y y'):TkD W.k/\gp W.t:=by
 rcases h with⟨_,_,rfl,_⟩|⟨_,_,_,rfl,_⟩
 .exact⟨hd,a⟩
 .exact⟨X1 d hd b,X0 a b⟩
structure AI (N:Int) (m:Mc) (y:Nat->List Int) (l:List (Int×Ow)) (kt:Nat->Tk) (yr:Nat->List Int) (k:Nat):Prop where
 mi:MI N m
 lv:tL m
 mx:MX2 k k m
 bi:BI m y
 kd:TkD m.x.s.k
 cu:gp m.x.s.t
 own:OwS m.x.s.t m.x.s.o l
 kt:KtS m.x.s.k kt
 yr:∀i,i<32->yr i=y i
 len:l.length<=100*k
section
variable {N:Int} {m:Mc} {y yr:Nat->List Int} {l:List (Int×Ow)} {Z:Nat->Tk} {k:Nat}
def AI.ex(h:AI N m y l Z yr k)(f:k<=400):ExR m.x.s l Z:=⟨h.mi.s.t,h.mi.s.k,h.own,by have:=h.len;omega,h.kt,h.cu⟩
def AI.F3(h:AI N m y l Z yr k):∀q,q / 32∈eG m.x.s.t->kF m.x.p q=0/\0<=q/\q<2048:=λq j=>by
 have f:CI N (nj m.ts) m.x c4:=⟨h.mi.n,h.mi.K,h.mi.s,.inl rfl,by
  rw[Br (r:=c4) a8,lE];exact((List.perm_append_comm.append_left _).append_left _).trans h.mi.pp⟩
 have u:=f.F3 h.mi.hN.2 (.inl j);have A:=(f.dj.2.2 _ (.inl j)).2;have:=h.mi.hN.2;exact⟨u.2,a3,a3⟩
def AI.pick(h:AI N m y l Z yr k){p:Int}(E:0<=p):((jo m p).M=m.M/\(jo m p).x.s=m.x.s/\AI N (jo m p) y l Z yr (k+1))\/
 ∃e y',(jo m p).M=m.M++[e]/\(CallOk m.x.s e.task e.c/\m.x.s.alive e.task.toNat=true)/\sf m.x.s (jo m p).x.s e.task e.c e.run e.r y y'/\
  ∀A j F,OwS (jo m p).x.s.t (jo m p).x.s.o A->KtS (jo m p).x.s.k j->A.length<=l.length+100->(∀i,i<32->F i=y' i)->AI N (jo m p) y' A j F (k+1):=by
 obtain⟨G,J⟩:=EI h.mi h.lv E;have K:=EJ h.mi h.mx E;have S:=h.len;rcases zby h.mi h.mx h.bi E with⟨C,f,u⟩|⟨e,y',C,f,u,L⟩
 .refine .inl ⟨C,f,⟨G,J,by exact_mod_cast K,u,?_,?_,?_,?_,h.yr,a3⟩⟩
  .rw[f];exact h.kd
  .rw[f];exact h.cu
  .rw[f];exact h.own
  .rw[f];exact h.kt
 .obtain⟨Q,t2⟩:=zez h.mi.s h.kd h.cu f.1.s' u;exact .inr ⟨e,y',C,f,u,λA j F M O R P=>⟨G,J,by exact_mod_cast K,L,Q,t2,M,O,P,a3⟩⟩
end
end Sx
end Go.Proofs.YtfbhkfhbnkncoaaGreatDoor
