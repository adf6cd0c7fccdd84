import Derived.Test.YtfbhkfhbnkncoaaGreatDoorV37
set_option linter.all false
set_option maxRecDepth 100000
set_option maxHeartbeats 4000000
namespace Go.Proofs.YtfbhkfhbnkncoaaGreatDoor
open Go.RowKit Tryz
open Tryz renaming prog→a6
namespace Sx
attribute [local irreducible] b6 eF fR ez eH eB eM fx dC ec dU dx
def yb(t:Tsk)(k:Nat)(v:Int):SV.d ((gC t).set [2,k] (.z .u64 v))=.d (gC ⟨t.code,t.next,a7 t.G k v⟩):=by
 refine dE (λf=>SV.d (.H (.X t.code.length qX λi=>iK (t.code.getD i lW)) (.H (.z .i64 t.next) (.H (.ar 8 .c f) .un)))) (funext λj=>?_);show(if j=k then _ else _)=D.z .u64 (if j=k then v else t.G j);by_cases h:j=k
 .rw[if_pos h,if_pos h];rfl
 .rw[if_neg h,if_neg h]
section
variable {t:Tsk} {r:Rs} {i:Ins} {z:D}
def zek:Ok a6 f197.ntmps false (gW 7 (gB f197)) (gy [(2,.B 0 []),(3,.B 1 []),(4,.B 2 []),(5,.B 3 [])] []) ⟨[.d (gC t),.d (fu r),.d mG.zero.d,.d (iK i),.d z],[],[]⟩ (gS ff 0 0 0 f197.results.toList λo m=>(∃u,o=.ret u/\u.le (.d (gC t)))/\m=⟨[],[],[]⟩):=by
 exact eJ c6 b7
def zej(a:0<=t.next)(b:t.next<=65536):Ok a6 f197.ntmps false (gW 6 (gB f197)) (gy [(2,.B 0 []),(3,.B 1 []),(4,.B 2 []),(5,.B 3 [])] []) ⟨[.d (gC t),.d (fu r),.d mG.zero.d,.d (iK i),.d z],[],[]⟩ (gS ff 0 0 0 f197.results.toList λo m=>(∃u,o=.ret u/\u.le (.d (gC ⟨t.code,t.next+1,t.G⟩)))/\m=⟨[],[],[]⟩):=by
 exact dB (b2 (x:=t.next+1) (dA (l:=[(2,.B 0 []),(3,.B 1 []),(4,.B 2 []),(5,.B 3 [])]) ⟨rfl,rfl,rfl,rfl,trivial⟩ rfl (zek (t:=⟨t.code,t.next+1,t.G⟩))))
def zei(a:0<=t.next)(b:t.next<=65536):Ok a6 f197.ntmps false (gW 5 (gB f197)) (gy [(2,.B 0 []),(3,.B 1 []),(4,.B 2 []),(5,.B 3 [])] []) ⟨[.d (gC t),.d (fu r),.d mG.zero.d,.d (iK i),.d z],[],[]⟩ (gS ff 0 0 0 f197.results.toList λo m=>(∃u,o=.ret u/\u.le (.d (gC ⟨t.code,t.next+1,a7 t.G 7 (IntKind.u64.wrap r.e)⟩)))/\m=⟨[],[],[]⟩):=by
 refine dB (a4 ⟨(a8:(0:Int)<=7),(a8:(7:Int)<8)⟩ ?_);conv=>whnf
 refine⟨_,yb t 7 (IntKind.u64.wrap r.e),?_⟩;exact dA (l:=[(2,.B 0 []),(3,.B 1 []),(4,.B 2 []),(5,.B 3 [])]) ⟨rfl,rfl,rfl,rfl,trivial⟩ rfl (zej (t:=⟨t.code,t.next,a7 t.G 7 (IntKind.u64.wrap r.e)⟩) a b)
def zeh(a:0<=t.next)(b:t.next<=65536):Ok a6 f197.ntmps false (gW 4 (gB f197)) (gy [(2,.B 0 []),(3,.B 1 []),(4,.B 2 []),(5,.B 3 [])] []) ⟨[.d (gC t),.d (fu r),.d mG.zero.d,.d (iK i),.d z],[],[]⟩ (gS ff 0 0 0 f197.results.toList λo m=>(∃u,o=.ret u/\u.le (.d (gC ⟨t.code,t.next+1,a7 (a7 t.G 4 r.w) 7 (IntKind.u64.wrap r.e)⟩)))/\m=⟨[],[],[]⟩):=by
 refine dB (a4 ⟨(a8:(0:Int)<=4),(a8:(4:Int)<8)⟩ ?_);conv=>whnf
 refine⟨_,yb t 4 r.w,?_⟩;exact dA (l:=[(2,.B 0 []),(3,.B 1 []),(4,.B 2 []),(5,.B 3 [])]) ⟨rfl,rfl,rfl,rfl,trivial⟩ rfl (zei (t:=⟨t.code,t.next,a7 t.G 4 r.w⟩) a b)
def zeg(c:0<=i.a/\i.a<256)(d:0<=t.next)(e:t.next<=65536):Ok a6 f197.ntmps false (gW 3 (gB f197)) (gy [(2,.B 0 []),(3,.B 1 []),(4,.B 2 []),(5,.B 3 [])] []) ⟨[.d (gC t),.d (fu r),.d mG.zero.d,.d (iK i),.d z],[],[]⟩ (gS ff 0 0 0 f197.results.toList λo m=>(∃u,o=.ret u/\u.le (.d (gC ⟨t.code,t.next+1,a7 (a7 (a7 t.G ((i.a.tmod 8).toNat) r.v) 4 r.w) 7 (IntKind.u64.wrap r.e)⟩)))/\m=⟨[],[],[]⟩):=by
 have a:0<=i.a.tmod 8:=z0 _ c.1;have b:i.a.tmod 8<8:=zZ _ a8;refine dB (a4 ⟨a8,iL (by simp only[eU];omega) (λ_=>a) (by simp only[eU];omega)⟩ (a4 ⟨a,b⟩ ?_));conv=>whnf
 refine⟨_,yb t (i.a.tmod 8).toNat r.v,?_⟩;exact dA (l:=[(2,.B 0 []),(3,.B 1 []),(4,.B 2 []),(5,.B 3 [])]) ⟨rfl,rfl,rfl,rfl,trivial⟩ rfl (zeh (t:=⟨t.code,t.next,a7 t.G ((i.a.tmod 8).toNat) r.v⟩) d e)
end
def VR{t:Tsk}(h:TskOk t)(r:Rs):c5 a6 197 [.d (gC t),.d (fu r)] (.d (gC (qm t r))):=by
 have b:=En h;refine zu func197 ?_;refine dB (dB (bo (IP h) (dA (l:=[(2,.B 0 []),(3,.B 1 []),(4,.B 2 []),(5,.B 3 []),(6,B (mg t))]) (U:=⟨[.d (gC t),.d (fu r),.d mG.zero.d,.d (iK (fU t))],[],[]⟩) ⟨rfl,rfl,rfl,rfl,rfl,trivial⟩ rfl ?_)));refine lL (lL (eJ c6 (bo (GO h) (dA (l:=[(2,.B 0 []),(3,.B 1 []),(4,.B 2 []),(5,.B 3 []),(6,B (mg t)),(8,B (kZ t))]) (U:=⟨[.d (gC t),.d (fu r),.d mG.zero.d,.d (iK (fU t)),.d (iC (jI t))],[],[]⟩) ⟨rfl,rfl,rfl,rfl,rfl,rfl,trivial⟩ rfl ?_))));refine eJ c6 ?_;apply a4<;>intro a
 .have a:(!mg t||!kZ t)=true:=a;refine b7 ?_;rw[show qm t r=t by unfold qm;rw[a];rfl];rfl
 .have a:(!mg t||!kZ t)=false:=a;rw[show qm t r=⟨t.code,t.next+1,a7 (a7 (a7 t.G ((fU t).a.tmod 8).toNat r.v) 4 r.w) 7 (IntKind.u64.wrap r.e)⟩ by unfold qm;rw[a];rfl];exact dA (l:=[(2,.B 0 []),(3,.B 1 []),(4,.B 2 []),(5,.B 3 [])]) ⟨rfl,rfl,rfl,rfl,trivial⟩ rfl (zeg b.a h.n0 h.n1)
end Sx
namespace Sx
variable{a b:Tsk}
abbrev Fw:SV:=.fn (.func 127) (.H (.B 3 []) (.H (.B 4 []) (.d .un)))
abbrev Fx:SV:=.fn (.func 128) (.H (.B 0 []) (.H (.B 3 []) (.H (.B 4 []) (.d .un))))
abbrev Fy:SV:=.fn (.func 129) (.H (.B 0 []) (.H (.B 3 []) (.H (.B 4 []) (.d .un))))
abbrev Fz:SV:=.fn (.func 130) (.H (.B 0 []) (.H (.B 3 []) (.H (.B 4 []) (.d .un))))
abbrev FA:SV:=.fn (.func 131) (.H (.B 3 []) (.H (.B 5 []) (.d .un)))
abbrev FB:SV:=.fn (.func 132) (.H (.B 4 []) (.H (.B 3 []) (.H (.B 5 []) (.d .un))))
def uA:List (Int×SV):=[(1,Fw),(2,Fx),(3,Fy),(4,Fz),(5,FA),(6,FB)]
attribute [local irreducible] b6 eF fR ez eH eB eM fx dC ec dU dx
def zi(c:Code):Code:=match gW 6 c with
 | .seq (.seq _ y) _=>y
 |c=>c
section
variable {t:Tsk} {i:Ins} {z:D} {n:Int}
def wM:Ok a6 f69.ntmps false (gW 7 (gB f69)) (gy [(1,.B 0 []),(2,.B 1 []),(8,.B 5 [])] []) ⟨[.d (gC t),.d mG.zero.d,.d z,.d (iK i),.B 0 [2,(i.a.tmod 8).toNat],I n],[],[.map .u8 uA]⟩ (gS ff 0 0 0 f69.results.toList λo m=>(∃u,o=.ret u/\u.le (.d (gC ⟨t.code,n,t.G⟩)))/\m=⟨[],[],[]⟩):=by
 exact dB (eJ c6 b7)
def zdX(b:InsOk i)(e:a=⟨t.code,t.next+1,(⟨t.code,t.next,a7 t.G ((i.a.tmod 8).toNat) (i.n)⟩:Tsk).G⟩):Ok a6 f69.ntmps false (zi (gB f69)) (gy [(1,.B 0 []),(2,.B 1 []),(5,.B 3 []),(7,.B 4 []),(8,.B 5 []),(10,Fw),(11,B true)] []) ⟨[.d (gC t),.d mG.zero.d,.d z,.d (iK i),.B 0 [2,(i.a.tmod 8).toNat],I (t.next+1)],[],[.map .u8 uA]⟩ (λx V m=>match x with| .U=>Ok a6 f69.ntmps false (gW 7 (gB f69)) V m (gS ff 0 0 0 f69.results.toList λo m=>(∃u,o=.ret u/\u.le (.d (gC a)))/\m=⟨[],[],[]⟩)|x=>gS ff 0 0 0 f69.results.toList (λo m=>(∃u,o=.ret u/\u.le (.d (gC a)))/\m=⟨[],[],[]⟩) x V m):=by
 subst e;refine eJ c6 (ej (ev func127 ?_));conv=>whnf
 refine⟨_,yb t ((i.a.tmod 8).toNat) i.n,?_⟩;exact dA (l:=[(1,.B 0 []),(2,.B 1 []),(8,.B 5 [])]) ⟨rfl,rfl,rfl,trivial⟩ rfl (wM (t:=⟨t.code,t.next,a7 t.G ((i.a.tmod 8).toNat) (i.n)⟩) (n:=(t.next+1)))
def zdY(b:InsOk i)(e:a=⟨t.code,t.next+1,(⟨t.code,t.next,a7 t.G ((i.a.tmod 8).toNat) (IntKind.u64.wrap (j7 t i.b+j7 t i.c))⟩:Tsk).G⟩):Ok a6 f69.ntmps false (zi (gB f69)) (gy [(1,.B 0 []),(2,.B 1 []),(5,.B 3 []),(7,.B 4 []),(8,.B 5 []),(10,Fx),(11,B true)] []) ⟨[.d (gC t),.d mG.zero.d,.d z,.d (iK i),.B 0 [2,(i.a.tmod 8).toNat],I (t.next+1)],[],[.map .u8 uA]⟩ (λx V m=>match x with| .U=>Ok a6 f69.ntmps false (gW 7 (gB f69)) V m (gS ff 0 0 0 f69.results.toList λo m=>(∃u,o=.ret u/\u.le (.d (gC a)))/\m=⟨[],[],[]⟩)|x=>gS ff 0 0 0 f69.results.toList (λo m=>(∃u,o=.ret u/\u.le (.d (gC a)))/\m=⟨[],[],[]⟩) x V m):=by
 subst e;refine eJ c6 (ej (ev func128 ?_));refine dL 11 (c9 (xY t b.b) (λ_ h=>h) (c9 (xY t b.c) (λ_ h=>h) ?_));conv=>whnf
 refine⟨_,yb t ((i.a.tmod 8).toNat) (IntKind.u64.wrap (j7 t i.b+j7 t i.c)),?_⟩;exact dA (l:=[(1,.B 0 []),(2,.B 1 []),(8,.B 5 [])]) ⟨rfl,rfl,rfl,trivial⟩ rfl (wM (t:=⟨t.code,t.next,a7 t.G ((i.a.tmod 8).toNat) (IntKind.u64.wrap (j7 t i.b+j7 t i.c))⟩) (n:=(t.next+1)))
def zdZ(b:InsOk i)(e:a=⟨t.code,t.next+1,(⟨t.code,t.next,a7 t.G ((i.a.tmod 8).toNat) (IntKind.u64.wrap (j7 t i.b - j7 t i.c))⟩:Tsk).G⟩):Ok a6 f69.ntmps false (zi (gB f69)) (gy [(1,.B 0 []),(2,.B 1 []),(5,.B 3 []),(7,.B 4 []),(8,.B 5 []),(10,Fy),(11,B true)] []) ⟨[.d (gC t),.d mG.zero.d,.d z,.d (iK i),.B 0 [2,(i.a.tmod 8).toNat],I (t.next+1)],[],[.map .u8 uA]⟩ (λx V m=>match x with| .U=>Ok a6 f69.ntmps false (gW 7 (gB f69)) V m (gS ff 0 0 0 f69.results.toList λo m=>(∃u,o=.ret u/\u.le (.d (gC a)))/\m=⟨[],[],[]⟩)|x=>gS ff 0 0 0 f69.results.toList (λo m=>(∃u,o=.ret u/\u.le (.d (gC a)))/\m=⟨[],[],[]⟩) x V m):=by
 subst e;refine eJ c6 (ej (ev func129 ?_));refine dL 11 (c9 (xY t b.b) (λ_ h=>h) (c9 (xY t b.c) (λ_ h=>h) ?_));conv=>whnf
 refine⟨_,yb t ((i.a.tmod 8).toNat) (IntKind.u64.wrap (j7 t i.b - j7 t i.c)),?_⟩;exact dA (l:=[(1,.B 0 []),(2,.B 1 []),(8,.B 5 [])]) ⟨rfl,rfl,rfl,trivial⟩ rfl (wM (t:=⟨t.code,t.next,a7 t.G ((i.a.tmod 8).toNat) (IntKind.u64.wrap (j7 t i.b - j7 t i.c))⟩) (n:=(t.next+1)))
def zd0(b:InsOk i)(e:a=⟨t.code,t.next+1,(⟨t.code,t.next,a7 t.G ((i.a.tmod 8).toNat) (ec .u64 (j7 t i.b) i.n)⟩:Tsk).G⟩):Ok a6 f69.ntmps false (zi (gB f69)) (gy [(1,.B 0 []),(2,.B 1 []),(5,.B 3 []),(7,.B 4 []),(8,.B 5 []),(10,Fz),(11,B true)] []) ⟨[.d (gC t),.d mG.zero.d,.d z,.d (iK i),.B 0 [2,(i.a.tmod 8).toNat],I (t.next+1)],[],[.map .u8 uA]⟩ (λx V m=>match x with| .U=>Ok a6 f69.ntmps false (gW 7 (gB f69)) V m (gS ff 0 0 0 f69.results.toList λo m=>(∃u,o=.ret u/\u.le (.d (gC a)))/\m=⟨[],[],[]⟩)|x=>gS ff 0 0 0 f69.results.toList (λo m=>(∃u,o=.ret u/\u.le (.d (gC a)))/\m=⟨[],[],[]⟩) x V m):=by
 subst e;refine eJ c6 (ej (ev func130 ?_));refine dL 9 (c9 (xY t b.b) (λ_ h=>h) ?_);conv=>whnf
 refine⟨_,yb t ((i.a.tmod 8).toNat) (ec .u64 (j7 t i.b) i.n),?_⟩;exact dA (l:=[(1,.B 0 []),(2,.B 1 []),(8,.B 5 [])]) ⟨rfl,rfl,rfl,trivial⟩ rfl (wM (t:=⟨t.code,t.next,a7 t.G ((i.a.tmod 8).toNat) (ec .u64 (j7 t i.b) i.n)⟩) (n:=(t.next+1)))
def zd1(b:InsOk i)(e:a=⟨t.code,i.n,(t:Tsk).G⟩):Ok a6 f69.ntmps false (zi (gB f69)) (gy [(1,.B 0 []),(2,.B 1 []),(5,.B 3 []),(7,.B 4 []),(8,.B 5 []),(10,FA),(11,B true)] []) ⟨[.d (gC t),.d mG.zero.d,.d z,.d (iK i),.B 0 [2,(i.a.tmod 8).toNat],I (t.next+1)],[],[.map .u8 uA]⟩ (λx V m=>match x with| .U=>Ok a6 f69.ntmps false (gW 7 (gB f69)) V m (gS ff 0 0 0 f69.results.toList λo m=>(∃u,o=.ret u/\u.le (.d (gC a)))/\m=⟨[],[],[]⟩)|x=>gS ff 0 0 0 f69.results.toList (λo m=>(∃u,o=.ret u/\u.le (.d (gC a)))/\m=⟨[],[],[]⟩) x V m):=by
 subst e;refine eJ c6 (ej (ev func131 ?_));exact dA (l:=[(1,.B 0 []),(2,.B 1 []),(8,.B 5 [])]) ⟨rfl,rfl,rfl,trivial⟩ rfl (wM (t:=t) (n:=i.n))
def zd2(c:InsOk i)(e:b=⟨t.code,bif (t.G ((i.a.tmod 8).toNat)) != 0 then i.n else t.next+1,(t:Tsk).G⟩):Ok a6 f69.ntmps false (zi (gB f69)) (gy [(1,.B 0 []),(2,.B 1 []),(5,.B 3 []),(7,.B 4 []),(8,.B 5 []),(10,FB),(11,B true)] []) ⟨[.d (gC t),.d mG.zero.d,.d z,.d (iK i),.B 0 [2,(i.a.tmod 8).toNat],I (t.next+1)],[],[.map .u8 uA]⟩ (λx V m=>match x with| .U=>Ok a6 f69.ntmps false (gW 7 (gB f69)) V m (gS ff 0 0 0 f69.results.toList λo m=>(∃u,o=.ret u/\u.le (.d (gC b)))/\m=⟨[],[],[]⟩)|x=>gS ff 0 0 0 f69.results.toList (λo m=>(∃u,o=.ret u/\u.le (.d (gC b)))/\m=⟨[],[],[]⟩) x V m):=by
 subst e;refine eJ c6 (ej (ev func132 ?_));apply a4<;>intro a
 .have a:((t.G ((i.a.tmod 8).toNat)) != 0)=true:=a;conv=>whnf
  rw[show(bif (t.G ((i.a.tmod 8).toNat)) != 0 then i.n else t.next+1)=i.n by rw[a];rfl];exact dA (l:=[(1,.B 0 []),(2,.B 1 []),(8,.B 5 [])]) ⟨rfl,rfl,rfl,trivial⟩ rfl (wM (t:=t) (n:=i.n))
 .have a:((t.G ((i.a.tmod 8).toNat)) != 0)=false:=a;conv=>whnf
  rw[show(bif (t.G ((i.a.tmod 8).toNat)) != 0 then i.n else t.next+1)=t.next+1 by rw[a];rfl];exact dA (l:=[(1,.B 0 []),(2,.B 1 []),(8,.B 5 [])]) ⟨rfl,rfl,rfl,trivial⟩ rfl (wM (t:=t) (n:=(t.next+1)))
def zdS(a:InsOk i)(r:1<=i.op)(f:i.op<=16)(e:b=⟨t.code,bif (i.op==5)||((i.op==6)&&((t.G ((i.a.tmod 8).toNat)) != 0))then i.n else t.next+1,bif i.op==1 then a7 t.G ((i.a.tmod 8).toNat) i.n else bif i.op==2 then a7 t.G ((i.a.tmod 8).toNat) (IntKind.u64.wrap (j7 t i.b+j7 t i.c))else bif i.op==3 then a7 t.G ((i.a.tmod 8).toNat) (IntKind.u64.wrap (j7 t i.b - j7 t i.c))else bif i.op==4 then a7 t.G ((i.a.tmod 8).toNat) (ec .u64 (j7 t i.b) i.n)else t.G⟩):Ok a6 f69.ntmps false (gW 6 (gB f69)) (gy [(1,.B 0 []),(2,.B 1 []),(5,.B 3 []),(7,.B 4 []),(8,.B 5 []),(9,.ob (.mo 0))] []) ⟨[.d (gC t),.d mG.zero.d,.d z,.d (iK i),.B 0 [2,(i.a.tmod 8).toNat],I (t.next+1)],[],[.map .u8 uA]⟩ (gS ff 0 0 0 f69.results.toList λo m=>(∃u,o=.ret u/\u.le (.d (gC b)))/\m=⟨[],[],[]⟩):=by
 refine lL (lL (eJ c6 (a4 (λh=>?_) λd=>?_)))
 .have h:i.op=1:=h;exact dA (l:=[(1,.B 0 []),(2,.B 1 []),(5,.B 3 []),(7,.B 4 []),(8,.B 5 []),(10,Fw),(11,B true)]) ⟨rfl,rfl,rfl,rfl,rfl,rfl,rfl,trivial⟩ rfl (zdX a (by rw[e,h];rfl))
 refine a4 (λh=>?_) λg=>?_
 .have h:i.op=2:=h;exact dA (l:=[(1,.B 0 []),(2,.B 1 []),(5,.B 3 []),(7,.B 4 []),(8,.B 5 []),(10,Fx),(11,B true)]) ⟨rfl,rfl,rfl,rfl,rfl,rfl,rfl,trivial⟩ rfl (zdY a (by rw[e,h];rfl))
 refine a4 (λh=>?_) λj=>?_
 .have h:i.op=3:=h;exact dA (l:=[(1,.B 0 []),(2,.B 1 []),(5,.B 3 []),(7,.B 4 []),(8,.B 5 []),(10,Fy),(11,B true)]) ⟨rfl,rfl,rfl,rfl,rfl,rfl,rfl,trivial⟩ rfl (zdZ a (by rw[e,h];rfl))
 refine a4 (λh=>?_) λk=>?_
 .have h:i.op=4:=h;exact dA (l:=[(1,.B 0 []),(2,.B 1 []),(5,.B 3 []),(7,.B 4 []),(8,.B 5 []),(10,Fz),(11,B true)]) ⟨rfl,rfl,rfl,rfl,rfl,rfl,rfl,trivial⟩ rfl (zd0 a (by rw[e,h];rfl))
 refine a4 (λh=>?_) λp=>?_
 .have h:i.op=5:=h;exact dA (l:=[(1,.B 0 []),(2,.B 1 []),(5,.B 3 []),(7,.B 4 []),(8,.B 5 []),(10,FA),(11,B true)]) ⟨rfl,rfl,rfl,rfl,rfl,rfl,rfl,trivial⟩ rfl (zd1 a (by rw[e,h];rfl))
 refine a4 (λh=>?_) λq=>?_
 .have h:i.op=6:=h;exact dA (l:=[(1,.B 0 []),(2,.B 1 []),(5,.B 3 []),(7,.B 4 []),(8,.B 5 []),(10,FB),(11,B true)]) ⟨rfl,rfl,rfl,rfl,rfl,rfl,rfl,trivial⟩ rfl (zd2 a (by rw[e,h];rfl))
 refine dA (l:=[(1,.B 0 []),(2,.B 1 []),(8,.B 5 []),(11,.d (.I false))]) (U:=⟨[.d (gC t),.d mG.zero.d,.d z,.d (iK i),.B 0 [2,(i.a.tmod 8).toNat],I (t.next+1)],[],[.map .u8 uA]⟩) ⟨rfl,rfl,rfl,rfl,trivial⟩ rfl ?_;refine eJ c6 (b0 ?_);conv=>whnf
 have c:b=⟨t.code,t.next+1,t.G⟩:=by rw[e,show(i.op==1)=false from nH d,show(i.op==2)=false from nH g,show(i.op==3)=false from nH j,show(i.op==4)=false from nH k,show(i.op==5)=false from nH p,show(i.op==6)=false from nH q];rfl
 rw[c];exact dA (l:=[(1,.B 0 []),(2,.B 1 []),(8,.B 5 [])]) ⟨rfl,rfl,rfl,trivial⟩ rfl (wM (t:=t) (n:=(t.next+1)))
end
def VN{t:Tsk}(h:TskOk t):c5 a6 69 [.d (gC t)] (.d (gC (rZ t))):=by
 have c:=En h;have k:=h.n0;have m:=h.n1;have d:0<=(fU t).a.tmod 8:=z0 _ c.a.1;have e:(fU t).a.tmod 8<8:=zZ _ a8;refine zu func69 ?_;refine dB (lL (lL (eJ c6 (bo (GO h) (dA (l:=[(1,.B 0 []),(2,.B 1 []),(4,B (kZ t))]) (U:=⟨[.d (gC t),.d mG.zero.d,.d (iC (jI t))],[],[]⟩) ⟨rfl,rfl,rfl,trivial⟩ rfl ?_)))));refine eJ c6 ?_;apply a4<;>intro a
 .have a:kZ t=true:=a;refine b7 ?_;rw[show rZ t=t by unfold rZ;rw[a];rfl];rfl
 .have a:kZ t=false:=a;have b:1<=(fU t).op/\(fU t).op<=16:=by have:=c.op.1;unfold kZ at a;simp only[gX,lD,fc,fY,Bool.not_eq_eq_eq_not]at a;have j:=a.1.2;have f:=a.2;exact⟨a3,b8 f⟩
  refine dA (l:=[(1,.B 0 []),(2,.B 1 [])]) (U:=⟨[.d (gC t),.d mG.zero.d,.d (iC (jI t))],[],[]⟩) ⟨rfl,rfl,trivial⟩ rfl ?_;refine dB (bo (IP h) (dA (l:=[(1,.B 0 []),(2,.B 1 []),(5,.B 3 [])]) (U:=⟨[.d (gC t),.d mG.zero.d,.d (iC (jI t)),.d (iK (fU t))],[],[]⟩) ⟨rfl,rfl,rfl,trivial⟩ rfl ?_));refine dB (a4 ⟨a8,iL (by simp only[eU];omega) (λ_=>d) (by simp only[eU];omega)⟩ (a4 ⟨d,e⟩ (dA (l:=[(1,.B 0 []),(2,.B 1 []),(5,.B 3 []),(7,.B 4 [])]) (U:=⟨[.d (gC t),.d mG.zero.d,.d (iC (jI t)),.d (iK (fU t)),.B 0 [2,((fU t).a.tmod 8).toNat]],[],[]⟩) ⟨rfl,rfl,rfl,rfl,trivial⟩ rfl ?_)));refine dB (b2 (x:=t.next+1) (dA (l:=[(1,.B 0 []),(2,.B 1 []),(5,.B 3 []),(7,.B 4 []),(8,.B 5 [])]) (U:=⟨[.d (gC t),.d mG.zero.d,.d (iC (jI t)),.d (iK (fU t)),.B 0 [2,((fU t).a.tmod 8).toNat],I (t.next+1)],[],[]⟩) ⟨rfl,rfl,rfl,rfl,rfl,trivial⟩ rfl ?_));refine dB (R8 (sr [(9,[],some (.ob (.mo 0))),(39,[],some (.ob (.mo 0))),(38,[],some FB),(37,[],some FA),(36,[],some Fz),(35,[],some Fy),(34,[],some Fx),(33,[],some Fw),(32,[],some (.ob (.mo 0)))] (gy [(1,.B 0 []),(2,.B 1 []),(5,.B 3 []),(7,.B 4 []),(8,.B 5 [])] [])) ⟨[.d (gC t),.d mG.zero.d,.d (iC (jI t)),.d (iK (fU t)),.B 0 [2,((fU t).a.tmod 8).toNat],I (t.next+1)],[],[.map .u8 uA]⟩ (λg=>ey) ?_);exact dA (l:=[(1,.B 0 []),(2,.B 1 []),(5,.B 3 []),(7,.B 4 []),(8,.B 5 []),(9,.ob (.mo 0))]) ⟨rfl,rfl,rfl,rfl,rfl,rfl,trivial⟩ rfl (zdS (z:=iC (jI t)) c b.1 b.2 (by unfold rZ;rw[a];rfl))
end Sx
namespace Sx
def yY(r:Rr):D:=.H (gC r.t) (.H (md r.c) (.H (.I r.busy) (.H (.z .i64 r.J) .un)))
def mR(e:Ev):D:=.H (.z .i64 e.task) (.H (iC e.c) (.H (dR e.run) (.H (fu e.r) (.H (.z .i64 e.J) (.H (.z .i64 e.W) .un)))))
def BS:Ty:=(yY ⟨⟨[],0,λ_=>0⟩,iT,false,0⟩).shape
def jj:Ty:=(mR ⟨0,fO 0,c4,nP,0,0⟩).shape
abbrev lj(l:List Ev):List D:=l.map mR
def nK(C:Nat->Rr):D:=.ar 8 BS λi=>yY (C i)
def fH(m:Mc)(b:Nat):SV:=.H (.B 2 []) (.H (.d (nK m.ts)) (.H (I m.now) (.H (gx 2 b jj (lj m.M)) (.d .un))))
abbrev MM(m:Mc)(a b:Nat):MS:=MC (fH m b) m.x a b
def xF(m:Mc)(b:Nat):(fH m b).ids 3 2 0=true:=rfl
attribute [local irreducible] b6 eF fR ez eH eB eM fx dC ec dU dx
section
variable {m:Mc} {a b:Nat}
def Da(t:Int):b6 a6 30 [.B 0 [],I t] (MM m a b) λo U=>o=.ret (B (jW m t))/\U=MM m a b:=by
 refine fm func30 ?_;refine a4 (λc=>?_) ?_
 .have c:(decide (t>=0)&&decide (t<8))=true:=c;simp only[dH,fY]at c;exact⟨c.1,c.2⟩
 exact a4 (gw rfl (gK (xF m b) m.x a)) (a4 rfl rfl)
def Li(C:Nat->Rr)(t:Nat)(x:Tsk):(nK C).set [t,0] (gC x)=nK (a7 C t {C t with t:=x}):=by
 refine dE (λf=>D.ar 8 BS f) (funext λj=>?_);show(if j=t then _ else _)=yY (if j=t then{C t with t:=x}else C j);by_cases h:j=t
 .rw[if_pos h,if_pos h];rfl
 .rw[if_neg h,if_neg h]
def BU(C:Nat->Rr)(t:Nat)(x:Rt):(nK C).set [t,1] (md x)=nK (a7 C t {C t with c:=x}):=by
 refine dE (λf=>D.ar 8 BS f) (funext λj=>?_);show(if j=t then _ else _)=yY (if j=t then{C t with c:=x}else C j);by_cases h:j=t
 .rw[if_pos h,if_pos h];rfl
 .rw[if_neg h,if_neg h]
def Lj(C:Nat->Rr)(t:Nat)(x:Bool):(nK C).set [t,2] (.I x)=nK (a7 C t {C t with busy:=x}):=by
 refine dE (λf=>D.ar 8 BS f) (funext λj=>?_);show(if j=t then _ else _)=yY (if j=t then{C t with busy:=x}else C j);by_cases h:j=t
 .rw[if_pos h,if_pos h];rfl
 .rw[if_neg h,if_neg h]
def zeE(C:Nat->Rr)(t:Nat)(x:Int):(nK C).set [t,3] (.z .i64 x)=nK (a7 C t {C t with J:=x}):=by
 refine dE (λf=>D.ar 8 BS f) (funext λj=>?_);show(if j=t then _ else _)=yY (if j=t then{C t with J:=x}else C j);by_cases h:j=t
 .rw[if_pos h,if_pos h];rfl
 .rw[if_neg h,if_neg h]
def Eh(c:Rn)(A d:Int)(h:dx (d - A)):c5 a6 126 [.d (dR c),I A,I d] (.d (dR (ky c A d))):=by
 refine dq func126 ?_;refine a4 h ?_;apply a4<;>intro e
 .have e:(decide (d - A>=c.n)&&decide (c.n>0))=true:=e;exact b7 (by unfold ky;rw[e];rfl)
 .have e:(decide (d - A>=c.n)&&decide (c.n>0))=false:=e;exact b7 (by unfold ky;rw[e];rfl)
def BX{α:Type}(f:Nat->α)(t:Nat)(x y:α):a7 (a7 f t x) t y=a7 f t y:=by
 funext j;unfold a7;split<;>rfl
abbrev M6(m:Mc)(a b:Nat)(l:List SV):MS:=⟨fH m b::.d (dT m.x.p)::eO m.x a::l,[a,b],[]⟩
def rM{C c:D}(n:SV)(q:SV)(h:C=c):SV.H (.B 2 []) (.H (.d C) (.H n (.H q (.d .un))))=.H (.B 2 []) (.H (.d c) (.H n (.H q (.d .un)))):=by rw[h]
def Yf{t:Nat}(i:t<8)(c:Rt)(G:Rn)(r:Rs)(f:TskOk (m.ts t).t)(g:m.M.length<=1000000):b6 a6 125 [.B 0 [],I t,.d (md c),.d (dR G),.d (fu r)] (MM m a b) λo U=>o=l0/\∃d,U=MM (pC m t c G r) a d:=by
 refine ov func125 ?_;refine dB ?_;conv=>whnf
 refine dB ?_;conv=>whnf
 refine⟨⟨(a3:(0:Int)<=(t:Int)),(a3:(t:Int)<8)⟩,?_⟩;conv=>whnf
 refine dA (l:=[(0,.B 0 []),(1,I t),(7,.B 3 []),(8,.B 4 []),(9,.B 5 []),(10,.B 0 [1,t])]) (U:=M6 m a b [.d (md c),.d (dR G),.d (fu r)]) ⟨rfl,rfl,rfl,rfl,rfl,rfl,trivial⟩ rfl ?_;refine dB ?_;conv=>whnf
 refine fg (List.range 24) [(19,31),(20,1),(23,0)] ?_;conv=>whnf
 refine Or.inl ?_;conv=>whnf
 refine⟨(show _/\_ from⟨rfl,rfl⟩),kT ?_ ?_⟩;rotate_left
 .repeat' (first|exact trivial|refine iF (show _/\_ from⟨rfl,rfl⟩) ?_)
 conv=>whnf
 refine⟨⟨rfl,(by rw[dD];omega:(lj m.M).length+1<=2147483648)⟩,?_⟩;conv=>whnf
 refine dA (l:=[(9,.B 5 []),(10,.B 0 [1,t])]) (U:=M6 {m with M:=m.M++[⟨t,c.c,G,r,(m.ts t).J,m.now⟩]} a (b+1) [.d (md c),.d (dR G),.d (fu r)]) ⟨rfl,rfl,trivial⟩ ?_ ?_
 .have e:=kA 2 (b+1) jj (lj m.M) [mR ⟨t,c.c,G,r,(m.ts t).J,m.now⟩];rw[<-z5,<-je]at e;exact g9 (ce (dE (λq=>SV.H (.B 2 []) (.H (.d (nK m.ts)) (.H (I m.now) (.H q (.d .un))))) e) rfl) rfl rfl
 refine dB ?_;conv=>whnf
 refine dL 9 ?_;conv=>whnf
 refine c9 (VR f r) (λ_ h=>h) ?_;conv=>whnf
 refine⟨fH {m with M:=m.M++[⟨t,c.c,G,r,(m.ts t).J,m.now⟩],ts:=a7 m.ts t {m.ts t with t:=qm (m.ts t).t r}} (b+1),rM _ _ (Li m.ts t (qm (m.ts t).t r)),?_⟩;conv=>whnf
 refine dA (l:=[(9,.B 5 []),(10,.B 0 [1,t])]) (U:=M6 {m with M:=m.M++[⟨t,c.c,G,r,(m.ts t).J,m.now⟩],ts:=a7 m.ts t {m.ts t with t:=qm (m.ts t).t r}} a (b+1) [.d (md c),.d (dR G),.d (fu r)]) ⟨rfl,rfl,trivial⟩ rfl ?_;refine eJ c6 ?_;conv=>whnf
 refine⟨_,rM _ _ (Lj (a7 m.ts t {m.ts t with t:=qm (m.ts t).t r}) t false),?_⟩;conv=>whnf
 refine⟨_,rM _ _ (BU (a7 (a7 m.ts t {m.ts t with t:=qm (m.ts t).t r}) t {(a7 m.ts t {m.ts t with t:=qm (m.ts t).t r}) t with busy:=false}) t iT),?_⟩;conv=>whnf
 refine⟨gw rfl (gK rfl m.x a),rfl,b+1,?_⟩;refine g9 (ce ?_ rfl) rfl rfl;refine rM _ _ (dE nK ?_);rw[BX,BX,dN,dN];rfl
end
end Sx
namespace Sx
def jE(m:Mc)(i:Nat):Mc:=(List.range i).foldl kp m
def Hz(m:Mc)(i:Nat):jE m (i+1)=kp (jE m i) i:=by unfold jE;rw[mC,pq];rfl
structure CJ (m m':Mc) (i:Nat):Prop where
 ts:∀j,i<=j->m'.ts j=m.ts j
 q:m'.x.q.length<=m.x.q.length+64*i
 C5:gE m'.x.m
 al:m'.x.s=m.x.s
def NO{m:Mc}(g:gE m.x.m)(k:∀i,i<8->ko (m.ts i).c.run):∀i,i<=8->CJ m (jE m i) i
 |0,_=>⟨λ_ _=>rfl,a9 _,g,rfl⟩
 |i+1,h=>by
  obtain⟨c,n,d,f⟩:=NO g k i (by omega);rw[Hz];unfold kp;cases o:((jE m i).ts i).busy&&!jW (jE m i) i with
  |false=>exact⟨λj l=>c j (by omega),by show(jE m i).x.q.length<=_;omega,d,f⟩
  |true=>
   refine⟨λj l=>?_,?_,AD _ _ d,f⟩
   .show a7 (jE m i).ts i _ j=_;rw[dP (by omega)];exact c j (by omega)
   .show((jE m i).x.q++pg ((jE m i).ts i).c.run).length<=_;rw[ew,c i (a9 _)];have e:(pg (m.ts i).c.run).length=(m.ts i).c.run.n.toNat:=by simp[pg]
    rcases k i (by omega)with h|h
    .rw[e,h];simp only[Int.toNat_zero];omega
    .unfold dw at h;omega
attribute [local irreducible] b6 eF fR ez eH eB eM fx dC ec dU dx
section
variable {m:Mc} {a b:Nat}
def Wm{Z:SV}{x:Cr}{f:List SV}{t2:List Nat}{j:List Ob}(i:Z.ids 3 2 0=true)(c:Rt)(r:ko c.run)(q:x.q.length<=1000000)(n:gE x.m){K:Out->MS->Prop}(l:∀T,K l0 ⟨Z::.d (dT (jO x c).p)::eO (jO x c) T::f,T::b::t2,j⟩):b6 a6 70 [.B 2 [],.d (md c)] ⟨Z::.d (dT x.p)::eO x a::f,a::b::t2,j⟩ K:=
 Aj (a:=a) (b:=b) i (LU i c r q n) rfl (λo m ⟨_,T,h⟩=>⟨_,T,h⟩) λo t T ⟨p,s,d⟩=>by have e:=dE MS.c d;have g:=dE MS.t d;simp only[oP,px,FJ]at e g;obtain⟨k,e⟩:=e;subst p g;rw[k,e];exact l T
def W3(q:gE m.x.m)(k:∀i,i<8->ko (m.ts i).c.run)(t:m.x.q.length<=2000):b6 a6 33 [.B 0 []] (MM m a b) λo U=>o=l0/\∃T,U=MM (p4 m) T b:=by
 refine fm func33 ?_;conv=>whnf
 refine dX c6 (λj:Nat×Nat=>j.1<=8) (λj=>8 - j.1) (λj=>[(4,I j.1)]) (λj=>MM (jE m j.1) j.2 b) (0,a) (dG _) ⟨rfl,trivial⟩ rfl (λj=>⟨a9 _,a9 _,a9 _⟩) ?_;intro j g;obtain⟨i,a⟩:=j;have g:i<=8:=g;obtain⟨n,r,p,s⟩:=NO q k i g;conv=>whnf
 apply a4<;>intro l
 .have d:i<8:=by
   have:(i:Int)<8:=b8 l
   omega
  conv=>whnf
  refine⟨⟨(a3:(0:Int)<=(i:Int)),(a3:(i:Int)<8)⟩,?_⟩;conv=>whnf
  refine mI (v:=B (jW (jE m i) i)) (Da (m:=jE m i) (a:=a) (b:=b) i) (λ_ h _=>h) ?_;conv=>whnf
  apply a4<;>intro f
  .have f:(((jE m i).ts i).busy&&!jW (jE m i) i)=true:=f;have e:jE m (i+1)={jE m i with x:=jO (jE m i).x ((jE m i).ts i).c,ts:=a7 (jE m i).ts i {(jE m i).ts i with c:=iT,busy:=false}}:=by rw[Hz];unfold kp;rw[f];rfl
   conv=>whnf
   refine dL 8 ?_;conv=>whnf
   refine Wm (Z:=fH (jE m i) b) (x:=(jE m i).x) rfl ((jE m i).ts i).c (by rw[n i (a9 _)];exact k i d) a3 p λT=>?_;conv=>whnf
   refine⟨_,rM _ _ (Lj (jE m i).ts i false),?_⟩;conv=>whnf
   refine⟨_,rM _ _ (BU (a7 (jE m i).ts i {(jE m i).ts i with busy:=false}) i iT),?_⟩;conv=>whnf
   refine b2 (x:=(i:Int)+1) ?_;conv=>whnf
   refine⟨(i+1,T),d,by show 8 -(i+1)<8 - i;omega,⟨rfl,trivial⟩,⟨?_,rfl⟩,rfl⟩;show _=MM (jE m (i+1)) T b;rw[e];refine g9 (ce ?_ rfl) rfl rfl;refine rM _ _ (dE nK ?_);rw[BX,dN]
  .have f:(((jE m i).ts i).busy&&!jW (jE m i) i)=false:=f;have e:jE m (i+1)=jE m i:=by rw[Hz];unfold kp;rw[f];rfl
   conv=>whnf
   refine b2 (x:=(i:Int)+1) ?_;conv=>whnf
   refine⟨(i+1,a),d,by show 8 -(i+1)<8 - i;omega,⟨rfl,trivial⟩,⟨?_,rfl⟩,rfl⟩;show _=MM (jE m (i+1)) a b;rw[e];rfl
 .have d:i=8:=by
   have:¬(i:Int)<8:=b8 l
   omega
  subst d;conv=>whnf
  exact⟨gw rfl (gK rfl (jE m 8).x a),rfl,a,rfl⟩
end
end Sx
end Go.Proofs.YtfbhkfhbnkncoaaGreatDoor
