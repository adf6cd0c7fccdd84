import Derived.Test.YtfbhkfhbnkncoaaGreatDoorV10
import Derived.RangeFuncIn
set_option linter.all false
namespace Go.Proofs.YtfbhkfhbnkncoaaGreatDoor
open Go.RowKit
namespace Sx
variable {E:Gh} {r:Option Nat} {nn:Nat}
variable {P:Program} {tb:TT}
variable{as:Code}{f:FuncId}{V:List Ent}{ps:List Nat}{args:List SV}{N b i j k n:Nat}{F:Nat->D}{α:Type}
def Io(E:Gh)(R:Nat->Prop)(e:Ro)(f:World):Gh where
 Y O S w:=(∀b,R b->b<f.heap.size/\w.heap[b]?=f.heap[b]?/\O b=e b/\¬S b)/\f.heap.size<=w.heap.size/\E.Y O (λb=>R b\/S b) w
 on {O S w ro' S' M} h hG hk:=by
  obtain⟨l,n,o⟩:=h;refine⟨λb a=>?_,eY n hG.size,E.on o ⟨hG.os,hG.tape,hG.output,hG.size,λb a p=>hG.old b a λd=>p (.inr d),hG.r,λb a=>?_⟩ hk⟩
  .obtain⟨i,j,k,g⟩:=l b a;obtain⟨q,s⟩:=hG.old b a3 g;exact⟨i,q.trans j,s.trans k,λd=>(hG.new b d).elim g a3⟩
  .rcases a with a|a
   .exact .inl (.inl a)
   .rcases hG.new b a with c|c
    .exact .inl (.inr c)
    .exact .inr c
def Bl.hi(J:Bl)(n k j b:Nat):Prop:=(∃(id:Nat) (x:Nat×Ty),n<=id/\J.b[id]?=some x/\x.1=b)\/(∃(id:Nat) (e:Option Nat×Nat×Nat),k<=id/\J.t[id]?=some e/\e.1=some b)\/(∃(id:Nat) (x:BO),j<=id/\J.o[id]?=some x/\x.N=some b)
def KW{l:List α}{x:α}(h:(l.take n)[i]?=some x):i<n/\l[i]?=some x:=by
 rw[Cz]at h;split at h
 .exact⟨by assumption,h⟩
 .cases h
def xu{J:Bl}(h:J.hi n k j b):J.hb b:=by
 rcases h with⟨id,x,_,h⟩|⟨id,x,_,h⟩|⟨id,x,_,h⟩
 .exact .inl ⟨id,x,h⟩
 .exact .inr (.inl ⟨id,x,h⟩)
 .exact .inr (.inr ⟨id,x,h⟩)
section
variable {O:Ro} {J:Bl} {m:MS} {w:World}
def MemC.D8(h:MemC O J m w){id:Nat}{e:Option Nat×Nat×Nat}(u:J.t[id]?=some e)(j:e.1=some b):∃Y,O b=some Y:=by obtain⟨Y,_,_,f,_⟩:=h.tail id e b u j;exact⟨Y,f⟩
def MemC.G6(h:MemC O J m w)(N:J.hi n k j b):¬(J.take n k j).hb b:=by
 rintro(⟨id,x,K,rfl⟩|⟨id,e,M,F⟩|⟨id,y,L,F⟩)
 .obtain⟨G,K⟩:=KW K;rcases N with⟨i,z,f,u,e⟩|⟨i,z,f,u,e⟩|⟨i,z,f,u,e⟩
  .have:=h.inj _ _ _ _ K u e.symm;omega
  .obtain⟨Y,C⟩:=h.D8 u e;rw[h.C0 (t:=x.2) K]at C;cases C
  .exact h.I _ _ _ _ K u e
 .obtain⟨G,M⟩:=KW M;obtain⟨Y,C⟩:=h.D8 M F;rcases N with⟨i,z,f,u,A⟩|⟨i,z,f,u,A⟩|⟨i,z,f,u,A⟩
  .subst A;rw[h.C0 (t:=z.2) u]at C;cases C
  .have:=h.A3 _ _ _ _ _ M u F A;omega
  .rw[h.C6 u A]at C;cases C
 .obtain⟨G,L⟩:=KW L;rcases N with⟨i,z,f,u,A⟩|⟨i,z,f,u,A⟩|⟨i,z,f,u,A⟩
  .subst A;exact h.I _ _ _ _ u L F
  .obtain⟨Y,C⟩:=h.D8 u A;rw[h.C6 L F]at C;cases C
  .have:=h.A2 _ _ _ _ _ L u F A;omega
end
def Dn{O:Ro}{J:Bl}{n k j:Nat}:∀{args:List SV} {G:List Value},jf O J args G->eV n k j args=true->jf O (J.take n k j) args G
 |[],[],_,_=>trivial
 |u::r,x::G,h,a=>by simp only[eV,dH]at a;exact⟨h.1.drop a.1,Dn h.2 a.2⟩
 |[],_::_,h,_=>h.elim
 |_::_,[],h,_=>h.elim
def Hf{l r:List α}{x:α}(b:l.length=n)(h:(l++r.drop n)[i]?=some x):(i<n/\l[i]?=some x)\/(n<=i/\r[i]?=some x):=by
 rcases jB i n with a|a
 .rw[pV a3]at h;exact .inl ⟨a,h⟩
 .rw[oh a3,sT,b,show n+(i - n)=i by omega]at h;exact .inr ⟨a,h⟩
def yy{l r:List α}{x:α}(h:l[i]?=some x):(l++r)[i]?=some x:=by rw[pV (iA.1 h).1];exact h
def yx{l r:List α}{x:α}(a:l.length=n)(b:n<=i)(h:r[i]?=some x):(l++r.drop n)[i]?=some x:=by rw[oh a3,sT,a,show n+(i - n)=i by omega];exact h
def Ip{O:Ro}{J:Bl}{w:World}{m:MS}(L:Mem E O J m w){u:Ro}{g:Bl}{U:MS}{M:World}(s:Mem (Io E (J.hi n k j) O w) u g U M)(K:Gr O (J.take n k j) w u g M)(z:(n<=m.c.length/\k<=m.t.length/\j<=m.o.length)/\U.c.length=n/\U.t.length=k/\U.o.length=j):
 ∃f,Mem E u f ⟨U.c++m.c.drop n,U.t++m.t.drop k,U.o++m.o.drop j⟩ M/\Gr O J w u f M/\Le u g u f/\(∀b,f.hb b↔g.hb b\/J.hi n k j b):=by
 obtain⟨⟨m1,m2,m3⟩,k1,k2,k3⟩:=z;obtain⟨l1,l2,l3⟩:=s.lens;rw[k1]at l1;rw[k2]at l2;rw[k3]at l3;obtain⟨Z,ah,hY⟩:=s.gh;have ag:g.k=J.k:=K.k;have ad:g.g=J.g:=K.le.g;obtain⟨f,c⟩:∃f:Bl,f=⟨g.b++J.b.drop n,g.t++J.t.drop k,g.o++J.o.drop j,J.k,J.g⟩:=⟨_,rfl⟩;have gb:∀{i x},f.b[i]?=some x->(i<n/\g.b[i]?=some x)\/(n<=i/\J.b[i]?=some x):=λa=>by rw[c]at a;exact Hf l1 a
 have gt:∀{i x},f.t[i]?=some x->(i<k/\g.t[i]?=some x)\/(k<=i/\J.t[i]?=some x):=λa=>by rw[c]at a;exact Hf l2 a
 have go:∀{i x},f.o[i]?=some x->(i<j/\g.o[i]?=some x)\/(j<=i/\J.o[i]?=some x):=λa=>by rw[c]at a;exact Hf l3 a
 have A:Le u g u f:=by rw[c];exact⟨Ro.le_refl _,λ_ _ h=>yy h,λ_ e h=>⟨e,yy h,a9 _,λ_=>⟨rfl,λ_ _=>rfl⟩⟩,λ_ x h=>⟨x,yy h,x.le_refl⟩,ad.symm⟩
 have V:Le O J u f:=by
  refine⟨K.le.r,λid x a=>?_,λid e G=>?_,λid x a=>?_,by rw[c]⟩
  .rcases jB id n with z|z
   .exact A.b _ _ (K.le.b id x (qJ a z))
   .rw[c];exact yx l1 z a
  .rcases jB id k with z|z
   .obtain⟨e',d,o⟩:=K.le.t id e (qJ G z);obtain⟨e2,p,F,h5⟩:=A.t id e' d;obtain⟨h6,h7⟩:=o;refine⟨e2,p,eY h6 F,λhq=>?_⟩;obtain⟨R,S⟩:=h5 a3;subst R;exact h7 a3
   .refine⟨e,by rw[c];exact yx l2 z G,a9 _,λ_=>⟨rfl,λb C=>(Z b (.inr (.inl ⟨id,e,z,G,C⟩))).2.2.1⟩⟩
  .rcases jB id j with z|z
   .obtain⟨x',d,o⟩:=K.le.o id x (qJ a z);obtain⟨x2,p,F⟩:=A.o id x' d;exact⟨x2,p,BO.le_trans o F⟩
   .exact⟨x,by rw[c];exact yx l3 z a,x.le_refl⟩
 have q:∀{b},J.hi n k j b->g.hb b->False:=λd o=>(Z _ d).2.2.2 (.inl o);have Q:∀{i x},n<=i->J.b[i]?=some x->J.hi n k j x.1:=λd o=>.inl ⟨_,_,d,o,rfl⟩;have T:∀{i x b},k<=i->J.t[i]?=some x->x.1=some b->J.hi n k j b:=λd o p=>.inr (.inl ⟨_,_,d,o,p⟩);have N:∀{i x b},j<=i->J.o[i]?=some x->x.N=some b->J.hi n k j b:=λd o p=>.inr (.inr ⟨_,_,d,o,p⟩);have ab:∀b,f.hb b↔g.hb b\/J.hi n k j b:=λb=>by
  constructor
  .rintro(⟨i,x,a,e⟩|⟨i,x,a,e⟩|⟨i,x,a,e⟩)
   .rcases gb a with⟨_,a⟩|⟨d,a⟩
    .exact .inl (.inl ⟨i,x,a,e⟩)
    .exact .inr (.inl ⟨i,x,d,a,e⟩)
   .rcases gt a with⟨_,a⟩|⟨d,a⟩
    .exact .inl (.inr (.inl ⟨i,x,a,e⟩))
    .exact .inr (.inr (.inl ⟨i,x,d,a,e⟩))
   .rcases go a with⟨_,a⟩|⟨d,a⟩
    .exact .inl (.inr (.inr ⟨i,x,a,e⟩))
    .exact .inr (.inr (.inr ⟨i,x,d,a,e⟩))
  .rintro((⟨i,x,a,e⟩|⟨i,x,a,e⟩|⟨i,x,a,e⟩)|(⟨i,x,d,a,e⟩|⟨i,x,d,a,e⟩|⟨i,x,d,a,e⟩))
   .exact .inl ⟨i,x,by rw[c];exact yy a,e⟩
   .exact .inr (.inl ⟨i,x,by rw[c];exact yy a,e⟩)
   .exact .inr (.inr ⟨i,x,by rw[c];exact yy a,e⟩)
   .exact .inl ⟨i,x,by rw[c];exact yx l1 d a,e⟩
   .exact .inr (.inl ⟨i,x,by rw[c];exact yx l2 d a,e⟩)
   .exact .inr (.inr ⟨i,x,by rw[c];exact yx l3 d a,e⟩)
 have hC:MemC u f ⟨U.c++m.c.drop n,U.t++m.t.drop k,U.o++m.o.drop j⟩ M:=by
  refine⟨?_,?_,λi b t v C hc=>?_,λi W x y a l G=>?_,λi e b G C=>?_,λi W e1 e2 b d o p F=>?_,s.known,?_,λi y x l a=>?_,λi W x y b a l p F=>?_,λi W x y a l p=>?_⟩
  .have:=L.len;rw[c];simp only[ew,oS]at this ⊢;omega
  .have d:=s.A6;have o:=L.A6;rw[c];simp only[je,List.map_drop]at o ⊢;rw[d,o]
  .rcases gb C with⟨z,C⟩|⟨z,C⟩
   .rw[pV a3]at hc;obtain⟨cl,e',d,o,p⟩:=s.box i b t v C hc;exact⟨cl,e',d,o.mono A,p⟩
   .have ac:m.c[i]?=some v:=by rw[oh a3,sT,k1,show n+(i - n)=i by omega]at hc;exact hc
    obtain⟨cl,e',d,o,p,F⟩:=L.box i b t v C ac;obtain⟨_,g1,g2,_⟩:=Z b (Q z C);exact⟨cl,e',g1.trans d,o.mono V,p,g2.trans F⟩
  .rcases gb a with⟨_,a⟩|⟨d,a⟩<;>rcases gb l with⟨_,l⟩|⟨o,l⟩
   .exact s.inj _ _ _ _ a l G
   .exact(q (Q o l) (.inl ⟨i,x,a,G⟩)).elim
   .exact(q (Q d a) (.inl ⟨W,y,l,G.symm⟩)).elim
   .exact L.inj _ _ _ _ a l G
  .rcases gt G with⟨_,G⟩|⟨d,G⟩
   .exact s.tail i e b G C
   .obtain⟨Y,cl,ty,R,S,q3⟩:=L.tail i e b G C;obtain⟨_,g1,g2,_⟩:=Z b (T d G C);exact⟨Y,cl,ty,g2.trans R,g1.trans S,q3⟩
  .rcases gt d with⟨_,d⟩|⟨R,d⟩<;>rcases gt o with⟨_,o⟩|⟨S,o⟩
   .exact s.A3 _ _ _ _ _ d o p F
   .exact(q (T S o F) (.inr (.inl ⟨i,e1,d,p⟩))).elim
   .exact(q (T R d p) (.inr (.inl ⟨W,e2,o,F⟩))).elim
   .exact L.A3 _ _ _ _ _ d o p F
  .have:=L.R;rw[c];simp only[ew,oS]at this ⊢;omega
  .rcases go l with⟨z,l⟩|⟨z,l⟩
   .rw[pV a3]at a;exact(s.obj i y x l a).to A λ_ _=>⟨rfl,rfl⟩
   .have af:m.o[i]?=some x:=by rw[oh a3,sT,k3,show j+(i - j)=i by omega]at a;exact a
    exact(L.obj i y x l af).to V λb C=>⟨(Z b (N z l C)).2.1,(Z b (N z l C)).2.2.1⟩
  .rcases go a with⟨_,a⟩|⟨R,a⟩<;>rcases go l with⟨_,l⟩|⟨S,l⟩
   .exact s.A2 _ _ _ _ _ a l p F
   .exact(q (N S l F) (.inr (.inr ⟨i,x,a,p⟩))).elim
   .exact(q (N R a p) (.inr (.inr ⟨W,y,l,F⟩))).elim
   .exact L.A2 _ _ _ _ _ a l p F
  .rcases gb a with⟨_,a⟩|⟨R,a⟩<;>rcases go l with⟨_,l⟩|⟨S,l⟩
   .exact s.I _ _ _ _ a l p
   .exact q (N S l p) (.inl ⟨i,x,a,rfl⟩)
   .exact q (Q R a) (.inr (.inr ⟨W,y,l,p⟩))
   .exact L.I _ _ _ _ a l p
 have aa:Gr O J w u f M:=⟨K.os,K.tape,K.output,K.size,λb C ae=>K.old b C λd=>ae (sy d),V,λb C=>by
  rcases(ab b).1 C with d|d
  .exact(K.new b d).elim (λh=>.inl (sy h)) .inr
  .exact .inl (xu d),by rw[c]⟩
 exact⟨f,L.to aa hC,aa,A,ab⟩
def ry{a:List SV}{C:List Nat}{os:List Ob}(i:List SV)(t2:List Nat)(q:List Ob){K:Out->MS->Prop}(h:b6 P f args ⟨a,C,os⟩ K)(Y:eV a.length C.length os.length args=true)(t:(eV a.length C.length os.length a&&gV a.length C.length os.length os)=true)(W:∀o U,K o U->U.c.length=a.length/\U.t.length=C.length/\U.o.length=os.length):
 b6 P f args ⟨a++i,C++t2,os++q⟩ λo m=>∃U,K o U/\m=⟨U.c++i,U.t++t2,U.o++q⟩:=by
 refine⟨h.1,λE O J w G c hA=>?_⟩;obtain⟨n,Q⟩:∃n,a.length=n:=⟨_,rfl⟩;obtain⟨k,N⟩:∃k,C.length=k:=⟨_,rfl⟩;obtain⟨j,L⟩:∃j,os.length=j:=⟨_,rfl⟩;rw[Q,N,L]at Y t W;simp only[dH]at t;have T:(a++i).take n=a:=by rw[<-Q,z6]
 have et:(C++t2).take k=C:=by rw[<-N,z6]
 have V:(os++q).take j=os:=by rw[<-L,z6]
 have y:MemC O (J.take n k j) ⟨a,C,os⟩ w:=by
  have:=c.toMemC.drop (n:=n) (k:=k) (j:=j) (by rw[T];exact t.1) (by rw[V];exact t.2);unfold MS.take at this
  rwa [T,et,V]at this
 have F:Mem (Io E (J.hi n k j) O w) O (J.take n k j) ⟨a,C,os⟩ w:=by
  refine⟨y,⟨λb hb=>⟨c.D4 (xu hb),rfl,rfl,λhs=>hs.elim (c.toMemC.G6 hb) λhm=>c.toMemC.E2 (c.marks b hm) (xu hb)⟩,a9 _,E.on c.gh (GrS.sub λb hb=>?_) c.known⟩,c.B1,⟨λhb=>c.C3.1 (sy hb),λhb=>c.C3.2 (sy hb)⟩,c.marks⟩;rcases hb with hb|hb|hb
  .exact .inl (xu hb)
  .exact .inl (sy hb)
  .exact .inr hb
 refine(h.2 _ O _ w G F (Dn hA Y)).mono ?_;rintro e M ⟨S,aa,U,s,A,hG,Z,l⟩;obtain⟨k1,k2,k3⟩:=W _ _ l;obtain⟨u,p,z,g,_⟩:=Ip c A hG ⟨⟨by simp;omega,by simp;omega,by simp;omega⟩,k1,k2,k3⟩;have dc:(a++i).drop n=i:=by rw[<-Q,Mi]
 have dt:(C++t2).drop k=t2:=by rw[<-N,Mi]
 have dO:(os++q).drop j=q:=by rw[<-L,Mi]
 rw[dc,dt,dO]at p;refine⟨S,u,_,s,p,z,?_,U,l,rfl⟩;cases s with
 |ret v=>obtain⟨x,rfl,R⟩:=Z;exact⟨x,rfl,R.mono g⟩
 |P d=>obtain⟨x,rfl,R⟩:=Z;exact⟨x,rfl,R.mono g⟩
def ES{v:SV}(c:eV 0 0 0 args=true)(h:b6 P f args ⟨[],[],[]⟩ λo m=>o=.ret v/\m=⟨[],[],[]⟩):c5 P f args v:=λm=>
 fa (ry m.c m.t m.o h c rfl λo U d=>by rw[d.2];exact⟨rfl,rfl,rfl⟩) λo U ⟨e,a,b⟩=>⟨a.1,by rw[b,a.2];rfl⟩
def OY{O:Ro}{J:Bl}{w:World}{m:MS}(c:Mem E O J m w):Mem (Io E (J.hi 0 0 0) O w) O (J.take 0 0 0) ⟨[],[],[]⟩ w:=by
 refine⟨c.toMemC.drop (n:=0) (k:=0) (j:=0) rfl rfl,⟨λb a=>⟨c.D4 (xu a),rfl,rfl,λe=>e.elim (c.toMemC.G6 a) λd=>c.toMemC.E2 (c.marks b d) (xu a)⟩,a9 _,E.on c.gh (GrS.sub λb a=>?_) c.known⟩,c.B1,⟨λa=>c.C3.1 (sy a),λa=>c.C3.2 (sy a)⟩,c.marks⟩;rcases a with a|a|a
 .exact .inl (xu a)
 .exact .inl (sy a)
 .exact .inr a
def Bf{J:Bl}:¬(J.take 0 0 0).hb b:=by rintro(⟨_,_,h,_⟩|⟨_,_,h,_⟩|⟨_,_,h,_⟩)<;>simp[Bl.take]at h
def sR(P:Program)(f:FuncId)(args:List SV)(n:Nat)(t:Ty)(F:Nat->D):Prop:=b6 P f args ⟨[],[],[]⟩ λo m=>∃v,o=.ret (.ob (.mr 0 v))/\m=⟨[],[],[.row v n t F]⟩
def U0(P:Program)(f:FuncId)(args:List SV)(n:Nat)(t:Ty)(F:Nat->D):Prop:=∀m K,(∀v,K (.ret (.ob (.mr m.o.length v))) ⟨m.c,m.t,m.o++[.row v n t F]⟩)->b6 P f args m K
def Ir{t:Ty}(ha:eV 0 0 0 args=true)(h:sR P f args n t F):U0 P f args n t F:=λm K hK=>by
 refine⟨h.1,λE O J w G hM hA=>?_⟩;refine(h.2 _ O _ w G (OY hM) (Dn hA ha)).mono ?_;rintro e M ⟨l,ad,U,aj,C,hG,ho,v,rfl,rfl⟩;obtain⟨x,rfl,L⟩:=ho;have hd:=C.drop (n:=0) (k:=0) (j:=0) rfl rfl;obtain⟨d,a,g,_,af⟩:=Ip hM hd (hG.drop (sX (by simp[Bl.take])) (sX (by simp[Bl.take])) (sX (by simp[Bl.take]))) ⟨⟨dG _,dG _,dG _⟩,rfl,rfl,rfl⟩;simp only[MS.take,List.take_nil,yp,vM,lE]at a;obtain⟨ab,W,b,V,c,s,o,hv,ah⟩:=L.hd;have hO:=C.obj 0 _ _ o rfl;have aa:∀k,b=some k->ad.hb k:=λk Z=>Bl.B8 o Z;have S:∀k,b=some k->¬d.hb k:=λk Z hb=>by
  rcases(af k).1 hb with A|A
  .exact Bf A
  .exact(C.gh.1 k A).2.2.2 (.inl (aa k Z))
 have ai:∀k,b=some k->l k=none:=λk Z=>C.C6 o Z;have R:Le l d l (d.A7 (.row W b V c s)):=Le.A7 l d _;have ag:∀q,(d.A7 (.row W b V c s)).hb q->d.hb q\/b=some q:=λq T=>by
  rcases T with T|T|⟨i,z,hz,e⟩
  .exact .inl (.inl T)
  .exact .inl (.inr (.inl T))
  .rcases lV hz with⟨_,rfl⟩|hz
   .exact .inr e
   .exact .inl (Bl.B8 hz e)
 have Y:Gr O J w l (d.A7 (.row W b V c s)) M:=⟨g.os,g.tape,g.output,g.size,g.old,g.le.trans R,λq T=>by
  rcases ag q T with A|A
  .exact g.new q A
  .exact(hG.new q (aa q A)).elim (λh=>(Bf h).elim) .inr,g.k⟩
 have hC:MemC l (d.A7 (.row W b V c s)) ⟨m.c,m.t,m.o++[.row v n t F]⟩ M:=by
  refine⟨a.len,a.A6,λi ae t u hb hc=>?_,a.inj,a.tail,a.A3,a.known,by show(d.o++[_]).length=(m.o++[_]).length;simp[a.R],λi y x N ac=>?_,λi j' x y q L o Q h4=>?_,λi j' x y L o Q=>?_⟩
  .obtain⟨cl,e',A,h2,Q⟩:=a.box i ae t u hb hc;exact⟨cl,e',A,h2.mono R,Q⟩
  .rcases lV N with⟨rfl,rfl⟩|N
   .have p:(m.o++[Ob.row v n t F])[d.o.length]?=some x:=ac;rw[a.R,rE]at p;cases p;exact hO
   .have p:(m.o++[Ob.row v n t F])[i]?=some x:=ac;rw[pV (by rw[<-a.R];exact(iA.1 N).1)]at p;exact(a.obj i y x N p).to R λ_ _=>⟨rfl,rfl⟩
  .rcases lV L with⟨rfl,rfl⟩|L<;>rcases lV o with⟨rfl,rfl⟩|o
   .rfl
   .exact(S q Q (Bl.B8 o h4)).elim
   .exact(S q h4 (Bl.B8 L Q)).elim
   .exact a.A2 _ _ _ _ _ L o Q h4
  .rcases lV o with⟨rfl,rfl⟩|o
   .exact S _ Q (Bl.G5 (t:=x.2) L)
   .exact a.I _ _ _ _ L o Q
 refine⟨l,d.A7 (.row W b V c s),_,.ret (.ob (.mr m.o.length v)),hM.to Y hC,Y,⟨x,rfl,ka.v ⟨ab,W,b,V,c,s,?_,hv,ah⟩⟩,hK v⟩;rw[<-a.R];exact rE
def JZ{t:Ty}(ha:eV 0 0 0 args=true)(h:sR P f args n t F):c5 P f args (.d (.X n t F)):=ES ha (by
 refine⟨h.1,λE O J w G S hA=>(h.2 E O J w G S hA).mono ?_⟩;rintro e M ⟨g,N,U,ah,u,Z,ho,v,rfl,rfl⟩;obtain⟨x,rfl,hx⟩:=ho;obtain⟨b,c,Q⟩:=u.A8 (id:=0) (v:=v) (n:=n) (t:=t) (f:=F) rfl;have ad:=Q.mr hx;subst ad;have h0:∀q,¬J.hb q:=λq A=>by
  have hl:=S.lens;rcases A with⟨i,z,W,_⟩|⟨i,z,W,_⟩|⟨i,z,W,_⟩
  .have:=(iA.1 W).1;simp only[yn]at hl;omega
  .have:=(iA.1 W).1;simp only[yn]at hl;omega
  .have:=(iA.1 W).1;simp only[yn]at hl;omega
 have p:=u.drop (n:=0) (k:=0) (j:=0) rfl rfl;have d:=Z.drop (n:=0) (k:=0) (j:=0) (sX S.lens.1) (sX S.lens.2.1) (sX S.lens.2.2);cases b with
 |none=>
  have hc:=Q.nil rfl;have hn:=Q.nc;have ac:n=0:=a3
  subst ac;exact⟨g,_,_,.ret (.d (.X 0 t F)),p,d,⟨_,rfl,⟨ef,λ_=>⟨none,c,rfl,hn,λh=>b3 h (ri _)⟩⟩⟩,rfl,rfl⟩
 |some k=>
  obtain⟨ab,C,ty,h1,h2,h3⟩:=Q.N k rfl;have T:N.hb k:=Bl.B8 Q.I rfl;have ae:w.heap.size<=k:=(Z.new k T).elim (λh=>(h0 k h).elim) id;have ag:n*t.size<=c*t.size:=gF _ Q.nc;have s:(a7 g k (some (C.toList.take (n*t.size)))) k=some (C.toList.take (n*t.size)):=by unfold a7;exact if_pos rfl
  have K:∀q,q≠k->(a7 g k (some (C.toList.take (n*t.size)))) q=g q:=λq A=>by unfold a7;rw[if_neg A]
  have R:g.le (a7 g k (some (C.toList.take (n*t.size)))):=λq Y L=>by
   by_cases e:q=k
   .subst e;rw[ab]at L;cases L
   .exact⟨Y,by rw[K q e];exact L,wX _⟩
  have V:Kn (a7 g k (some (C.toList.take (n*t.size)))) M:=λq Y L=>by
   by_cases e:q=k
   .subst e;rw[s]at L;cases L;exact⟨C,ty,(0,0),h1,List.take_prefix _ _⟩
   .rw[K q e]at L;exact u.known q Y L
  have af:=p.lens;have hC:MemC (a7 g k (some (C.toList.take (n*t.size)))) (N.take 0 0 0) ⟨[],[],[]⟩ M:=⟨p.len,p.A6,(λi b t v hb=>by simp[Bl.take]at hb),p.inj,(λi e b he=>by simp[Bl.take]at he),p.A3,V,p.R,(λi y x hy=>by simp[Bl.take]at hy),p.A2,p.I⟩;refine⟨_,N.take 0 0 0,⟨[],[],[]⟩,.ret (.d (.X n t F)),⟨hC,E.on u.gh ⟨rfl,rfl,rfl,a9 _,λq _ A=>⟨rfl,K q λe=>A (by subst e;exact .inl T)⟩,R,λq A=>.inl (A.elim (λh=>(Bf h).elim) .inr)⟩ V,p.B1,p.C3,p.marks⟩,⟨d.os,d.tape,d.output,d.size,λq A hn=>?_,⟨Ro.le_trans Z.le.r R,d.le.b,λi e he=>?_,d.le.o,d.le.g⟩,d.new,d.k⟩,⟨_,rfl,⟨ef,λ_=>?_⟩⟩,rfl,rfl⟩
  .obtain⟨g1,g2⟩:=d.old q A hn;exact⟨g1,(K q a3).trans g2⟩
  .exact b3 (iA.1 he).1 (by have:=S.lens.2.1;simp only[yn]at this;omega)
  .refine⟨_,c,rfl,Q.nc,λ_=>⟨k,0,_,λi=>(C.toList.drop (i*t.size)).take t.size,rfl,s,by rw[kO,pO];omega,λi hi=>⟨(h3 i hi).1,(h3 i hi).2.mono R,?_⟩⟩⟩;have aa:i*t.size+t.size<=n*t.size:=by rw[<-iO];exact gF _ hi
   have:=qn (l:=C.toList) (a:=0) (b:=n*t.size) (o:=i*t.size) (k:=t.size) aa;simpa using this)
def Bq:List Nat->List SV->List Ent->List Ent
 |p::a,v::b,V=>Bq a b (.put p v::V)
 |_,_,V=>V
def QV{O:Ro}{J:Bl}:∀{ps:List Nat} {args:List SV} {G:List Value} {tmps:Array Value} {V:List Ent},jf O J args G->args.length=ps.length->(∀p∈ps,p<tmps.size)->yh O J V tmps->
 yh O J (Bq ps args V) ((ps.zip G).foldl (λtmps x=>tmps.setIfInBounds x.1 x.2) tmps)/\((ps.zip G).foldl (λtmps x=>tmps.setIfInBounds x.1 x.2) tmps).size=tmps.size
 |[],[],G,tmps,V,_,_,_,h=>⟨by simpa[Bq]using h,eA⟩
 |p::ps,v::n,x::G,tmps,V,b,a,i,h=>by
  have f:=i p (fQ ..);have j:yh O J (.put p v::V) (tmps.setIfInBounds p x):=λt u c=>by
   simp only[look]at c;split at c
   .rename_i g;have:=fp g;subst this;cases c;simp only[oO,uH,if_pos trivial,if_pos f];exact b.1
   .rename_i g;have d:p≠t:=λe=>by subst e;simp at g
    simp only[oO,uH,if_neg d];have:=h t u c;simpa only[oO]using this
  obtain⟨k,l⟩:=QV (ps:=ps) (args:=n) (G:=G) (tmps:=tmps.setIfInBounds p x) (V:=.put p v::V) b.2 (b8 a) (λq m=>by simpa using i q (fA _ m)) j;exact⟨by simpa[Bq]using k,b8 l⟩
 |[],_::_,_,_,_,_,a,_,_=>by simp at a
 |_::_,[],_,_,_,_,a,_,_=>by simp at a
 |_::_,_::_,[],_,_,b,_,_,_=>b.elim
def Sk(j:Nat)(K:SV->MS->Prop)(x:X)(_:List Ent)(m:MS):Prop:=match ss m.o j with
 |some (.loop c b a N f .busy)=>match x with
  | .U=>K (.d (.I true)) ⟨m.c,m.t,m5 m.o j (.loop c b a N f .ready)⟩
  | .ret=>K (.d (.I false)) ⟨m.c,m.t,m5 m.o j (.loop c b a N f (.done .ret))⟩
  | .exit i=>K (.d (.I false)) ⟨m.c,m.t,m5 m.o j (.loop c b a N f (.done (.exit i)))⟩
  | .P _=>False
 |_=>False
def Mem.D5{O:Ro}{J:Bl}{m:MS}{w:World}(h:Mem E O J m w){id l:Nat}(M:J.o[id]?=some (.loop l)){j:Code}{F:LSt}(hx:m.o[id]?=some (.loop ps as j N V F))(K:F≠.over):
 ∃fn tmps C u,w.heap[l]?=some (.loop {state:=F.state,pending:=u,fn:=fn,tmps:=tmps,params:=ps.toArray,assign:=as,body:=j,defers:=C})/\F.H0 u/\
  ∀(A:LSt) f,A.H0 f->Mem E O (J.oset id (.loop l)) ⟨m.c,m.t,m.o.set id (.loop ps as j N V A)⟩ (w.putObj l (.loop {state:=A.state,pending:=f,fn:=fn,tmps:=tmps,params:=ps.toArray,assign:=as,body:=j,defers:=C}))/\
   Gr O J w O (J.oset id (.loop l)) (w.putObj l (.loop {state:=A.state,pending:=f,fn:=fn,tmps:=tmps,params:=ps.toArray,assign:=as,body:=j,defers:=C})):=by
 obtain⟨fn,tmps,C,u,L,Q,R,S⟩:=h.obj id _ _ M hx;refine⟨fn,tmps,C,u,L,Q,λA f Z=>?_⟩;have U:=(nX.1 L).1;exact h.B6 M (BO.le_refl _) (λb T=>.inl T) rfl rfl rfl eA (λb _ W=>World.putObj_heap_other λe=>W (by rw[e];rfl)) λG=>⟨fn,tmps,C,f,World.putObj_heap_same U,Z,R,λ_ t v hv=>(S K t v hv).mono G⟩
def Bn{J:Bl}{id:Nat}{y:BO}(h:J.o[id]?=some y):J.oset id y=J:=by
 have:J.o.set id y=J.o:=by
  apply z4;intro i;rw[Cx];split
  .rename_i e;subst e;rw[h];split
   .rfl
   .rename_i a;exact b3 (iA.1 h).1 a
  .rfl
 unfold Bl.oset;rw[this]
def zdv{O:Ro}{J:Bl}{tmps:Array Value}{d:List Deferred}(h:yh O J V tmps):SimL O J [] V tmps.size {tmps:=tmps,defers:=d}:=⟨rfl,λt c v a _=>by
 simp only[fP,fB]at a;obtain⟨u,b,a⟩:=a;cases a;exact h t _ b,λt c v a e=>by
 simp only[fP,fB]at a;obtain⟨u,b,a⟩:=a;cases a;exact b3 (λ_ f=>by cases f) e⟩
def rX(hP:tb.ok P){id:Nat}{n:Code}{m:MS}{K:SV->MS->Prop}(ah:args.length=ps.length)(ay:∀p∈ps,p<N)(h:ji P tb N true as (Bq ps args V) m λx F u=>match x with
  | .U=>match ss u.o id with
   |some (.loop k g c N' f .ready)=>ji P tb N true n F ⟨u.c,u.t,m5 u.o id (.loop k g c N' f .busy)⟩ (Sk id K)
   |_=>False
  |_=>False):fx P id ps as n N V args m K:=by
 refine⟨ah,λE nn O J w G l fn b df hM hA ar av ai au=>?_⟩;obtain⟨q,d⟩:=QV hA ah (λp hp=>by rw[ai];exact ay p hp) au;have R:(ps.toArray.zip G.toArray).foldl (λb (t,a)=>b.setIfInBounds t a) b=(ps.zip G).foldl (λb x=>b.setIfInBounds x.1 x.2) b:=eA
 rw[R];generalize(ps.zip G).foldl (λb x=>b.setIfInBounds x.1 x.2) b=T at q d;rw[ai]at d;subst d;refine roundIn_of_wpIn trivial (wpIn_mono (eJ hP h E (some l) nn O J {tmps:=T,defers:=[]} w ef ⟨zdv q,hM⟩) ?_);rintro e a1 w1 ⟨x,F,u,Y,Z,L1,o,h2,h3,h4,h5,h6,h7,h8,h9⟩;cases e with
 |normal=>
  cases vn h2;have ao:=h7.2.2 rfl;subst ao;have aw:Z.k=J.k:=h7.1;have ab:Gr O J w Y Z w1:=by rw[<-aw]at h6;exact h6
  simp only at o;split at o
  .rename_i k g c N' f ag;rw[wc]at ag;rw[sJ]at o;obtain⟨y,hy,az⟩:=ab.le.o id _ ar;cases BO.E0 az;obtain⟨an,aE,am,aA,g1,g2,g3⟩:=h3.D5 hy ag eA;cases g2;obtain⟨ae,ac⟩:=g3 .busy none trivial;rw[Bn hy]at ae ac;refine⟨_,run_beginRound g1 rfl,?_⟩;have aq:Sim E Y Z F ⟨u.c,u.t,u.o.set id (.loop k g c N' f .busy)⟩ T.size a1 (w1.putObj l (.loop {state:=.busy,pending:=none,fn:=an,tmps:=aE,params:=k.toArray,assign:=g,body:=c,defers:=am})):=⟨h4 eA,ae⟩;refine wpIn_mono (eJ hP o E (some l) nn Y Z a1 _ ef aq) ?_;rintro e a2 w2 ⟨x2,aH,m2,aD,aa,L2,S,q2,q3,q4,q5,q6,q7,q8,q9⟩;have ap:=q7.2.2 rfl;subst ap;have ax:aa.k=Z.k:=q7.1;have L:=q6;rw[<-ax,Bl.H6]at L;have Q:=(ab.trans ac).trans L;unfold Sk at S;split at S
   .rename_i aC al A N2 f2 s;rw[wc]at s;obtain⟨y2,aj,ak⟩:=L.le.o id _ hy;cases BO.E0 ak;obtain⟨aG,aI,aF,aB,r1,r2,r3⟩:=q3.D5 aj s eA;have C:∀(j:Option Code) (st:LSt),st.state=(if j.isNone then .ready else .done)->st.H0 j->K (.d (.I j.isNone)) ⟨m2.c,m2.t,m5 m2.o id (.loop aC al A N2 f2 st)⟩->∃v M,(Instr.endRound l j).run P w2=.ok v M/\∃W z U v' x',Ending.returned v=.returned x'/\du W z v' x'/\Mem E W z U M/\Gr O J w W z M/\K v' U:=λj st hs hp hK=>by obtain⟨af,ad⟩:=r3 st j hp;rw[Bn aj]at af ad;rw[sJ]at hK;have:=run_endRound (P:=P) j r1;rw[<-hs]at this;exact⟨_,_,this,aD,aa,_,.d (.I j.isNone),_,rfl,lY _,af,Q.trans ad,hK⟩
    cases e with
    |normal=>cases vn q2;exact C none .ready rfl rfl S
    |ret=>cases x2<;>first|exact q2.elim|exact C (some .ret) (.done .ret) rfl rfl S
    |exit i=>cases ud q2;exact C (some (.exit i)) (.done (.exit i)) rfl rfl S
    |goto t=>cases x2<;>cases q2
    |panic ch=>cases x2<;>first|exact q2.elim|exact S.elim
    |outgrown=>cases x2<;>cases q2
   .cases S
  .cases o
 |exit i=>cases ud h2;cases o
 |ret=>cases x<;>first|exact h2.elim|exact o.elim
 |goto t=>cases x<;>cases h2
 |panic ch=>cases x<;>first|exact h2.elim|exact o.elim
 |outgrown=>cases x<;>cases h2
def RT(j:Nat)(K:X->List Ent->MS->Prop)(V:List Ent)(o:Out)(m:MS):Prop:=match o with
 | .P _=>False
 | .ret _=>match ss m.o j with
  |some (.loop c b a N f d)=>match d with
   | .ready=>K .U V ⟨m.c,m.t,m5 m.o j (.loop c b a N f .over)⟩
   | .done (.ret)=>K .ret V ⟨m.c,m.t,m5 m.o j (.loop c b a N f .over)⟩
   | .done (.exit i)=>K (.exit i) V ⟨m.c,m.t,m5 m.o j (.loop c b a N f .over)⟩
   |_=>False
  |_=>False
def Mem.H7{O:Ro}{J:Bl}{m:MS}{w:World}(h:Mem E O J m w):Mem E O (J.A5 (w.heap.size::J.k)) m (w.alloc (.deferred (some []))):=by
 have j:∀b,b<w.heap.size->(w.alloc (.deferred (some []))).heap[b]?=w.heap[b]?:=λb j=>Below.heap_alloc _ _ _ j;have G:Le O J O (J.A5 (w.heap.size::J.k)):=⟨Ro.le_refl _,λ_ _ h=>h,(Le.refl O J).t,(Le.refl O J).o,rfl⟩;have Q:MemC O (J.A5 (w.heap.size::J.k)) m (w.alloc (.deferred (some []))):=⟨h.len,h.A6,λid u t v f V=>by
  obtain⟨C,K,A,F,L⟩:=h.box id u t v f V;exact⟨C,K,(j u (h.lt f)).trans A,F.mono G,L⟩,h.inj,λid e u W f=>by
  obtain⟨Y,C,Z,A,F,L⟩:=h.tail id e u W f;exact⟨Y,C,Z,A,(j _ (h.A9 A)).trans F,L⟩,h.A3,λb Y S=>by
  obtain⟨C,K,U,A,F⟩:=h.known b Y S;exact⟨C,K,U,(j _ (h.A9 S)).trans A,F⟩,h.R,λid y x T f=>(h.obj id y x T f).to G λb N=>⟨j b ((h.obj id y x T f).N N),rfl⟩,h.A2,h.I⟩
 have R:=h.B1.lt;refine⟨Q,E.on h.gh ⟨rfl,rfl,rfl,eA,λb M _=>⟨j b M,rfl⟩,Ro.le_refl _,λb f=>?_⟩ Q.known,h.B1.to (j 0 R.1) (j J.g R.2),h.C3,λD hD=>?_⟩
 .rcases f with f|f
  .exact .inl (.inl f)
  .rcases iB.1 f with rfl|f
   .exact .inr (a9 _)
   .exact .inl (.inr f)
 .rcases iB.1 hD with rfl|hD
  .exact World.alloc_heap_new w _
  .have A:=h.marks D hD;rw[j D (nX.1 A).1];exact A
def rS{f:Operand}{ps:Array Nat}{body:Code}{m:MS}{K:X->List Ent->MS->Prop}{k:FuncId}{cp:SV}(hf:iQ [] V [] f=some (.fn (.func k) cp))(hcap:yC cp=true)(h:b6 P k (.ob (.yl m.o.length)::uS cp) ⟨m.c,m.t,m.o++[.loop ps.toList as body N V .ready]⟩ (RT m.o.length K V)):eH P N f ps as body V m K:=by
 intro E r nn O J a w hr hS;have hr:=hr rfl;subst hr;refine wpIn_rangeFunc λfn _=>?_;obtain⟨vs,hvs,hfv⟩:=(v9 hS.l (g:=[]) (λp hp=>by cases hp) hf).fn;have hM1:=hS.m.H7;have hlu:Le O J O (J.A5 (w.heap.size::J.k)):=⟨Ro.le_refl _,λ_ _ h=>h,(Le.refl O J).t,(Le.refl O J).o,rfl⟩;obtain⟨hM2,hG2⟩:=hM1.A7 (y:=.loop (w.heap.size+1)) (x:=.loop ps.toList as body N V .ready) (M:=(w.alloc (.deferred (some []))).alloc (.loop {state:=.ready,pending:=none,fn:=fn,tmps:=a.tmps,params:=ps,assign:=as,body:=body,defers:=w.heap.size}))
  (λb hb=>by cases hb;simp) rfl rfl rfl (by simp) (λb hb=>Below.heap_alloc _ _ _ hb) (λhl=>⟨fn,a.tmps,w.heap.size,none,by have:=World.alloc_heap_new (w.alloc (.deferred (some []))) (.loop {state:=.ready,pending:=none,fn:=fn,tmps:=a.tmps,params:=ps,assign:=as,body:=body,defers:=w.heap.size});simpa[LSt.state]using this,rfl,hS.l.size,λ_ t v hv=>((hS.l.yes t [] v (by simp[fP,hv]) (λp hp=>by cases hp)).mono hlu).mono hl⟩)
 have hG0:Gr O J w O (J.A5 J.k) (w.alloc (.deferred (some []))):=⟨rfl,rfl,rfl,by simp,λb hb _=>⟨Below.heap_alloc _ _ _ hb,rfl⟩,Le.refl O J,λ_ h=>.inl h,rfl⟩;have hG1:Gr O J w O (((J.A5 (w.heap.size::J.k)).A7 (.loop (w.heap.size+1))).A5 J.k) ((w.alloc (.deferred (some []))).alloc (.loop {state:=.ready,pending:=none,fn:=fn,tmps:=a.tmps,params:=ps,assign:=as,body:=body,defers:=w.heap.size})):=Gr.A5 (Z:=J.A5 (w.heap.size::J.k)) (k:=w.heap.size::J.k) hG0 hG2;have hcapr:=Hw (hvs.mono hlu) hcap;have hA:jf O ((J.A5 (w.heap.size::J.k)).A7 (.loop (w.heap.size+1))) (.ob (.yl m.o.length)::uS cp) (.func (.yield (w.heap.size+1)) #[] #[]::vs):=by
  refine⟨ka.v ⟨_,by rw[<-hS.m.R];exact rE,rfl⟩,?_⟩;have:∀{l:List SV} {G:List Value},jf O (J.A5 (w.heap.size::J.k)) l G->jf O ((J.A5 (w.heap.size::J.k)).A7 (.loop (w.heap.size+1))) l G:=λ{l}=>by
   induction l with
   |nil=>intro G h;cases G<;>exact h
   |cons u r ih=>
    intro G h;cases G with
    |nil=>exact h.elim
    |cons x G=>exact⟨h.1.mono hG2.le,ih h.2⟩
  exact this hcapr
 have e1:=run_enterLoop_outer (P:=P) (w:=w) fn a.tmps ps as body;generalize hW:(w.alloc (.deferred (some []))).alloc (.loop {state:=.ready,pending:=none,fn:=fn,tmps:=a.tmps,params:=ps,assign:=as,body:=body,defers:=w.heap.size})=W at*;have e2:(resolve a.eval (rangeCall f (w.heap.size+1)) 0).run P W=.ok {target:=.fn (.func k) vs.toArray,args:= #[.func (.yield (w.heap.size+1)) #[] #[]]} W:=by have hy:a.eval (.const (.func (.yield (w.heap.size+1)) #[] #[]))=.func (.yield (w.heap.size+1)) #[] #[]:=rfl;simp[resolve,hfv,Deferred.ofValue,rangeCall,hy]
 have e3:(invoke (.fn (.func k) vs.toArray) #[.func (.yield (w.heap.size+1)) #[] #[]]).run P W=.ok (.enter k (.func (.yield (w.heap.size+1)) #[] #[]::vs).toArray) W:=by simp[invoke,h.1 _ _]
 refine⟨w.heap.size+1,[ur w.heap.size],W,{target:=.fn (.func k) vs.toArray,args:= #[.func (.yield (w.heap.size+1)) #[] #[]]},W,k,(.func (.yield (w.heap.size+1)) #[] #[]::vs).toArray,W,e1,e2,λ_ _=>trivial,e3,λh=>(by cases h),?_⟩
 .refine callsIn_wide.2 ((h.2 E O _ W _ hM2 hA).mono ?_);rintro e w3 ⟨ro3,bl3,m3,out,hM3,hG3,ho,hK⟩;unfold RT at hK;cases out with
  |P d=>exact hK.elim
  |ret v=>
   obtain⟨x,rfl,hx⟩:=ho;simp only at hK;split at hK
   .rename_i ps' as' body' N' f' st hob;rw[wc]at hob;have hbo:((J.A5 (w.heap.size::J.k)).A7 (.loop (w.heap.size+1))).o[m.o.length]?=some (.loop (w.heap.size+1)):=by rw[<-hS.m.R];exact rE
    obtain⟨y,hy,hyl⟩:=hG3.le.o _ _ hbo;cases BO.E0 hyl;have hst:st≠.over:=λe=>by subst e;exact hK.elim
    obtain⟨fn1,tm1,df1,pend1,g1,g2,g3⟩:=hM3.D5 hy hob hst;obtain⟨hM4,hG4⟩:=g3 .over pend1 trivial;rw[Bn hy]at hM4 hG4;have hGf:Gr O J w ro3 (bl3.A5 J.k) (w3.putObj (w.heap.size+1) (.loop {state:=.exhausted,pending:=pend1,fn:=fn1,tmps:=tm1,params:=ps'.toArray,assign:=as',body:=body',defers:=df1})):=by have:=hG3.trans hG4;exact Gr.A5 (Z:=(J.A5 (w.heap.size::J.k)).A7 (.loop (w.heap.size+1))) (k:=bl3.k) hG1 this
    have hk3:bl3.k=[w.heap.size]++J.k:=hG3.k;have hSim:SimL ro3 bl3 [] V N {a with defers:=[ur w.heap.size]++a.defers}:=by
     refine⟨hS.l.size,λt c v hl hc=>?_,λt c v hl hc=>?_⟩
     .have hlf:Le O J ro3 bl3:=⟨hGf.le.r,hGf.le.b,hGf.le.t,hGf.le.o,hGf.le.g⟩;exact(hS.l.yes t c v hl hc).mono hlf
     .simp only[fP,fB]at hl;obtain⟨u,hu,hl⟩:=hl;cases hl;exact b3 (λ_ hp=>by cases hp) hc
    have fin:∀(x:X) (A:Exit),(∀O J,w5 O J x A)->K x V ⟨m3.c,m3.t,m3.o.set m.o.length (.loop ps' as' body' N' f' .over)⟩->QK E O J N false (jK (.rangeFunc f ps as body)) a w K A {a with defers:=[ur w.heap.size]++a.defers} (w3.putObj (w.heap.size+1) (.loop {state:=.exhausted,pending:=pend1,fn:=fn1,tmps:=tm1,params:=ps'.toArray,assign:=as',body:=body',defers:=df1})):=λx A hx hKx=>
     ⟨x,V,_,ro3,bl3,[w.heap.size],hKx,hx _ _,hM4,λ_=>hSim,hS.l.size,hGf,⟨hk3,⟨by simp,λD hD=>by simp at hD;omega⟩,λh=>by cases h⟩,rfl,λt _=>rfl⟩
    rw[sJ]at hK;cases st with
    |ready=>
     cases g2;exact⟨none,_,run_endLoop g1 (by simp[LSt.state]),fin .U .normal (λ_ _=>trivial) hK⟩
    |busy=>exact hK.elim
    |over=>exact hK.elim
    |done jc=>
     cases g2;refine⟨some jc,_,run_endLoop g1 (by simp[LSt.state]),?_⟩;cases jc<;>first|exact hK.elim|skip
     .exact wpIn_exit (fin (.exit _) (.exit _) (λ_ _=>rfl) hK)
     .exact wpIn_ret (fin .ret .ret (λ_ _=>trivial) hK)
   .exact hK.elim
end Sx
end Go.Proofs.YtfbhkfhbnkncoaaGreatDoor
