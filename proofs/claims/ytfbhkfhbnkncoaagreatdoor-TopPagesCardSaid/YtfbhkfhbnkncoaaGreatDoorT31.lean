import Derived.Test.YtfbhkfhbnkncoaaGreatDoorT30
set_option linter.all false
namespace Go.Proofs.YtfbhkfhbnkncoaaGreatDoor
open Go.RowKit
namespace Sx
theorem zdu:∀{l:List Rn},(∀y∈l,zbd y)→(l.length:Int)≤zaS l
 |[],_=>by decide
 |y::l,h=>by have h1:=h y (zF3 ..);have h2:=zdu (l:=l) fun z hz=>h z (zF4 _ hz);unfold zbd at h1;simp only[zFI,zaS];omega
theorem RgI.ok'{r:Rg}(h:RgI r):zvJ r:=⟨fun y hy=>by have:=h.ok y hy;unfold zbd at this;exact zac (by omega) (by omega),by have:=zdu h.ok;have:=h.pg;have:=h.q1;omega⟩
def zxt(t:Tb)(h:Int)(c:Nat→Int)(k:Nat):Nat→Int:=fun i=>bif Nat.blt i k&&zy8 t h (c i)then 0 else c i
theorem zmb(t:Tb)(h:Int)(c:Nat→Int)(k:Nat):zxt t h c (k+1)=bif zy8 t h (c k)then zaq (zxt t h c k) k 0 else zxt t h c k:=by
 funext i
 unfold zxt;cases hq:zy8 t h (c k)with
 |true=>
  rw[zHH];unfold zaq;split
  ·rename_i e;subst e;rw[hq,show Nat.blt i (i+1)=true by simp];rfl
  ·rename_i e;have:Nat.blt i (k+1)=Nat.blt i k:=by
    cases h1:Nat.blt i k with
    |true=>
     have:i<k:=by simpa using h1
     simp;omega
    |false=>
     have h2:¬i<k:=fun h=>
      by
       have h':Nat.blt i k=true:=by simpa using h
       rw[h']at h1;cases h1
     cases h3:Nat.blt i (k+1)with
     |false=>rfl
     |true=>
      have:i<k+1:=by simpa using h3
      omega
   rw[this]
 |false=>
  rw[zHJ];by_cases e:i=k
  ·subst e;rw[hq,zHD,zHD]
  ·have:Nat.blt i (k+1)=Nat.blt i k:=by
    cases h1:Nat.blt i k with
    |true=>
     have:i<k:=by simpa using h1
     simp;omega
    |false=>
     have h2:¬i<k:=fun h=>
      by
       have h':Nat.blt i k=true:=by simpa using h
       rw[h']at h1;cases h1
     cases h3:Nat.blt i (k+1)with
     |false=>rfl
     |true=>
      have:i<k+1:=by simpa using h3
      omega
   rw[this]
attribute [local irreducible] Con zax zan zau zai zaw zbt zak zaC zbh zba I64
theorem zB0{t:Tb}{d:Int→Nat}(ht:TInv t d){h:Int}(hu:U32 h):zay Tryz.prog 351 [.d (zaU t),H h] (T2 (.d (zaU (zes t h))) (I (ztB t h))):=by
 refine zat Tryz.func351 rfl (by kernel_rfl) rfl rfl rfl ?_;conv=>whnf
 refine zad (zbz t.b h) ?_;conv=>whnf
 refine⟨fun hq=>?_,fun hq=>?_⟩
 ·have hg:zah t.b h=false:=by simpa using hq
  conv=>whnf
  refine⟨rfl,zae ?_⟩;rw[zes,ztB,hg];rfl
 ·have hg:zah t.b h=true:=by simpa using hq
  conv=>whnf
  refine zaM Tryz.func184 rfl (by kernel_rfl) rfl rfl ?_;conv=>whnf
  refine zcs rfl rfl ?_;refine ziq ht.ok ht.rk hg hu (σ:=List Int) (fun o=>[.d (zaU t),H h,.d (ZT.d z96),.fn (.func 372) (.pr (.pt 1 []) (.pr (.pt 0 []) (.d .un))),.d (zaU (zru t h o)),.d (zaU t),H h]) (fun _=>[]) id (fun _=>True) 6 5 7 0 [] (fun _=>rfl) (fun _=>rfl) (fun _=>⟨rfl,rfl,rfl⟩) trivial rfl rfl ?_ ?_
  ·intro s x r _ ho hgx rv rn rf;have hC:Cells t (zru t h s):=zfH t h s t;have hI:=hC.inv ht;generalize hn:zru t h s=n at hC hI;refine zeO (zct zaa rfl (by decide) ?_);conv=>whnf
   refine zad (zlS n x) ?_;conv=>whnf
   refine zaB zaa (fun k=>k≤8) (fun k=>8 - k) (fun k=>[(34,I k)]) (fun k=>⟨[.d (zaU t),H h,.d (ZT.d z96),.fn (.func 372) (.pr (.pt 1 []) (.pr (.pt 0 []) (.d .un))),.d (zaU n),.d (zaU t),H h,.d (zdX {zaj n x with cells:=zxt t h (zaj n x).cells k})],[],_⟩) 0 (zFV _) ⟨rfl,trivial⟩ rfl (fun i=>⟨zF5 _,zF5 _,zF5 _⟩) ?_;intro k hk;conv=>whnf
   refine⟨fun hq=>?_,fun hq=>?_⟩
   ·have hlt:k<8:=by
     have:(k:Int)<8:=by simpa using hq
     omega
    conv=>whnf
    refine⟨⟨(by omega:(0:Int)≤(k:Int)),(by omega:(k:Int)<8)⟩,?_⟩;conv=>whnf
    refine zaM Tryz.func372 rfl (by kernel_rfl) rfl rfl ?_;conv=>whnf
    refine zam (zg8 t ((zaj n x).cells k) h ht.rk) (fun _ h _=>h) ?_;conv=>whnf
    refine⟨fun hb=>?_,fun hb=>?_⟩
    ·have hb:zy8 t h ((zaj n x).cells k)=true:=hb;conv=>whnf
     refine⟨⟨(by omega:(0:Int)≤(k:Int)),(by omega:(k:Int)<8)⟩,?_⟩;conv=>whnf
     refine⟨.d (zdX {zaj n x with cells:=zaq (zxt t h (zaj n x).cells k) k 0}),congrArg (fun f=>SV.d (.pr (.z .u32 (zaj n x).up) (.pr (.z .i64 (zaj n x).quota) (.pr (zhf (zaj n x).rs (zaj n x).len) (.pr (.ar 8 .c f) .un))))) (zaY (fun x=>D.z .u32 x) (zxt t h (zaj n x).cells k) k 0),?_⟩;conv=>whnf
     refine⟨zac (x:=(k:Int)+1) (by omega) (by omega),?_⟩;conv=>whnf
     have e:=zmb t h (zaj n x).cells k;rw[hb]at e;exact⟨k+1,hlt,by omega,⟨rfl,trivial⟩,⟨zcn (ce rfl (ce rfl (ce rfl (ce rfl (ce rfl (ce rfl (ce rfl (ce (congrArg (fun c=>SV.d (zdX {zaj n x with cells:=c})) e.symm) rfl)))))))) rfl rfl,rfl⟩,rfl⟩
    ·have hb:zy8 t h ((zaj n x).cells k)=false:=hb;conv=>whnf
     refine⟨zac (x:=(k:Int)+1) (by omega) (by omega),?_⟩;conv=>whnf
     have e:=zmb t h (zaj n x).cells k;rw[hb]at e;exact⟨k+1,hlt,by omega,⟨rfl,trivial⟩,⟨zcn (ce rfl (ce rfl (ce rfl (ce rfl (ce rfl (ce rfl (ce rfl (ce (congrArg (fun c=>SV.d (zdX {zaj n x with cells:=c})) e.symm) rfl)))))))) rfl rfl,rfl⟩,rfl⟩
   ·have hlt:k=8:=by
     have:¬((k:Int)<8):=by simpa using hq
     omega
    subst hlt;conv=>whnf
    refine zad (zt2 n x (zCt t h (zaj n x)) ((zc1 hI x).cells _ _).ok') ?_;conv=>whnf
    refine⟨rfl,rfl,s++[x],⟨trivial,rfl⟩,?_⟩;have e:zru t h (s++[x])=zdm n x (zCt t h (zaj n x)):=by unfold zru at hn ⊢;rw[zHc,hn];rfl
    exact zcn (ce rfl (ce rfl (ce rfl (ce rfl (ce (congrArg (fun c=>SV.d (zaU c)) e.symm) (ce rfl (ce rfl rfl))))))) rfl rfl
  ·intro s os _ ho;have ho:s=zaV t h:=ho;subst ho;have hC:Cells t (zru t h (zaV t h)):=zfH t h _ t;conv=>whnf
   refine zad (zqX (zru t h (zaV t h)) h 0 (hC.inv ht).rk) ?_;conv=>whnf
   refine⟨rfl,zae ?_⟩;rw[zes,ztB,hg];rfl
end Sx
namespace Sx
abbrev abP(x:Int):Tk→Bool:=fun t=>t.above==x
theorem ztp{k:Toks}{a b c:Int}(h:TRe k a b)(g:TRe k b c):TRe k a c:=by
 induction g with
 |refl=>exact h
 |step _ hx ih=>exact .step ih hx
theorem zyU{k:Toks}{x y:Int}:TRe k x y↔y=x∨∃z∈zdg k x,TRe k z y:=by
 constructor
 ·intro h;induction h with
  |refl=>exact .inl rfl
  |step h hx ih=>
   rcases ih with rfl|⟨z,hz,h2⟩
   ·exact .inr ⟨_,hx,.refl⟩
   ·exact .inr ⟨z,hz,.step h2 hx⟩
 ·rintro(rfl|⟨z,hz,h⟩)
  ·exact .refl
  ·exact ztp (.step .refl hz) h
abbrev fcl:SV:=.fn (.func 360) (.pr (.pt 2 []) (.pr (.pt 0 []) (.pr (.pt 3 []) (.d .un))))
abbrev fM0(k:Toks)(l:List (Int×SV)):MS:=⟨[.d (zbe k),.d (ZT.d zBv),.ob (.mo 0),fcl],[],[.map .u32 l]⟩
abbrev fM(k:Toks)(l:List (Int×SV))(x:Int)(n:Nat):MS:=⟨[.d (zbe k),.d (ZT.d zBv),.ob (.mo 0),fcl,H x,.d (zbe k)],[n],[.map .u32 l]⟩
theorem zsv:∀{l:List (Int×SV)},ziz l→∀x:Int,ziz (znd l x (.d (.bo true)))∧∀y,zhq (zef (znd l x (.d (.bo true))) y)=(zhq (zef l y)||y==x)
 |[],_,x=>⟨⟨⟨true,rfl⟩,trivial⟩,fun y=>by
  show zhq (match zjH x y with
   |true=>some (SV.d (.bo true))
   |false=>none)=(false||y==x)
  cases hq:zjH x y with
  |true=>have:=(zb7).1 hq;subst this;simp[zhq]
  |false=>
   have:y≠x:=fun e=>by rw[(zb7).2 e.symm]at hq;cases hq
   simp[zhq,this]⟩
 |(k',u)::r,h,x=>by
  obtain⟨hu,hr⟩:=h;obtain⟨h1,h2⟩:=zsv hr x;unfold znd;cases hq:zjH k' x with
  |true=>
   have e:=(zb7).1 hq;subst e;refine⟨⟨⟨true,rfl⟩,hr⟩,fun y=>?_⟩;simp only[zef];cases hy:zjH k' y with
   |true=>have:=(zb7).1 hy;subst this;simp[zhq]
   |false=>
    have:y≠k':=fun e=>by rw[(zb7).2 e.symm]at hy;cases hy
    simp[this]
  |false=>
   refine⟨⟨hu,h1⟩,fun y=>?_⟩;simp only[zef];cases hy:zjH k' y with
   |true=>
    have e:=(zb7).1 hy;have:y≠x:=fun e2=>by rw[e,e2,(zb7).2 rfl]at hq;cases hq
    simp[this]
   |false=>exact h2 y
theorem zmt{n k j:Nat}:∀{l:List (Int×SV)},ziz l→zjJ n k j l=true
 |[],_=>rfl
 |(_,v)::r,⟨⟨b,hb⟩,h⟩=>by show(v.ids n k j&&zjJ n k j r)=true;rw[zmt h,hb];rfl
theorem zr6{k:Toks}{l:List (Int×SV)}(h:ziz l){x:Int}{n:Nat}:(zaG 6 1 1 (fM k l x n).c&&zbH 6 1 1 (fM k l x n).o)=true:=by show(true&&(zjJ _ _ _ l&&true))=true;rw[zmt h];rfl
attribute [local irreducible] Con zax zan zau zai zaw zbt zak zaC zbh zba I64
theorem zv0{k:Toks}(hk:ziy k){tr:Int→Nat}{Bd:Nat}(hB:∀y,tr y<Bd)(hT:∀x y,x≠0→y∈zdg k x→tr x<tr y)(hZ:∀x y,y∈zdg k x→y≠0):∀(n:Nat) (x:Int) (l:List (Int×SV)),x≠0→Bd≤n+tr x→ziz l→Con Tryz.prog 360 [H x,.pt 2 [],.pt 0 [],.pt 3 []] (fM0 k l) fun o m=>o=.ret (.tu (.d .un))∧∃l',m=fM0 k l'∧ziz l'∧∀y,zhq (zef l' y)=true↔zhq (zef l y)=true∨TRe k x y
 |0,x,l,_,hn,_=>by have:=hB x;omega
 |n+1,x,l,hx,hn,hl=>by
  have ih:=zv0 hk hB hT hZ n;have hA:=(zgu k.b).out (zbZ .c hD 0 (zcE k.b));have hlen:=zdo k.b;have hkid:zdg k x=zaN k (abP x) (zcE k.b):=rfl;have hT':=fun y=>hT x y hx;obtain⟨p1,p2⟩:=zsv hl x;refine za3 Tryz.func360 rfl (by kernel_rfl) rfl rfl ?_;conv=>whnf
  generalize znd l x (SV.d (D.bo true))=l1 at p1 p2;refine zaM Tryz.func85 rfl (by kernel_rfl) rfl rfl ?_;conv=>whnf
  rw[hkid]at hT';generalize zcE k.b=is at hA hlen hT' hkid;refine zad (hA) ?_;conv=>whnf
  refine⟨zac (x:=(is.length:Int)) (by omega) (by omega),?_⟩;conv=>whnf
  refine zcJ 5 .c (za4 []) rfl ?_;refine zaB zaa (fun i=>i≤is.length) (fun i=>is.length - i) (fun i=>[(14,I i),(5,owl 1 (hL (zaN k (abP x) (is.take i))).length .c (hL (zaN k (abP x) (is.take i))))]) (fun i=>fM k l1 x (hL (zaN k (abP x) (is.take i))).length) 0 (zFV _) ⟨rfl,rfl,trivial⟩ rfl (fun i=>⟨zF5 _,zF5 _,zF5 _⟩) ?_;intro i hi;have hlen1:(hL (zaN k (abP x) (is.take i))).length≤32:=by
   have h1:=zcv k (abP x) (is.take i);have h2:(is.take i).length≤is.length:=by simp;omega
   rw[zFH];omega
  conv=>whnf
  refine⟨fun hq=>?_,fun hq=>?_⟩
  ·have hlt:i<is.length:=by
    have:(i:Int)<is.length:=by simpa using hq
    omega
   have hs:=ze2 k (abP x) hlt;conv=>whnf
   refine⟨⟨(by omega:(0:Int)≤(i:Int)),(by omega:(i:Int)<(is.length:Int))⟩,?_⟩;conv=>whnf
   refine zad (zgw k (is.getD i 0) hk) ?_;conv=>whnf
   refine zaM Tryz.func361 rfl (by kernel_rfl) rfl rfl ?_;conv=>whnf
   refine⟨fun hb=>?_,fun hb=>?_⟩
   ·rw[if_pos (show abP x (zcg k (is.getD i 0))=true from hb)]at hs;have e:hL (zaN k (abP x) (is.take (i+1)))=hL (zaN k (abP x) (is.take i))++[hD (is.getD i 0)]:=by rw[hs];simp
    generalize hL (zaN k (abP x) (is.take i))=L at e hlen1 ⊢;conv=>whnf
    refine Or.inl ?_;conv=>whnf
    refine⟨⟨rfl,(by omega:L.length+1≤2147483648)⟩,?_⟩;conv=>whnf
    refine⟨zac (x:=(i:Int)+1) (by omega) (by omega),?_⟩;conv=>whnf
    refine⟨i+1,hlt,by omega,⟨rfl,?_,trivial⟩,⟨?_,zr6 p1⟩,?_⟩<;>rw[e]
    ·show some (SV.ow 1 (L.length+1) (L.length+[hD (is.getD i 0)].length) .c (zdc L.length (za4 L) (za4 [hD (is.getD i 0)])))=_;rw[zcq,zFY];rfl
    ·rw[zFY];rfl
    ·rfl
   ·rw[if_neg (show¬abP x (zcg k (is.getD i 0))=true by rw[show abP x (zcg k (is.getD i 0))=false from hb];simp),zHm]at hs;conv=>whnf
    refine⟨zac (x:=(i:Int)+1) (by omega) (by omega),?_⟩;conv=>whnf
    refine⟨i+1,hlt,by omega,⟨rfl,?_,trivial⟩,⟨?_,zr6 p1⟩,?_⟩<;>rw[hs]<;>rfl
  ·have hlt:i=is.length:=by
    have:¬((i:Int)<is.length):=by simpa using hq
    omega
   subst hlt;rw[zHe];rw[zHe]at hlen1;generalize hks:zaN k (abP x) is=ks at hT' hlen1 hkid;conv=>whnf
   refine⟨zac (x:=((hL ks).length:Int)) (by omega) (by omega),?_⟩;conv=>whnf
   refine zaB zaa (fun(s:Nat×List (Int×SV))=>s.1≤ks.length∧ziz s.2∧∀y,zhq (zef s.2 y)=true↔zhq (zef l1 y)=true∨∃z∈ks.take s.1,TRe k z y) (fun s=>ks.length - s.1) (fun s=>[(13,I s.1)]) (fun s=>fM k s.2 x (hL ks).length) (0,l1) ⟨zFV _,p1,fun y=>by simp⟩ ⟨rfl,trivial⟩ rfl (fun i=>⟨zF5 _,zF5 _,zF5 _⟩) ?_;rintro⟨i,l2⟩ ⟨hi,q1,q2⟩;have hlk:(hL ks).length=ks.length:=zFH ..;conv=>whnf
   refine⟨fun hq=>?_,fun hq=>?_⟩
   ·have hlt:i<ks.length:=by
     have:(i:Int)<(hL ks).length:=by simpa using hq
     omega
    have hz:ks[i]?=some (ks.getD i 0):=by rw[zG9,zHa hlt];rfl
    have hzm:ks.getD i 0∈ks:=zGz hz;have hzk:ks.getD i 0∈zdg k x:=by rw[hkid];exact hzm
    have htz:=hT x _ hx hzk;conv=>whnf
    refine⟨⟨(by omega:(0:Int)≤(i:Int)),(by omega:(i:Int)<((hL ks).length:Int))⟩,?_⟩;conv=>whnf
    have eH:za4 (hL ks) ((((i,l2):Nat×List (Int×SV)).fst:Nat):Int).toNat=hD (ks.getD i 0):=zc3 hD 0 hlt;rw[eH];conv=>whnf
    have hc:=zcb [H x,.d (zbe k)] [(hL ks).length] [] (ih (ks.getD i 0) l2 (hZ x _ hzk) (by omega) q1) rfl (by show(true&&(zjJ _ _ _ l2&&true))=true;rw[zmt q1];rfl) (by rintro o m' ⟨_,l',rfl,_⟩;exact⟨rfl,rfl,rfl⟩);refine zal hc ?_;rintro o m' ⟨m2,⟨rfl,l3,rfl,r1,r2⟩,rfl⟩;conv=>whnf
    refine⟨zac (x:=(i:Int)+1) (by omega) (by omega),?_⟩;conv=>whnf
    refine⟨(i+1,l3),⟨hlt,r1,fun y=>?_⟩,by simp only;omega,⟨rfl,trivial⟩,⟨rfl,zr6 r1⟩,rfl⟩;rw[r2,q2,zHb,hz];simp only[zIx,zF2,zHW];constructor
    ·rintro((h|⟨z,h1,h2⟩)|h)
     ·exact .inl h
     ·exact .inr ⟨z,.inl h1,h2⟩
     ·exact .inr ⟨_,.inr rfl,h⟩
    ·rintro(h|⟨z,h1|rfl,h2⟩)
     ·exact .inl (.inl h)
     ·exact .inl (.inr ⟨z,h1,h2⟩)
     ·exact .inr h2
   ·have hlt:i=ks.length:=by
     have:¬((i:Int)<(hL ks).length):=by simpa using hq
     omega
    subst hlt;conv=>whnf
    refine⟨?_,rfl,l2,rfl,q1,fun y=>?_⟩
    ·show(true&&(true&&(zjJ _ _ _ l2&&true)))=true;rw[zmt q1];rfl
    ·rw[q2,zHe,p2,zyU,hkid];simp only[zGD,zGG,or_assoc]
theorem znD(p:Int→Bool){l:List Int}{i:Nat}(hi:i<l.length):(l.take (i+1)).filter p=(l.take i).filter p++(if p (l.getD i 0)=true then[l.getD i 0]else[]):=by rw[zHb,zHR,zHa hi,zG9,zHa hi];simp only[zIx,zIy,zHS,zIz]
theorem zr7{k:Toks}{l:List (Int×SV)}(h:ziz l){n:Nat}:(zaG 4 1 1 (⟨(fM0 k l).c,[n],(fM0 k l).o⟩:MS).c&&zbH 4 1 1 (⟨(fM0 k l).c,[n],(fM0 k l).o⟩:MS).o)=true:=by show(true&&(zjJ _ _ _ l&&true))=true;rw[zmt h];rfl
theorem zlV{k:Toks}(hk:ziy k){tr:Int→Nat}{Bd:Nat}(hB:∀y,tr y<Bd)(hT:∀x y,x≠0→y∈zdg k x→tr x<tr y)(hZ:∀x y,y∈zdg k x→y≠0)(x:Int):∃u:SV,u.shape=.c∧zay Tryz.prog 334 [.d (zbe k),H x] (T3 (.d (zbe (zim k x))) u (I (bif zah k.b x then 0 else 4))):=by
 have hA:=(zgu k.b).out (zbZ .c hD 0 (zcE k.b));have hlen:=zdo k.b;cases hg:zah k.b x with
 |false=>
  refine⟨LS [],rfl,?_⟩;refine zat Tryz.func334 rfl (by kernel_rfl) rfl rfl rfl ?_;conv=>whnf
  refine zad (zbz k.b x) ?_;conv=>whnf
  refine⟨fun _=>?_,(fun hq=>by rw[hg]at hq;cases hq)⟩;conv=>whnf
  rw[zim,hg];exact⟨rfl,⟨_,rfl,zvK fun ro bl x h=>zcO .c .c _ _ ro bl x h⟩,rfl⟩
 |true=>
  have hx:=zb2 hg;refine⟨HS (zAZ k x),rfl,?_⟩;refine zat Tryz.func334 rfl (by kernel_rfl) rfl rfl rfl ?_;conv=>whnf
  refine zad (zbz k.b x) ?_;conv=>whnf
  refine⟨(fun hq=>by rw[hg]at hq;cases hq),fun _=>?_⟩;conv=>whnf
  refine zal (zv0 hk hB hT hZ Bd x [] hx (by omega) trivial) ?_;rintro o m' ⟨rfl,l2,rfl,r1,r2⟩;conv=>whnf
  have hR:zAZ k x=(zcE k.b).filter fun y=>zhq (zef l2 y):=by
   unfold zAZ;refine List.filter_congr fun y _=>?_;have h2:zhq (zef l2 y)=true↔TRe k x y:=by
    have:=r2 y
    rwa [show zhq (zef [] y)=true↔False from⟨(fun h=>by cases h),False.elim⟩,false_or]at this
   rw[zHI];exact Iff.trans (by simp) h2.symm
  have hK:zim k x=woK k (zAZ k x):=by rw[zim,hg];rfl
  rw[hK,hR];generalize zcE k.b=is at hA hlen;refine zad (hA) ?_;conv=>whnf
  refine⟨zac (x:=(is.length:Int)) (by omega) (by omega),?_⟩;conv=>whnf
  refine zcJ 9 .c (za4 []) rfl ?_;refine zaB zaa (fun i=>i≤is.length) (fun i=>is.length - i) (fun i=>[(27,I i),(9,owl 1 (hL ((is.take i).filter fun y=>zhq (zef l2 y))).length .c (hL ((is.take i).filter fun y=>zhq (zef l2 y))))]) (fun i=>⟨(fM0 k l2).c,[(hL ((is.take i).filter fun y=>zhq (zef l2 y))).length],(fM0 k l2).o⟩) 0 (zFV _) ⟨rfl,rfl,trivial⟩ rfl (fun i=>⟨zF5 _,zF5 _,zF5 _⟩) ?_;intro i hi;have hlen1:(hL ((is.take i).filter fun y=>zhq (zef l2 y))).length≤32:=by
   have h1:=zHT (fun y=>zhq (zef l2 y)) (is.take i);have h2:(is.take i).length≤is.length:=by simp;omega
   rw[zFH];omega
  conv=>whnf
  refine⟨fun hq=>?_,fun hq=>?_⟩
  ·have hlt:i<is.length:=by
    have:(i:Int)<is.length:=by simpa using hq
    omega
   have hs:=znD (fun y=>zhq (zef l2 y)) hlt;conv=>whnf
   refine⟨⟨(by omega:(0:Int)≤(i:Int)),(by omega:(i:Int)<(is.length:Int))⟩,?_⟩;conv=>whnf
   refine⟨r1,_,rfl,?_⟩;conv=>whnf
   refine⟨fun hb=>?_,fun hb=>?_⟩
   ·rw[if_pos (show zhq (zef l2 (is.getD i 0))=true from hb)]at hs;have e:hL ((is.take (i+1)).filter fun y=>zhq (zef l2 y))=hL ((is.take i).filter fun y=>zhq (zef l2 y))++[hD (is.getD i 0)]:=by rw[hs];simp
    generalize hL ((is.take i).filter fun y=>zhq (zef l2 y))=L at e hlen1 ⊢;conv=>whnf
    refine Or.inl ?_;conv=>whnf
    refine⟨⟨rfl,(by omega:L.length+1≤2147483648)⟩,?_⟩;conv=>whnf
    refine⟨zac (x:=(i:Int)+1) (by omega) (by omega),?_⟩;conv=>whnf
    refine⟨i+1,hlt,by omega,⟨rfl,?_,trivial⟩,⟨?_,zr7 r1⟩,?_⟩<;>rw[e]
    ·show some (SV.ow 1 (L.length+1) (L.length+[hD (is.getD i 0)].length) .c (zdc L.length (za4 L) (za4 [hD (is.getD i 0)])))=_;rw[zcq,zFY];rfl
    ·rw[zFY];rfl
    ·rfl
   ·rw[if_neg (show¬zhq (zef l2 (is.getD i 0))=true by rw[show zhq (zef l2 (is.getD i 0))=false from hb];simp),zHm]at hs;conv=>whnf
    refine⟨zac (x:=(i:Int)+1) (by omega) (by omega),?_⟩;conv=>whnf
    refine⟨i+1,hlt,by omega,⟨rfl,?_,trivial⟩,⟨?_,zr7 r1⟩,?_⟩<;>rw[hs]<;>rfl
  ·have hlt:i=is.length:=by
    have:¬((i:Int)<is.length):=by simpa using hq
    omega
   subst hlt;rw[zHe]at hlen1 ⊢;generalize(is.filter fun y=>zhq (zef l2 y))=ks at hlen1;have hlk:(hL ks).length=ks.length:=zFH ..;conv=>whnf
   refine zad (zay.le (zm6 k (l:=ks) (by omega)) ⟨SV.le_refl _,?_,trivial⟩) ?_
   ·intro ro bl x h;refine⟨(fun h=>by cases h),fun _=>?_⟩;have h1:=(h.dat rfl).2 rfl;rw[hlk]at h1;exact zbg.congr h1 fun j hj=>zv6 hj
   conv=>whnf
   exact⟨rfl,zae rfl⟩
end Sx
namespace Sx
def zqC(p:Int→Bool):List Int→Nat→Int
 |[],_=> -1
 |y::l,i=>bif p y then i else zqC p l (i+1)
theorem zph{p:Int→Bool}{l:List Int}:decide (zqC p l 0≥0)=l.any p:=by
 have:∀(l:List Int) (i:Nat),decide (zqC p l i≥0)=l.any p:=fun l=>by
  induction l with
  |nil=>intro i;rfl
  |cons y l ih=>
   intro i;rw[zqC,zHF];cases p y with
   |true=>exact zFQ (zIA i)
   |false=>exact ih (i+1)
 exact this l 0
attribute [local irreducible] Con zax zan zau zai zaw zbt zak zaC zbh zba I64
theorem zwR{k a:Nat}{m:MS}{l:List Int}{p:Int→Bool}(hn:l.length≤2147483648)(hk:∀y∈l,Con Tryz.prog k (H y::[.pt a []]) m fun o m'=>o=.ret (B (p y))∧m'=m):Con Tryz.prog 221 [LS l,.fn (.func k) (.pr (.pt a []) (.d .un))] m fun o m'=>o=.ret (I (zqC p l 0))∧m'=m:=by
 refine zaM Tryz.func221 rfl (by kernel_rfl) rfl rfl ?_;conv=>whnf
 refine⟨zac (x:=(l.length:Int)) (by omega) (by omega),?_⟩;conv=>whnf
 refine zed zaa (fun i=>i≤l.length∧zqC p l 0=zqC p (l.drop i) i) (fun i=>l.length - i) (fun i=>[(8,I i)]) (fun _=>m) 0 ⟨zFV _,rfl⟩ ⟨rfl,trivial⟩ rfl (fun i=>⟨zF5 _,zF5 _,zF5 _⟩) ?_;rintro i ⟨hi,hf⟩;conv=>whnf
 refine⟨fun hq=>?_,fun hq=>?_⟩
 ·have hlt:i<l.length:=by
   have:(i:Int)<l.length:=by simpa using hq
   omega
  have hg:l[i]?=some (l.getD i 0):=by rw[zG9,zHa hlt];rfl
  have hmem:l.getD i 0∈l:=zGz hg;rw[zdC hg]at hf;simp only[zqC]at hf;conv=>whnf
  refine⟨⟨(by omega:(0:Int)≤(i:Int)),(by omega:(i:Int)<(l.length:Int))⟩,?_⟩;conv=>whnf
  refine zbk (hk _ hmem) ?_;conv=>whnf
  refine⟨fun hb=>?_,fun hb=>?_⟩
  ·have hb:p (l.getD i 0)=true:=hb;rw[hb]at hf;conv=>whnf
   exact⟨by rw[hf];rfl,rfl⟩
  ·have hb:p (l.getD i 0)=false:=hb;rw[hb]at hf;conv=>whnf
   refine⟨zac (x:=(i:Int)+1) (by omega) (by omega),?_⟩;conv=>whnf
   exact⟨i+1,⟨hlt,hf⟩,by omega,⟨rfl,trivial⟩,.inl rfl⟩
 ·have hlt:i=l.length:=by
   have:¬((i:Int)<l.length):=by simpa using hq
   omega
  subst hlt;rw[zHG]at hf;conv=>whnf
  exact⟨by rw[hf];rfl,rfl⟩
theorem zwH{k a:Nat}{m:MS}{l:List Int}{p:Int→Bool}(hn:l.length≤2147483648)(hk:∀y∈l,Con Tryz.prog k (H y::[.pt a []]) m fun o m'=>o=.ret (B (p y))∧m'=m):Con Tryz.prog 165 [LS l,.fn (.func k) (.pr (.pt a []) (.d .un))] m fun o m'=>o=.ret (B (l.any p))∧m'=m:=by
 rw[←zph];refine zaM Tryz.func165 rfl (by kernel_rfl) rfl rfl ?_;conv=>whnf
 refine zbk (zwR hn hk) ?_;conv=>whnf
 exact⟨rfl,rfl⟩
theorem zwS{k a b c d:Nat}{m:MS}{l:List Int}{p:Int→Bool}(hn:l.length≤2147483648)(hk:∀y∈l,Con Tryz.prog k (H y::[.pt a [],.pt b [],.pt c [],.pt d []]) m fun o m'=>o=.ret (B (p y))∧m'=m):Con Tryz.prog 221 [LS l,.fn (.func k) (.pr (.pt a []) (.pr (.pt b []) (.pr (.pt c []) (.pr (.pt d []) (.d .un)))))] m fun o m'=>o=.ret (I (zqC p l 0))∧m'=m:=by
 refine zaM Tryz.func221 rfl (by kernel_rfl) rfl rfl ?_;conv=>whnf
 refine⟨zac (x:=(l.length:Int)) (by omega) (by omega),?_⟩;conv=>whnf
 refine zed zaa (fun i=>i≤l.length∧zqC p l 0=zqC p (l.drop i) i) (fun i=>l.length - i) (fun i=>[(8,I i)]) (fun _=>m) 0 ⟨zFV _,rfl⟩ ⟨rfl,trivial⟩ rfl (fun i=>⟨zF5 _,zF5 _,zF5 _⟩) ?_;rintro i ⟨hi,hf⟩;conv=>whnf
 refine⟨fun hq=>?_,fun hq=>?_⟩
 ·have hlt:i<l.length:=by
   have:(i:Int)<l.length:=by simpa using hq
   omega
  have hg:l[i]?=some (l.getD i 0):=by rw[zG9,zHa hlt];rfl
  have hmem:l.getD i 0∈l:=zGz hg;rw[zdC hg]at hf;simp only[zqC]at hf;conv=>whnf
  refine⟨⟨(by omega:(0:Int)≤(i:Int)),(by omega:(i:Int)<(l.length:Int))⟩,?_⟩;conv=>whnf
  refine zbk (hk _ hmem) ?_;conv=>whnf
  refine⟨fun hb=>?_,fun hb=>?_⟩
  ·have hb:p (l.getD i 0)=true:=hb;rw[hb]at hf;conv=>whnf
   exact⟨by rw[hf];rfl,rfl⟩
  ·have hb:p (l.getD i 0)=false:=hb;rw[hb]at hf;conv=>whnf
   refine⟨zac (x:=(i:Int)+1) (by omega) (by omega),?_⟩;conv=>whnf
   exact⟨i+1,⟨hlt,hf⟩,by omega,⟨rfl,trivial⟩,.inl rfl⟩
 ·have hlt:i=l.length:=by
   have:¬((i:Int)<l.length):=by simpa using hq
   omega
  subst hlt;rw[zHG]at hf;conv=>whnf
  exact⟨by rw[hf];rfl,rfl⟩
theorem zwI{k a b c d:Nat}{m:MS}{l:List Int}{p:Int→Bool}(hn:l.length≤2147483648)(hk:∀y∈l,Con Tryz.prog k (H y::[.pt a [],.pt b [],.pt c [],.pt d []]) m fun o m'=>o=.ret (B (p y))∧m'=m):Con Tryz.prog 165 [LS l,.fn (.func k) (.pr (.pt a []) (.pr (.pt b []) (.pr (.pt c []) (.pr (.pt d []) (.d .un)))))] m fun o m'=>o=.ret (B (l.any p))∧m'=m:=by
 rw[←zph];refine zaM Tryz.func165 rfl (by kernel_rfl) rfl rfl ?_;conv=>whnf
 refine zbk (zwS hn hk) ?_;conv=>whnf
 exact⟨rfl,rfl⟩
end Sx
namespace Sx
structure StOk (s:St) (d:Int→Nat):Prop where
 t:TInv s.t d
 k:ziy s.k
attribute [local irreducible] Con zax zan zau zai zaw zbt zak zaC zbh zba I64
theorem zpS{l:List Int}:(HS l).le (LS l):=zbZ .c hD 0 l
theorem zlI{t:Tb}{d:Int→Nat}(ht:TInv t d){h:Int}(hu:U32 h):(zbW t h).length≤33:=by
 unfold zbW;cases hg:zah t.b h with
 |true=>exact zd3 ht.ok ht.rk (zb2 hg)
 |false=>exact zFV _
theorem zpL(k:Toks)(r a:Int):ztx k r a=(zhm k a&&((zf7 k r a).length==(0:Int))):=by
 unfold ztx
 congr 1
 cases hq:((zf7 k r a).length==0)with
 |true=>
  have:(zf7 k r a).length=0:=by simpa using hq
  rw[this];rfl
 |false=>
  have:(zf7 k r a).length≠0:=by simpa using hq
  exact(zFN.2 (by omega)).symm
set_option maxRecDepth 100000 in
theorem zyc{s:St}{d:Int→Nat}(hs:StOk s d){h:Int}(hu:U32 h)(what:Int)(hw:what=0∨what=1∨what=2):zay Tryz.prog 82 [.d (zgI s),H h,.d (.z .u8 what)] (B (zsH s h what)):=by
 have hn:=zlI hs.t hu;refine zat Tryz.func82 rfl (by kernel_rfl) rfl rfl rfl ?_;conv=>whnf
 refine⟨fun hq=>?_,fun h0=>⟨fun hq=>?_,fun h1=>⟨fun hq=>?_,fun h2=>?_⟩⟩⟩
 ·subst hq;conv=>whnf
  refine zdO (v:=B (zu9 s.k h 0)) ?_ (fun _ h _=>h) ?_
  ·refine za3 Tryz.func161 rfl (by kernel_rfl) rfl rfl ?_;conv=>whnf
   refine zad (zqY hs.k h 0) ?_;conv=>whnf
   exact⟨rfl,rfl,rfl⟩
  conv=>whnf
  exact⟨rfl,zae rfl⟩
 ·subst hq;conv=>whnf
  refine zdO (v:=B (zhm s.k 0&&((zf7 s.k h 0).length==(0:Int)))) ?_ (fun _ h _=>h) ?_
  ·refine za3 Tryz.func162 rfl (by kernel_rfl) rfl rfl ?_;conv=>whnf
   refine zad (zoz hs.k h 0) ?_;conv=>whnf
   exact⟨rfl,rfl,rfl⟩
  conv=>whnf
  refine⟨rfl,zae ?_⟩;show B _=B (ztx s.k h 0);rw[zpL];exact congrArg B (zF7 _)
 ·subst hq;conv=>whnf
  refine zdO (v:=B (zwB s h)) ?_ (fun _ h _=>h) ?_
  ·refine za3 Tryz.func164 rfl (by kernel_rfl) rfl rfl ?_;conv=>whnf
   refine zad ((zha hs.t.ok hs.t.rk hu).out zpS) ?_;conv=>whnf
   refine zbk (zwH (p:=fun x=>decide (((hL (zaN s.k (onP x) (zcE s.k.b))).length:Int)>0)) (by omega) fun y _=>?_) ?_
   ·refine za3 Tryz.func166 rfl (by kernel_rfl) rfl rfl ?_;conv=>whnf
    have hl:(hL (zaN s.k (onP y) (zcE s.k.b))).length≤32:=by rw[zFH];exact zFU (zcv s.k (onP y) (zcE s.k.b)) (zdo s.k.b)
    refine zad (zw1 hs.k y) ?_;conv=>whnf
    refine⟨zac (x:=((hL (zaN s.k (onP y) (zcE s.k.b))).length:Int)) (by omega) (by omega),?_⟩;conv=>whnf
    exact⟨rfl,rfl,rfl⟩
   conv=>whnf
   exact⟨rfl,rfl,rfl⟩
  conv=>whnf
  exact⟨rfl,zae rfl⟩
 ·rcases hw with e|e|e
  ·exact absurd e h0
  ·exact absurd e h1
  ·exact absurd e h2
set_option maxRecDepth 100000 in
theorem zAs{s:St}{d:Int→Nat}(hs:StOk s d)(task h what:Int):zay Tryz.prog 83 [.d (zgI s),I task,H h,.d (.z .u8 what)] (B (zsi s task h what)):=by
 have hl:=zFU (zcv s.k (onP h) (zcE s.k.b)) (zdo s.k.b);refine zat Tryz.func83 rfl (by kernel_rfl) rfl rfl rfl ?_;conv=>whnf
 refine zad ((zw1 hs.k h).out zpS) ?_;conv=>whnf
 refine zbk (zwI (p:=zxW s task h what) (by omega) fun y _=>?_) ?_
 ·refine za3 Tryz.func167 rfl (by kernel_rfl) rfl rfl ?_;conv=>whnf
  refine zad (zgw s.k y hs.k) ?_;conv=>whnf
  refine zam (zqY hs.k h y) (fun _ h _ _=>h) ?_;conv=>whnf
  refine zam (zoz hs.k h y) (fun _ h _ _ _=>h) ?_;conv=>whnf
  refine⟨rfl,congrArg (fun b=>Out.ret (B b)) ?_,rfl⟩;rw[zxW,zpL]
 conv=>whnf
 exact⟨rfl,zae rfl⟩
set_option maxRecDepth 100000 in
theorem zB3{s:St}{d:Int→Nat}(hs:StOk s d)(task:Int)(ht:0≤task){h:Int}(hu:U32 h)(what:Int)(hw:what=0∨what=1∨what=2):zay Tryz.prog 38 [.d (zgI s),I task,H h,.d (.z .u8 what)] (I (zf4 s task h what)):=by
 refine zat Tryz.func38 rfl (by kernel_rfl) rfl rfl rfl ?_;conv=>whnf
 refine zad (zbz s.t.b h) ?_;conv=>whnf
 refine⟨fun hq=>?_,fun hq=>?_⟩
 ·have hg:zah s.t.b h=false:=by simpa using hq
  conv=>whnf
  refine⟨rfl,zae ?_⟩;rw[zf4,hg];rfl
 ·have hg:zah s.t.b h=true:=by simpa using hq
  have e:zf4 s task h what=bif zli s task h what then 0 else 5:=by rw[zf4,hg];rfl
  rw[e];conv=>whnf
  refine zad (zlT s.o s.t h hs.t.rk) ?_;conv=>whnf
  refine⟨fun h3=>?_,fun h3=>?_⟩
  ·have h3:((ofO s.o s.t h).kind==3)=true:=h3;conv=>whnf
   refine⟨fun _=>ht,?_⟩;conv=>whnf
   have eb:zli s task h what=((((what==0)&&decide (task≥0))&&decide (task<8))&&zuN (ofO s.o s.t h) task):=by rw[zli,h3];rfl
   refine⟨fun hb=>?_,fun hb=>?_⟩
   ·have hb:(!zli s task h what)=true:=by rw[eb];exact hb
    conv=>whnf
    refine⟨rfl,zae ?_⟩;rw[show zli s task h what=false by simpa using hb];rfl
   ·have hb:(!zli s task h what)=false:=by rw[eb];exact hb
    conv=>whnf
    refine⟨rfl,zae ?_⟩;rw[show zli s task h what=true by simpa using hb];rfl
  ·have h3:((ofO s.o s.t h).kind==3)=false:=h3;conv=>whnf
   refine⟨fun h1=>?_,fun h1=>?_⟩
   ·have h1:((ofO s.o s.t h).kind==1)=true:=h1;conv=>whnf
    refine zam (zyc hs hu what hw) (fun _ h _=>h) ?_;conv=>whnf
    refine zam (zAs hs task h what) (fun _ h _=>h) ?_;conv=>whnf
    have eb:zli s task h what=((((ofO s.o s.t h).task==task)&&zsH s h what)||zsi s task h what):=by rw[zli,h3,h1];rfl
    refine⟨fun hb=>?_,fun hb=>?_⟩
    ·have hb:(!zli s task h what)=true:=by rw[eb];exact hb
     conv=>whnf
     refine⟨rfl,zae ?_⟩;rw[show zli s task h what=false by simpa using hb];rfl
    ·have hb:(!zli s task h what)=false:=by rw[eb];exact hb
     conv=>whnf
     refine⟨rfl,zae ?_⟩;rw[show zli s task h what=true by simpa using hb];rfl
   ·have h1:((ofO s.o s.t h).kind==1)=false:=h1;have eb:zli s task h what=false:=by rw[zli,h3,h1];rfl
    conv=>whnf
    refine⟨fun _=>?_,(fun h=>by cases h)⟩;conv=>whnf
    refine⟨rfl,zae ?_⟩;rw[eb];rfl
end Sx
end Go.Proofs.YtfbhkfhbnkncoaaGreatDoor
