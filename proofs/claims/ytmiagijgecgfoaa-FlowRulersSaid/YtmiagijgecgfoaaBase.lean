/-
  Lemmas on worlds, slices that read as lists, owned rows, strings as lists of bytes: no function of the program.
-/
import Derived.Test.YtmiagijgecgfoaaProg
import Derived.WalkKit
import Derived.WalkLawsBesides
import Derived.WalkSpells
import Derived.Lib.Hide
import Derived.Lib.Strings
import Derived.Maps.AppendAt
import Derived.Deep.AppendLies
import Derived.Deep.Draws
import Derived.Laws.BytesArg
import Derived.Laws.IdiomStrings
namespace Go.Proofs.Ytmiagijgecgfoaa
open Go.RowKit

theorem ret_bool {a b : Bool} (h : a = b) : Ending.returned (.bool a) = Ending.returned (.bool b) := by rw [h]
theorem ret_val {a b : Value} (h : a = b) : Ending.returned a = Ending.returned b := by rw [h]

/-- a string of given bytes -/
def S (l : List UInt8) : ByteArray := ⟨l.toArray⟩
theorem S_of (s : ByteArray) : ∃ l, s = S l := ⟨s.data.toList, by unfold S; exact (Lib.mk_data s).symm⟩
@[go_sem] theorem S_size (l : List UInt8) : (S l).size = l.length := by simp [S, ByteArray.size]
@[go_sem] theorem S_toList (l : List UInt8) : (S l).toList = l := by simp [S]
@[go_sem] theorem S_append (l m : List UInt8) : S l ++ S m = S (l ++ m) := ByteArray.mk_append_mk l m
@[go_sem] theorem S_extract (l : List UInt8) (a b : Nat) : (S l).extract a b = S ((l.take b).drop a) := by
  unfold S
  rw [ByteArray.extract_mk, List.drop_take]
@[go_sem] theorem S_get (l : List UInt8) (i : Nat) (h : i < (S l).size) : (S l)[i]'h = l[i]'(by simpa [S_size] using h) := by
  simp [S, ByteArray.getElem_eq_getElem_data]
theorem S_inj {l m : List UInt8} (h : S l = S m) : l = m := by
  have := congrArg ByteArray.toList h
  simpa [S_toList] using this

/-- a slice at A, of n elements of size cells each, below block B: its cells are xs -/
def Rd (w : World) (B size : Nat) (A : Option Addr) (n : Nat) (xs : List Value) : Prop :=
  xs.length = n * size ∧ (0 < n → ∃ b o, A = some ⟨b, o, none⟩ ∧ b < B ∧ ∀ j u, xs[j]? = some u → w.cell? ⟨b, o + j, none⟩ = some u)

section
variable {w w' : World} {B B' size n : Nat} {A : Option Addr} {xs : List Value}
theorem Rd.none_ : Rd w B size A 0 [] := ⟨by simp, fun h => absurd h (by omega)⟩
theorem Rd.below (h : Rd w B size A n xs) (hb : Below B w w') : Rd w' B size A n xs :=
  ⟨h.1, fun hn => by
    obtain ⟨b, o, e, hlt, hc⟩ := h.2 hn
    exact ⟨b, o, e, hlt, fun j u hu => (hb.cell (p := ⟨b, o + j, none⟩) hlt).trans (hc j u hu)⟩⟩
theorem Rd.mono (h : Rd w B size A n xs) (hB : B ≤ B') : Rd w B' size A n xs :=
  ⟨h.1, fun hn => by
    obtain ⟨b, o, e, hlt, hc⟩ := h.2 hn
    exact ⟨b, o, e, by omega, hc⟩⟩
theorem Rd.drewN (h : Rd w B size A n xs) (k : Nat) : Rd (w.drewN k) B size A n xs := h
theorem Rd.of_own {base : Nat} {e : TypeId} {c : Nat} (h : w.ownsRow base e size (.slice A n c) n xs) : Rd w w.heap.size size A n xs := by
  refine ⟨h.1, fun hn => ?_⟩
  obtain ⟨g, cap, hv, _, hlt⟩ := h.form hn
  have hA : A = some ⟨g, 0, none⟩ := by injection hv
  subst hA
  refine ⟨g, 0, rfl, hlt, fun j u hu => ?_⟩
  have := h.cells (g := g) rfl j u hu
  have ha : (⟨g, 0, none⟩ : Addr).add j = ⟨g, 0 + j, none⟩ := by unfold Addr.add; split <;> simp_all
  rwa [ha] at this
theorem Rd.of_block {g : Nat} {cs : List Value} {t : TypeId} {fr : Nat × Nat} (hg : w.heap[g]? = some (.cells cs.toArray t fr)) (hB : g < B) (hl : cs.length = n * size) :
    Rd w B size (some ⟨g, 0, none⟩) n cs :=
  ⟨hl, fun _ => ⟨g, 0, rfl, hB, fun j u hu => by
    rw [Nat.zero_add, cell_of_row w g j cs.toArray t fr hg]
    simpa using hu⟩⟩
end

theorem Rd.of_new {size n : Nat} (w : World) (cs : List Value) (t : TypeId) (g : Nat) (hg : g = w.heap.size) (hl : cs.length = n * size) : Rd (w.alloc (.cells cs.toArray t)) (g + 1) size (some ⟨g, 0, none⟩) n cs := by
  subst hg
  exact Rd.of_block (heap_alloc_new w _) (by omega) hl

theorem own_shape {w : World} {base : Nat} {e : TypeId} {size : Nat} {v : Value} {n : Nat} {xs : List Value} (h : w.ownsRow base e size v n xs) : ∃ A c, v = .slice A n c := by
  rcases h.2 with ⟨rfl, rfl⟩ | ⟨g, cap, cur, rfl, _⟩
  · exact ⟨_, _, rfl⟩
  · exact ⟨_, _, rfl⟩

theorem own_below {w w' : World} {base B : Nat} {e : TypeId} {size : Nat} {v : Value} {n : Nat} {xs : List Value} (h : w.ownsRow base e size v n xs) (hb : Below B w w') (hB : w.heap.size ≤ B) :
    w'.ownsRow base e size v n xs := by
  refine h.kept (row := none) ⟨hb.os, hb.tape, hb.output, hb.size, fun k hk _ => hb.block k (by omega)⟩ ?_
  cases v.ownBlock <;> simp

theorem own_mono {w : World} {base base' : Nat} {e : TypeId} {size : Nat} {v : Value} {n : Nat} {xs : List Value} (h : w.ownsRow base e size v n xs) (hB : base' ≤ base) : w.ownsRow base' e size v n xs := by
  refine ⟨h.1, ?_⟩
  rcases h.2 with hn | ⟨g, cap, cur, e1, hb, rest⟩
  · exact .inl hn
  · exact .inr ⟨g, cap, cur, e1, by omega, rest⟩

theorem news_at (w : World) (cs : Array Value) (t : TypeId) (g : Nat) (hg : g = w.heap.size) : ∀ j u, cs.toList[j]? = some u → (w.alloc (.cells cs t)).cell? ((⟨g, 0, none⟩ : Addr).add j) = some u := by
  subst hg
  exact World.news_of_block (heap_alloc_new w _)
theorem grown0 {w0 w w1 : World} {B : Nat} {e : TypeId} {size : Nat} {v : Value} {n : Nat} {xs : List Value} (hb : Below B w0 w) (h : w.ownsRow B e size v n xs) (hs : B ≤ w.heap.size) (hg : w.grownBy w1 v.ownBlock) : Below B w0 w1 :=
  hb.grown hg hs fun k hk => (h.lt k hk).1
theorem grown1 {w0 w w1 : World} {o : Obj} {B : Nat} {e : TypeId} {size : Nat} {v : Value} {n : Nat} {xs : List Value} (hb : Below B w0 w) (h : w.ownsRow B e size v n xs) (hs : B ≤ w.heap.size) (hg : (w.alloc o).grownBy w1 v.ownBlock) : Below B w0 w1 :=
  grown0 (hb.alloc hs o) (h.alloc o) (by simp; omega) hg
theorem grown2 {w0 w w1 : World} {o o' : Obj} {B : Nat} {e : TypeId} {size : Nat} {v : Value} {n : Nat} {xs : List Value} (hb : Below B w0 w) (h : w.ownsRow B e size v n xs) (hs : B ≤ w.heap.size) (hg : ((w.alloc o).alloc o').grownBy w1 v.ownBlock) : Below B w0 w1 :=
  grown1 (hb.alloc hs o) (h.alloc o) (by simp; omega) hg

/-- the pieces of a list of pieces of one length -/
theorem flat_get {α : Type} (f : α → List Value) (m : Nat) (hf : ∀ x, (f x).length = m) : ∀ (l : List α) (k : Nat) (x : α), l[k]? = some x → ∀ j, j < m → (l.flatMap f)[k * m + j]? = (f x)[j]?
  | [], k, x, h, j, hj => by simp at h
  | y :: l, 0, x, h, j, hj => by
    simp at h
    subst h
    rw [List.flatMap_cons, List.getElem?_append_left (by rw [hf]; omega)]
    simp
  | y :: l, k + 1, x, h, j, hj => by
    have h' : l[k]? = some x := by simpa using h
    rw [List.flatMap_cons, List.getElem?_append_right (by rw [hf, Nat.add_mul]; omega), hf, ← flat_get f m hf l k x h' j hj]
    congr 1
    rw [Nat.add_mul]; omega
theorem flat_length {α : Type} (f : α → List Value) (m : Nat) (hf : ∀ x, (f x).length = m) (l : List α) : (l.flatMap f).length = l.length * m := by
  induction l with
  | nil => simp
  | cons y l ih => rw [List.flatMap_cons, List.length_append, hf, ih, List.length_cons, Nat.add_mul]; omega

theorem take_snoc {α : Type} {l : List α} {k : Nat} {x : α} (h : l[k]? = some x) : l.take (k + 1) = l.take k ++ [x] := by
  obtain ⟨hk, rfl⟩ := List.getElem?_eq_some_iff.1 h
  rw [List.take_succ_eq_append_getElem hk]

/-- the cells of bytes -/
def bytesV (l : List UInt8) : List Value := l.map fun u => .int .u8 (u.toNat : Int)
theorem bytesV_append (l m : List UInt8) : bytesV (l ++ m) = bytesV l ++ bytesV m := by simp [bytesV]
theorem bytesV_length (l : List UInt8) : (bytesV l).length = l.length := by simp [bytesV]
theorem bytesV_one (l : List UInt8) : ∀ u ∈ bytesV l, u.oneCell' = true := by
  intro u hu
  simp only [bytesV, List.mem_map] at hu
  obtain ⟨b, _, rfl⟩ := hu
  rfl
/-- a byte of a number -/
def by8 (n : Int) : UInt8 := UInt8.ofNat n.toNat
theorem by8_val (n : Int) (h0 : 0 ≤ n) (h1 : n ≤ 255) : ((by8 n).toNat : Int) = n := by
  unfold by8
  rw [UInt8.toNat_ofNat']
  omega
/-- string(b): the bytes that the slice reads -/
theorem run_str {P : Program} {w : World} {B : Nat} {A : Option Addr} {n : Nat} {l : List UInt8} (h : Rd w B 1 A n (bytesV l)) (src dst e : TypeId) (c : Nat)
    (hs : P.underlying src = some (.slice e)) (he : P.underlying e = some (.int .u8)) (hd : P.underlying dst = some .string) :
    (convert src dst (.slice A n c)).run P w = .ok (.string (S l)) w := by
  have hl : l.length = n := by have := h.1; rw [bytesV_length] at this; omega
  subst hl
  rcases A with _ | ad
  · rcases Nat.eq_zero_or_pos l.length with h0 | h0
    · have hl0 : l = [] := List.eq_nil_of_length_eq_zero h0
      subst hl0
      rw [run_convert_bytes_nil w src e hs he _ c dst hd]
      rfl
    · obtain ⟨b, o, hA, _⟩ := h.2 h0
      cases hA
  · refine run_convert_bytes_back w src dst e ad c l hs he hd fun j hj => ?_
    obtain ⟨b, o, hA, _, hc⟩ := h.2 (by omega)
    injection hA with hA
    subst hA
    have ha : (⟨b, o, none⟩ : Addr).add j = ⟨b, o + j, none⟩ := by unfold Addr.add; split <;> simp_all
    rw [ha]
    exact hc j _ (by simp [bytesV, List.getElem?_eq_getElem hj])

/-- an instruction, its numbers as integers -/
structure Ins where
  op : Int
  a : Int
  b : Int
  c : Int
  n : Int

def Ins.ok (x : Ins) : Prop := (0 ≤ x.op ∧ x.op ≤ 255) ∧ (0 ≤ x.a ∧ x.a ≤ 255) ∧ (0 ≤ x.b ∧ x.b ≤ 255) ∧ (0 ≤ x.c ∧ x.c ≤ 255) ∧ (0 ≤ x.n ∧ x.n ≤ 65535)
def Ins.cu (x : Ins) : List Value := [.int .u8 x.op, .int .u8 x.a, .int .u8 x.b, .int .u8 x.c, .int .u16 x.n]
def Ins.ci (x : Ins) : List Value := [.int .i64 x.op, .int .i64 x.a, .int .i64 x.b, .int .i64 x.c, .int .i64 x.n]
theorem Ins.cu_len (x : Ins) : x.cu.length = 5 := rfl
theorem Ins.ci_len (x : Ins) : x.ci.length = 5 := rfl

section
variable {w : World} {B n : Nat} {A : Option Addr} {l : List Ins}
theorem Rd.insU (h : Rd w B 5 A n (l.flatMap Ins.cu)) {k : Nat} (hk : k < n) : ∃ b o x, A = some ⟨b, o, none⟩ ∧ b < B ∧ l[k]? = some x ∧
    w.cell? ⟨b, o + k * 5, none⟩ = some (.int .u8 x.op) ∧ w.cell? ⟨b, o + k * 5 + 1, none⟩ = some (.int .u8 x.a) ∧ w.cell? ⟨b, o + k * 5 + 2, none⟩ = some (.int .u8 x.b) ∧
    w.cell? ⟨b, o + k * 5 + 3, none⟩ = some (.int .u8 x.c) ∧ w.cell? ⟨b, o + k * 5 + 4, none⟩ = some (.int .u16 x.n) := by
  obtain ⟨b, o, hA, hb, hc⟩ := h.2 (by omega)
  have hl : k < l.length := by have := h.1; rw [flat_length Ins.cu 5 Ins.cu_len] at this; omega
  have hx : l[k]? = some l[k] := List.getElem?_eq_getElem hl
  have hf := flat_get Ins.cu 5 Ins.cu_len l k _ hx
  refine ⟨b, o, l[k], hA, hb, hx, hc (k * 5) _ ((hf 0 (by omega)).trans rfl), ?_, ?_, ?_, ?_⟩
  · exact hc (k * 5 + 1) _ ((hf 1 (by omega)).trans rfl)
  · exact hc (k * 5 + 2) _ ((hf 2 (by omega)).trans rfl)
  · exact hc (k * 5 + 3) _ ((hf 3 (by omega)).trans rfl)
  · exact hc (k * 5 + 4) _ ((hf 4 (by omega)).trans rfl)
theorem Rd.insI (h : Rd w B 5 A n (l.flatMap Ins.ci)) {k : Nat} (hk : k < n) : ∃ b o x, A = some ⟨b, o, none⟩ ∧ b < B ∧ l[k]? = some x ∧
    w.cell? ⟨b, o + k * 5, none⟩ = some (.int .i64 x.op) ∧ w.cell? ⟨b, o + k * 5 + 1, none⟩ = some (.int .i64 x.a) ∧ w.cell? ⟨b, o + k * 5 + 2, none⟩ = some (.int .i64 x.b) ∧
    w.cell? ⟨b, o + k * 5 + 3, none⟩ = some (.int .i64 x.c) ∧ w.cell? ⟨b, o + k * 5 + 4, none⟩ = some (.int .i64 x.n) := by
  obtain ⟨b, o, hA, hb, hc⟩ := h.2 (by omega)
  have hl : k < l.length := by have := h.1; rw [flat_length Ins.ci 5 Ins.ci_len] at this; omega
  have hx : l[k]? = some l[k] := List.getElem?_eq_getElem hl
  have hf := flat_get Ins.ci 5 Ins.ci_len l k _ hx
  refine ⟨b, o, l[k], hA, hb, hx, hc (k * 5) _ ((hf 0 (by omega)).trans rfl), ?_, ?_, ?_, ?_⟩
  · exact hc (k * 5 + 1) _ ((hf 1 (by omega)).trans rfl)
  · exact hc (k * 5 + 2) _ ((hf 2 (by omega)).trans rfl)
  · exact hc (k * 5 + 3) _ ((hf 3 (by omega)).trans rfl)
  · exact hc (k * 5 + 4) _ ((hf 4 (by omega)).trans rfl)
theorem Rd.lenU (h : Rd w B 5 A n (l.flatMap Ins.cu)) : l.length = n := by have := h.1; rw [flat_length Ins.cu 5 Ins.cu_len] at this; omega
theorem Rd.lenI (h : Rd w B 5 A n (l.flatMap Ins.ci)) : l.length = n := by have := h.1; rw [flat_length Ins.ci 5 Ins.ci_len] at this; omega
end
theorem mem_of_get {α : Type} {l : List α} {k : Nat} {x : α} (h : l[k]? = some x) : x ∈ l := by
  obtain ⟨hk, rfl⟩ := List.getElem?_eq_some_iff.1 h
  exact List.getElem_mem hk
end Go.Proofs.Ytmiagijgecgfoaa
