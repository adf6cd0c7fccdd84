/-
  The walks of code.Decode and bailiwickref13.Decode: the program of bytes.
-/
import Derived.Test.YtmiagijgecgfoaaCodeMay
import Derived.StillTailTactics
import Derived.Lib.SlBuf
namespace Go.Proofs.Ytmiagijgecgfoaa
open Go.RowKit

/-- an instruction of six bytes -/
def insOf (b0 b1 b2 b3 b4 b5 : UInt8) : Ins := ⟨b0.toNat, b1.toNat, b2.toNat, b3.toNat, b4.toNat + 256 * b5.toNat⟩
/-- the instructions of bytes, six each; what is left is left out -/
def chunk : List UInt8 → List Ins
  | b0 :: b1 :: b2 :: b3 :: b4 :: b5 :: r => insOf b0 b1 b2 b3 b4 b5 :: chunk r
  | _ => []
def decOk (s : List UInt8) : Bool := decide (s.length % 6 = 0) && mayP (chunk s)
def decL (s : List UInt8) : List Ins := if decOk s then chunk s else []
def decE (s : List UInt8) : Int := if decOk s then 0 else 3

theorem alloc_setRow (w : World) (a b : Array Value) (t : TypeId) (fr : Nat × Nat) : (w.alloc (.cells a t fr)).setRow w.heap.size b = w.alloc (.cells b t fr) := by
  have hm : ∀ (a : Array Obj) (x : Obj) (f : Obj → Obj), (a.push x).modify a.size f = a.push (f x) := by
    intro a x f
    apply Array.ext
    · simp
    · intro i h1 h2
      simp only [Array.getElem_modify, Array.getElem_push]
      by_cases h : a.size = i
      · subst h
        simp
      · have hi : i < a.size := by simp at h1; omega
        simp [h, hi]
  unfold World.setRow
  show ({ w.alloc (.cells a t fr) with heap := (w.heap.push (.cells a t fr)).modify w.heap.size _ } : World) = _
  rw [hm]
  rfl

/-- copy(x[:], s), x a new array of six bytes -/
theorem run_copy6 {P : Program} (w : World) (dT sT elem t : TypeId) (cur : Array Value) (b0 b1 b2 b3 b4 b5 : UInt8) (r : List UInt8)
    (hu : P.underlying dT = some (.slice elem)) (hs : (P.info? elem).map (·.size) = some 1) (hc : cur.size = 6) (ty : TypeId) :
    (Builtin.copy_ #[dT, sT] ty #[.slice (some ⟨w.heap.size, 0, none⟩) 6 6, .string (S (b0 :: b1 :: b2 :: b3 :: b4 :: b5 :: r))]).run P (w.alloc (.cells cur t)) =
      .ok (goInt 6) (w.alloc (.cells (bytesV [b0, b1, b2, b3, b4, b5]).toArray t)) := by
  have hst := run_storeCells_at P w.heap.size 0 t (bytesV [b0, b1, b2, b3, b4, b5]) 0 cur (w.alloc (.cells cur t)) (heap_alloc_new w _) (by simp [bytesV, hc]) (bytesV_one _)
  have hmin : Nat.min (S (b0 :: b1 :: b2 :: b3 :: b4 :: b5 :: r)).size 6 = 6 := by rw [S_size]; exact Nat.min_eq_right (by simp)
  have hdat : (S (b0 :: b1 :: b2 :: b3 :: b4 :: b5 :: r)).data.toList = b0 :: b1 :: b2 :: b3 :: b4 :: b5 :: r := rfl
  rw [alloc_setRow] at hst
  have hcur : cur.toList.drop (0 + 0 + (bytesV [b0, b1, b2, b3, b4, b5]).length) = [] := List.drop_of_length_le (by simp [bytesV, hc])
  rw [hcur] at hst
  cases hq : P.info? elem with
  | none => simp [hq] at hs
  | some i =>
    simp [Builtin.copy_, run_underlying hu, Builtin.lenOf, Builtin.firstCells, sizeOf, typeInfo, hq, hmin, hdat]
    show ((Sem.run P (storeCells _ (bytesV [b0, b1, b2, b3, b4, b5])) _).andThen _) = _
    rw [hst]
    rfl

theorem chunk_ok : ∀ (s : List UInt8), ∀ x ∈ chunk s, x.ok
  | b0 :: b1 :: b2 :: b3 :: b4 :: b5 :: r, x, hx => by
    rw [chunk] at hx
    rcases List.mem_cons.1 hx with rfl | hx
    · have h0 := b0.toNat_lt
      have h1 := b1.toNat_lt
      have h2 := b2.toNat_lt
      have h3 := b3.toNat_lt
      have h4 := b4.toNat_lt
      have h5 := b5.toNat_lt
      unfold Ins.ok insOf
      simp only
      omega
    · exact chunk_ok r x hx
  | [], x, hx => by simp [chunk] at hx
  | [_], x, hx => by simp [chunk] at hx
  | [_, _], x, hx => by simp [chunk] at hx
  | [_, _, _], x, hx => by simp [chunk] at hx
  | [_, _, _, _], x, hx => by simp [chunk] at hx
  | [_, _, _, _, _], x, hx => by simp [chunk] at hx
theorem chunk_length : ∀ (s : List UInt8), (chunk s).length = s.length / 6
  | b0 :: b1 :: b2 :: b3 :: b4 :: b5 :: r => by
    rw [chunk, List.length_cons, chunk_length r]
    simp only [List.length_cons]
    omega
  | [] => rfl
  | [_] => by simp [chunk]
  | [_, _] => by simp [chunk]
  | [_, _, _] => by simp [chunk]
  | [_, _, _, _] => by simp [chunk]
  | [_, _, _, _, _] => by simp [chunk]
theorem six (s : List UInt8) (h : 6 ≤ s.length) : ∃ b0 b1 b2 b3 b4 b5 r, s = b0 :: b1 :: b2 :: b3 :: b4 :: b5 :: r := by
  match s, h with
  | b0 :: b1 :: b2 :: b3 :: b4 :: b5 :: r, _ => exact ⟨b0, b1, b2, b3, b4, b5, r, by rfl⟩
theorem decE_ok {s : List UInt8} (h : decOk s = true) : decE s = 0 ∧ decL s = chunk s := by simp [decE, decL, h]
theorem decE_no {s : List UInt8} (h : decOk s = false) : decE s = 3 ∧ decL s = [] := by simp [decE, decL, h]
theorem or_u16 (a b : Nat) (ha : a < 256) (hb : b < 256) : bits .or .u16 (a : Int) ((b : Int) * 256) = (a : Int) + 256 * (b : Int) := by
  have e1 : (BitVec.ofInt 16 (a : Int)).toNat = a := by rw [BitVec.ofInt_natCast, BitVec.toNat_ofNat]; exact Nat.mod_eq_of_lt (by omega)
  have e2 : (BitVec.ofInt 16 ((b : Int) * 256)).toNat = b * 256 := by
    rw [show ((b : Int) * 256) = ((b * 256 : Nat) : Int) by omega, BitVec.ofInt_natCast, BitVec.toNat_ofNat]; exact Nat.mod_eq_of_lt (by omega)
  show IntKind.u16.wrap ((BitVec.ofInt 16 (a : Int) ||| BitVec.ofInt 16 ((b : Int) * 256)).toNat : Int) = _
  rw [BitVec.toNat_or, e1, e2, Nat.or_comm, show b * 256 = b <<< 8 by rw [Nat.shiftLeft_eq], ← Nat.shiftLeft_add_eq_or_of_lt (by omega), Nat.shiftLeft_eq, IntKind.wrap_u16]
  omega
theorem decL_ok (s : List UInt8) : ∀ x ∈ decL s, x.ok := by
  intro x hx
  unfold decL at hx
  split at hx
  · exact chunk_ok s x hx
  · simp at hx
theorem decL_le (s : List UInt8) : (decL s).length ≤ s.length := by
  unfold decL
  split
  · rw [chunk_length]; omega
  · simp
def strLen : Value → Nat
  | .string s => s.size
  | _ => 0

theorem Try.infoCI : (Try.prog.info? 85).map (fun i => (i.zero, i.size, i.bytes)) = some (some (.agg #[.int .u8 0, .int .u8 0, .int .u8 0, .int .u8 0, .int .u16 0]), 5, 6) := by kernel_rfl
theorem Try.sizeU8 : (Try.prog.info? 5).map (·.size) = some 1 := by kernel_rfl

set_option maxRecDepth 100000 in
set_option maxHeartbeats 1000000 in
theorem dec_no (s : List UInt8) (w : World) (hs : s.length ≤ 1000000) (h : ¬ (s.length % 6 = 0 ∧ s.length ≤ 384)) :
    Calls Try.prog 45 #[.string (S s)] w fun e w' => e = .returned (.tuple #[.slice none 0 0, .int .i64 3]) ∧ Below w.heap.size w w' := by
  by_cases h6 : s.length % 6 = 0
  · have h384 : 384 < s.length := by omega
    clear h
    go_enter Try.func45, Try.ntmps45
    go_wp2
    go_ret2
    exact ⟨rfl, Below.refl _ _⟩
  · clear h
    go_enter Try.func45, Try.ntmps45
    go_wp2
    go_ret2
    exact ⟨rfl, Below.refl _ _⟩

set_option maxRecDepth 100000 in
set_option maxHeartbeats 2000000 in
theorem dec_go (s : List UInt8) (w : World) (h6 : s.length % 6 = 0) (h384 : s.length ≤ 384) :
    Calls Try.prog 45 #[.string (S s)] w fun e w' => ∃ A c, e = .returned (.tuple #[.slice A (decL s).length c, .int .i64 (decE s)]) ∧
      w'.ownsRow w.heap.size 85 5 (.slice A (decL s).length c) (decL s).length ((decL s).flatMap Ins.cu) ∧ Below w.heap.size w w' := by
  obtain ⟨i0, hi, hz0, hz1, hz2⟩ := info_parts Try.infoCI
  go_enter Try.func45, Try.ntmps45
  go_wp2
  go_loopw [0, 4] (fun b v wr => ∃ (done : List Ins) (rest : List UInt8), Hid (chunk s = done ++ chunk rest) ∧ Hid (done.length * 6 + rest.length = s.length) ∧ done.length * 6 ≤ 384 ∧ rest.length ≤ 384 ∧ rest.length % 6 = 0 ∧
      b = .string (S rest) ∧ wr.ownsRow w.heap.size 85 5 v done.length (done.flatMap Ins.cu) ∧ Below w.heap.size w wr) (fun b _ _ => strLen b)
  case atStart => exact ⟨[], s, rfl, by show 0 * 6 + _ = _; omega, by simp, h384, h6, rfl, World.ownsRow_nil _ _ _ _, Below.refl _ _⟩
  case round =>
    obtain ⟨done, rest, HC, HLN, hd, hrl, hr6, rfl, hown, hb⟩ := hrel
    have hsz := hb.size
    by_cases h0 : 0 < rest.length
    · obtain ⟨b0, b1, b2, b3, b4, b5, r, rfl⟩ := six rest (by omega)
      have hcp := run_copy6 (P := Try.prog) wr 118 9 5 120 #[.int .u8 0, .int .u8 0, .int .u8 0, .int .u8 0, .int .u8 0, .int .u8 0] b0 b1 b2 b3 b4 b5 r Try.underlying118 Try.sizeU8 rfl
      simp only [bytesV, List.map_cons, List.map_nil] at hcp
      have q0 := b0.toNat_lt
      have q1 := b1.toNat_lt
      have q2 := b2.toNat_lt
      have q3 := b3.toNat_lt
      have q4 := b4.toNat_lt
      have q5 := b5.toNat_lt
      have hor := or_u16 b4.toNat b5.toNat (by omega) (by omega)
      go_wp2_with (at_builtin; refine wpList_append_own _ rfl _ _ 24 rfl w.heap.size 85 i0 _ 5 6 Try.underlying24 hi hz0 hz1 hz2 rfl (by decide) _ _ _ rfl ((hown.alloc _).alloc _) ⟨wr.heap.size + 1, 0, none⟩ 1 1 (insOf b0 b1 b2 b3 b4 b5).cu rfl rfl ?c1 ?c2 ?c3 ?c4 ?c5 ?_)
      case c1 => exact news_at _ _ _ _ (by simp)
      case c2 => intro u hu; simp [Ins.cu] at hu; rcases hu with rfl | rfl | rfl | rfl | rfl <;> rfl
      case c3 => unfold maxLen; omega
      case c4 => omega
      case c5 => simp; omega
      intro v' w1 hown' hgrow _
      go_wp2
      go_roundw
      case rel =>
        refine ⟨done ++ [insOf b0 b1 b2 b3 b4 b5], r, ?_, ?_, ?_, ?_, ?_, rfl, ?_, grown2 hb hown hsz hgrow⟩
        · have := HC.out
          rw [chunk] at this
          rw [this]
          show _ = _
          simp
        · have := HLN.out
          simp only [List.length_cons] at this
          show _ = _
          simp only [List.length_append, List.length_cons, List.length_nil]
          omega
        · have := HLN.out
          simp only [List.length_append, List.length_cons, List.length_nil] at this ⊢
          omega
        · simp only [List.length_cons] at hrl; omega
        · simp only [List.length_cons] at hr6; omega
        · simpa using hown'
      case measure => simp [strLen, S_size]; omega
    · have hr0 : rest = [] := List.eq_nil_of_length_eq_zero (by omega)
      subst hr0
      have hcs : chunk s = done := by have := HC.out; rw [show chunk ([] : List UInt8) = [] from rfl, List.append_nil] at this; exact this
      obtain ⟨A', c', rfl⟩ := own_shape hown
      have hrd := Rd.of_own hown
      have hok : ∀ x ∈ done, x.ok := fun x hx => chunk_ok s x (by rw [hcs]; exact hx)
      have hdk : decOk s = mayP done := by unfold decOk; rw [hcs]; simp [h6]
      have HCS := Lib.hid hcs
      have HDK := Lib.hid hdk
      clear hcs hdk HC HLN
      by_cases hm : mayP done = true
      · have HM := Lib.hid hm
        clear hm
        go_wp2_with (go_at_call 66; refine (May_any done A' done.length c' _ hrd hok (by omega)).mono ?_; rintro e w1 ⟨rfl, hb1⟩; rw [HM.out])
        go_ret2
        have h2 := decE_ok (HDK.out.trans HM.out)
        rw [h2.1, h2.2, HCS.out]
        exact ⟨A', c', rfl, own_below hown hb1 (Nat.le_refl _), hb.trans (hb1.mono hsz)⟩
      · have hm' : mayP done = false := by simpa using hm
        have HM := Lib.hid hm'
        clear hm hm'
        go_wp2_with (go_at_call 66; refine (May_any done A' done.length c' _ hrd hok (by omega)).mono ?_; rintro e w1 ⟨rfl, hb1⟩; rw [HM.out])
        go_ret2
        have h2 := decE_no (HDK.out.trans HM.out)
        rw [h2.1, h2.2]
        exact ⟨none, 0, rfl, World.ownsRow_nil _ _ _ _, hb.trans (hb1.mono hsz)⟩

/-- code.Decode, whatever the bytes. -/
theorem dec_any (s : List UInt8) (w : World) (hs : s.length ≤ 1000000) :
    Calls Try.prog 45 #[.string (S s)] w fun e w' => ∃ A c, e = .returned (.tuple #[.slice A (decL s).length c, .int .i64 (decE s)]) ∧
      w'.ownsRow w.heap.size 85 5 (.slice A (decL s).length c) (decL s).length ((decL s).flatMap Ins.cu) ∧ Below w.heap.size w w' := by
  by_cases h : s.length % 6 = 0 ∧ s.length ≤ 384
  · exact dec_go s w h.1 h.2
  · have hd : decOk s = false := by
      unfold decOk mayP
      rw [chunk_length]
      by_cases h6 : s.length % 6 = 0
      · have : ¬ s.length / 6 ≤ 64 := by omega
        simp [this]
      · simp [h6]
    have h2 := decE_no hd
    refine (dec_no s w hs h).mono fun e w' ⟨he, hb⟩ => ?_
    rw [h2.1, h2.2]
    exact ⟨none, 0, he, World.ownsRow_nil _ _ _ _, hb⟩
end Go.Proofs.Ytmiagijgecgfoaa
