/-
  The walk of journal.Read.
-/
import Derived.Test.YtnhnofiimidagaaJReadI
import Derived.RangeFuncCalls
import Derived.TacticsInMore
import Derived.LoopNIn
namespace Go.Proofs.Ytnhnofiimidagaa
open Go.RowKit
attribute [local go_sem] Oper.semAt_some

theorem Try.infoU8' : (Try.prog.info? 5).map (fun i => (i.zero, i.size, i.bytes)) = some (some (.int .u8 0), 1, 1) := by kernel_rfl

def toldV (pg : Int) (A : Option Addr) (n c : Nat) (A2 : Option Addr) (m c2 : Nat) (b : Nat) (t : Bool) : Value := .agg #[.int .i64 pg, .slice A n c, .slice A2 m c2, .int .i64 b, .bool t]
/-- what Read hands back -/
def readV (j : List UInt8) : (Int × List (List UInt8) × List UInt8) × Nat := (readO j).getD ((0, [], []), 0)
def readE (j : List UInt8) : Int := if (readO j).isSome then 0 else 3
def readT (j : List UInt8) : Bool := (readO j).isSome && decide ((readV j).2 < j.length)
def ReadPost (j : List UInt8) (w : World) (e : Ending) (w' : World) : Prop :=
  ∃ A n c A2 m c2, e = .returned (.tuple #[toldV (readV j).1.1 A n c A2 m c2 (readV j).2 (readT j), .int .i64 (readE j)]) ∧
    Rd w' w'.heap.size 1 A n ((readV j).1.2.1.map strV) ∧ Rd w' w'.heap.size 1 A2 m ((readV j).1.2.2.map byteV) ∧ Below w.heap.size w w'

theorem postM_ret {F : Fence} {n : Nat} {P : Program} {fn : Func} {R : Ending → World → Prop} {a : Act} {w : World} (v : Value) (hd : a.defers = []) (h : (results fn a.tmps).run P w = .ok v w) (hR : R (.returned v) w) : bodyPostM F n P fn R .ret a w := by
  show LeavesInM F n P fn a.tmps R a.defers .returning w
  rw [hd]
  exact ⟨v, h, hR⟩
theorem postM_mark {F : Fence} {n : Nat} {P : Program} {fn : Func} {R : Ending → World → Prop} {a : Act} {w : World} (D : Nat) (v : Value) (hd : a.defers = [{ target := .collected D, args := #[] }]) (hK : w.heap[D]? = some (.deferred (some [])))
    (h : (results fn a.tmps).run P (w.putObj D (.deferred none)) = .ok v (w.putObj D (.deferred none))) (hR : R (.returned v) (w.putObj D (.deferred none))) : bodyPostM F n P fn R .ret a w := by
  show LeavesInM F n P fn a.tmps R a.defers .returning w
  rw [hd]
  exact ⟨by simp, .inl ⟨_, _, rfl, run_takeDeferred hK, ⟨v, h, hR⟩⟩⟩

/-- between two rounds -/
def ReadI (j : List UInt8) (pg : Int) (ps : List (List UInt8)) (A : Option Addr) (n c : Nat) (w : World) (X : Nat) (R : List UInt8 × Nat) (at_ : Nat) (W : World) : Prop :=
  4 ≤ at_ ∧ ∃ acc, RdI j pg ps A n c w X acc at_ W ∧ Reads j acc at_ R
/-- where the loop is left -/
def ReadX (j : List UInt8) (pg : Int) (ps : List (List UInt8)) (A : Option Addr) (n c : Nat) (w : World) (X : Nat) (R : List UInt8 × Nat) (i : Nat) (W : World) : Prop :=
  i = 0 ∧ RdI j pg ps A n c w X R.1 R.2 W
section
variable {j : List UInt8} {pg : Int} {ps : List (List UInt8)} {A : Option Addr} {n c : Nat} {w : World} {X : Nat} {R : List UInt8 × Nat}
theorem readI_lasts {B : Nat} (hB : w.heap.size ≤ B) : Lasts B (X + 3) (ReadI j pg ps A n c w X R) :=
  ⟨fun _ _ _ _ ⟨h4, acc, h, hr⟩ hg hrow => ⟨h4, acc, h.kept hg (fun r e => ⟨Nat.le_trans hB (hrow r e).1, (hrow r e).2⟩), hr⟩, fun _ _ v ⟨h4, acc, h, hr⟩ => ⟨h4, acc, h.set_ v, hr⟩⟩
theorem readX_lasts {B : Nat} (hB : w.heap.size ≤ B) : Lasts B (X + 3) (ReadX j pg ps A n c w X R) :=
  ⟨fun _ _ _ _ ⟨h4, h⟩ hg hrow => ⟨h4, h.kept hg (fun r e => ⟨Nat.le_trans hB (hrow r e).1, (hrow r e).2⟩)⟩, fun _ _ v ⟨h4, h⟩ => ⟨h4, h.set_ v⟩⟩
end

theorem jrecords_any (j : List UInt8) (a : Nat) (w : World) :
    Calls Try.prog 56 #[.string (S j), .int .i64 a] w fun e w' => e = .returned (.func (.func 62) #[] #[.pointer (some ⟨w.heap.size + 1, 0, none⟩), .pointer (some ⟨w.heap.size, 0, none⟩)]) ∧
      Bx w' w.heap.size #[.string (S j)] ∧ Bx w' (w.heap.size + 1) #[.int .i64 a] ∧ w'.heap.size = w.heap.size + 2 ∧ Below w.heap.size w w' := by
  have h1 := (Bx.new w #[.string (S j)] 9 w.heap.size rfl).alloc (.cells #[.int .i64 a] 3)
  have h2 := Bx.new (w.alloc (.cells #[.string (S j)] 9)) #[.int .i64 a] 3 (w.heap.size + 1) (by simp)
  have hmf : ∀ (fn : Fn) (first cap : Array Value) (w : World), (Instr.makeFunc fn first cap).run Try.prog w = .ok (.func fn first cap) w := fun _ _ _ _ => rfl
  go_enter Try.func56, Try.ntmps56
  go_wp2
  go_ret
  exact ⟨rfl, h1, h2, by simp, ((Below.refl _ _).alloc (Nat.le_refl _) _).alloc (by simp) _⟩

set_option maxRecDepth 100000 in
set_option maxHeartbeats 4000000 in
theorem read_no {j : List UInt8} (h : headO j = none) (w : World) (hj : j.length ≤ 1000000) : Calls Try.prog 36 #[.string (S j)] w (ReadPost j w) := by
  have hO : readO j = none := by unfold readO; rw [h]
  have e1 : readV j = ((0, [], []), 0) := by unfold readV; rw [hO]; rfl
  have e2 : readE j = 3 := by unfold readE; rw [hO]; rfl
  have e3 : readT j = false := by unfold readT; rw [hO]; rfl
  have f1 : headV j = ((0, [], []), 0) := by unfold headV; rw [h]; rfl
  have f2 : headE j = 3 := by unfold headE; rw [h]; rfl
  have E1 := Lib.hid e1
  have E2 := Lib.hid e2
  have E3 := Lib.hid e3
  have hhead := fun w => head_any j w hj
  rw [f1, f2] at hhead
  simp only [scrV] at hhead
  have HH := hide hhead
  have hb0 : Below w.heap.size w (w.alloc (.cells #[.int .i64 0, .slice none 0 0, .slice none 0 0, .int .i64 0, .bool false] 61)) := (Below.refl _ _).alloc (Nat.le_refl _) _
  have hr0 := Bx.new w #[.int .i64 0, .slice none 0 0, .slice none 0 0, .int .i64 0, .bool false] 61 w.heap.size rfl
  clear hO e1 e2 e3 f1 f2 hhead
  refine (callsIn_wide (n := 5)).1 (callsIn_of_wp_marks Try.func36 rfl trivial (wpIn_wide.2 ?_) rfl)
  simp only [Try.ntmps36, List.size_toArray, List.length_cons, List.length_nil, Nat.reduceAdd, Nat.reduceSub, Array.replicate_succ, Array.replicate_zero, List.push_toArray, List.append_toArray, List.nil_append, List.cons_append]
  go_wp2_with fail
  go_step3
  go_wp2_with fail
  refine (unhide HH _).mono ?_
  rintro e w1 ⟨A, n, c, A2, m, c2, rfl, _, _, rfl, hb1⟩
  have hr1 := hr0.to hb1
  have hb2 := bt hb0 hb1
  have hby : Below w1.heap.size w1 (w1.alloc (.cells #[.int .i64 0, .slice A n c, .slice A2 0 c2] 49)) := (Below.refl _ _).alloc (Nat.le_refl _) _
  have hr2 := hr1.to hby
  have hb3 := bt hb2 hby
  have rc0 := hr2.cell 0
  have rc1 := hr2.cell 1
  have rc2 := hr2.cell 2
  have rc3 := hr2.cell 3
  have rc4 := hr2.cell 4
  have rf0 := hr2.frozen 0
  have rf1 := hr2.frozen 1
  have rf2 := hr2.frozen 2
  have rf3 := hr2.frozen 3
  have rf4 := hr2.frozen 4
  have hrF := ((((hr2.set_ 0 (.int .i64 0)).set_ 1 (.slice none 0 0)).set_ 2 (.slice none 0 0)).set_ 3 (.int .i64 0)).set_ 4 (.bool false)
  have hbF := ((((hb3.setCell (show w.heap.size ≤ (⟨w.heap.size, 0, none⟩ : Addr).block by simp) (.int .i64 0)).setCell (show w.heap.size ≤ (⟨w.heap.size, 1, none⟩ : Addr).block by simp) (.slice none 0 0)).setCell (show w.heap.size ≤ (⟨w.heap.size, 2, none⟩ : Addr).block by simp) (.slice none 0 0)).setCell (show w.heap.size ≤ (⟨w.heap.size, 3, none⟩ : Addr).block by simp) (.int .i64 0)).setCell (show w.heap.size ≤ (⟨w.heap.size, 4, none⟩ : Addr).block by simp) (.bool false)
  clear HH hr0 hb0 hb1 hr1 hb2 hby hr2 hb3
  have HbF := hide hbF
  clear hbF
  go_wp2
  rw [Exit.noGoto_ret]
  have cF0 := hrF.cell 0
  have cF1 := hrF.cell 1
  have cF2 := hrF.cell 2
  have cF3 := hrF.cell 3
  have cF4 := hrF.cell 4
  refine postM_ret (.tuple #[.agg #[.int .i64 0, .slice none 0 0, .slice none 0 0, .int .i64 0, .bool false], .int .i64 3]) rfl ?_ ⟨none, 0, 0, none, 0, 0, ?_, ?_, ?_, unhide HbF⟩
  · simp [results, Try.results36, go_sem, *]
  · rw [E1.out, E2.out, E3.out]
    rfl
  · rw [E1.out]
    exact Rd.none_
  · rw [E1.out]
    exact Rd.none_

set_option maxRecDepth 100000 in
set_option maxHeartbeats 8000000 in
theorem read_yes {j : List UInt8} {pg : Int} {ps : List (List UInt8)} {a0 : Nat} (h : headO j = some ((pg, ps, []), a0)) (h4 : 4 ≤ a0) (hle : a0 ≤ j.length) (w : World) (hj : j.length ≤ 1000000) : Calls Try.prog 36 #[.string (S j)] w (ReadPost j w) := by
  obtain ⟨R, hR⟩ : ∃ R, readL j j.length [] a0 = R := ⟨_, rfl⟩
  have hO : readO j = some ((pg, ps, R.1), R.2) := by unfold readO; rw [h]; simp only [hR]
  have e1 : readV j = ((pg, ps, R.1), R.2) := by unfold readV; rw [hO]; rfl
  have e2 : readE j = 0 := by unfold readE; rw [hO]; rfl
  have e3 : readT j = decide (R.2 < j.length) := by unfold readT; rw [hO, e1]; rfl
  have f1 : headV j = ((pg, ps, []), a0) := by unfold headV; rw [h]; rfl
  have f2 : headE j = 0 := by unfold headE; rw [h]; rfl
  have hrs : Reads j [] a0 R := by rw [← hR]; exact Reads.start j a0
  have HRS := Lib.hid hrs
  have E1 := Lib.hid e1
  have E2 := Lib.hid e2
  have E3 := Lib.hid e3
  have hhead := fun w => head_any j w hj
  rw [f1, f2] at hhead
  simp only [scrV] at hhead
  have HH := hide hhead
  have hb0 : Below w.heap.size w (w.alloc (.cells #[.int .i64 0, .slice none 0 0, .slice none 0 0, .int .i64 0, .bool false] 61)) := (Below.refl _ _).alloc (Nat.le_refl _) _
  have hr0 := Bx.new w #[.int .i64 0, .slice none 0 0, .slice none 0 0, .int .i64 0, .bool false] 61 w.heap.size rfl
  obtain ⟨i0, hi, hz0, hz1, hz2⟩ := info_parts Try.infoU8'
  clear hO e1 e2 e3 f1 f2 hhead hR hrs h
  refine (callsIn_wide (n := 5)).1 (callsIn_of_wp_marks Try.func36 rfl trivial (wpIn_wide.2 ?_) rfl)
  simp only [Try.ntmps36, List.size_toArray, List.length_cons, List.length_nil, Nat.reduceAdd, Nat.reduceSub, Array.replicate_succ, Array.replicate_zero, List.push_toArray, List.append_toArray, List.nil_append, List.cons_append]
  go_wp2_with fail
  go_step3
  go_wp2_with fail
  refine (unhide HH _).mono ?_
  rintro e w1 ⟨A, n, c, A2, m, c2, rfl, hpr, hown, rfl, hb1⟩
  obtain ⟨hpk, hpo⟩ := hown trivial
  have hap := apart_types hpk hpo (by decide)
  have hpl : 0 < n → ∀ b o, A = some ⟨b, o, none⟩ → w.heap.size < b := fun h0 b o he => by
    obtain ⟨g, cap, e1, h1, _⟩ := hpo.form h0
    rw [he] at e1
    injection e1 with e1
    injection e1 with e1
    injection e1 with e1
    simp at h1
    omega
  have HPL := hide hpl
  have hpk2 : PkB w1 (w.heap.size + 1) (.slice A2 0 c2) 0 [] := by
    have := PkB.of_ownB (l := []) hpk
    simpa using this
  have hlt : w.heap.size < w1.heap.size := by have := hb1.size; simp at this; omega
  have hgl : ∀ g, (Value.slice A2 0 c2).ownBlock = some g → g < w1.heap.size := fun g hg => by
    obtain ⟨g', cap, e1, _, ⟨_, _, _, h1⟩, _⟩ := hpk2
    rw [e1] at hg
    simp only [Value.ownBlock, Option.some.injEq] at hg
    have := (Array.getElem?_eq_some_iff.1 h1).1
    omega
  have hr1 := hr0.to hb1
  have hb2 := bt hb0 hb1
  have hby : Below w1.heap.size w1 ((w1.alloc (.cells #[.int .i64 pg, .slice A n c, .slice A2 0 c2] 49)).alloc (.cells #[.int .i64 pg, .slice A n c, .slice A2 0 c2, .int .i64 a0, .bool false] 61)) := ((Below.refl _ _).alloc (Nat.le_refl _) _).alloc (by simp) _
  have hx2 := Bx.new (w1.alloc (.cells #[.int .i64 pg, .slice A n c, .slice A2 0 c2] 49)) #[.int .i64 pg, .slice A n c, .slice A2 0 c2, .int .i64 a0, .bool false] 61 (w1.heap.size + 1) (by simp)
  have hr2 := hr1.to hby
  have hb3 := bt hb2 hby
  have hpr2 := hpr.below hby
  have hpk3 := hpk2.below hby (Nat.le_refl _)
  have HAP := hide hap
  have HGL := hide hgl
  clear HH hr0 hb0 hb1 hr1 hb2 hpr hown hpk hpo hpk2 hap hgl hpl
  go_wp2_with fail
  go_step3
  go_wp2_with fail
  refine (jrecords_any j a0 _).mono ?_
  rintro e w2 ⟨rfl, hbj, hba, hs2, hb4⟩
  have hx3 := hx2.to hb4
  have hr3 := hr2.to hb4
  have hb5 := bt hb3 hb4
  have hpr3 := hpr2.below (hb4.mono (by simp; omega))
  have hpk4 := hpk3.below hb4 (Nat.le_refl _)
  have hs3 : w2.heap.size = w1.heap.size + 4 := by rw [hs2]; simp
  have hbj2 : Bx w2 (w1.heap.size + 2) #[.string (S j)] := by simpa using hbj
  have hba2 : Bx w2 (w1.heap.size + 3) #[.int .i64 a0] := by simpa using hba
  have h0 : ReadI j pg ps A n c w w1.heap.size R a0 w2 := ⟨h4, [], ⟨⟨A2, c2, hx3, hpk4, fun g hg => ⟨.inl (unhide HGL g hg), fun _ o => unhide HAP g hg o⟩⟩, by simp, hpr3, hr3, ⟨_, hba2⟩, hbj2, by omega, hlt, hb5⟩, HRS.out⟩
  have hbox : ∀ at_ W, ReadI j pg ps A n c w w1.heap.size R at_ W → (∃ v, Bx W (w1.heap.size + 3) #[v]) ∧ Bx W (w1.heap.size + 2) #[.string (S j)] := fun _ _ ⟨_, _, h, _⟩ => ⟨h.ba, h.bj⟩
  clear hby hx2 hr2 hb3 hpr2 hpk3 HAP HGL hbj hba hs2 hb4 hx3 hr3 hb5 hpr3 hpk4 HRS
  go_wp2_with fail
  refine' range_recs j hj 4 (w1.heap.size + 3) (w1.heap.size + 2) a0 rfl rfl hba2 h4 hle (ReadI j pg ps A n c w w1.heap.size R) (ReadX j pg ps A n c w w1.heap.size R) (readI_lasts (by omega)) (readX_lasts (by omega)) hbox h0 _ ?assign ?body ?done ?stop
  case assign =>
    intro l p e W K hK
    gi_wp2
    exact hK
  case body =>
    rintro l at_ p e W ⟨h4', acc, hI, hrd⟩ _ hgood
    have hgl := goodAt_lt hgood
    dsimp only at hgl
    obtain ⟨g1, g2, g3, g4, g5, g6⟩ := hgl
    obtain ⟨⟨A3, c3, hx, hp, ha⟩, l4, _⟩ := id hI
    obtain ⟨c5, w5, hcv, hb5, _, hown5⟩ := run_bytes (P := Try.prog) W p 9 47 5 Try.underlying9 Try.underlying47 Try.underlying5 (by omega)
    have hx5 := hx.to hb5
    have hr5 := hown5.rd
    have hmay := fun w hr => jmay_any p (some ⟨W.heap.size, 0, none⟩) p.length c5 w hr (by omega)
    have HM := hide hmay
    have hl5 : p.length ≤ 4000 := by omega
    have HA := hide ha
    have HG := Lib.hid hgood
    clear hmay hgood hown5 ha hbox h0 hba2 hbj2 g6
    by_cases hall : p.all pickOk = true
    · have hmv : (decide (p.length ≤ 4000) && p.all pickOk) = true := by rw [hall]; simpa using hl5
      have HMV := Lib.hid hmv
      have HALL := Lib.hid hall
      clear hmv hall
      by_cases hlen : 4000 < acc.length + p.length
      · have hlen' : decide ((4000 : Int) < (acc.length : Int) + p.length) = true := by simp; omega
        have hno : nextOk acc p = false := by unfold nextOk; rw [HALL.out]; simp; omega
        have HNO := Lib.hid hno
        clear hno hlen
        gi_wp2_with fail
        refine ⟨trivial, (CallsIn.inRound l (callsIn_wide.2 (unhide HM _ hr5))).mono ?_⟩
        rintro en w6 ⟨rfl, hb6⟩
        rw [HMV.out]
        have hx6 := hx5.to hb6
        have hb7 := bt hb5 hb6
        have hI6 := hI.below hb7
        have xc0 := hx6.cell 0
        have xc1 := hx6.cell 1
        have xc2 := hx6.cell 2
        have xc3 := hx6.cell 3
        have xc4 := hx6.cell 4
        have xf0 := hx6.frozen 0
        have xf1 := hx6.frozen 1
        have xf2 := hx6.frozen 2
        have xf3 := hx6.frozen 3
        have xf4 := hx6.frozen 4
        clear hx hx5 hp hr5 hb5 hb6 HM
        gi_wp2
        have hR := hrd.no HG.out HNO.out
        subst hR
        exact ⟨keeps_below hb7, rfl, hI6⟩
      · have hyes : nextOk acc p = true := by unfold nextOk; rw [HALL.out]; simp; omega
        have HYES := Lib.hid hyes
        have hlen' : decide ((4000 : Int) < (acc.length : Int) + p.length) = false := by simp; omega
        have hl4 : acc.length + p.length ≤ 4000 := by omega
        clear hyes hlen
        gi_wp2_with fail
        refine ⟨trivial, (CallsIn.inRound l (callsIn_wide.2 (unhide HM _ hr5))).mono ?_⟩
        rintro en w6 ⟨rfl, hb6⟩
        rw [HMV.out]
        have hx6 := hx5.to hb6
        have hb7 := bt hb5 hb6
        have hI6 := hI.below hb7
        have xc0 := hx6.cell 0
        have xc1 := hx6.cell 1
        have xc2 := hx6.cell 2
        have xc3 := hx6.cell 3
        have xc4 := hx6.cell 4
        have xf0 := hx6.frozen 0
        have xf1 := hx6.frozen 1
        have xf2 := hx6.frozen 2
        have xf3 := hx6.frozen 3
        have xf4 := hx6.frozen 4
        have hp6 := hp.below hb7 (Nat.le_refl _)
        clear hx hx5 hp hr5 hb5 hb6 HM
        have hbs : w.heap.size + 1 ≤ w6.heap.size := by have := hI6.sz; omega
        gi_wp2_with (gi_at_builtin; refine wpListIn_append_pk _ rfl (.tmp 44) (.tmp 45) 47 9 rfl (w.heap.size + 1) 5 i0 Try.underlying47 Try.underlying9 hi hz0 hz1 hz2 _ _ _ rfl hp6 p rfl ?c1 ?c2 ?_)
        case c1 => omega
        case c2 => exact hbs
        intro v8 w8 hp8 hg8 hv8
        obtain ⟨g8, k8, rfl, _⟩ := id hp8
        have hne8 : some (w1.heap.size + 1) ≠ (Value.slice A3 acc.length c3).ownBlock := fun he => by
          have := (unhide HA _ he.symm).1
          omega
        have hko : KeepsOthers w6 w8 := KeepsOthers.of_grownBy hg8 (fun q o he ho => by
          obtain ⟨g', cap, e1, _, ⟨_, _, _, h1⟩, _⟩ := hp6
          rw [e1] at he
          simp only [Value.ownBlock, Option.some.injEq] at he
          subst he
          rw [h1] at ho
          cases ho
          rfl)
        have hfin := hI6.append hp6 hx6 (unhide HA) (e := e) hp8 hg8 hv8 hl4
        have hx8 := hx6.grown hg8 hne8
        have yc0 := hx8.cell 0
        have yc1 := hx8.cell 1
        have yc2 := hx8.cell 2
        have yc3 := hx8.cell 3
        have yc4 := hx8.cell 4
        have yf0 := hx8.frozen 0
        have yf1 := hx8.frozen 1
        have yf2 := hx8.frozen 2
        have yf3 := hx8.frozen 3
        have yf4 := hx8.frozen 4
        have hks := (((keeps_below hb7).trans hko).trans (KeepsOthers.setCell w8 ⟨w1.heap.size + 1, 2, none⟩ (.slice (some ⟨g8, 0, none⟩) (acc.length + p.length) k8))).trans (KeepsOthers.setCell _ ⟨w1.heap.size + 1, 3, none⟩ (.int .i64 e))
        have HFIN := hide hfin
        have HKS := hide hks
        clear hx6 hx8 hp6 hp8 hg8 hv8 hne8 hko hfin hks xc0 xc1 xc2 xc3 xc4 xf0 xf1 xf2 xf3 xf4 hI6 hI hb7 hbs
        gi_wp2
        exact ⟨unhide HKS, by omega, acc ++ p, unhide HFIN, hrd.step HG.out HYES.out⟩
    · have hall' : p.all pickOk = false := by simpa using hall
      have hmv : (decide (p.length ≤ 4000) && p.all pickOk) = false := by rw [hall']; simp
      have hno : nextOk acc p = false := by unfold nextOk; rw [hall']; simp
      have HMV := Lib.hid hmv
      have HNO := Lib.hid hno
      clear hmv hno hall hall'
      gi_wp2_with fail
      refine ⟨trivial, (CallsIn.inRound l (callsIn_wide.2 (unhide HM _ hr5))).mono ?_⟩
      rintro en w6 ⟨rfl, hb6⟩
      rw [HMV.out]
      have hx6 := hx5.to hb6
      have hb7 := bt hb5 hb6
      have hI6 := hI.below hb7
      clear hx hx5 hp hr5 hb5 hb6 HM
      gi_wp2
      have hR := hrd.no HG.out HNO.out
      subst hR
      exact ⟨keeps_below hb7, rfl, hI6⟩
  case done =>
    rintro D at_ W hD hgood ⟨_, acc, hI, hrd⟩ hK
    have hR := hrd.none_ hgood
    have hI : RdI j pg ps A n c w w1.heap.size R.1 R.2 W := by rw [hR]; exact hI
    clear hR hrd hgood hbox h0 hba2 hbj2
    obtain ⟨⟨A3, c3, hx, hp, ha⟩, l4, _, hres, _⟩ := id hI
    obtain ⟨acc, b⟩ := R
    simp only at hx hp ha hI
    obtain ⟨tt, htt⟩ : ∃ tt, decide (b < j.length) = tt := ⟨_, rfl⟩
    have hfin := hI.fin (unhide HPL) D (by omega) hK hp ha tt _ rfl
    have HTT := Lib.hid htt
    have HFIN := hide hfin
    have xc0 := hx.cell 0
    have xc1 := hx.cell 1
    have xc2 := hx.cell 2
    have xc3 := hx.cell 3
    have xc4 := hx.cell 4
    have xf0 := hx.frozen 0
    have xf1 := hx.frozen 1
    have xf2 := hx.frozen 2
    have xf3 := hx.frozen 3
    have xf4 := hx.frozen 4
    have rc0 := hres.cell 0
    have rc1 := hres.cell 1
    have rc2 := hres.cell 2
    have rc3 := hres.cell 3
    have rc4 := hres.cell 4
    have rf0 := hres.frozen 0
    have rf1 := hres.frozen 1
    have rf2 := hres.frozen 2
    have rf3 := hres.frozen 3
    have rf4 := hres.frozen 4
    clear hfin hp ha hI hK hx hres
    go_wp2
    obtain ⟨q1, q2, q3, q4, q5⟩ := unhide HFIN
    have cF0 := q2.cell 0
    have cF1 := q2.cell 1
    have cF2 := q2.cell 2
    have cF3 := q2.cell 3
    have cF4 := q2.cell 4
    clear HFIN
    refine postM_mark D (.tuple #[.agg #[.int .i64 pg, .slice A n c, .slice A3 acc.length c3, .int .i64 b, .bool tt], .int .i64 0]) rfl q1 ?_ ⟨A, n, c, A3, acc.length, c3, ?_, ?_, ?_, q5⟩
    · simp [results, Try.results36, go_sem, *]
    · rw [E1.out, E2.out, E3.out, HTT.out]
      rfl
    · rw [E1.out]
      exact q3
    · rw [E1.out]
      exact q4
  case stop =>
    rintro D i W hD ⟨rfl, hI⟩ hK
    clear hbox h0 hba2 hbj2
    obtain ⟨⟨A3, c3, hx, hp, ha⟩, l4, _, hres, _⟩ := id hI
    obtain ⟨acc, b⟩ := R
    simp only at hx hp ha hI
    obtain ⟨tt, htt⟩ : ∃ tt, decide (b < j.length) = tt := ⟨_, rfl⟩
    have hfin := hI.fin (unhide HPL) D (by omega) hK hp ha tt _ rfl
    have HTT := Lib.hid htt
    have HFIN := hide hfin
    have xc0 := hx.cell 0
    have xc1 := hx.cell 1
    have xc2 := hx.cell 2
    have xc3 := hx.cell 3
    have xc4 := hx.cell 4
    have xf0 := hx.frozen 0
    have xf1 := hx.frozen 1
    have xf2 := hx.frozen 2
    have xf3 := hx.frozen 3
    have xf4 := hx.frozen 4
    have rc0 := hres.cell 0
    have rc1 := hres.cell 1
    have rc2 := hres.cell 2
    have rc3 := hres.cell 3
    have rc4 := hres.cell 4
    have rf0 := hres.frozen 0
    have rf1 := hres.frozen 1
    have rf2 := hres.frozen 2
    have rf3 := hres.frozen 3
    have rf4 := hres.frozen 4
    clear hfin hp ha hI hK hx hres
    go_wp2
    obtain ⟨q1, q2, q3, q4, q5⟩ := unhide HFIN
    have cF0 := q2.cell 0
    have cF1 := q2.cell 1
    have cF2 := q2.cell 2
    have cF3 := q2.cell 3
    have cF4 := q2.cell 4
    clear HFIN
    refine postM_mark D (.tuple #[.agg #[.int .i64 pg, .slice A n c, .slice A3 acc.length c3, .int .i64 b, .bool tt], .int .i64 0]) rfl q1 ?_ ⟨A, n, c, A3, acc.length, c3, ?_, ?_, ?_, q5⟩
    · simp [results, Try.results36, go_sem, *]
    · rw [E1.out, E2.out, E3.out, HTT.out]
      rfl
    · rw [E1.out]
      exact q3
    · rw [E1.out]
      exact q4

theorem headO_le {j : List UInt8} {q : (Int × List (List UInt8) × List UInt8)} {a : Nat} (h : headO j = some (q, a)) : 4 ≤ a ∧ a ≤ j.length := by
  unfold headO at h
  split at h
  · cases h
  split at h
  · cases h
  rename_i h6 h10
  split at h
  · cases h
  split at h
  · simp only [Option.some.injEq, Prod.mk.injEq] at h
    omega
  · cases h
theorem read_any (j : List UInt8) (w : World) (hj : j.length ≤ 1000000) : Calls Try.prog 36 #[.string (S j)] w (ReadPost j w) := by
  cases h : headO j with
  | none => exact read_no h w hj
  | some q =>
    obtain ⟨⟨pg, ps, pk⟩, a0⟩ := q
    obtain rfl : pk = [] := headO_pk h
    exact read_yes h (headO_le h).1 (headO_le h).2 w hj
end Go.Proofs.Ytnhnofiimidagaa
