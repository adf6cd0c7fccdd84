/-
  The walk of bailiwicklaw24.bad: what may not be is refused everywhere.
-/
import Derived.Test.YtmiagijgecgfoaaFLong2
import Derived.Test.YtmiagijgecgfoaaFRules
namespace Go.Proofs.Ytmiagijgecgfoaa
open Go.RowKit

section
variable {l : List Ins} {A : Option Addr} {n c : Nat} {w : World}
set_option maxRecDepth 100000 in
set_option maxHeartbeats 4000000 in
theorem bad_no (hok : ∀ x ∈ l, x.ok) (hm : mayP l = false) (hn : n ≤ 140737488355328) (hr : Rd w w.heap.size 5 A n (l.flatMap Ins.cu)) (a b : Int) :
    Calls Try.prog 35 #[.slice A n c, .int .i64 a, .int .i64 b] w fun e w' => e = .returned (.bool true) ∧ Below w.heap.size w w' := by
  have HR := hide (fun (W : World) (hb : Below w.heap.size w W) => hr.to hb)
  have H1 := hide (fun W h => Next_no (w := W) (A := A) (n := n) (c := c) hok hm hn h a)
  have H2 := hide (fun W h => Reached_no (w := W) (A := A) (n := n) (c := c) hok hm hn h)
  have H3 := hide (fun W h => Loops_no (w := W) (A := A) (n := n) (c := c) hok hm hn h)
  have H4 := hide (fun W h => Longest_no (w := W) (A := A) (n := n) (c := c) hok hm hn h)
  have H5 := hide (fun W h => Trim_no (w := W) (A := A) (n := n) (c := c) hok hm hn h)
  have H6 := hide (fun W h => Rules_no (w := W) (A := A) (n := n) (c := c) hok hm hn h a b)
  have hb : Below w.heap.size w w := Below.refl _ _
  clear hr hok hm hn
  go_enter Try.func35, Try.ntmps35
  go_wp2_with fail
  refine (unhide H1 _ (unhide HR _ hb)).mono ?_
  rintro e W1 ⟨rfl, hbq⟩
  have hb := bt hb hbq
  clear hbq H1
  go_wp2_with fail
  refine (unhide H2 _ (unhide HR _ hb)).mono ?_
  rintro e W2 ⟨rfl, hbq⟩
  have hb := bt hb hbq
  clear hbq H2
  go_wp2_with fail
  refine (unhide H3 _ (unhide HR _ hb)).mono ?_
  rintro e W3 ⟨rfl, hbq⟩
  have hb := bt hb hbq
  clear hbq H3
  go_wp2_with fail
  refine (unhide H4 _ (unhide HR _ hb)).mono ?_
  rintro e W4 ⟨rfl, hbq⟩
  have hb := bt hb hbq
  clear hbq H4
  go_wp2_with fail
  refine (unhide H5 _ (unhide HR _ hb)).mono ?_
  rintro e W5 ⟨rfl, hbq⟩
  have hb := bt hb hbq
  clear hbq H5
  go_wp2_with fail
  refine (unhide H6 _ (unhide HR _ hb)).mono ?_
  rintro e W6 ⟨rfl, hbq⟩
  have hb := bt hb hbq
  clear hbq H6
  go_wp2
  go_ret
  exact ⟨rfl, hb⟩
end
end Go.Proofs.Ytmiagijgecgfoaa
