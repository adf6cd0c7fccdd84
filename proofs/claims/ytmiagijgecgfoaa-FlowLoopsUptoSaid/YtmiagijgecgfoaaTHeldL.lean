/-
  Operations taken one by one off the list of a region that draws: the operation comes out as it is written. No function of the program.
-/
import Derived.Test.YtmiagijgecgfoaaTHeld
namespace Go.Proofs.Ytmiagijgecgfoaa
open Go.RowKit

section
variable {P : Program} {ops : Array Oper} {Q : Exit → Act → World → Prop} {md : Region.Mode} {S : World → Prop} {N : Nat}
theorem wpAnyG_takeL {i : Nat} {oi : Oper} {v : Value} {fuel : Nat} {listed : Array Bool} {a : Act} {w : World} (hi : ops.toList[i]? = some oi)
    (hB : (Region.sinkB md ops N && Region.chainB md ops N && decide (N < ops.size) && decide (i < N) && invB md ops N listed && Region.noSelect ops && Region.free md ops listed i && (Region.ready md ops listed).contains i) = true)
    (hQ : ∀ c a w, Q (.panic c) (a.put oi.dst v) w → Q (.panic c) a w) (hy : YieldsIf P ops S oi v a) (hS : S w)
    (h : wpAnyG P md ops Q S N fuel (listed.setIfInBounds i true) (a.put oi.dst v) w) : wpAnyG P md ops Q S N (fuel + 1) listed a w :=
  wpAnyG_take (by simpa using hi) hB hQ hy hS h
theorem wpAnyG_oneL {i : Nat} {o : Oper} {fuel : Nat} {listed : Array Bool} {a : Act} {w : World} (hr : Region.ready md ops listed = [i]) (ho : ops.toList[i]? = some o)
    (h : ∀ K' : Act → World → Prop, Shut (∀ a w, ((i < N → S w) ∧ wpAnyG P md ops Q S N fuel (listed.setIfInBounds i true) a w) → K' a w) → if Region.wanted o (yielded ops a.tmps) = true then Oper.wp P o a w K' Q else K' (a.put o.dst undef) w) :
    wpAnyG P md ops Q S N (fuel + 1) listed a w := wpAnyG_one hr (by simpa using ho) h
end
end Go.Proofs.Ytmiagijgecgfoaa
