/-
  The calls of the laws of timers, as the rows give them.
-/
import Derived.Test.YtdjoofidicoimaaTi4
import Derived.Test.YtdjoofidicoimaaRxU
namespace Go.Proofs.Ytdjoofidicoimaa
set_option linter.unusedSimpArgs false
set_option linter.unusedVariables false
set_option linter.unnecessarySimpa false
open Go.RX Go.ChangeShapes Go.WideShapes Go.ChangeAt Go.RowKit
abbrev shO : Sh := .struct (.fld (.int .i64) (.fld (.int .i64) (.fld (.int .u64) (.fld (.int .u64) (.fld .bool .nil)))))
def cvO (y : shO.T) : Tm.Opt := ⟨y.1, y.2.1, y.2.2.1, y.2.2.2.1, y.2.2.2.2.1⟩
theorem rd_ops {W : World} {x : (Sh.slice shO).T} (h : (Sh.slice shO).ok W x) : RdS [Old W] 5 x.ad (x.l.map cvO).length ((x.l.map cvO).flatMap Tm.encO) := by
  have e : (x.l.map cvO).flatMap Tm.encO = x.l.flatMap shO.enc := by rw [List.flatMap_map]; rfl
  rw [e, List.length_map]; exact h.1
theorem ok_ops {W : World} {x : (Sh.slice shO).T} (h : (Sh.slice shO).ok W x) : ∀ o ∈ x.l.map cvO, Tm.OpOk o := fun o ho => by
  obtain ⟨y, hy, rfl⟩ := List.mem_map.1 ho
  have := h.2.2.2.2 y hy
  exact ⟨this.2.2.1, this.2.2.2.1⟩
theorem rd_ints {W : World} {k : IntKind} {x : (Sh.slice (.int k)).T} (h : (Sh.slice (.int k)).ok W x) : RdS [Old W] 1 x.ad x.l.length (x.l.map fun y => .int k y) := by
  have e : x.l.flatMap (Sh.int k).enc = x.l.map fun y => .int k y := by
    have : ∀ l : List Int, l.flatMap (Sh.int k).enc = l.map fun y => .int k y := fun l => by
      induction l with
      | nil => rfl
      | cons a l ih => rw [List.flatMap_cons, ih]; rfl
    exact this x.l
  rw [← e]; exact h.1
end Go.Proofs.Ytdjoofidicoimaa
