/-
  The items and the calls of the heap's laws, as the rows give them.
-/
import Derived.Test.YtcnegelaenkgpaaHe7
import Derived.Test.YtcnegelaenkgpaaRxU
namespace Go.Proofs.Ytcnegelaenkgpaa
set_option linter.unusedSimpArgs false
set_option linter.unusedVariables false
set_option linter.unnecessarySimpa false
open Go.RX Go.ChangeShapes Go.WideShapes Go.ChangeAt Go.RowKit
abbrev shI : Sh := .struct (.fld (.int .i64) (.fld (.int .u64) (.fld (.int .u64) .nil)))
def cvI (y : shI.T) : Hp.It := ⟨y.1, y.2.1, y.2.2.1⟩
theorem rd_items {W : World} {x : (Sh.slice shI).T} (h : (Sh.slice shI).ok W x) : RdS [Old W] 3 x.ad (x.l.map cvI).length ((x.l.map cvI).flatMap Hp.encI) := by
  have e : (x.l.map cvI).flatMap Hp.encI = x.l.flatMap shI.enc := by rw [List.flatMap_map]; rfl
  rw [e, List.length_map]; exact h.1
end Go.Proofs.Ytcnegelaenkgpaa
