/-
  The calls of the pair's laws, as the rows give them.
-/
import Derived.Test.YtgifpkpkkgkfeaaPc1
import Derived.Test.YtgifpkpkkgkfeaaRxU
namespace Go.Proofs.Ytgifpkpkkgkfeaa
set_option linter.unusedSimpArgs false
set_option linter.unusedVariables false
set_option linter.unnecessarySimpa false
open Go.RX Go.ChangeShapes Go.WideShapes Go.ChangeAt Go.RowKit
abbrev shC : Sh := .struct (.fld (.int .i64) (.fld (.int .i64) (.fld (.int .i64) (.fld (.int .i64) (.fld (.int .i64) (.fld (.slice (.int .u8)) .nil))))))
def cvC (y : shC.T) : Pa.Cv := ⟨y.1, y.2.1, y.2.2.1, y.2.2.2.1, y.2.2.2.2.1, y.2.2.2.2.2.1.ad, y.2.2.2.2.2.1.cap, y.2.2.2.2.2.1.l.map u8of⟩
theorem enc_cvC (y : shC.T) : Pa.encC (cvC y) = shC.enc y := by
  show [_, _, _, _, _, Value.slice _ (y.2.2.2.2.2.1.l.map u8of).length _] = _
  rw [List.length_map]; rfl
theorem rd_calls {W : World} {x : (Sh.slice shC).T} (h : (Sh.slice shC).ok W x) : RdS [Old W] 6 x.ad (x.l.map cvC).length ((x.l.map cvC).flatMap Pa.encC) := by
  have e : (x.l.map cvC).flatMap Pa.encC = x.l.flatMap shC.enc := by rw [List.flatMap_map]; congr 1; funext y; exact enc_cvC y
  rw [e, List.length_map]; exact h.1
theorem calls_ok {W : World} {x : (Sh.slice shC).T} (h : (Sh.slice shC).ok W x) : ∀ o ∈ x.l.map cvC, Pa.CvOk [Old W] o := fun o ho => by
  obtain ⟨y, hy, rfl⟩ := List.mem_map.1 ho
  have h2 := h.2.2.2.2 y hy
  exact ⟨rd_u8 h2.2.2.2.2.2.1, h2.2.1, h2.2.2.1, h2.2.2.2.1, h2.2.2.2.2.1, by show (List.map u8of _).length ≤ _; rw [List.length_map]; exact h2.2.2.2.2.2.1.2.1⟩
end Go.Proofs.Ytgifpkpkkgkfeaa
