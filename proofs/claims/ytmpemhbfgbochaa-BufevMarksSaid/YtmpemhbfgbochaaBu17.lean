/-
  The calls of bufev's laws, as the rows give them.
-/
import Derived.Test.YtmpemhbfgbochaaBu15
import Derived.Test.YtmpemhbfgbochaaRxU
namespace Go.Proofs.Ytmpemhbfgbochaa
set_option linter.unusedSimpArgs false
set_option linter.unusedVariables false
set_option linter.unnecessarySimpa false
open Go.RX Go.ChangeShapes Go.WideShapes Go.ChangeAt Go.RowKit
abbrev shO : Sh := .struct (.fld (.int .i64) (.fld (.int .i64) (.fld (.int .i64) (.fld (.int .u64) (.fld (.slice (.int .u8)) .nil)))))
abbrev shC : Sh := .struct (.fld (.int .i64) (.fld (.int .u64) (.fld (.int .i64) (.fld (.int .i64) (.fld (.int .i64) (.fld (.int .u64) (.fld (.int .u64) (.fld (.slice (.int .u8)) (.fld shO .nil)))))))))
def cvO (y : shO.T) : Bu.Ov := ⟨y.1, y.2.1, y.2.2.1, y.2.2.2.1, y.2.2.2.2.1.ad, y.2.2.2.2.1.cap, y.2.2.2.2.1.l.map u8of⟩
theorem enc_cvO (y : shO.T) : Bu.encO (cvO y) = shO.enc y := by
  show [_, _, _, _, Value.slice _ (y.2.2.2.2.1.l.map u8of).length _] = _
  rw [List.length_map]; rfl
theorem ok_cvO {W : World} {y : shO.T} (h : shO.ok W y) : Bu.OvOk [Old W] (cvO y) :=
  ⟨rd_u8 h.2.2.2.2.1, by show (List.map u8of _).length ≤ _; rw [List.length_map]; exact h.2.2.2.2.1.2.1, h.1, h.2.1, h.2.2.1, h.2.2.2.1⟩
theorem rd_ops {W : World} {x : (Sh.slice shO).T} (h : (Sh.slice shO).ok W x) : RdS [Old W] 5 x.ad (x.l.map cvO).length ((x.l.map cvO).flatMap Bu.encO) := by
  have e : (x.l.map cvO).flatMap Bu.encO = x.l.flatMap shO.enc := by rw [List.flatMap_map]; congr 1; funext y; exact enc_cvO y
  rw [e, List.length_map]; exact h.1
theorem ops_ok {W : World} {x : (Sh.slice shO).T} (h : (Sh.slice shO).ok W x) : ∀ o ∈ x.l.map cvO, Bu.OvOk [Old W] o := fun o ho => by
  obtain ⟨y, hy, rfl⟩ := List.mem_map.1 ho
  exact ok_cvO (h.2.2.2.2 y hy)
def cvC (y : shC.T) : Bu.Cv := ⟨y.1, y.2.1, y.2.2.1, y.2.2.2.1, y.2.2.2.2.1, y.2.2.2.2.2.1, y.2.2.2.2.2.2.1, y.2.2.2.2.2.2.2.1.ad, y.2.2.2.2.2.2.2.1.cap, y.2.2.2.2.2.2.2.1.l.map u8of, cvO y.2.2.2.2.2.2.2.2.1⟩
theorem enc_cvC (y : shC.T) : Bu.encC (cvC y) = shC.enc y := by
  show [_, _, _, _, _, _, _, Value.slice _ (y.2.2.2.2.2.2.2.1.l.map u8of).length _, _, _, _, _, Value.slice _ (y.2.2.2.2.2.2.2.2.1.2.2.2.2.1.l.map u8of).length _] = _
  rw [List.length_map, List.length_map]; rfl
theorem rd_calls {W : World} {x : (Sh.slice shC).T} (h : (Sh.slice shC).ok W x) : RdS [Old W] 13 x.ad (x.l.map cvC).length ((x.l.map cvC).flatMap Bu.encC) := by
  have e : (x.l.map cvC).flatMap Bu.encC = x.l.flatMap shC.enc := by rw [List.flatMap_map]; congr 1; funext y; exact enc_cvC y
  rw [e, List.length_map]; exact h.1
theorem calls_ok {W : World} {x : (Sh.slice shC).T} (h : (Sh.slice shC).ok W x) : ∀ o ∈ x.l.map cvC, Bu.CvOk [Old W] o := fun o ho => by
  obtain ⟨y, hy, rfl⟩ := List.mem_map.1 ho
  have h2 := h.2.2.2.2 y hy
  exact ⟨rd_u8 h2.2.2.2.2.2.2.2.1, by show (List.map u8of _).length ≤ _; rw [List.length_map]; exact h2.2.2.2.2.2.2.2.1.2.1, h2.2.1, h2.2.2.1, h2.2.2.2.1, h2.2.2.2.2.1, h2.2.2.2.2.2.1, h2.2.2.2.2.2.2.1, ok_cvO h2.2.2.2.2.2.2.2.2.1⟩
end Go.Proofs.Ytmpemhbfgbochaa
