/- As long as nothing happens, what is reported without EpEdge is so again and again, whatever the order and however little room, with EpEdge each once: the law EplAgain answers true, whatever its input, and its arguments read behind the call as before. No condition. -/
import Derived.Lib.SmallJoins
import Derived.Test.YtbfddabjbkohdaaGreatZEplAgainK
namespace Go.Proofs.YtbfddabjbkohdaaGreat
set_option maxHeartbeats 2000000
set_option linter.unusedSimpArgs false
set_option linter.unusedVariables false
set_option linter.unnecessarySimpa false
open Go.RX Go.ChangeShapes Go.WideShapes Go.ChangeAt Go.RowKit
abbrev shO : Sh := .struct (.fld (.int .i64) (.fld (.int .i64) (.fld (.int .i64) (.fld (.int .u64) (.fld (.slice (.int .u8)) .nil)))))
def cvO (y : shO.T) : Wo.Ov := ⟨y.1, y.2.1, y.2.2.1, y.2.2.2.1, y.2.2.2.2.1.ad, y.2.2.2.2.1.cap, y.2.2.2.2.1.l.map u8of⟩
theorem enc_cvO (y : shO.T) : Wo.encO (cvO y) = shO.enc y := by
 show [_, _, _, _, Value.slice _ (y.2.2.2.2.1.l.map u8of).length _] = _
 rw [List.length_map]; rfl
theorem ok_cvO {W : World} {y : shO.T} (h : shO.ok W y) : Wo.OvOk [Old W] (cvO y) :=
 ⟨rd_u8 h.2.2.2.2.1, by show (List.map u8of _).length ≤ _; rw [List.length_map]; exact h.2.2.2.2.1.2.1, h.1, h.2.1, h.2.2.1, h.2.2.2.1⟩
theorem rd_ops {W : World} {x : (Sh.slice shO).T} (h : (Sh.slice shO).ok W x) : RdS [Old W] 5 x.ad (x.l.map cvO).length ((x.l.map cvO).flatMap Wo.encO) := by
 have e : (x.l.map cvO).flatMap Wo.encO = x.l.flatMap shO.enc := by rw [List.flatMap_map]; congr 1; funext y; exact enc_cvO y
 rw [e, List.length_map]; exact h.1
theorem ops_ok {W : World} {x : (Sh.slice shO).T} (h : (Sh.slice shO).ok W x) : ∀ o ∈ x.l.map cvO, Wo.OvOk [Old W] o := fun o ho => by
 obtain ⟨y, hy, rfl⟩ := List.mem_map.1 ho
 exact ok_cvO (h.2.2.2.2 y hy)
end Go.Proofs.YtbfddabjbkohdaaGreat
namespace Go.Proofs.YtbfddabjbkohdaaGreat
set_option maxHeartbeats 2000000
set_option linter.unusedSimpArgs false
set_option linter.unusedVariables false
set_option linter.unnecessarySimpa false
open Go.RX Go.ChangeShapes Go.WideShapes Go.ChangeAt Go.RowKit
abbrev shP : Sh := .struct (.fld (.int .i64) (.fld shO (.fld (.int .i64) (.fld (.int .i64) (.fld (.int .i64) (.fld (.slice (.int .i64)) .nil))))))
def cvP (y : shP.T) : Ep.Pv := ⟨y.1, cvO y.2.1, y.2.2.1, y.2.2.2.1, y.2.2.2.2.1, y.2.2.2.2.2.1.ad, y.2.2.2.2.2.1.cap, y.2.2.2.2.2.1.l⟩
theorem enc_cvP (y : shP.T) : Ep.encPv (cvP y) = shP.enc y := by
 show [_, _, _, _, _, Value.slice _ (y.2.1.2.2.2.2.1.l.map u8of).length _, _, _, _, _] = _
 rw [List.length_map]; rfl
theorem ok_cvP {W : World} {y : shP.T} (h : shP.ok W y) : Ep.PvOk [Old W] (cvP y) :=
 ⟨ok_cvO h.2.1, rd_int h.2.2.2.2.2.1, h.1, h.2.2.1, h.2.2.2.1, h.2.2.2.2.1⟩
theorem rd_ps {W : World} {x : (Sh.slice shP).T} (h : (Sh.slice shP).ok W x) : RdS [Old W] 10 x.ad (x.l.map cvP).length ((x.l.map cvP).flatMap Ep.encPv) := by
 have e : (x.l.map cvP).flatMap Ep.encPv = x.l.flatMap shP.enc := by rw [List.flatMap_map]; congr 1; funext y; exact enc_cvP y
 rw [e, List.length_map]; exact h.1
theorem ps_ok {W : World} {x : (Sh.slice shP).T} (h : (Sh.slice shP).ok W x) : ∀ p ∈ x.l.map cvP, Ep.PvOk [Old W] p := fun o ho => by
 obtain ⟨y, hy, rfl⟩ := List.mem_map.1 ho
 exact ok_cvP (h.2.2.2.2 y hy)
end Go.Proofs.YtbfddabjbkohdaaGreat
namespace Go.Proofs.YtbfddabjbkohdaaGreat
set_option maxHeartbeats 2000000
set_option linter.unusedSimpArgs false
set_option linter.unusedVariables false
set_option linter.unnecessarySimpa false
open Go.RX Go.ChangeShapes Go.WideShapes Go.ChangeAt Go.RowKit
theorem Tryz.own : ownKnob Tryz.prog.godebug = none := by kernel_rfl
theorem Tryz.laidOut : laidOutB Tryz.prog = true := by kernel_rfl
set_option maxRecDepth 100000 in
theorem EplAgain_lifted (os : Os) (started : os.Started) (H : Type) (enc : TypeId × Value → H) :
  ReturnsInHanded {} Tryz.checked os 3 .any (Rows.eplAgainSpec.pre6 enc Tryz.prog Tryz.f3 Rows.eplAgainRow.domain false) (Rows.eplAgainSpec.post enc Tryz.prog Tryz.f3 false true false false) := by
 refine returnsInHanded_of_change (C := Tryz.checked) Tryz.own started kq Tryz.func3
  (ChangeSpec.witness6 (enc := enc) (C := Tryz.checked) false ⟨#[], #[.slice none 0 0, .slice none 0 0], []⟩ 8 kq kq kq kq) ?_
 intro W base args ds gs before hval0 hW hcnd _
 have hval : ∀ (j : Nat) t v, Tryz.f3.params[j]? = some t → args[j]? = some v → Value.okWide Tryz.prog W .any base t v := hval0
 have hW' := hW
 obtain ⟨p, q, hA0, hV, rfl, hfz, hnd⟩ := hW
 have hA : DataW.TrodAll enc Tryz.prog W 0 (fun _ => true) true Tryz.f3.params.toList args.toList ds p := hA0
 obtain ⟨rfl, rfl⟩ := trodVars_none hV
 simp only [List.append_nil] at hW'
 have hA1 := hA
 rw [Tryz.params3] at hA hval
 obtain ⟨v0, l0, d0, ds0, p0, q0, ha0, rfl, rfl, h0, hA⟩ := trodAll_cons hA
 obtain ⟨v1, l1, d1, ds1, p1, q1, rfl, rfl, rfl, h1, hA⟩ := trodAll_cons hA
 obtain ⟨rfl, rfl, rfl⟩ := trodAll_nil hA
 obtain rfl : args = #[v0, v1] := by cases args; simp_all
 obtain ⟨x0, e0, o0⟩ := open_arg (s := .slice shO) kq (hval 0 _ _ rfl rfl) h0
 have e0 := okW_one (s := .slice shO) kq rfl (hval 0 _ _ rfl rfl) e0
 simp only [Sh.enc, List.cons.injEq, and_true] at e0; subst e0
 obtain ⟨x1, e1, o1⟩ := open_arg (s := .slice shP) kq (hval 1 _ _ rfl rfl) h1
 have e1 := okW_one (s := .slice shP) kq rfl (hval 1 _ _ rfl rfl) e1
 simp only [Sh.enc, List.cons.injEq, and_true] at e1; subst e1; refine (law_calls (by have := Ep.again_ct [Old W] x0.ad x0.cap (x0.l.map cvO) (rd_ops o0) (ops_ok o0) x1.ad x1.cap (x1.l.map cvP) (rd_ps o1) (ps_ok o1); rwa [List.length_map, List.length_map] at this)).mono fun e W' ⟨he, hb⟩ => ?_
 subst he; exact ⟨_, rfl, law_post Tryz.laidOut rfl Tryz.underlying4 rfl rfl (of_decide_eq_true kq) hW' hA1 hb⟩
theorem EplAgain_holds : Rows.EplAgainSaid :=
 OpenClaim.holds_of_wide 3 Tryz.f3 rfl rfl rfl rfl rfl rfl rfl ⟨rfl, rfl, rfl, rfl, rfl⟩ rfl rfl rfl rfl rfl kq Tryz.func3 kq
  (of_decide_eq_true kq) (by unfold Func.isWrapper; first | (rw [if_pos (by decide +kernel)]; kernel_rfl) | (rw [if_neg (by decide +kernel)]; exact ⟨rfl, rfl⟩))
  (fun os started H enc _ => EplAgain_lifted os started H enc)
end Go.Proofs.YtbfddabjbkohdaaGreat
