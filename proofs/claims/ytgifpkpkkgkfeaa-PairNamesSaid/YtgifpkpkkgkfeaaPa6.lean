/-
  Pairs: states of both ends and of what is told, and what passes of them make of them.
-/
import Derived.Test.YtgifpkpkkgkfeaaPa5
namespace Go.Proofs.Ytgifpkpkkgkfeaa
set_option linter.unusedSimpArgs false
set_option linter.unusedVariables false
set_option linter.unnecessarySimpa false
open Go.RX Fx
namespace Pa
open Bc
set_option maxRecDepth 8000
structure St where
  e : Nat → PE
  t : Nat → TV
abbrev StH (b bt n : Nat) (S : St) (L : List SP) : List SP := En b (n * 10) (S.e n) (En b ((1 - n) * 10) (S.e (1 - n)) (segK bt (n * 6) 0 (encT (S.t n)) :: segK bt ((1 - n) * 6) 0 (encT (S.t (1 - n))) :: L))
theorem stH_to {b bt n : Nat} {S : St} {L : List SP} (hn : n < 2) (k : PH) (h : sep (StH b bt 0 S L) k) : sep (StH b bt n S L) k := by
  rcases (show n = 0 ∨ n = 1 by omega) with rfl | rfl
  · exact h
  · have h1 : sep (En b 0 (S.e 0) (En b 10 (S.e 1) (segK bt 0 0 (encT (S.t 0)) :: segK bt 6 0 (encT (S.t 1)) :: L))) k := h
    show sep (En b 10 (S.e 1) (En b 0 (S.e 0) (segK bt 6 0 (encT (S.t 1)) :: segK bt 0 0 (encT (S.t 0)) :: L))) k
    exact Ent.sep enn k h1
theorem stH_from {b bt n : Nat} {S : St} {L : List SP} (hn : n < 2) (k : PH) (h : sep (StH b bt n S L) k) : sep (StH b bt 0 S L) k := by
  rcases (show n = 0 ∨ n = 1 by omega) with rfl | rfl
  · exact h
  · have h1 : sep (En b 10 (S.e 1) (En b 0 (S.e 0) (segK bt 6 0 (encT (S.t 1)) :: segK bt 0 0 (encT (S.t 0)) :: L))) k := h
    show sep (En b 0 (S.e 0) (En b 10 (S.e 1) (segK bt 0 0 (encT (S.t 0)) :: segK bt 6 0 (encT (S.t 1)) :: L))) k
    exact Ent.sep enn k h1
/-- what a pass from end n makes of a state, with these rows -/
def St.pass (S : St) (fl : Bool) (n : Nat) (u2 i2 : List Row) : St where
  e j := if j = n then { S.e n with u := u2 } else { S.e (1 - n) with i := i2, tol := (S.e (1 - n)).tol || endB (S.e n) (S.e (1 - n)) (manyN (S.e n) (S.e (1 - n)) fl) }
  t j := if j = n then tvF (S.e n) (manyN (S.e n) (S.e (1 - n)) fl) (S.t n)
    else { tvT (S.e (1 - n)) (manyN (S.e n) (S.e (1 - n)) fl) (S.t (1 - n)) with ev := if endB (S.e n) (S.e (1 - n)) (manyN (S.e n) (S.e (1 - n)) fl) = true then 17 else (tvT (S.e (1 - n)) (manyN (S.e n) (S.e (1 - n)) fl) (S.t (1 - n))).ev }
def PassR (fl : Bool) (n : Nat) (S S' : St) : Prop :=
  ∃ u2 i2, Bc.Good u2 ∧ Bc.Good i2 ∧ flat u2 = (flat (S.e n).u).drop (manyN (S.e n) (S.e (1 - n)) fl) ∧ flat i2 = flat (S.e (1 - n)).i ++ (flat (S.e n).u).take (manyN (S.e n) (S.e (1 - n)) fl) ∧ S' = S.pass fl n u2 i2
def Runs (fl : Bool) : List Nat → St → St → Prop
  | [], S, S' => S' = S
  | n :: r, S, S' => ∃ S1, PassR fl n S S1 ∧ Runs fl r S1 S'
theorem Runs.snoc {fl : Bool} {n : Nat} : ∀ {xs : List Nat} {S S1 S2 : St}, Runs fl xs S S1 → PassR fl n S1 S2 → Runs fl (xs ++ [n]) S S2
  | [], _, _, S2, h, p => by subst h; exact ⟨S2, p, rfl⟩
  | _ :: _, _, _, _, ⟨Sm, q, h⟩, p => ⟨Sm, q, h.snoc p⟩
def OkS (S : St) : Prop := EOk (S.e 0) ∧ EOk (S.e 1)
theorem OkS.at {S : St} (h : OkS S) {n : Nat} (hn : n < 2) : EOk (S.e n) := by
  rcases (show n = 0 ∨ n = 1 by omega) with rfl | rfl
  · exact h.1
  · exact h.2
theorem PassR.ok {fl : Bool} {n : Nat} {S S' : St} (hn : n < 2) (h : OkS S) (p : PassR fl n S S') : OkS S' := by
  obtain ⟨u2, i2, g1, g2, _, _, rfl⟩ := p
  have ha := h.at hn
  have hc := h.at (n := 1 - n) (by omega)
  have k1 : EOk ((S.pass fl n u2 i2).e n) := by
    show EOk (if n = n then _ else _)
    rw [if_pos rfl]; exact ⟨ha.gi, g1, ha.low, ha.high, ha.least⟩
  have k2 : EOk ((S.pass fl n u2 i2).e (1 - n)) := by
    show EOk (if 1 - n = n then _ else _)
    rw [if_neg (by omega)]; exact ⟨g2, hc.gu, hc.low, hc.high, hc.least⟩
  rcases (show n = 0 ∨ n = 1 by omega) with rfl | rfl
  · exact ⟨k1, k2⟩
  · exact ⟨k2, k1⟩
theorem Ct.imp {P : Program} {f : FuncId} {vs : Array Value} {L L' : List SP} {ι ι' : Type} {val : ι → Value} {val' : ι' → Value} {post : ι → List SP} {post' : ι' → List SP} (h : Ct P f vs L val post) (hL : ∀ k, sep L' k → sep L k)
    (hp : ∀ i, ∃ j, val i = val' j ∧ ∀ k, sep (post i) k → sep (post' j) k) : Ct P f vs L' val' post' := fun E w s =>
  Calls.mono (h E w (s.mp hL)) (fun e w' ⟨i, he, hs⟩ => by obtain ⟨j, hv, hj⟩ := hp i; exact ⟨j, by rw [he, hv], hs.mp hj⟩)
theorem passN_ct (L : List SP) (b bt n : Nat) (hn : n < 2) (S : St) (hS : OkS S) (fl : Bool) :
    Ct Try.prog 81 #[.pointer (some ⟨b, 0, none⟩), .int .i64 (n : Int), .bool fl, .pointer (some ⟨bt, 0, none⟩)] (StH b bt 0 S L) (fun _ : St => .tuple #[]) (fun S2 => pu (PassR fl n S S2) :: StH b bt 0 S2 L) := by
  refine Ct.imp (pass_ct L b bt n (n * 10) ((1 - n) * 10) (n * 6) ((1 - n) * 6) hn rfl rfl rfl rfl (S.e n) (S.e (1 - n)) fl (hS.at hn) (hS.at (by omega)) (S.t n) (S.t (1 - n))) (stH_to hn) ?_
  rintro ⟨u2, i2⟩
  refine ⟨S.pass fl n u2 i2, rfl, fun k h => ?_⟩
  have e1 : (S.pass fl n u2 i2).e n = { S.e n with u := u2 } := if_pos rfl
  have e2 : (S.pass fl n u2 i2).e (1 - n) = { S.e (1 - n) with i := i2, tol := (S.e (1 - n)).tol || endB (S.e n) (S.e (1 - n)) (manyN (S.e n) (S.e (1 - n)) fl) } := if_neg (by omega)
  have e3 : (S.pass fl n u2 i2).t n = tvF (S.e n) (manyN (S.e n) (S.e (1 - n)) fl) (S.t n) := if_pos rfl
  have e4 : (S.pass fl n u2 i2).t (1 - n) = { tvT (S.e (1 - n)) (manyN (S.e n) (S.e (1 - n)) fl) (S.t (1 - n)) with ev := if endB (S.e n) (S.e (1 - n)) (manyN (S.e n) (S.e (1 - n)) fl) = true then 17 else (tvT (S.e (1 - n)) (manyN (S.e n) (S.e (1 - n)) fl) (S.t (1 - n))).ev } := if_neg (by omega)
  refine Ent.imp' .here (fun _ x => ?_) (fun k h => stH_from hn k ?_) h
  · have x1 : Bc.Good u2 ∧ Bc.Good i2 ∧ _ ∧ _ := x
    exact (⟨u2, i2, x1.1, x1.2.1, x1.2.2.1, x1.2.2.2, rfl⟩ : PassR fl n S (S.pass fl n u2 i2))
  · unfold StH
    rw [e1, e2, e3, e4]
    exact h
end Pa
end Go.Proofs.Ytgifpkpkkgkfeaa
