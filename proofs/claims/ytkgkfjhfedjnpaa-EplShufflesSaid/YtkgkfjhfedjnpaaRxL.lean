/-
  From a contract that answers true and leaves the old memory alone to the law's row. No program is named here.
-/
import Derived.Test.YtkgkfjhfedjnpaaRxB
import Derived.ProofKit
import Derived.Carry
namespace Go.RX
set_option linter.unusedSimpArgs false
set_option linter.unusedVariables false
set_option linter.unnecessarySimpa false
open Go.ChangeShapes Go.WideShapes Go.ChangeAt Go.RowKit
theorem old_sat (W : World) : Sat W [Old W] W :=
  ⟨rfl, rfl, rfl, hp W, fun _ => none, fun _ => .inr rfl, Sub.rfl', (fun _ _ e => by cases e), fun _ _ => rfl, trivial⟩
theorem below_of_sat {W W' : World} {L : List SP} (s : Sat W L W') {L' : List SP} (p : Pick L (Old W) L') : Below W.heap.size W W' := by
  obtain ⟨h1, s1, x⟩ := sep.one p s.2.2.2
  have hb : ∀ k, k < W.heap.size → W'.heap[k]? = W.heap[k]? := fun k hk => by
    have h := x k hk
    obtain ⟨o, ho⟩ : ∃ o, W.heap[k]? = some o := ⟨_, Array.getElem?_eq_getElem hk⟩
    rw [ho] at h
    have := s1 k o h
    rw [ho]; exact this
  refine ⟨s.1, s.2.1, s.2.2.1, ?_, hb⟩
  rcases Nat.eq_zero_or_pos W.heap.size with h | h
  · omega
  · have h1 := hb (W.heap.size - 1) (by omega)
    rw [Array.getElem?_eq_getElem (by omega : W.heap.size - 1 < W.heap.size)] at h1
    have := (Array.getElem?_eq_some_iff.1 h1).1
    omega
/-- a law's contract, over the old memory alone -/
theorem law_calls {P : Program} {f : FuncId} {args : List Value} {W : World} (h : Ct P f args.toArray [Old W] (fun _ : Unit => .bool true) (fun _ => [Old W])) :
    Calls P f args.toArray W (fun e W' => e = .returned (.bool true) ∧ Below W.heap.size W W') :=
  (h W W (old_sat W)).mono fun e W' ⟨_, he, s⟩ => ⟨he, below_of_sat s .here⟩
section
variable {H : Type} {enc : TypeId × Value → H} {P : Program}
theorem trodAll_below (hl : laidOutB P = true) {W W' : World} (hb : Below W.heap.size W W') : ∀ {ts : List TypeId} {vs : List Value} {ds : List (DataW H)} {ps : List MemPlace},
    (∀ t ∈ ts, P.readableRec t = true ∧ t < P.types.size) → DataW.TrodAll enc P W 0 (fun _ => true) true ts vs ds ps → (∀ x ∈ ps, x.block < W.heap.size) → DataW.TrodAll enc P W' 0 (fun b => decide (b < W.heap.size)) true ts vs ds ps
  | [], [], [], _, _, h, _ => h
  | _ :: _, _ :: _, _ :: _, _, hr, ⟨p, q, h1, h2, e⟩, hlt => ⟨p, q, Below.trod hl (hr _ (by simp)).1 (hr _ (by simp)).2 h1 hb (fun x hx => hlt x (by rw [e]; exact List.mem_append_left _ hx)),
      trodAll_below hl hb (fun t ht => hr t (by simp [ht])) h2 (fun x hx => hlt x (by rw [e]; exact List.mem_append_right _ hx)), e⟩
  | [], _ :: _, _, _, _, h, _ => h.elim
  | [], [], _ :: _, _, _, h, _ => h.elim
  | _ :: _, [], _, _, _, h, _ => h.elim
  | _ :: _, _ :: _, [], _, _, h, _ => h.elim
/-- the row's last step: true, and the arguments read as before -/
theorem law_post {fn : Func} {s : ChangeSpec} {tb : TypeId} {W W' : World} {args : Array Value} {ds : List (DataW H)} {p : List MemPlace} (hl : laidOutB P = true)
    (hres : fn.resultTypes = #[tb]) (htb : P.underlying tb = some .bool) (hv : s.vars = []) (hs : s.fn H (ds ++ []) = { results := [.lit (.bool true)], args := ds })
    (hr : ∀ t ∈ fn.params.toList, P.readableRec t = true ∧ t < P.types.size)
    (hW : DataW.Whole enc P fn.params.toList s.vars false W args.toList ds [] p) (hA : DataW.TrodAll enc P W 0 (fun _ => true) true fn.params.toList args.toList ds p) (hb : Below W.heap.size W W') :
    s.post enc P fn false true false false W args (.bool true) W' := by
  have hlt : ∀ x ∈ p, x.block < W.heap.size := fun x hx => by simpa using hW.lt x hx
  refine ⟨ds, [], p, [], p, [], hW, ?_, ?_, ?_, hb.frame _, fun h => by cases h⟩
  · rw [hs, hres]; exact trodAll_mk1 (shut_bool htb true)
  · rw [hs]; exact trodAll_below hl hb hr hA hlt
  · rw [hv, hs]; rfl
end
end Go.RX
