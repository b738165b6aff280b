/-
  Bufev's laws: the world with one pair, in plain words.
-/
import Derived.Test.YtmpemhbfgbochaaBu9
namespace Go.Proofs.Ytmpemhbfgbochaa
set_option linter.unusedSimpArgs false
set_option linter.unusedVariables false
set_option linter.unnecessarySimpa false
open Go.RX Fx
namespace Bu
open Wo
set_option maxRecDepth 8000
/-- a pair's wire; l k: what waits for end k -/
def PrE (n : Nat) (x : WireA) (l : Nat → List UInt8) : Prop := x.cap = n ∧ x.rs = false ∧ ∀ k, k < 2 → (x.e k).what = 1 ∧ (x.e k).fd = (k : Int) ∧ (x.e k).rd = true ∧ (x.e k).wr = true ∧ (x.e k).shut = false ∧ (x.e k).b = l k
def PrW (n : Nat) (w : WA) (l : Nat → List UInt8) : Prop := ∃ x, w.ws = [x] ∧ PrE n x l
def updL (l : Nat → List UInt8) (k : Nat) (v : List UInt8) : Nat → List UInt8 := fun j => if j = k then v else l j
theorem updL_at (l : Nat → List UInt8) (k : Nat) (v : List UInt8) : updL l k v k = v := if_pos rfl
theorem updL_ne (l : Nat → List UInt8) {k j : Nat} (v : List UInt8) (h : j ≠ k) : updL l k v j = l j := if_neg h
theorem pr_new (n : Nat) : PrW n (pairA n) (fun _ => []) := by
  have h1 : mkOk newA 2 = true := by decide +kernel
  have h2 : (frees newA.at).take 2 = [0, 1] := by decide +kernel
  refine ⟨openW (halfW n 2) [0, 1] 2, ?_, rfl, rfl, fun k hk => ?_⟩
  · show (mkW newA 2 (halfW n 2)).ws = _
    unfold mkW
    rw [if_pos h1, h2]; rfl
  · rcases (show k = 0 ∨ k = 1 by omega) with rfl | rfl <;> exact ⟨rfl, rfl, rfl, rfl, rfl, rfl⟩
theorem pr_at {n : Nat} {w : WA} {l : Nat → List UInt8} {x : WireA} (hx : w.ws = [x]) (h : PrE n x l) {k : Nat} (hk : k < 2) : w.at (k : Int) = some (0, k) := by
  show atW w.ws 0 (k : Int) = _
  rw [hx]
  have h0 := h.2.2 0 (by omega)
  have h1 := h.2.2 1 (by omega)
  have e : atE x (k : Int) = some k := by
    unfold atE
    rcases (show k = 0 ∨ k = 1 by omega) with rfl | rfl
    · rw [if_pos ⟨h0.1, h0.2.1⟩]
    · rw [if_neg (fun h => by have := h0.2.1; rw [this] at h; exact absurd h.2 (by decide)), if_pos ⟨h1.1, h1.2.1⟩]
  show (match atE x (k : Int) with | some k => some (0, k) | none => none) = _
  rw [e]
theorem rise_same (i o : Bool) (e : EndA) : (riseE i o e).what = e.what ∧ (riseE i o e).fd = e.fd ∧ (riseE i o e).rd = e.rd ∧ (riseE i o e).wr = e.wr ∧ (riseE i o e).shut = e.shut ∧ (riseE i o e).b = e.b := ⟨rfl, rfl, rfl, rfl, rfl, rfl⟩
/-- an end's bytes change, another end's sides rise -/
theorem pr_up {n : Nat} {x : WireA} {l : Nat → List UInt8} (h : PrE n x l) {j k : Nat} (f : List UInt8 → List UInt8) (i o : Bool) : PrE n ((x.up j fun e => { e with b := f e.b }).up k (riseE i o)) (updL l j (f (l j))) := by
  refine ⟨h.1, h.2.1, fun m hm => ?_⟩
  have hx := h.2.2 m hm
  have h1 : ((x.up j fun e => { e with b := f e.b }).e m).what = 1 ∧ ((x.up j fun e => { e with b := f e.b }).e m).fd = (m : Int) ∧ ((x.up j fun e => { e with b := f e.b }).e m).rd = true ∧ ((x.up j fun e => { e with b := f e.b }).e m).wr = true ∧ ((x.up j fun e => { e with b := f e.b }).e m).shut = false ∧ ((x.up j fun e => { e with b := f e.b }).e m).b = updL l j (f (l j)) m := by
    by_cases e : m = j
    · subst e; rw [up_at, updL_at]; exact ⟨hx.1, hx.2.1, hx.2.2.1, hx.2.2.2.1, hx.2.2.2.2.1, by show f (x.e m).b = _; rw [hx.2.2.2.2.2]⟩
    · rw [up_ne _ _ e, updL_ne _ _ e]; exact hx
  by_cases e : m = k
  · subst e; rw [up_at]; exact h1
  · rw [up_ne _ _ e]; exact h1
def rdV (b : List UInt8) (m : Int) : List UInt8 × Bool × Int := if m < 1 then ([], false, 2) else if b = [] then ([], false, 113) else (b.take m.toNat, false, 0)
theorem updL_id {l : Nat → List UInt8} {k : Nat} {v : List UInt8} (h : v = l k) : updL l k v = l := by
  funext j; unfold updL; split
  · rename_i e; subst e; exact h
  · rfl
theorem readR_pr {n : Nat} {w : WA} {l : Nat → List UInt8} (h : PrW n w l) {k : Nat} (hk : k < 2) (m : Int) : (readR w (k : Int) m).1 = rdV (l k) m ∧ PrW n (readR w (k : Int) m).2 (updL l k ((l k).drop m.toNat)) := by
  obtain ⟨x, hx, hp⟩ := h
  have hat := pr_at hx hp hk
  have hxk := hp.2.2 k hk
  have hxj := hp.2.2 (1 - k) (by omega)
  have hs : silentW x k = false := by unfold silentW; rw [hxj.1, hxj.2.2.2.2.1]; rfl
  have hr : readR w (k : Int) m = if m < 1 then (([], false, 2), w) else if l k ≠ [] then (((l k).take m.toNat, false, 0), w.setW 0 (takeW x k m.toNat)) else (([], false, 113), w) := by
    unfold readR; rw [hat]; dsimp only
    rw [hx]; dsimp only [List.getElem?_cons_zero]
    rw [if_neg (by rw [hxk.2.2.1]; simp), hxk.2.2.2.2.2, hs, hp.2.1]
    simp
  rw [hr]
  unfold rdV
  by_cases h1 : m < 1
  · rw [if_pos h1, if_pos h1]
    exact ⟨rfl, x, hx, by rw [updL_id (by rw [show m.toNat = 0 by omega]; rfl)]; exact hp⟩
  · rw [if_neg h1, if_neg h1]
    by_cases h2 : l k = []
    · rw [if_neg (by simpa using h2), if_pos h2]
      exact ⟨rfl, x, hx, by rw [updL_id (by rw [h2, List.drop_nil])]; exact hp⟩
    · rw [if_pos h2, if_neg h2]
      refine ⟨rfl, takeW x k m.toNat, ?_, pr_up hp (fun b => b.drop m.toNat) _ _⟩
      show w.ws.set 0 _ = _
      rw [hx]; rfl
def wrV (n : Nat) (b bs : List UInt8) : Int × Int := if bs.length = 0 then (0, 0) else if min bs.length (n - b.length) = 0 then (0, 113) else ((((min bs.length (n - b.length) : Nat)) : Int), 0)
theorem writeR_pr {n : Nat} {w : WA} {l : Nat → List UInt8} (h : PrW n w l) {k : Nat} (hk : k < 2) (bs : List UInt8) : (writeR w (k : Int) bs).1 = wrV n (l (1 - k)) bs ∧ PrW n (writeR w (k : Int) bs).2 (updL l (1 - k) (l (1 - k) ++ bs.take (n - (l (1 - k)).length))) := by
  obtain ⟨x, hx, hp⟩ := h
  have hat := pr_at hx hp hk
  have hxk := hp.2.2 k hk
  have hxj := hp.2.2 (1 - k) (by omega)
  have hpn : putN x k bs = min bs.length (n - (l (1 - k)).length) := by unfold putN; rw [hp.1, hxj.2.2.2.2.2]
  have hr : writeR w (k : Int) bs = if bs.length = 0 then ((0, 0), w) else if putN x k bs = 0 then ((0, 113), w) else ((((putN x k bs : Nat) : Int), 0), w.setW 0 (putW x k bs)) := by
    unfold writeR; rw [hat]; dsimp only
    rw [hx]; dsimp only [List.getElem?_cons_zero]
    rw [if_neg (by rw [hxk.2.2.2.1]; simp), if_neg (by rw [hp.2.1]; simp), if_neg (by rw [hxk.2.2.2.2.1, hxj.1]; simp)]
  rw [hr, hpn]
  unfold wrV
  by_cases h1 : bs.length = 0
  · rw [if_pos h1, if_pos h1]
    exact ⟨rfl, x, hx, by rw [updL_id (by rw [List.length_eq_zero_iff.1 h1]; simp)]; exact hp⟩
  · rw [if_neg h1, if_neg h1]
    by_cases h2 : min bs.length (n - (l (1 - k)).length) = 0
    · rw [if_pos h2, if_pos h2]
      exact ⟨rfl, x, hx, by rw [updL_id (by rw [show n - (l (1 - k)).length = 0 by omega]; simp)]; exact hp⟩
    · rw [if_neg h2, if_neg h2]
      refine ⟨rfl, putW x k bs, ?_, ?_⟩
      · show w.ws.set 0 _ = _
        rw [hx]; rfl
      · unfold putW
        rw [hpn]
        have e : bs.take (n - (l (1 - k)).length) = bs.take (min bs.length (n - (l (1 - k)).length)) := by
          rcases Nat.le_total bs.length (n - (l (1 - k)).length) with hle | hle
          · rw [Nat.min_eq_left hle, List.take_length, List.take_of_length_le hle]
          · rw [Nat.min_eq_right hle]
        rw [e]
        exact pr_up hp (fun b => b ++ bs.take (min bs.length (n - (l (1 - k)).length))) _ _
end Bu
end Go.Proofs.Ytmpemhbfgbochaa
