/-
  Heaps: all items, in their order.
-/
import Derived.Test.YtdjoofidicoimaaHe7
import Derived.Test.YtdjoofidicoimaaRxK
import Derived.Test.YtdjoofidicoimaaSo0
namespace Go.Proofs.Ytdjoofidicoimaa
set_option linter.unusedSimpArgs false
set_option linter.unusedVariables false
set_option linter.unnecessarySimpa false
open Go.RX Fx
namespace Hp
set_option maxRecDepth 8000
instance : Inhabited It := ⟨z0⟩
theorem ltOf_cmp (x y : It) : ltOf cmpI x y = decide (ltI x y) := by
  unfold ltOf
  by_cases h : ltI x y
  · simp [h, (cmpI_neg x y).2 h]
  · have hn : ¬ cmpI x y < 0 := fun q => h ((cmpI_neg x y).1 q)
    rw [decide_eq_false hn, decide_eq_false h]
theorem swo_cmp : Go.Sort.SWO (ltOf cmpI) where
  irrefl x := by rw [ltOf_cmp]; simp [ltI_irrefl]
  trans x y z h1 h2 := by rw [ltOf_cmp] at *; simp at *; exact ltI_trans h1 h2
  ntrans x y z h1 h2 := by
    rw [ltOf_cmp] at *; simp only [decide_eq_false_iff_not] at *
    exact leI_trans (a := z) (b := y) (c := x) h2 h1
theorem sorted_eq {xs s : List It} (hp : xs.Perm s) (hs : s.Pairwise ltI) : xs.mergeSort (fun x y => !(ltOf cmpI) y x) = s := by
  have hle : ∀ x y : It, (!(ltOf cmpI) y x) = true ↔ leI x y := fun x y => by rw [ltOf_cmp]; simp [leI]
  have h1 := List.pairwise_mergeSort (le := fun x y => !(ltOf cmpI) y x) (fun a b c h1 h2 => (hle _ _).2 (leI_trans ((hle _ _).1 h1) ((hle _ _).1 h2))) (fun a b => by
    rw [Bool.or_eq_true]
    rcases leI_total a b with h | h
    · exact .inl ((hle _ _).2 h)
    · exact .inr ((hle _ _).2 h)) xs
  have h2 : (xs.mergeSort (fun x y => !(ltOf cmpI) y x)).Pairwise leI := h1.imp fun h => (hle _ _).1 h
  have h3 : s.Pairwise leI := hs.imp fun h => leI_of_lt h
  exact ((List.mergeSort_perm xs _).trans hp).eq_of_pairwise (le := leI) (fun a b _ _ x y => leI_anti x y) h2 h3
theorem sort_ct (L : List SP) (ad : Option Addr) (n cap : Nat) (xs s : List It) (hn : xs.length = n) (hp : xs.Perm s) (hs : s.Pairwise ltI) (hlen : n ≤ 1000000) :
    Ct Try.prog 69 #[.slice ad n cap, .func (.func 78) #[] #[]] (OwI ad n cap xs :: L) (fun _ : Unit => .tuple #[]) (fun _ => OwI ad n cap s :: L) := by
  intro E w hsat
  have hls : s.length = n := by rw [← hp.length_eq, hn]
  obtain ⟨hos, htp, hou, h1, h2, dd, s1, s2, ⟨hul, hv⟩, hL⟩ := hsat
  rcases hv with ⟨h0, hc0⟩ | ⟨b, o, sp, rfl, hmc, hcm, hsp, hpt⟩
  · subst h0
    obtain rfl := List.eq_nil_of_length_eq_zero hn
    obtain rfl := List.eq_nil_of_length_eq_zero hls
    refine (AnyF.slices_SortFunc_none Try.sortI ad cap _ w).mono ?_
    rintro e w' ⟨rfl, rfl⟩
    exact ⟨(), rfl, hos, htp, hou, h1, h2, dd, s1, s2, ⟨hul, .inl ⟨rfl, hc0⟩⟩, hL⟩
  · by_cases hn0 : n = 0
    · subst hn0
      obtain rfl := List.eq_nil_of_length_eq_zero hn
      obtain rfl := List.eq_nil_of_length_eq_zero hls
      refine (AnyF.slices_SortFunc_none Try.sortI (some ⟨b, o, none⟩) cap _ w).mono ?_
      rintro e w' ⟨rfl, rfl⟩
      exact ⟨(), rfl, hos, htp, hou, h1, h2, dd, s1, s2, ⟨hul, .inr ⟨b, o, sp, rfl, hmc, hcm, hsp, hpt⟩⟩, hL⟩
    have s0 : Sat E (seg b o (xs.flatMap encI ++ sp) :: L) w := ⟨hos, htp, hou, h1, h2, dd, s1, s2, hpt, hL⟩
    have s3 : Sat E (seg b o (xs.flatMap encI) :: seg b (o + (xs.flatMap encI).length) sp :: L) w := s0.mp fun k h => seg_split h
    have h0x : 0 < xs.length := by omega
    have hH := Sat.holdsK (enc := encI) (k := 3) (fun _ => rfl) (by omega) h0x s3
    have eg : ∀ args w, (callFunc 78 args).run Try.prog w = .ok (.enter 78 args) w := fun args w => run_call fk78 args w
    have hc := AnyQ.slices_SortFunc_total Try.sortI 3 Try.isAgg69 Try.sizeOf69 encI (fun _ => rfl) encI_one cmpI swo_cmp 78 #[] b o cap xs.toArray w eg
      (cmpLays_of fun L x y => compare_ct L x y) hH.1 hH.2 (by simp; omega) (fun x y h1 h2 => by
        rw [ltOf_cmp] at h1 h2; simp only [decide_eq_false_iff_not] at h1 h2; exact leI_anti h2 h1)
    have hsz : xs.toArray.size = n := by simpa using hn
    rw [hsz] at hc
    refine Calls.mono (show Calls Try.prog 69 _ _ _ from hc) ?_
    rintro e w' ⟨rfl, m, os, rfl⟩
    refine ⟨(), rfl, ?_⟩
    rw [sorted_eq hp hs]
    have s4 := s3.sortW (ys := s) (enc := encI) (k := 3) (fun _ => rfl) (by omega) (by omega) h0x m os
    have hfl : (xs.flatMap encI).length = (s.flatMap encI).length := by rw [flat_len, flat_len]; omega
    rw [hfl] at s4
    have s5 := s4.mp fun k h => seg_join h
    exact s5.mp fun k h => sep_head h fun k2 x => ⟨by rw [flat_len, hls], .inr ⟨b, o, sp, rfl, hmc, hcm, hsp, x⟩⟩
end Hp
end Go.Proofs.Ytdjoofidicoimaa
