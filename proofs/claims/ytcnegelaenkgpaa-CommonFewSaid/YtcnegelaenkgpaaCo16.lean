/-
  The law CommonFew answers true.
-/
import Derived.Test.YtcnegelaenkgpaaCo11
namespace Go.Proofs.Ytcnegelaenkgpaa
set_option linter.unusedSimpArgs false
set_option linter.unusedVariables false
set_option linter.unnecessarySimpa false
open Go.RX Fx Hp
namespace Cm
set_option maxRecDepth 8000
abbrev afq (qs : List Q) : List Int := qs.map Q.af
theorem dl_mono {a b af : Int} (h : a ≤ b) (hb : b ≤ 18446744073709551615) : dl a af ≤ dl b af := by unfold dl; split <;> split <;> omega
/-- no item of a queue is behind what may be added now -/
def Rise (qs : List Q) (now : Int) : Prop := ∀ q ∈ qs, ∀ y ∈ q.l, y.at_ ≤ dl now q.af
theorem Rise.mono {qs : List Q} {a b : Int} (h : Rise qs a) (hab : a ≤ b) (hb : b ≤ 18446744073709551615) : Rise qs b := fun q hq y hy => Int.le_trans (h q hq y hy) (dl_mono hab hb)
theorem Rise.cut {qs : List Q} {now : Int} (h : Rise qs now) (id : Int) : Rise (cutQ id qs) now := fun q hq y hy => by
  obtain ⟨q0, h0, rfl⟩ := List.mem_map.1 hq
  exact h q0 h0 y (rem_mem.1 hy).1
theorem Rise.cutAll {now : Int} : ∀ {l : List It} {qs : List Q}, Rise qs now → Rise (cutAll l qs) now
  | [], _, h => h
  | x :: l, _, h => Rise.cutAll (l := l) (h.cut x.id)
theorem cutAll_af : ∀ (l : List It) (qs : List Q), afq (cutAll l qs) = afq qs
  | [], _ => rfl
  | x :: l, qs => (cutAll_af l (cutQ x.id qs)).trans (cut_af x.id qs)
theorem putQ_af (a : Int) (x : It) : ∀ qs : List Q, afq (putQ a x qs) = afq qs
  | [] => rfl
  | q :: t => by
    show afq (if _ then _ else _) = _
    split
    · rfl
    · show q.af :: afq (putQ a x t) = _; rw [putQ_af a x t]; rfl
theorem addQ_af (qs : List Q) (id now af nx : Int) : afq (addQ qs id now af nx) = afq qs := by
  unfold addQ; split
  · rfl
  · exact (putQ_af _ _ _).trans (cut_af id qs)
theorem putQ_mem {a : Int} {x : It} : ∀ {qs : List Q} {q : Q}, q ∈ putQ a x qs → ∀ y ∈ q.l, (∃ q0 ∈ qs, q0.af = q.af ∧ y ∈ q0.l) ∨ (y = x ∧ q.af = a)
  | [], q, h, _, _ => by cases h
  | p :: t, q, h, y, hy => by
    unfold putQ at h
    split at h
    · rename_i hf
      rcases List.mem_cons.1 h with rfl | h
      · rcases List.mem_append.1 hy with hy | hy
        · exact .inl ⟨p, List.mem_cons_self, rfl, hy⟩
        · refine .inr ⟨by simpa using hy, ?_⟩
          unfold fits at hf; simp at hf; exact hf.1
      · exact .inl ⟨q, List.mem_cons_of_mem _ h, rfl, hy⟩
    · rcases List.mem_cons.1 h with rfl | h
      · exact .inl ⟨q, List.mem_cons_self, rfl, hy⟩
      · rcases putQ_mem h y hy with ⟨q0, h0, h1, h2⟩ | h
        · exact .inl ⟨q0, List.mem_cons_of_mem _ h0, h1, h2⟩
        · exact .inr h
theorem Rise.add {qs : List Q} {now : Int} (h : Rise qs now) (id af nx : Int) : Rise (addQ qs id now af nx) now := by
  unfold addQ; split
  · exact h
  · intro q hq y hy
    rcases putQ_mem hq y hy with ⟨q0, h0, h1, h2⟩ | ⟨h1, h2⟩
    · rw [← h1]; exact h.cut id q0 h0 y h2
    · rw [h1, h2]; exact Int.le_refl _
theorem inQ_iff {qs : List Q} {id : Int} : inQ qs id = true ↔ ∃ q ∈ qs, ∃ y ∈ q.l, y.id = id := by
  unfold inQ; rw [List.any_eq_true]
  constructor
  · rintro ⟨q, hq, h⟩
    obtain ⟨y, hy, e⟩ := List.any_eq_true.1 h
    exact ⟨q, hq, y, hy, by simpa using e⟩
  · rintro ⟨q, hq, y, hy, e⟩
    exact ⟨q, hq, List.any_eq_true.2 ⟨y, hy, by simp [e]⟩⟩
theorem inQ_cut {qs : List Q} {id k : Int} (h : inQ qs k = true) (hk : k ≠ id) : inQ (cutQ id qs) k = true := by
  obtain ⟨q, hq, y, hy, e⟩ := inQ_iff.1 h
  exact inQ_iff.2 ⟨⟨q.af, remI id q.l⟩, List.mem_map.2 ⟨q, hq, rfl⟩, y, rem_mem.2 ⟨hy, by rw [e]; exact hk⟩, e⟩
theorem inQ_cutAll {k : Int} : ∀ {l : List It} {qs : List Q}, inQ qs k = true → (∀ x ∈ l, x.id ≠ k) → inQ (cutAll l qs) k = true
  | [], _, h, _ => h
  | x :: l, _, h, hn => inQ_cutAll (l := l) (inQ_cut h (hn x List.mem_cons_self).symm) fun y hy => hn y (List.mem_cons_of_mem _ hy)
theorem inQ_put {a : Int} {x : It} {k : Int} : ∀ {qs : List Q}, inQ qs k = true → inQ (putQ a x qs) k = true
  | [], h => by cases h
  | q :: t, h => by
    obtain ⟨p, hp, y, hy, e⟩ := inQ_iff.1 h
    unfold putQ; split
    · rcases List.mem_cons.1 hp with rfl | hp
      · exact inQ_iff.2 ⟨_, List.mem_cons_self, y, List.mem_append.2 (.inl hy), e⟩
      · exact inQ_iff.2 ⟨p, List.mem_cons_of_mem _ hp, y, hy, e⟩
    · rcases List.mem_cons.1 hp with rfl | hp
      · exact inQ_iff.2 ⟨_, List.mem_cons_self, y, hy, e⟩
      · obtain ⟨q', hq', y', hy', e'⟩ := inQ_iff.1 (inQ_put (a := a) (x := x) (inQ_iff.2 ⟨p, hp, y, hy, e⟩))
        exact inQ_iff.2 ⟨q', List.mem_cons_of_mem _ hq', y', hy', e'⟩
/-- a common timeout's item comes into its queue -/
theorem inQ_new {a : Int} {x : It} : ∀ {qs : List Q}, a ∈ afq qs → (∀ q ∈ qs, q.af = a → ∀ y ∈ q.l, y.at_ ≤ x.at_) → inQ (putQ a x qs) x.id = true
  | [], h, _ => by cases h
  | q :: t, h, hr => by
    unfold putQ; split
    · exact inQ_iff.2 ⟨_, List.mem_cons_self, x, by simp, rfl⟩
    · rename_i hf
      have hq : q.af ≠ a := fun e => hf (by
        unfold fits
        simp only [Bool.and_eq_true, decide_eq_true_eq, List.all_eq_true]
        exact ⟨e, hr q List.mem_cons_self e⟩)
      have ht : a ∈ afq t := by
        rcases List.mem_cons.1 h with e | h
        · exact absurd e.symm hq
        · exact h
      obtain ⟨q', hq', y', hy', e'⟩ := inQ_iff.1 (inQ_new ht fun p hp => hr p (List.mem_cons_of_mem _ hp))
      exact inQ_iff.2 ⟨q', List.mem_cons_of_mem _ hq', y', hy', e'⟩
/-- the last Add of a number, among the first i calls -/
def LastAdd (xs : List Opc) (i : Nat) (id : Int) (o : Opc) : Prop := ∃ k, k < i ∧ xs[k]? = some o ∧ o.k = 0 ∧ o.id = id ∧ ∀ j o', k < j → j < i → xs[j]? = some o' → ¬ (o'.k = 0 ∧ o'.id = id)
structure Few (xs : List Opc) (i : Nat) (qs : List Q) (s : List It) (now : Int) : Prop where
  rise : Rise qs now
  last : ∀ y ∈ s, ∃ o, LastAdd xs i y.id o ∧ (o.af ∈ afq qs → inQ qs y.id = true)
theorem LastAdd.step {xs : List Opc} {i : Nat} {id : Int} {o x : Opc} (h : LastAdd xs i id o) (hx : xs[i]? = some x) (hn : ¬ (x.k = 0 ∧ x.id = id)) : LastAdd xs (i + 1) id o := by
  obtain ⟨k, hk, h1, h2, h3, h4⟩ := h
  refine ⟨k, by omega, h1, h2, h3, fun j o' hj1 hj2 ho => ?_⟩
  rcases (show j < i ∨ j = i by omega) with h | rfl
  · exact h4 j o' hj1 h ho
  · rw [hx] at ho; obtain rfl := Option.some.inj ho; exact hn
theorem Few.skip {xs : List Opc} {i : Nat} {qs : List Q} {s : List It} {now : Int} (h : Few xs i qs s now) {x : Opc} (hx : xs[i]? = some x) (hk : x.k ≠ 0) : Few xs (i + 1) qs s now :=
  ⟨h.rise, fun y hy => by obtain ⟨o, h1, h2⟩ := h.last y hy; exact ⟨o, h1.step hx (fun q => hk q.1), h2⟩⟩
theorem Few.cut {xs : List Opc} {i : Nat} {qs : List Q} {s : List It} {now : Int} (h : Few xs i qs s now) {x : Opc} (hx : xs[i]? = some x) (hk : x.k ≠ 0) (id : Int) : Few xs (i + 1) (cutQ id qs) (remI id s) now :=
  ⟨h.rise.cut id, fun y hy => by
    obtain ⟨o, h1, h2⟩ := h.last y (rem_mem.1 hy).1
    exact ⟨o, h1.step hx (fun q => hk q.1), fun ha => inQ_cut (h2 (by rwa [show afq (cutQ id qs) = afq qs from cut_af id qs] at ha)) (rem_mem.1 hy).2⟩⟩
theorem Few.due {xs : List Opc} {i : Nat} {qs : List Q} {s : List It} {now : Int} (h : Few xs i qs s now) (hF : HpF s) {x : Opc} (hx : xs[i]? = some x) (hk : x.k ≠ 0) (t : Int) : Few xs (i + 1) (cutAll (dueI t s) qs) (restI t s) now :=
  ⟨h.rise.cutAll, fun y hy => by
    have hya : y ∈ s := by
      have : y ∈ dueI t s ++ restI t s := List.mem_append.2 (.inr hy)
      rwa [show dueI t s ++ restI t s = s from List.takeWhile_append_dropWhile] at this
    obtain ⟨o, h1, h2⟩ := h.last y hya
    refine ⟨o, h1.step hx (fun q => hk q.1), fun ha => inQ_cutAll (h2 (by rwa [cutAll_af] at ha)) fun z hz e => ?_⟩
    have hnd := hF.nd
    rw [← show dueI t s ++ restI t s = s from List.takeWhile_append_dropWhile, List.map_append, List.nodup_append] at hnd
    exact hnd.2.2 z.id (List.mem_map.2 ⟨z, hz, rfl⟩) y.id (List.mem_map.2 ⟨y, hy, rfl⟩) e⟩
theorem Few.add {xs : List Opc} {i : Nat} {qs : List Q} {s : List It} {now : Int} (h : Few xs i qs s now) {x : Opc} (hx : xs[i]? = some x) (hk : x.k = 0) (hnn : ∀ y ∈ s, 0 ≤ y.id) (nx : Int) : Few xs (i + 1) (addQ qs x.id now x.af nx) (addS s x.id now x.af nx) now := by
  refine ⟨h.rise.add x.id x.af nx, fun y hy => ?_⟩
  by_cases hid : x.id < 0
  · have hy2 : y ∈ s := by unfold addS at hy; rwa [if_pos hid] at hy
    obtain ⟨o, h1, h2⟩ := h.last y hy2
    refine ⟨o, h1.step hx (fun q => by have := hnn y hy2; omega), ?_⟩
    unfold addQ; rw [if_pos hid]; exact h2
  · unfold addS at hy; rw [if_neg hid] at hy
    have hQ : addQ qs x.id now x.af nx = putQ x.af (addX x.id now x.af nx) (cutQ x.id qs) := by unfold addQ; rw [if_neg hid]
    rcases insI_mem.1 hy with rfl | hy
    · refine ⟨x, ⟨i, by omega, hx, hk, rfl, fun j o' h1 h2 => by omega⟩, fun ha => ?_⟩
      rw [addQ_af] at ha
      rw [hQ]
      refine inQ_new (x := addX x.id now x.af nx) (by rw [show afq (cutQ x.id qs) = afq qs from cut_af x.id qs]; exact ha) fun q hq e z hz => ?_
      have := h.rise.cut x.id q hq z hz
      rw [e] at this; exact this
    · have hy1 := (rem_mem.1 hy).2
      obtain ⟨o, h1, h2⟩ := h.last y (rem_mem.1 hy).1
      refine ⟨o, h1.step hx (fun q => hy1 q.2.symm), fun ha => ?_⟩
      rw [addQ_af] at ha
      rw [hQ]
      exact inQ_put (inQ_cut (h2 ha) hy1)
def own_ (qs : List Q) (s : List It) : Nat := (s.filter fun x => !inQ qs x.id).length
theorem own_step {qs : List Q} {s : List It} {i : Nat} (h : i < s.length) : own_ qs (s.take (i + 1)) = own_ qs (s.take i) + if inQ qs (g s i).id then 0 else 1 := by
  unfold own_
  rw [List.take_add_one, g_at h, Option.toList_some, List.filter_append, List.length_append]
  congr 1
  rw [List.filter_cons]
  cases inQ qs (g s i).id <;> rfl
theorem mk_len (qs : List Q) (a : Int) : ((mkS qs a).length : Int) = qs.length + if mkV qs a = 0 then 1 else 0 := by
  unfold mkS mkV
  cases noMk qs a <;> simp
theorem mk_has {qs : List Q} {a : Int} (hl : qs.length < 32) (ha : a ≠ 18446744073709551615) : a ∈ afq (mkS qs a) := by
  unfold mkS
  cases h : noMk qs a with
  | false => simp [afq]
  | true =>
    unfold noMk at h
    simp only [Bool.or_eq_true, decide_eq_true_eq] at h
    rcases h with (h | h) | h
    · exact absurd h ha
    · omega
    · exact h
theorem mk_sub {qs : List Q} {a b : Int} (h : b ∈ afq qs) : b ∈ afq (mkS qs a) := by
  unfold mkS; split
  · exact h
  · unfold afq; rw [List.map_append]; exact List.mem_append.2 (.inl h)
set_option maxHeartbeats 2000000 in
theorem few_ct (L : List SP) (ad : Option Addr) (c : Nat) (xs : List Opc) (hR : RdS L 4 ad xs.length (xs.flatMap encO)) (hO : ∀ o ∈ xs, OpOk o) (ad2 : Option Addr) (c2 : Nat) (ys : List Int) (hR2 : RdS L 1 ad2 ys.length (ys.map fun y => .int .u64 y)) : Ct Try.prog 11 #[.slice ad xs.length c, .slice ad2 ys.length c2] (L) (fun _ : Unit => .bool true) (fun _ : Unit => L) := by
  refine Ct.of (vs := [.slice ad xs.length c, .slice ad2 ys.length c2]) Try.func11 rfl rfl [(0, .slice ad xs.length c), (1, .slice ad2 ys.length c2)] (by repeat (first | exact trivial | refine ⟨rfl, ?_⟩)) ?_
  intro E
  show Hd E 167 _ _ _ _
  refine Hd.seq (fun K1 hK1 => ?_)
  refine Hd.region ?_
  refine Hd.yv (y_assign rfl) ?_
  refine Hd.nil ?_
  refine Hd.slots [(0, _), (1, _)] ⟨rfl, rfl, trivial⟩ ?_
  refine Hd.toK hK1 ?_
  refine Hd.seq (fun K2 hK2 => ?_)
  refine Hd.region ?_
  refine Hd.callE rfl fk36 (alive_ct _) (Ent.sep enn) ?_
  intro _
  refine Hd.yv (y_assign rfl) ?_
  refine Hd.nil ?_
  refine Hd.slots [(0, _), (1, _), (5, _)] ⟨rfl, rfl, rfl, trivial⟩ ?_
  refine Hd.toK hK2 ?_
  refine Hd.seq (fun K3 hK3 => ?_)
  refine Hd.seq (fun K4 hK4 => ?_)
  refine Hd.region ?_
  refine Hd.yv (y_move rfl) ?_
  refine Hd.yv (y_len Try.underlying57 rfl) ?_
  refine Hd.yv (y_gtr rfl rfl) ?_
  refine Hd.yv (y_move rfl) ?_
  apply Hd.org 4 23 27 [(0, _), (1, _), (5, _)] rfl ⟨rfl, rfl, rfl, trivial⟩
  · intro hg2_23
    try simp only [decide_eq_true_eq, decide_eq_false_iff_not, Bool.and_eq_true, Bool.or_eq_true, Bool.and_eq_false_iff, Bool.or_eq_false_iff, Bool.not_eq_true', Bool.not_eq_false', Bool.not_eq_true, Bool.not_eq_false, Int.not_lt, Int.not_le, Decidable.not_not, ne_eq] at hg2_23
    simp only [List.take]
    refine Hd.ng rfl rfl rfl ?_
    refine Hd.ng rfl rfl rfl ?_
    refine Hd.ng rfl rfl rfl ?_
    first | (refine Hd.yv (y_pickT rfl rfl) ?_) | (refine Hd.yv (y_pickF rfl rfl) ?_) | (refine Hd.yv (y_pickb rfl rfl rfl) ?_) | (refine Hd.yv (y_pick rfl rfl rfl) ?_)
    refine Hd.nil ?_
    exact Hd.mend (by repeat (first | exact trivial | refine ⟨rfl, ?_⟩)) (Ent.sep enn)
  · intro hg2_23
    try simp only [decide_eq_true_eq, decide_eq_false_iff_not, Bool.and_eq_true, Bool.or_eq_true, Bool.and_eq_false_iff, Bool.or_eq_false_iff, Bool.not_eq_true', Bool.not_eq_false', Bool.not_eq_true, Bool.not_eq_false, Int.not_lt, Int.not_le, Decidable.not_not, ne_eq] at hg2_23
    simp only [List.take]
    refine Hd.yg rfl rfl (y_move rfl) ?_
    refine Hd.yg rfl rfl (y_len Try.underlying58 rfl) ?_
    refine Hd.yg rfl rfl (y_gtr rfl rfl) ?_
    first | (refine Hd.yv (y_pickT rfl rfl) ?_) | (refine Hd.yv (y_pickF rfl rfl) ?_) | (refine Hd.yv (y_pickb rfl rfl rfl) ?_) | (refine Hd.yv (y_pick rfl rfl rfl) ?_)
    refine Hd.nil ?_
    exact Hd.mend (by repeat (first | exact trivial | refine ⟨rfl, ?_⟩)) (Ent.sep enn)
  simp only [List.drop]
  refine Hd.yv (y_move rfl) ?_
  apply Hd.org 3 28 31 [(0, _), (1, _), (5, _)] rfl ⟨rfl, rfl, rfl, trivial⟩
  · intro hg2_28
    try simp only [decide_eq_true_eq, decide_eq_false_iff_not, Bool.and_eq_true, Bool.or_eq_true, Bool.and_eq_false_iff, Bool.or_eq_false_iff, Bool.not_eq_true', Bool.not_eq_false', Bool.not_eq_true, Bool.not_eq_false, Int.not_lt, Int.not_le, Decidable.not_not, ne_eq] at hg2_28
    simp only [List.take]
    refine Hd.ng rfl rfl rfl ?_
    refine Hd.ng rfl rfl rfl ?_
    first | (refine Hd.yv (y_pickT rfl rfl) ?_) | (refine Hd.yv (y_pickF rfl rfl) ?_) | (refine Hd.yv (y_pickb rfl rfl rfl) ?_) | (refine Hd.yv (y_pick rfl rfl rfl) ?_)
    refine Hd.nil ?_
    exact Hd.mend (by repeat (first | exact trivial | refine ⟨rfl, ?_⟩)) (Ent.sep enn)
  · intro hg2_28
    try simp only [decide_eq_true_eq, decide_eq_false_iff_not, Bool.and_eq_true, Bool.or_eq_true, Bool.and_eq_false_iff, Bool.or_eq_false_iff, Bool.not_eq_true', Bool.not_eq_false', Bool.not_eq_true, Bool.not_eq_false, Int.not_lt, Int.not_le, Decidable.not_not, ne_eq] at hg2_28
    simp only [List.take]
    refine Hd.yg rfl rfl (y_move rfl) ?_
    refine Hd.yg rfl rfl (y_not rfl) ?_
    first | (refine Hd.yv (y_pickT rfl rfl) ?_) | (refine Hd.yv (y_pickF rfl rfl) ?_) | (refine Hd.yv (y_pickb rfl rfl rfl) ?_) | (refine Hd.yv (y_pick rfl rfl rfl) ?_)
    refine Hd.nil ?_
    exact Hd.mend (by repeat (first | exact trivial | refine ⟨rfl, ?_⟩)) (Ent.sep enn)
  simp only [List.drop]
  refine Hd.nil ?_
  refine Hd.slots [(0, _), (1, _), (5, _), (31, _)] ⟨rfl, rfl, rfl, rfl, trivial⟩ ?_
  refine Hd.toK hK4 ?_
  refine Hd.cond rfl (fun hc0 => ?_) (fun hc0 => ?_)
  ·
    try simp only [decide_eq_true_eq, decide_eq_false_iff_not, Bool.and_eq_true, Bool.or_eq_true, Bool.and_eq_false_iff, Bool.or_eq_false_iff, Bool.not_eq_true', Bool.not_eq_false', Bool.not_eq_true, Bool.not_eq_false, Int.not_lt, Int.not_le, Decidable.not_not, ne_eq] at hc0
    refine Hd.seq (fun K5 hK5 => ?_)
    refine Hd.region ?_
    refine Hd.yv (y_move rfl) ?_
    refine Hd.yv (y_assign rfl) ?_
    refine Hd.nil ?_
    refine Hd.slots [(4, _)] ⟨rfl, trivial⟩ ?_
    refine Hd.toK hK5 ?_
    refine Hd.ret ?_
    refine Hd.thenRet ?_
    clear hK1 hK2 hK3 hK4 hK5
    exact Hd.ret1 rfl () (by first | rfl | (simp only [*]; done) | (simp [*]; done)) (Ent.sep enn)
  ·
    try simp only [decide_eq_true_eq, decide_eq_false_iff_not, Bool.and_eq_true, Bool.or_eq_true, Bool.and_eq_false_iff, Bool.or_eq_false_iff, Bool.not_eq_true', Bool.not_eq_false', Bool.not_eq_true, Bool.not_eq_false, Int.not_lt, Int.not_le, Decidable.not_not, ne_eq] at hc0
    have hx : xs.length ≤ 100 ∧ ys.length ≤ 10 := by have := hc0; simp at this; omega
    refine Hd.skip ?_
    refine Hd.toK hK3 ?_
    refine Hd.seq (fun K6 hK6 => ?_)
    refine Hd.region ?_
    refine Hd.callE rfl fk37 (new_ct _) (Ent.sep enn) ?_
    intro o
    refine Hd.yv (y_assign rfl) ?_
    refine Hd.nil ?_
    refine Hd.slots [(0, _), (1, _), (5, _), (6, _)] ⟨rfl, rfl, rfl, rfl, trivial⟩ ?_
    refine Hd.toK hK6 ?_
    refine Hd.seq (fun K7 hK7 => ?_)
    refine Hd.region ?_
    refine Hd.yv (y_assign rfl) ?_
    refine Hd.nil ?_
    refine Hd.slots [(0, _), (1, _), (5, _), (6, _), (7, _)] ⟨rfl, rfl, rfl, rfl, rfl, trivial⟩ ?_
    refine Hd.toK hK7 ?_
    refine Hd.seq (fun K8 hK8 => ?_)
    refine Hd.seq (fun K9 hK9 => ?_)
    refine Hd.region ?_
    refine Hd.yv (y_assign rfl) ?_
    refine Hd.nil ?_
    refine Hd.slots [(0, _), (1, _), (5, _), (6, _), (7, _), (8, _)] ⟨rfl, rfl, rfl, rfl, rfl, rfl, trivial⟩ ?_
    refine Hd.toK hK9 ?_
    refine Hd.block ?_
    refine Hd.loopK (ι := Nat × List Q) [(0, _), (1, _), (5, _), (6, _)] (fun q_ => [(7, .int .i64 (q_.2.length : Int)), (8, .int .i64 (q_.1 : Int))]) (fun q_ => pu (q_.1 ≤ ys.length ∧ q_.2.length ≤ q_.1 ∧ ∀ (j : Nat) (y : Int), j < q_.1 → ys[j]? = some y → y ≠ 18446744073709551615 → y ∈ afq q_.2) :: CoA o q_.2 [] 0 :: L) (fun q_ => ys.length - q_.1) (0, []) (by repeat (first | exact trivial | refine ⟨rfl, ?_⟩)) (by repeat (first | exact trivial | refine ⟨rfl, ?_⟩)) (Ent.sep (.pure ⟨Nat.zero_le _, Nat.le_refl _, fun j y h => absurd h (Nat.not_lt_zero j)⟩ enn)) ?_
    rintro ⟨i, qs⟩
    try dsimp only
    refine Hd.pure (fun hp0 => ?_)
    try dsimp only at hp0
    refine Hd.seq (fun K10 hK10 => ?_)
    refine Hd.seq (fun K11 hK11 => ?_)
    refine Hd.region ?_
    refine Hd.yv (y_move rfl) ?_
    refine Hd.yv (y_move rfl) ?_
    refine Hd.yv (y_len Try.underlying58 rfl) ?_
    refine Hd.yv (y_lss rfl rfl) ?_
    refine Hd.nil ?_
    refine Hd.slots [(0, _), (1, _), (5, _), (6, _), (7, _), (8, _), (37, _)] ⟨rfl, rfl, rfl, rfl, rfl, rfl, rfl, trivial⟩ ?_
    refine Hd.toK hK11 ?_
    refine Hd.cond rfl (fun hc1 => ?_) (fun hc1 => ?_)
    ·
      try simp only [decide_eq_true_eq, decide_eq_false_iff_not, Bool.and_eq_true, Bool.or_eq_true, Bool.and_eq_false_iff, Bool.or_eq_false_iff, Bool.not_eq_true', Bool.not_eq_false', Bool.not_eq_true, Bool.not_eq_false, Int.not_lt, Int.not_le, Decidable.not_not, ne_eq] at hc1
      have hi : i < ys.length := by omega
      have hgi : ys[i]? = some ys[i] := List.getElem?_eq_getElem hi
      have hyi : (ys.map fun y => Value.int .u64 y)[i * 1]? = some (.int .u64 ys[i]) := by rw [Nat.mul_one, List.getElem?_map, hgi]; rfl
      have hql := hp0.2.1
      have hnew : ∀ (j : Nat) (y : Int), j < i + 1 → ys[j]? = some y → y ≠ 18446744073709551615 → y ∈ afq (mkS qs ys[i]) := fun j y hj hy hne => by
        rcases (show j < i ∨ j = i by omega) with h | rfl
        · exact mk_sub (hp0.2.2 j y h hy hne)
        · rw [hgi] at hy; obtain rfl := Option.some.inj hy
          exact mk_has (by omega) hne
      have hml := mk_len qs ys[i]
      refine Hd.skip ?_
      refine Hd.toK hK10 ?_
      refine Hd.seq (fun K12 hK12 => ?_)
      refine Hd.block ?_
      refine Hd.seq (fun K13 hK13 => ?_)
      refine Hd.region ?_
      refine Hd.yv (y_move rfl) ?_
      refine Hd.yv (y_move rfl) ?_
      refine Hd.yv (y_move rfl) ?_
      first | (refine Hd.yv (y_idxS Try.underlying58 sz29 rfl rfl (by first | omega | decide)) ?_) | (refine Hd.yv (y_idxR Try.underlying58 sz29 rfl rfl (by first | omega | decide) (by (first | exact RdS.own pkk | exact RdS.mono hR (Ent.sep enn) | exact RdS.mono hR2 (Ent.sep enn)))) ?_)
      refine Hd.yv (y_loadR1 ag29 rfl (RdS.mono hR2 (Ent.sep enn)) hyi) ?_
      refine Hd.callE rfl fk38 (common_ct _ o qs [] 0 ys[i]) (Ent.sep enn) ?_
      intro _
      refine Hd.yv (y_assign rfl) ?_
      refine Hd.nil ?_
      refine Hd.slots [(0, _), (1, _), (5, _), (6, _), (7, _), (8, _), (9, _)] ⟨rfl, rfl, rfl, rfl, rfl, rfl, rfl, trivial⟩ ?_
      refine Hd.toK hK13 ?_
      refine Hd.seq (fun K14 hK14 => ?_)
      refine Hd.region ?_
      refine Hd.yv (y_move rfl) ?_
      first | (refine Hd.yv (y_eqlT rfl rfl) ?_) | (refine Hd.yv (y_eql rfl rfl) ?_)
      refine Hd.nil ?_
      refine Hd.slots [(0, _), (1, _), (5, _), (6, _), (7, _), (8, _), (47, _)] ⟨rfl, rfl, rfl, rfl, rfl, rfl, rfl, trivial⟩ ?_
      refine Hd.toK hK14 ?_
      refine Hd.cond rfl (fun hc2 => ?_) (fun hc2 => ?_)
      ·
        try simp only [decide_eq_true_eq, decide_eq_false_iff_not, Bool.and_eq_true, Bool.or_eq_true, Bool.and_eq_false_iff, Bool.or_eq_false_iff, Bool.not_eq_true', Bool.not_eq_false', Bool.not_eq_true, Bool.not_eq_false, Int.not_lt, Int.not_le, Decidable.not_not, ne_eq] at hc2
        refine Hd.region ?_
        refine Hd.yv (y_move rfl) ?_
        first | (refine Hd.yv (y_to (v' := .int .i64 ((mkS qs ys[i]).length : Int)) (y_addn rfl rfl (by simp only [InK]; omega)) (by (rw [hml, if_pos hc2]))) ?_) | (refine Hd.yv (y_to (v' := .int .i64 ((mkS qs ys[i]).length : Int)) (y_add rfl rfl) (by (rw [hml, if_pos hc2]))) ?_)
        refine Hd.yv (y_assign rfl) ?_
        refine Hd.nil ?_
        refine Hd.slots [(0, _), (1, _), (5, _), (6, _), (7, _), (8, _)] ⟨rfl, rfl, rfl, rfl, rfl, rfl, trivial⟩ ?_
        refine Hd.inB ?_
        refine Hd.toK hK12 ?_
        refine Hd.region ?_
        refine Hd.yv (y_move rfl) ?_
        first | (refine Hd.yv (y_addn rfl rfl (by simp only [InK]; omega)) ?_) | (refine Hd.yv (y_add rfl rfl) ?_)
        refine Hd.yv (y_assign rfl) ?_
        refine Hd.nil ?_
        refine Hd.slots [(0, _), (1, _), (5, _), (6, _), (7, _), (8, _)] ⟨rfl, rfl, rfl, rfl, rfl, rfl, trivial⟩ ?_
        clear hK1 hK2 hK3 hK4 hK6 hK7 hK8 hK9 hK10 hK11 hK12 hK13 hK14
        refine Hd.thenN ?_
        exact Hd.again (i + 1, mkS qs ys[i]) (by first | omega | (simp only; omega) | (simp; omega)) (by repeat (first | exact trivial | refine ⟨rfl, ?_⟩)) (Ent.sep (.pure ⟨hi, by rw [if_pos hc2] at hml; show (mkS qs ys[i]).length ≤ i + 1; omega, hnew⟩ enn))
      ·
        try simp only [decide_eq_true_eq, decide_eq_false_iff_not, Bool.and_eq_true, Bool.or_eq_true, Bool.and_eq_false_iff, Bool.or_eq_false_iff, Bool.not_eq_true', Bool.not_eq_false', Bool.not_eq_true, Bool.not_eq_false, Int.not_lt, Int.not_le, Decidable.not_not, ne_eq] at hc2
        have hmq : mkS qs ys[i] = qs := by
          unfold mkS mkV at *
          cases h : noMk qs ys[i] with
          | true => rfl
          | false => rw [h] at hc2; simp at hc2
        rw [hmq] at hnew ⊢
        refine Hd.skip ?_
        refine Hd.inB ?_
        refine Hd.toK hK12 ?_
        refine Hd.region ?_
        refine Hd.yv (y_move rfl) ?_
        first | (refine Hd.yv (y_addn rfl rfl (by simp only [InK]; omega)) ?_) | (refine Hd.yv (y_add rfl rfl) ?_)
        refine Hd.yv (y_assign rfl) ?_
        refine Hd.nil ?_
        refine Hd.slots [(0, _), (1, _), (5, _), (6, _), (7, _), (8, _)] ⟨rfl, rfl, rfl, rfl, rfl, rfl, trivial⟩ ?_
        clear hK1 hK2 hK3 hK4 hK6 hK7 hK8 hK9 hK10 hK11 hK12 hK13 hK14
        refine Hd.thenN ?_
        exact Hd.again (i + 1, qs) (by first | omega | (simp only; omega) | (simp; omega)) (by repeat (first | exact trivial | refine ⟨rfl, ?_⟩)) (Ent.sep (.pure ⟨hi, by show qs.length ≤ i + 1; omega, hnew⟩ enn))
    ·
      try simp only [decide_eq_true_eq, decide_eq_false_iff_not, Bool.and_eq_true, Bool.or_eq_true, Bool.and_eq_false_iff, Bool.or_eq_false_iff, Bool.not_eq_true', Bool.not_eq_false', Bool.not_eq_true, Bool.not_eq_false, Int.not_lt, Int.not_le, Decidable.not_not, ne_eq] at hc1
      have hi : i = ys.length := by omega
      subst hi
      have hcm := hp0.2.2
      have hql := hp0.2.1
      refine Hd.coF (o := o) pkk (fun hcf => ?_)
      have hfew0 : Few xs 0 qs [] 0 := by
        obtain ⟨hs, f, hok⟩ := hcf
        exact ⟨fun q hq y hy => (by cases hok.sub q hq y hy), fun y hy => (by cases hy)⟩
      refine Hd.exit ?_
      refine Hd.thenExit ?_
      refine Hd.thenExit ?_
      refine Hd.inBexit ?_
      refine Hd.toK hK8 ?_
      refine Hd.seq (fun K15 hK15 => ?_)
      refine Hd.region ?_
      refine Hd.yv (y_assign rfl) ?_
      refine Hd.nil ?_
      refine Hd.slots [(0, _), (1, _), (5, _), (6, _), (7, _), (10, _)] ⟨rfl, rfl, rfl, rfl, rfl, rfl, trivial⟩ ?_
      refine Hd.toK hK15 ?_
      refine Hd.seq (fun K16 hK16 => ?_)
      refine Hd.seq (fun K17 hK17 => ?_)
      refine Hd.region ?_
      refine Hd.yv (y_assign rfl) ?_
      refine Hd.nil ?_
      refine Hd.slots [(0, _), (1, _), (5, _), (6, _), (7, _), (10, _), (11, _)] ⟨rfl, rfl, rfl, rfl, rfl, rfl, rfl, trivial⟩ ?_
      refine Hd.toK hK17 ?_
      refine Hd.block ?_
      refine Hd.loopK (ι := Nat × List Q × List It × Int × Int) [(0, _), (1, _), (5, _), (6, _), (7, _)] (fun q_ => [(10, .int .u64 q_.2.2.2.2), (11, .int .i64 (q_.1 : Int))]) (fun q_ => pu (q_.1 ≤ xs.length ∧ q_.2.2.1.length ≤ q_.1 ∧ q_.2.2.2.1 ≤ q_.1 ∧ 0 ≤ q_.2.2.2.2 ∧ q_.2.2.2.2 ≤ 1048576 * q_.1 ∧ afq q_.2.1 = afq qs ∧ Few xs q_.1 q_.2.1 q_.2.2.1 q_.2.2.2.2) :: CoA o q_.2.1 q_.2.2.1 q_.2.2.2.1 :: L) (fun q_ => xs.length - q_.1) (0, qs, [], 0, 0) (by repeat (first | exact trivial | refine ⟨rfl, ?_⟩)) (by repeat (first | exact trivial | refine ⟨rfl, ?_⟩)) (Ent.sep (.pure ⟨Nat.zero_le _, Nat.zero_le _, Int.le_refl _, Int.le_refl _, Int.le_refl _, rfl, hfew0⟩ enn)) ?_
      rintro ⟨i, qt, s, nx, now⟩
      try dsimp only
      refine Hd.pure (fun hp1 => ?_)
      try dsimp only at hp1
      refine Hd.seq (fun K18 hK18 => ?_)
      refine Hd.seq (fun K19 hK19 => ?_)
      refine Hd.region ?_
      refine Hd.yv (y_move rfl) ?_
      refine Hd.yv (y_move rfl) ?_
      refine Hd.yv (y_len Try.underlying57 rfl) ?_
      refine Hd.yv (y_lss rfl rfl) ?_
      refine Hd.nil ?_
      refine Hd.slots [(0, _), (1, _), (5, _), (6, _), (7, _), (10, _), (11, _), (53, _)] ⟨rfl, rfl, rfl, rfl, rfl, rfl, rfl, rfl, trivial⟩ ?_
      refine Hd.toK hK19 ?_
      refine Hd.cond rfl (fun hc3 => ?_) (fun hc3 => ?_)
      ·
        try simp only [decide_eq_true_eq, decide_eq_false_iff_not, Bool.and_eq_true, Bool.or_eq_true, Bool.and_eq_false_iff, Bool.or_eq_false_iff, Bool.not_eq_true', Bool.not_eq_false', Bool.not_eq_true, Bool.not_eq_false, Int.not_lt, Int.not_le, Decidable.not_not, ne_eq] at hc3
        have hi : i < xs.length := by omega
        obtain ⟨_, hsl, hnl, hw0, hw1, haf, hfw⟩ := hp1
        obtain ⟨x, hxo⟩ : ∃ x, xs[i]? = some x := ⟨_, List.getElem?_eq_getElem hi⟩
        have hok := hO x (List.mem_of_getElem? hxo)
        have hnow := hok.1
        simp only [InK] at hnow
        have hm0 : 0 ≤ x.now % 1048576 := Int.emod_nonneg _ (by omega)
        have hm1 : x.now % 1048576 < 1048576 := Int.emod_lt_of_pos _ (by omega)
        obtain ⟨now', hnow'⟩ : ∃ now', now' = now + x.now % 1048576 := ⟨_, rfl⟩
        have hn' : InK .u64 now' := by simp only [InK]; omega
        have hn2 : now' ≤ 1048576 * ((i + 1 : Nat) : Int) := by omega
        have hfw' : Few xs i qt s now' := ⟨hfw.rise.mono (by omega) hn'.2, hfw.last⟩
        refine Hd.coF (o := o) pkk (fun hct => ?_)
        have hF := hct.hF
        have hnn : ∀ y ∈ s, 0 ≤ y.id := by obtain ⟨_, _, h⟩ := hct; exact h.nn
        refine Hd.skip ?_
        refine Hd.toK hK18 ?_
        refine Hd.seq (fun K20 hK20 => ?_)
        refine Hd.block ?_
        refine Hd.seq (fun K21 hK21 => ?_)
        refine Hd.region ?_
        refine Hd.yv (y_move rfl) ?_
        refine Hd.yv (y_move rfl) ?_
        first | (refine Hd.yv (y_idxS Try.underlying57 sz63 rfl rfl (by first | omega | decide)) ?_) | (refine Hd.yv (y_idxR Try.underlying57 sz63 rfl rfl (by first | omega | decide) (by (first | exact RdS.own pkk | exact RdS.mono hR (Ent.sep enn) | exact RdS.mono hR2 (Ent.sep enn)))) ?_)
        refine Hd.yv (y_loadRn (vs := [_, _, _, _]) ag63 rfl (RdS.mono hR (Ent.sep enn)) (flat_cells encO 4 (fun _ => rfl) hxo) (by exact sz63) (by simp)) ?_
        refine Hd.alloc zr63 (fun b12 => ?_)
        refine Hd.storeA (us := encO x) sz63 rfl rfl rfl (by simp [Value.oneCell']) pkk (by exact rfl) ?_
        refine Hd.nil ?_
        refine Hd.slots [(0, _), (1, _), (5, _), (6, _), (7, _), (10, _), (11, _), (12, _)] ⟨rfl, rfl, rfl, rfl, rfl, rfl, rfl, rfl, trivial⟩ ?_
        refine Hd.toK hK21 ?_
        refine Hd.seq (fun K22 hK22 => ?_)
        refine Hd.region ?_
        refine Hd.yv (y_move rfl) ?_
        first | (refine Hd.yv (y_field' (q := 2) (ft := 29) Try.underlying63 rfl sz29 rfl rfl) ?_) | (refine Hd.yv (y_fieldR (q := 2) (ft := 29) Try.underlying63 rfl sz29 rfl rfl) ?_)
        first | (refine Hd.yv (y_load1 ag29 rfl (Rd.pt1 pkk (by (first | rfl)))) ?_) | (refine Hd.yv (y_load1 ag29 rfl (Rd.seg1 pkk (by (first | rfl)))) ?_) | (refine Hd.yv (y_loadR1 ag29 rfl (by (first | exact RdS.own pkk | exact RdS.mono hR (Ent.sep enn) | exact RdS.mono hR2 (Ent.sep enn))) (by (first | rfl))) ?_)
        first | (refine Hd.yv (y_remN rfl rfl (by omega)) ?_) | (refine Hd.yv (y_remn rfl rfl (by omega) (by omega)) ?_) | (refine Hd.yv (y_rem rfl rfl (by omega)) ?_)
        first | (refine Hd.yv (y_to (v' := .int .u64 now') (y_addn rfl rfl (by simp only [InK]; omega)) (by rw [hnow'])) ?_) | (refine Hd.yv (y_to (v' := .int .u64 now') (y_add rfl rfl) (by rw [hnow'])) ?_)
        refine Hd.yv (y_assign rfl) ?_
        refine Hd.nil ?_
        refine Hd.slots [(0, _), (1, _), (5, _), (6, _), (7, _), (10, _), (11, _), (12, _)] ⟨rfl, rfl, rfl, rfl, rfl, rfl, rfl, rfl, trivial⟩ ?_
        refine Hd.toK hK22 ?_
        refine Hd.seq (fun K23 hK23 => ?_)
        refine Hd.region ?_
        first | (refine Hd.yv (y_field' (q := 0) (ft := 3) Try.underlying63 rfl sz3 rfl rfl) ?_) | (refine Hd.yv (y_fieldR (q := 0) (ft := 3) Try.underlying63 rfl sz3 rfl rfl) ?_)
        first | (refine Hd.yv (y_load1 ag3 rfl (Rd.pt1 pkk (by (first | rfl)))) ?_) | (refine Hd.yv (y_load1 ag3 rfl (Rd.seg1 pkk (by (first | rfl)))) ?_) | (refine Hd.yv (y_loadR1 ag3 rfl (by (first | exact RdS.own pkk | exact RdS.mono hR (Ent.sep enn) | exact RdS.mono hR2 (Ent.sep enn))) (by (first | rfl))) ?_)
        refine Hd.nil ?_
        refine Hd.slots [(0, _), (1, _), (5, _), (6, _), (7, _), (10, _), (11, _), (12, _), (66, _)] ⟨rfl, rfl, rfl, rfl, rfl, rfl, rfl, rfl, rfl, trivial⟩ ?_
        refine Hd.toK hK23 ?_
        refine Hd.block ?_
        refine Hd.seq (fun K24 hK24 => ?_)
        refine Hd.region ?_
        first | (refine Hd.yv (y_eqlT rfl rfl) ?_) | (refine Hd.yv (y_eql rfl rfl) ?_)
        refine Hd.yv (y_assign rfl) ?_
        refine Hd.nil ?_
        refine Hd.slots [(0, _), (1, _), (5, _), (6, _), (7, _), (10, _), (11, _), (12, _), (66, _), (67, _)] ⟨rfl, rfl, rfl, rfl, rfl, rfl, rfl, rfl, rfl, rfl, trivial⟩ ?_
        refine Hd.toK hK24 ?_
        refine Hd.cond rfl (fun hc4 => ?_) (fun hc4 => ?_)
        ·
          try simp only [decide_eq_true_eq, decide_eq_false_iff_not, Bool.and_eq_true, Bool.or_eq_true, Bool.and_eq_false_iff, Bool.or_eq_false_iff, Bool.not_eq_true', Bool.not_eq_false', Bool.not_eq_true, Bool.not_eq_false, Int.not_lt, Int.not_le, Decidable.not_not, ne_eq] at hc4
          refine Hd.region ?_
          refine Hd.yv (y_move rfl) ?_
          first | (refine Hd.yv (y_field' (q := 1) (ft := 3) Try.underlying63 rfl sz3 rfl rfl) ?_) | (refine Hd.yv (y_fieldR (q := 1) (ft := 3) Try.underlying63 rfl sz3 rfl rfl) ?_)
          first | (refine Hd.yv (y_load1 ag3 rfl (Rd.pt1 pkk (by (first | rfl)))) ?_) | (refine Hd.yv (y_load1 ag3 rfl (Rd.seg1 pkk (by (first | rfl)))) ?_) | (refine Hd.yv (y_loadR1 ag3 rfl (by (first | exact RdS.own pkk | exact RdS.mono hR (Ent.sep enn) | exact RdS.mono hR2 (Ent.sep enn))) (by (first | rfl))) ?_)
          refine Hd.yv (y_move rfl) ?_
          first | (refine Hd.yv (y_field' (q := 3) (ft := 29) Try.underlying63 rfl sz29 rfl rfl) ?_) | (refine Hd.yv (y_fieldR (q := 3) (ft := 29) Try.underlying63 rfl sz29 rfl rfl) ?_)
          first | (refine Hd.yv (y_load1 ag29 rfl (Rd.pt1 pkk (by (first | rfl)))) ?_) | (refine Hd.yv (y_load1 ag29 rfl (Rd.seg1 pkk (by (first | rfl)))) ?_) | (refine Hd.yv (y_loadR1 ag29 rfl (by (first | exact RdS.own pkk | exact RdS.mono hR (Ent.sep enn) | exact RdS.mono hR2 (Ent.sep enn))) (by (first | rfl))) ?_)
          refine Hd.callE rfl fk39 (add_ct _ o qt s nx (by omega) (by omega) x.id now' x.af hn' hok.2) (Ent.sep enn) ?_
          intro _
          refine Hd.nil ?_
          refine Hd.slots [(0, _), (1, _), (5, _), (6, _), (7, _), (10, _), (11, _)] ⟨rfl, rfl, rfl, rfl, rfl, rfl, rfl, trivial⟩ ?_
          refine Hd.inB ?_
          refine Hd.inB ?_
          refine Hd.toK hK20 ?_
          refine Hd.region ?_
          refine Hd.yv (y_move rfl) ?_
          first | (refine Hd.yv (y_addn rfl rfl (by simp only [InK]; omega)) ?_) | (refine Hd.yv (y_add rfl rfl) ?_)
          refine Hd.yv (y_assign rfl) ?_
          refine Hd.nil ?_
          refine Hd.slots [(0, _), (1, _), (5, _), (6, _), (7, _), (10, _), (11, _)] ⟨rfl, rfl, rfl, rfl, rfl, rfl, rfl, trivial⟩ ?_
          clear hK1 hK2 hK3 hK4 hK6 hK7 hK8 hK9 hK10 hK11 hK15 hK16 hK17 hK18 hK19 hK20 hK21 hK22 hK23 hK24
          refine Hd.thenN ?_
          exact Hd.again (i + 1, addQ qt x.id now' x.af nx, addS s x.id now' x.af nx, addN x.id nx, now') (by first | omega | (simp only; omega) | (simp; omega)) (by repeat (first | exact trivial | refine ⟨rfl, ?_⟩)) (Ent.sep (.pure ⟨hi, by have := addS_len s x.id now' x.af nx; show (addS s x.id now' x.af nx).length ≤ i + 1; omega, by have := addN_le x.id nx; show addN x.id nx ≤ ((i + 1 : Nat) : Int); omega, hn'.1, hn2, (addQ_af ..).trans haf, hfw'.add hxo hc4 hnn nx⟩ enn))
        ·
          try simp only [decide_eq_true_eq, decide_eq_false_iff_not, Bool.and_eq_true, Bool.or_eq_true, Bool.and_eq_false_iff, Bool.or_eq_false_iff, Bool.not_eq_true', Bool.not_eq_false', Bool.not_eq_true, Bool.not_eq_false, Int.not_lt, Int.not_le, Decidable.not_not, ne_eq] at hc4
          refine Hd.seq (fun K25 hK25 => ?_)
          refine Hd.region ?_
          first | (refine Hd.yv (y_eqlT rfl rfl) ?_) | (refine Hd.yv (y_eql rfl rfl) ?_)
          refine Hd.yv (y_assign rfl) ?_
          refine Hd.nil ?_
          refine Hd.slots [(0, _), (1, _), (5, _), (6, _), (7, _), (10, _), (11, _), (12, _), (66, _), (76, _)] ⟨rfl, rfl, rfl, rfl, rfl, rfl, rfl, rfl, rfl, rfl, trivial⟩ ?_
          refine Hd.toK hK25 ?_
          refine Hd.cond rfl (fun hc5 => ?_) (fun hc5 => ?_)
          ·
            try simp only [decide_eq_true_eq, decide_eq_false_iff_not, Bool.and_eq_true, Bool.or_eq_true, Bool.and_eq_false_iff, Bool.or_eq_false_iff, Bool.not_eq_true', Bool.not_eq_false', Bool.not_eq_true, Bool.not_eq_false, Int.not_lt, Int.not_le, Decidable.not_not, ne_eq] at hc5
            refine Hd.region ?_
            refine Hd.yv (y_move rfl) ?_
            first | (refine Hd.yv (y_field' (q := 1) (ft := 3) Try.underlying63 rfl sz3 rfl rfl) ?_) | (refine Hd.yv (y_fieldR (q := 1) (ft := 3) Try.underlying63 rfl sz3 rfl rfl) ?_)
            first | (refine Hd.yv (y_load1 ag3 rfl (Rd.pt1 pkk (by (first | rfl)))) ?_) | (refine Hd.yv (y_load1 ag3 rfl (Rd.seg1 pkk (by (first | rfl)))) ?_) | (refine Hd.yv (y_loadR1 ag3 rfl (by (first | exact RdS.own pkk | exact RdS.mono hR (Ent.sep enn) | exact RdS.mono hR2 (Ent.sep enn))) (by (first | rfl))) ?_)
            refine Hd.callE rfl fk40 (cut_ct _ o qt s nx (by omega) x.id) (Ent.sep enn) ?_
            intro _
            refine Hd.nil ?_
            refine Hd.slots [(0, _), (1, _), (5, _), (6, _), (7, _), (10, _), (11, _)] ⟨rfl, rfl, rfl, rfl, rfl, rfl, rfl, trivial⟩ ?_
            refine Hd.inB ?_
            refine Hd.inB ?_
            refine Hd.toK hK20 ?_
            refine Hd.region ?_
            refine Hd.yv (y_move rfl) ?_
            first | (refine Hd.yv (y_addn rfl rfl (by simp only [InK]; omega)) ?_) | (refine Hd.yv (y_add rfl rfl) ?_)
            refine Hd.yv (y_assign rfl) ?_
            refine Hd.nil ?_
            refine Hd.slots [(0, _), (1, _), (5, _), (6, _), (7, _), (10, _), (11, _)] ⟨rfl, rfl, rfl, rfl, rfl, rfl, rfl, trivial⟩ ?_
            clear hK1 hK2 hK3 hK4 hK6 hK7 hK8 hK9 hK10 hK11 hK15 hK16 hK17 hK18 hK19 hK20 hK21 hK22 hK23 hK24 hK25
            refine Hd.thenN ?_
            exact Hd.again (i + 1, cutQ x.id qt, remI x.id s, nx, now') (by first | omega | (simp only; omega) | (simp; omega)) (by repeat (first | exact trivial | refine ⟨rfl, ?_⟩)) (Ent.sep (.pure ⟨hi, by have := remI_len s x.id; show (remI x.id s).length ≤ i + 1; omega, by show nx ≤ ((i + 1 : Nat) : Int); omega, hn'.1, hn2, (cut_af ..).trans haf, hfw'.cut hxo hc4 x.id⟩ enn))
          ·
            try simp only [decide_eq_true_eq, decide_eq_false_iff_not, Bool.and_eq_true, Bool.or_eq_true, Bool.and_eq_false_iff, Bool.or_eq_false_iff, Bool.not_eq_true', Bool.not_eq_false', Bool.not_eq_true, Bool.not_eq_false, Int.not_lt, Int.not_le, Decidable.not_not, ne_eq] at hc5
            refine Hd.seq (fun K26 hK26 => ?_)
            refine Hd.region ?_
            first | (refine Hd.yv (y_eqlT rfl rfl) ?_) | (refine Hd.yv (y_eql rfl rfl) ?_)
            refine Hd.yv (y_assign rfl) ?_
            refine Hd.nil ?_
            refine Hd.slots [(0, _), (1, _), (5, _), (6, _), (7, _), (10, _), (11, _), (82, _)] ⟨rfl, rfl, rfl, rfl, rfl, rfl, rfl, rfl, trivial⟩ ?_
            refine Hd.toK hK26 ?_
            refine Hd.cond rfl (fun hc6 => ?_) (fun hc6 => ?_)
            ·
              try simp only [decide_eq_true_eq, decide_eq_false_iff_not, Bool.and_eq_true, Bool.or_eq_true, Bool.and_eq_false_iff, Bool.or_eq_false_iff, Bool.not_eq_true', Bool.not_eq_false', Bool.not_eq_true, Bool.not_eq_false, Int.not_lt, Int.not_le, Decidable.not_not, ne_eq] at hc6
              refine Hd.region ?_
              refine Hd.yv (y_move rfl) ?_
              refine Hd.yv (y_move rfl) ?_
              refine Hd.callE rfl fk41 (cdue_ct _ o qt s nx (by omega) now') (Ent.sep enn) ?_
              rintro ⟨a9, c9⟩
              dsimp only
              refine Hd.nil ?_
              refine Hd.slots [(0, _), (1, _), (5, _), (6, _), (7, _), (10, _), (11, _)] ⟨rfl, rfl, rfl, rfl, rfl, rfl, rfl, trivial⟩ ?_
              refine Hd.inB ?_
              refine Hd.inB ?_
              refine Hd.toK hK20 ?_
              refine Hd.region ?_
              refine Hd.yv (y_move rfl) ?_
              first | (refine Hd.yv (y_addn rfl rfl (by simp only [InK]; omega)) ?_) | (refine Hd.yv (y_add rfl rfl) ?_)
              refine Hd.yv (y_assign rfl) ?_
              refine Hd.nil ?_
              refine Hd.slots [(0, _), (1, _), (5, _), (6, _), (7, _), (10, _), (11, _)] ⟨rfl, rfl, rfl, rfl, rfl, rfl, rfl, trivial⟩ ?_
              clear hK1 hK2 hK3 hK4 hK6 hK7 hK8 hK9 hK10 hK11 hK15 hK16 hK17 hK18 hK19 hK20 hK21 hK22 hK23 hK24 hK25 hK26
              refine Hd.thenN ?_
              exact Hd.again (i + 1, cutAll (dueI now' s) qt, restI now' s, nx, now') (by first | omega | (simp only; omega) | (simp; omega)) (by repeat (first | exact trivial | refine ⟨rfl, ?_⟩)) (Ent.sep (.pure ⟨hi, by have := restI_len s now'; show (restI now' s).length ≤ i + 1; omega, by show nx ≤ ((i + 1 : Nat) : Int); omega, hn'.1, hn2, (cutAll_af ..).trans haf, hfw'.due hF hxo hc4 now'⟩ enn))
            ·
              try simp only [decide_eq_true_eq, decide_eq_false_iff_not, Bool.and_eq_true, Bool.or_eq_true, Bool.and_eq_false_iff, Bool.or_eq_false_iff, Bool.not_eq_true', Bool.not_eq_false', Bool.not_eq_true, Bool.not_eq_false, Int.not_lt, Int.not_le, Decidable.not_not, ne_eq] at hc6
              refine Hd.skip ?_
              refine Hd.inB ?_
              refine Hd.inB ?_
              refine Hd.toK hK20 ?_
              refine Hd.region ?_
              refine Hd.yv (y_move rfl) ?_
              first | (refine Hd.yv (y_addn rfl rfl (by simp only [InK]; omega)) ?_) | (refine Hd.yv (y_add rfl rfl) ?_)
              refine Hd.yv (y_assign rfl) ?_
              refine Hd.nil ?_
              refine Hd.slots [(0, _), (1, _), (5, _), (6, _), (7, _), (10, _), (11, _)] ⟨rfl, rfl, rfl, rfl, rfl, rfl, rfl, trivial⟩ ?_
              clear hK1 hK2 hK3 hK4 hK6 hK7 hK8 hK9 hK10 hK11 hK15 hK16 hK17 hK18 hK19 hK20 hK21 hK22 hK23 hK24 hK25 hK26
              refine Hd.thenN ?_
              exact Hd.again (i + 1, qt, s, nx, now') (by first | omega | (simp only; omega) | (simp; omega)) (by repeat (first | exact trivial | refine ⟨rfl, ?_⟩)) (Ent.sep (.pure ⟨hi, by show s.length ≤ i + 1; omega, by show nx ≤ ((i + 1 : Nat) : Int); omega, hn'.1, hn2, haf, hfw'.skip hxo hc4⟩ enn))
      ·
        try simp only [decide_eq_true_eq, decide_eq_false_iff_not, Bool.and_eq_true, Bool.or_eq_true, Bool.and_eq_false_iff, Bool.or_eq_false_iff, Bool.not_eq_true', Bool.not_eq_false', Bool.not_eq_true, Bool.not_eq_false, Int.not_lt, Int.not_le, Decidable.not_not, ne_eq] at hc3
        have hi : i = xs.length := by omega
        subst hi
        obtain ⟨_, hsl, hnl, hw0, hw1, haf, hfw⟩ := hp1
        have hlen : qt.length = qs.length := by have := congrArg List.length haf; simpa [afq] using this
        refine Hd.exit ?_
        refine Hd.thenExit ?_
        refine Hd.thenExit ?_
        refine Hd.inBexit ?_
        refine Hd.toK hK16 ?_
        refine Hd.seq (fun K27 hK27 => ?_)
        refine Hd.region ?_
        refine Hd.yv (y_move rfl) ?_
        refine Hd.callE rfl fk44 (call_ct _ o qt s nx) (Ent.sep enn) ?_
        rintro ⟨a13, c13⟩
        dsimp only
        refine Hd.yv (y_assign rfl) ?_
        refine Hd.nil ?_
        refine Hd.slots [(0, _), (1, _), (5, _), (6, _), (7, _), (13, _)] ⟨rfl, rfl, rfl, rfl, rfl, rfl, trivial⟩ ?_
        refine Hd.toK hK27 ?_
        refine Hd.seq (fun K28 hK28 => ?_)
        refine Hd.region ?_
        refine Hd.yv (y_assign rfl) ?_
        refine Hd.nil ?_
        refine Hd.slots [(0, _), (1, _), (5, _), (6, _), (7, _), (13, _), (14, _)] ⟨rfl, rfl, rfl, rfl, rfl, rfl, rfl, trivial⟩ ?_
        refine Hd.toK hK28 ?_
        refine Hd.seq (fun K29 hK29 => ?_)
        refine Hd.seq (fun K30 hK30 => ?_)
        refine Hd.region ?_
        refine Hd.yv (y_assign rfl) ?_
        refine Hd.nil ?_
        refine Hd.slots [(0, _), (1, _), (5, _), (6, _), (7, _), (13, _), (14, _), (15, _)] ⟨rfl, rfl, rfl, rfl, rfl, rfl, rfl, rfl, trivial⟩ ?_
        refine Hd.toK hK30 ?_
        refine Hd.block ?_
        refine Hd.loopK (ι := Nat × Int) [(0, _), (1, _), (5, _), (6, _), (7, _), (13, _)] (fun q_ => [(14, .int .i64 q_.2), (15, .int .i64 (q_.1 : Int))]) (fun q_ => pu (q_.1 ≤ s.length ∧ (own_ qt (s.take q_.1) : Int) ≤ q_.2 ∧ q_.2 ≤ q_.1) :: OwI a13 s.length c13 s :: CoA o qt s nx :: L) (fun q_ => s.length - q_.1) (0, 0) (by repeat (first | exact trivial | refine ⟨rfl, ?_⟩)) (by repeat (first | exact trivial | refine ⟨rfl, ?_⟩)) (Ent.sep (.pure ⟨Nat.zero_le _, by simp [own_], Int.le_refl _⟩ enn)) ?_
        rintro ⟨k, oth⟩
        try dsimp only
        refine Hd.pure (fun hp2 => ?_)
        try dsimp only at hp2
        refine Hd.seq (fun K31 hK31 => ?_)
        refine Hd.seq (fun K32 hK32 => ?_)
        refine Hd.region ?_
        refine Hd.yv (y_move rfl) ?_
        refine Hd.yv (y_move rfl) ?_
        refine Hd.yv (y_len Try.underlying22 rfl) ?_
        refine Hd.yv (y_lss rfl rfl) ?_
        refine Hd.nil ?_
        refine Hd.slots [(0, _), (1, _), (5, _), (6, _), (7, _), (13, _), (14, _), (15, _), (92, _)] ⟨rfl, rfl, rfl, rfl, rfl, rfl, rfl, rfl, rfl, trivial⟩ ?_
        refine Hd.toK hK32 ?_
        refine Hd.cond rfl (fun hc7 => ?_) (fun hc7 => ?_)
        ·
          try simp only [decide_eq_true_eq, decide_eq_false_iff_not, Bool.and_eq_true, Bool.or_eq_true, Bool.and_eq_false_iff, Bool.or_eq_false_iff, Bool.not_eq_true', Bool.not_eq_false', Bool.not_eq_true, Bool.not_eq_false, Int.not_lt, Int.not_le, Decidable.not_not, ne_eq] at hc7
          have hk : k < s.length := by omega
          have hgk : s[k]? = some (g s k) := g_at hk
          have hst := own_step (qs := qt) hk
          have hb0 := hp2.2
          have hoth0 : 0 ≤ oth := by omega
          refine Hd.skip ?_
          refine Hd.toK hK31 ?_
          refine Hd.seq (fun K33 hK33 => ?_)
          refine Hd.block ?_
          refine Hd.seq (fun K34 hK34 => ?_)
          refine Hd.region ?_
          refine Hd.yv (y_move rfl) ?_
          refine Hd.yv (y_len Try.underlying57 rfl) ?_
          first | (refine Hd.yv (y_subn rfl rfl (by simp only [InK]; omega)) ?_) | (refine Hd.yv (y_sub rfl rfl) ?_)
          refine Hd.yv (y_assign rfl) ?_
          refine Hd.nil ?_
          refine Hd.slots [(0, _), (1, _), (5, _), (6, _), (7, _), (13, _), (14, _), (15, _), (16, _)] ⟨rfl, rfl, rfl, rfl, rfl, rfl, rfl, rfl, rfl, trivial⟩ ?_
          refine Hd.toK hK34 ?_
          refine Hd.block ?_
          -- LOOP l3 wants slots [14] (kept [0, 1, 5, 6, 7, 13, 15])
          refine Hd.loopK (ι := Nat) [(0, _), (1, _), (5, _), (6, _), (7, _), (13, _), (15, _)] (fun j => [(14, _), (16, .int .i64 ((j : Int) - 1))]) (fun j => pu (j ≤ xs.length ∧ ∀ (j' : Nat) (o' : Opc), j ≤ j' → xs[j']? = some o' → ¬ (o'.k = 0 ∧ o'.id = (g s k).id)) :: OwI a13 s.length c13 s :: CoA o qt s nx :: L) (fun j => j) (xs.length) (by repeat (first | exact trivial | refine ⟨rfl, ?_⟩)) (by repeat (first | exact trivial | refine ⟨rfl, ?_⟩)) (Ent.sep (.pure ⟨Nat.le_refl _, fun j' o' h1 h2 => by have := (List.getElem?_eq_some_iff.1 h2).1; omega⟩ enn)) ?_
          intro j
          try dsimp only
          refine Hd.pure (fun hp3 => ?_)
          try dsimp only at hp3
          refine Hd.seq (fun K35 hK35 => ?_)
          refine Hd.seq (fun K36 hK36 => ?_)
          refine Hd.region ?_
          refine Hd.yv (y_move rfl) ?_
          refine Hd.yv (y_geq rfl rfl) ?_
          refine Hd.nil ?_
          refine Hd.slots [(0, _), (1, _), (5, _), (6, _), (7, _), (13, _), (14, _), (15, _), (16, _), (99, _)] ⟨rfl, rfl, rfl, rfl, rfl, rfl, rfl, rfl, rfl, rfl, trivial⟩ ?_
          refine Hd.toK hK36 ?_
          refine Hd.cond rfl (fun hc8 => ?_) (fun hc8 => ?_)
          ·
            try simp only [decide_eq_true_eq, decide_eq_false_iff_not, Bool.and_eq_true, Bool.or_eq_true, Bool.and_eq_false_iff, Bool.or_eq_false_iff, Bool.not_eq_true', Bool.not_eq_false', Bool.not_eq_true, Bool.not_eq_false, Int.not_lt, Int.not_le, Decidable.not_not, ne_eq] at hc8
            have hj : 0 < j := by omega
            have hjl : j - 1 < xs.length := by omega
            obtain ⟨x, hxj⟩ : ∃ x, xs[j - 1]? = some x := ⟨_, List.getElem?_eq_getElem hjl⟩
            refine Hd.skip ?_
            refine Hd.toK hK35 ?_
            refine Hd.seq (fun K37 hK37 => ?_)
            refine Hd.block ?_
            refine Hd.seq (fun K38 hK38 => ?_)
            refine Hd.seq (fun K39 hK39 => ?_)
            refine Hd.quiet mixed (by kernel_rfl) ?_
            refine Hq.yv (y_move rfl) ?_
            refine Hq.yv (y_to (v' := .int .i64 ((j - 1 : Nat) : Int)) (y_move rfl) (by (congr 1; omega))) ?_
            first | (refine Hq.yv (y_idxS Try.underlying57 sz63 rfl rfl (by first | omega | decide)) ?_) | (refine Hq.yv (y_idxR Try.underlying57 sz63 rfl rfl (by first | omega | decide) (by (first | exact RdS.own pkk | exact RdS.mono hR (Ent.sep enn) | exact RdS.mono hR2 (Ent.sep enn)))) ?_)
            first | (refine Hq.yv (y_field' (q := 0) (ft := 3) Try.underlying63 rfl sz3 rfl rfl) ?_) | (refine Hq.yv (y_fieldR (q := 0) (ft := 3) Try.underlying63 rfl sz3 rfl rfl) ?_)
            refine Hq.yv (y_loadR1 ag3 rfl (RdS.mono hR (Ent.sep enn)) (flat_cells encO 4 (fun _ => rfl) hxj 0 _ rfl)) ?_
            refine Hq.yv (y_neq rfl rfl) ?_
            refine Hq.yv (y_move rfl) ?_
            apply Hq.org 12 108 120 [(0, _), (1, _), (5, _), (6, _), (7, _), (13, _), (14, _), (15, _), (16, _)] rfl ⟨rfl, rfl, rfl, rfl, rfl, rfl, rfl, rfl, rfl, trivial⟩
            · intro hg33_108
              try simp only [decide_eq_true_eq, decide_eq_false_iff_not, Bool.and_eq_true, Bool.or_eq_true, Bool.and_eq_false_iff, Bool.or_eq_false_iff, Bool.not_eq_true', Bool.not_eq_false', Bool.not_eq_true, Bool.not_eq_false, Int.not_lt, Int.not_le, Decidable.not_not, ne_eq] at hg33_108
              simp only [List.take]
              refine Hq.ng rfl rfl rfl ?_
              refine Hq.ng rfl rfl rfl ?_
              refine Hq.ng rfl rfl rfl ?_
              refine Hq.ng rfl rfl rfl ?_
              refine Hq.ng rfl rfl rfl ?_
              refine Hq.ng rfl rfl rfl ?_
              refine Hq.ng rfl rfl rfl ?_
              refine Hq.ng rfl rfl rfl ?_
              refine Hq.ng rfl rfl rfl ?_
              refine Hq.ng rfl rfl rfl ?_
              refine Hq.ng rfl rfl rfl ?_
              first | (refine Hq.yv (y_pickT rfl rfl) ?_) | (refine Hq.yv (y_pickF rfl rfl) ?_) | (refine Hq.yv (y_pickb rfl rfl rfl) ?_) | (refine Hq.yv (y_pick rfl rfl rfl) ?_)
              exact Hq.mend (by repeat (first | exact trivial | refine ⟨rfl, ?_⟩))
            · intro hg33_108
              try simp only [decide_eq_true_eq, decide_eq_false_iff_not, Bool.and_eq_true, Bool.or_eq_true, Bool.and_eq_false_iff, Bool.or_eq_false_iff, Bool.not_eq_true', Bool.not_eq_false', Bool.not_eq_true, Bool.not_eq_false, Int.not_lt, Int.not_le, Decidable.not_not, ne_eq] at hg33_108
              simp only [List.take]
              refine Hq.yg rfl rfl (y_move rfl) ?_
              refine Hq.yg rfl rfl (y_to (v' := .int .i64 ((j - 1 : Nat) : Int)) (y_move rfl) (by (congr 1; omega))) ?_
              first | (refine Hq.yg rfl rfl (y_idxS Try.underlying57 sz63 rfl rfl (by first | omega | decide)) ?_) | (refine Hq.yg rfl rfl (y_idxR Try.underlying57 sz63 rfl rfl (by first | omega | decide) (by (first | exact RdS.own pkk | exact RdS.mono hR (Ent.sep enn) | exact RdS.mono hR2 (Ent.sep enn)))) ?_)
              first | (refine Hq.yg rfl rfl (y_field' (q := 1) (ft := 3) Try.underlying63 rfl sz3 rfl rfl) ?_) | (refine Hq.yg rfl rfl (y_fieldR (q := 1) (ft := 3) Try.underlying63 rfl sz3 rfl rfl) ?_)
              refine Hq.yg rfl rfl (y_loadR1 ag3 rfl (RdS.mono hR (Ent.sep enn)) (flat_cells encO 4 (fun _ => rfl) hxj 1 _ rfl)) ?_
              refine Hq.yg rfl rfl (y_move rfl) ?_
              refine Hq.yg rfl rfl (y_move rfl) ?_
              first | (refine Hq.yg rfl rfl (y_idxS Try.underlying22 sz31 rfl rfl (by first | omega | decide)) ?_) | (refine Hq.yg rfl rfl (y_idxR Try.underlying22 sz31 rfl rfl (by first | omega | decide) (by (first | exact RdS.own pkk | exact RdS.mono hR (Ent.sep enn) | exact RdS.mono hR2 (Ent.sep enn)))) ?_)
              first | (refine Hq.yg rfl rfl (y_field' (q := 0) (ft := 3) Try.underlying31 rfl sz3 rfl rfl) ?_) | (refine Hq.yg rfl rfl (y_fieldR (q := 0) (ft := 3) Try.underlying31 rfl sz3 rfl rfl) ?_)
              refine Hq.yg rfl rfl (y_loadR1 ag3 rfl (RdS.own (ad := a13) (us := s.flatMap Hp.encI) pkk) (flat_cells Hp.encI 3 (fun _ => rfl) hgk 0 _ rfl)) ?_
              refine Hq.yg rfl rfl (y_neq rfl rfl) ?_
              first | (refine Hq.yv (y_pickT rfl rfl) ?_) | (refine Hq.yv (y_pickF rfl rfl) ?_) | (refine Hq.yv (y_pickb rfl rfl rfl) ?_) | (refine Hq.yv (y_pick rfl rfl rfl) ?_)
              exact Hq.mend (by repeat (first | exact trivial | refine ⟨rfl, ?_⟩))
            simp only [List.drop]
            refine Hq.nil ?_
            refine Hd.slots [(0, _), (1, _), (5, _), (6, _), (7, _), (13, _), (14, _), (15, _), (16, _), (120, _)] ⟨rfl, rfl, rfl, rfl, rfl, rfl, rfl, rfl, rfl, rfl, trivial⟩ ?_
            refine Hd.toK hK39 ?_
            refine Hd.cond rfl (fun hc9 => ?_) (fun hc9 => ?_)
            ·
              try simp only [decide_eq_true_eq, decide_eq_false_iff_not, Bool.and_eq_true, Bool.or_eq_true, Bool.and_eq_false_iff, Bool.or_eq_false_iff, Bool.not_eq_true', Bool.not_eq_false', Bool.not_eq_true, Bool.not_eq_false, Int.not_lt, Int.not_le, Decidable.not_not, ne_eq] at hc9
              refine Hd.exit ?_
              refine Hd.thenExit ?_
              refine Hd.inBexit ?_
              refine Hd.toK hK37 ?_
              refine Hd.region ?_
              refine Hd.yv (y_move rfl) ?_
              first | (refine Hd.yv (y_to (v' := .int .i64 (((j - 1 : Nat) : Int) - 1)) (y_subn rfl rfl (by simp only [InK]; omega)) (by (congr 1; omega))) ?_) | (refine Hd.yv (y_to (v' := .int .i64 (((j - 1 : Nat) : Int) - 1)) (y_sub rfl rfl) (by (congr 1; omega))) ?_)
              refine Hd.yv (y_assign rfl) ?_
              refine Hd.nil ?_
              refine Hd.slots [(0, _), (1, _), (5, _), (6, _), (7, _), (13, _), (14, _), (15, _), (16, _)] ⟨rfl, rfl, rfl, rfl, rfl, rfl, rfl, rfl, rfl, trivial⟩ ?_
              clear hK1 hK2 hK3 hK4 hK6 hK7 hK8 hK9 hK10 hK11 hK15 hK16 hK17 hK18 hK19 hK27 hK28 hK29 hK30 hK31 hK32 hK33 hK34 hK35 hK36 hK37 hK38 hK39
              refine Hd.thenN ?_
              have hnj : ∀ (j' : Nat) (o' : Opc), j - 1 ≤ j' → xs[j']? = some o' → ¬ (o'.k = 0 ∧ o'.id = (g s k).id) := by
                intro j' o' h1 h2
                rcases (show j ≤ j' ∨ j' = j - 1 by omega) with h | rfl
                · exact hp3.2 j' o' h h2
                · rw [hxj] at h2; obtain rfl := Option.some.inj h2
                  rintro ⟨q1, q2⟩
                  rcases hc9 with h | h
                  · exact h q1
                  · exact h q2
              exact Hd.again (j - 1) (by first | omega | (simp only; omega) | (simp; omega)) (by repeat (first | exact trivial | refine ⟨rfl, ?_⟩)) (Ent.sep (.pure ⟨by omega, hnj⟩ enn))
            ·
              try simp only [decide_eq_true_eq, decide_eq_false_iff_not, Bool.and_eq_true, Bool.or_eq_true, Bool.and_eq_false_iff, Bool.or_eq_false_iff, Bool.not_eq_true', Bool.not_eq_false', Bool.not_eq_true, Bool.not_eq_false, Int.not_lt, Int.not_le, Decidable.not_not, ne_eq] at hc9
              have hin : x.af ∈ afq qs → inQ qt (g s k).id = true := by
                obtain ⟨o2, ⟨k2, hk2, hx2, h0, hid, hl2⟩, hq2⟩ := hfw.last (g s k) (g_mem hk)
                have hkj : k2 = j - 1 := by
                  rcases Nat.lt_trichotomy k2 (j - 1) with h | h | h
                  · exact absurd ⟨hc9.1, hc9.2⟩ (hl2 (j - 1) x h hjl hxj)
                  · exact h
                  · exact absurd ⟨h0, hid⟩ (hp3.2 k2 o2 (by omega) hx2)
                subst hkj
                rw [hxj] at hx2; obtain rfl := Option.some.inj hx2
                rw [haf] at hq2; exact hq2
              refine Hd.skip ?_
              refine Hd.toK hK38 ?_
              refine Hd.seq (fun K40 hK40 => ?_)
              refine Hd.region ?_
              refine Hd.yv (y_assign rfl) ?_
              refine Hd.nil ?_
              refine Hd.slots [(0, _), (1, _), (5, _), (6, _), (7, _), (13, _), (14, _), (15, _), (16, _), (17, _)] ⟨rfl, rfl, rfl, rfl, rfl, rfl, rfl, rfl, rfl, rfl, trivial⟩ ?_
              refine Hd.toK hK40 ?_
              refine Hd.seq (fun K41 hK41 => ?_)
              refine Hd.seq (fun K42 hK42 => ?_)
              refine Hd.region ?_
              refine Hd.yv (y_assign rfl) ?_
              refine Hd.nil ?_
              refine Hd.slots [(0, _), (1, _), (5, _), (6, _), (7, _), (13, _), (14, _), (15, _), (16, _), (17, _), (18, _)] ⟨rfl, rfl, rfl, rfl, rfl, rfl, rfl, rfl, rfl, rfl, rfl, trivial⟩ ?_
              refine Hd.toK hK42 ?_
              refine Hd.block ?_
              refine Hd.loopK (ι := Nat × Bool) [(0, _), (1, _), (5, _), (6, _), (7, _), (13, _), (14, _), (15, _), (16, _)] (fun q_ => [(17, .bool q_.2), (18, .int .i64 (q_.1 : Int))]) (fun q_ => pu (q_.1 ≤ ys.length ∧ (q_.2 = true → x.af ∈ afq qs)) :: OwI a13 s.length c13 s :: CoA o qt s nx :: L) (fun q_ => ys.length - q_.1) (0, false) (by repeat (first | exact trivial | refine ⟨rfl, ?_⟩)) (by repeat (first | exact trivial | refine ⟨rfl, ?_⟩)) (Ent.sep (.pure ⟨Nat.zero_le _, fun h => by cases h⟩ enn)) ?_
              rintro ⟨m, b⟩
              try dsimp only
              refine Hd.pure (fun hp4 => ?_)
              try dsimp only at hp4
              refine Hd.seq (fun K43 hK43 => ?_)
              refine Hd.seq (fun K44 hK44 => ?_)
              refine Hd.region ?_
              refine Hd.yv (y_move rfl) ?_
              refine Hd.yv (y_move rfl) ?_
              refine Hd.yv (y_len Try.underlying58 rfl) ?_
              refine Hd.yv (y_lss rfl rfl) ?_
              refine Hd.nil ?_
              refine Hd.slots [(0, _), (1, _), (5, _), (6, _), (7, _), (13, _), (14, _), (15, _), (16, _), (17, _), (18, _), (124, _)] ⟨rfl, rfl, rfl, rfl, rfl, rfl, rfl, rfl, rfl, rfl, rfl, rfl, trivial⟩ ?_
              refine Hd.toK hK44 ?_
              refine Hd.cond rfl (fun hc10 => ?_) (fun hc10 => ?_)
              ·
                try simp only [decide_eq_true_eq, decide_eq_false_iff_not, Bool.and_eq_true, Bool.or_eq_true, Bool.and_eq_false_iff, Bool.or_eq_false_iff, Bool.not_eq_true', Bool.not_eq_false', Bool.not_eq_true, Bool.not_eq_false, Int.not_lt, Int.not_le, Decidable.not_not, ne_eq] at hc10
                have hm : m < ys.length := by omega
                have hgm : ys[m]? = some ys[m] := List.getElem?_eq_getElem hm
                have hym : (ys.map fun y => Value.int .u64 y)[m * 1]? = some (.int .u64 ys[m]) := by rw [Nat.mul_one, List.getElem?_map, hgm]; rfl
                refine Hd.skip ?_
                refine Hd.toK hK43 ?_
                refine Hd.seq (fun K45 hK45 => ?_)
                refine Hd.block ?_
                refine Hd.quiet mixed (by kernel_rfl) ?_
                refine Hq.yv (y_move rfl) ?_
                refine Hq.yv (y_move rfl) ?_
                apply Hq.org (q := (decide (ys[m] = x.af) && decide (ys[m] ≠ 18446744073709551615))) 18 128 146 [(0, _), (1, _), (5, _), (6, _), (7, _), (13, _), (14, _), (15, _), (16, _), (18, _)] rfl ⟨rfl, rfl, rfl, rfl, rfl, rfl, rfl, rfl, rfl, rfl, trivial⟩
                · intro hg38_128
                  try simp only [decide_eq_true_eq, decide_eq_false_iff_not, Bool.and_eq_true, Bool.or_eq_true, Bool.and_eq_false_iff, Bool.or_eq_false_iff, Bool.not_eq_true', Bool.not_eq_false', Bool.not_eq_true, Bool.not_eq_false, Int.not_lt, Int.not_le, Decidable.not_not, ne_eq] at hg38_128
                  simp only [List.take]
                  refine Hq.ng rfl rfl rfl ?_
                  refine Hq.ng rfl rfl rfl ?_
                  refine Hq.ng rfl rfl rfl ?_
                  refine Hq.ng rfl rfl rfl ?_
                  refine Hq.ng rfl rfl rfl ?_
                  refine Hq.ng rfl rfl rfl ?_
                  refine Hq.ng rfl rfl rfl ?_
                  refine Hq.ng rfl rfl rfl ?_
                  refine Hq.ng rfl rfl rfl ?_
                  refine Hq.ng rfl rfl rfl ?_
                  refine Hq.ng rfl rfl rfl ?_
                  refine Hq.ng rfl rfl rfl ?_
                  refine Hq.ng rfl rfl rfl ?_
                  refine Hq.ng rfl rfl rfl ?_
                  refine Hq.ng rfl rfl rfl ?_
                  refine Hq.ng rfl rfl rfl ?_
                  refine Hq.ng rfl rfl rfl ?_
                  first | (refine Hq.yv (y_pickT rfl rfl) ?_) | (refine Hq.yv (y_pickF rfl rfl) ?_) | (refine Hq.yv (y_pickb rfl rfl rfl) ?_) | (refine Hq.yv (y_pick rfl rfl rfl) ?_)
                  exact Hq.mend (by repeat (first | exact trivial | refine ⟨rfl, ?_⟩))
                · intro hg38_128
                  try simp only [decide_eq_true_eq, decide_eq_false_iff_not, Bool.and_eq_true, Bool.or_eq_true, Bool.and_eq_false_iff, Bool.or_eq_false_iff, Bool.not_eq_true', Bool.not_eq_false', Bool.not_eq_true, Bool.not_eq_false, Int.not_lt, Int.not_le, Decidable.not_not, ne_eq] at hg38_128
                  simp only [List.take]
                  refine Hq.yg rfl rfl (y_move rfl) ?_
                  refine Hq.yg rfl rfl (y_move rfl) ?_
                  first | (refine Hq.yg rfl rfl (y_idxS Try.underlying58 sz29 rfl rfl (by first | omega | decide)) ?_) | (refine Hq.yg rfl rfl (y_idxR Try.underlying58 sz29 rfl rfl (by first | omega | decide) (by (first | exact RdS.own pkk | exact RdS.mono hR (Ent.sep enn) | exact RdS.mono hR2 (Ent.sep enn)))) ?_)
                  refine Hq.yg rfl rfl (y_loadR1 ag29 rfl (RdS.mono hR2 (Ent.sep enn)) hym) ?_
                  refine Hq.yg rfl rfl (y_move rfl) ?_
                  refine Hq.yg rfl rfl (y_to (v' := .int .i64 ((j - 1 : Nat) : Int)) (y_move rfl) (by (congr 1; omega))) ?_
                  first | (refine Hq.yg rfl rfl (y_idxS Try.underlying57 sz63 rfl rfl (by first | omega | decide)) ?_) | (refine Hq.yg rfl rfl (y_idxR Try.underlying57 sz63 rfl rfl (by first | omega | decide) (by (first | exact RdS.own pkk | exact RdS.mono hR (Ent.sep enn) | exact RdS.mono hR2 (Ent.sep enn)))) ?_)
                  first | (refine Hq.yg rfl rfl (y_field' (q := 3) (ft := 29) Try.underlying63 rfl sz29 rfl rfl) ?_) | (refine Hq.yg rfl rfl (y_fieldR (q := 3) (ft := 29) Try.underlying63 rfl sz29 rfl rfl) ?_)
                  refine Hq.yg rfl rfl (y_loadR1 ag29 rfl (RdS.mono hR (Ent.sep enn)) (flat_cells encO 4 (fun _ => rfl) hxj 3 _ rfl)) ?_
                  first | (refine Hq.yg rfl rfl (y_eqlT rfl rfl) ?_) | (refine Hq.yg rfl rfl (y_eql rfl rfl) ?_)
                  refine Hq.yg rfl rfl (y_move rfl) ?_
                  apply Hq.andg 6 139 145 [(0, _), (1, _), (5, _), (6, _), (7, _), (13, _), (14, _), (15, _), (16, _), (18, _), (128, _)] rfl ⟨rfl, rfl, rfl, rfl, rfl, rfl, rfl, rfl, rfl, rfl, rfl, trivial⟩
                  · intro hg38_139
                    try simp only [decide_eq_true_eq, decide_eq_false_iff_not, Bool.and_eq_true, Bool.or_eq_true, Bool.and_eq_false_iff, Bool.or_eq_false_iff, Bool.not_eq_true', Bool.not_eq_false', Bool.not_eq_true, Bool.not_eq_false, Int.not_lt, Int.not_le, Decidable.not_not, ne_eq] at hg38_139
                    simp only [List.take]
                    refine Hq.yg rfl rfl (y_move rfl) ?_
                    refine Hq.yg rfl rfl (y_move rfl) ?_
                    first | (refine Hq.yg rfl rfl (y_idxS Try.underlying58 sz29 rfl rfl (by first | omega | decide)) ?_) | (refine Hq.yg rfl rfl (y_idxR Try.underlying58 sz29 rfl rfl (by first | omega | decide) (by (first | exact RdS.own pkk | exact RdS.mono hR (Ent.sep enn) | exact RdS.mono hR2 (Ent.sep enn)))) ?_)
                    refine Hq.yg rfl rfl (y_loadR1 ag29 rfl (RdS.mono hR2 (Ent.sep enn)) hym) ?_
                    refine Hq.yg rfl rfl (y_neq rfl rfl) ?_
                    first | (refine Hq.yg rfl rfl (y_pickT rfl rfl) ?_) | (refine Hq.yg rfl rfl (y_pickF rfl rfl) ?_) | (refine Hq.yg rfl rfl (y_pickb rfl rfl rfl) ?_) | (refine Hq.yg rfl rfl (y_pick rfl rfl rfl) ?_)
                    exact Hq.mend (by repeat (first | exact trivial | refine ⟨rfl, ?_⟩))
                  · intro hg38_139
                    try simp only [decide_eq_true_eq, decide_eq_false_iff_not, Bool.and_eq_true, Bool.or_eq_true, Bool.and_eq_false_iff, Bool.or_eq_false_iff, Bool.not_eq_true', Bool.not_eq_false', Bool.not_eq_true, Bool.not_eq_false, Int.not_lt, Int.not_le, Decidable.not_not, ne_eq] at hg38_139
                    simp only [List.take]
                    refine Hq.ng rfl rfl rfl ?_
                    refine Hq.ng rfl rfl rfl ?_
                    refine Hq.ng rfl rfl rfl ?_
                    refine Hq.ng rfl rfl rfl ?_
                    refine Hq.ng rfl rfl rfl ?_
                    first | (refine Hq.yg rfl rfl (y_pickT rfl rfl) ?_) | (refine Hq.yg rfl rfl (y_pickF rfl rfl) ?_) | (refine Hq.yg rfl rfl (y_pickb rfl rfl rfl) ?_) | (refine Hq.yg rfl rfl (y_pick rfl rfl rfl) ?_)
                    exact Hq.mend (by repeat (first | exact trivial | refine ⟨rfl, ?_⟩))
                  simp only [List.drop]
                  first | (refine Hq.yv (y_pickT rfl rfl) ?_) | (refine Hq.yv (y_pickF rfl rfl) ?_) | (refine Hq.yv (y_pickb rfl rfl rfl) ?_) | (refine Hq.yv (y_pick rfl rfl rfl) ?_)
                  exact Hq.mend (by repeat (first | exact trivial | refine ⟨rfl, ?_⟩))
                simp only [List.drop]
                refine Hq.yv (y_assign rfl) ?_
                refine Hq.nil ?_
                refine Hd.slots [(0, _), (1, _), (5, _), (6, _), (7, _), (13, _), (14, _), (15, _), (16, _), (17, _), (18, _)] ⟨rfl, rfl, rfl, rfl, rfl, rfl, rfl, rfl, rfl, rfl, rfl, trivial⟩ ?_
                refine Hd.inB ?_
                refine Hd.toK hK45 ?_
                refine Hd.region ?_
                refine Hd.yv (y_move rfl) ?_
                first | (refine Hd.yv (y_addn rfl rfl (by simp only [InK]; omega)) ?_) | (refine Hd.yv (y_add rfl rfl) ?_)
                refine Hd.yv (y_assign rfl) ?_
                refine Hd.nil ?_
                refine Hd.slots [(0, _), (1, _), (5, _), (6, _), (7, _), (13, _), (14, _), (15, _), (16, _), (17, _), (18, _)] ⟨rfl, rfl, rfl, rfl, rfl, rfl, rfl, rfl, rfl, rfl, rfl, trivial⟩ ?_
                clear hK1 hK2 hK3 hK4 hK6 hK7 hK8 hK9 hK10 hK11 hK15 hK16 hK17 hK18 hK19 hK27 hK28 hK29 hK30 hK31 hK32 hK33 hK34 hK35 hK36 hK37 hK38 hK39 hK40 hK41 hK42 hK43 hK44 hK45
                refine Hd.thenN ?_
                have hsh : (b || (decide (ys[m] = x.af) && decide (ys[m] ≠ 18446744073709551615))) = true → x.af ∈ afq qs := by
                  intro h
                  rw [Bool.or_eq_true, Bool.and_eq_true, decide_eq_true_iff, decide_eq_true_iff] at h
                  rcases h with h | h
                  · exact hp4.2 h
                  · rw [← h.1]; exact hcm m ys[m] hm hgm h.2
                exact Hd.again (m + 1, b || (decide (ys[m] = x.af) && decide (ys[m] ≠ 18446744073709551615))) (by first | omega | (simp only; omega) | (simp; omega)) (by repeat (first | exact trivial | refine ⟨rfl, ?_⟩)) (Ent.sep (.pure ⟨hm, hsh⟩ enn))
              ·
                try simp only [decide_eq_true_eq, decide_eq_false_iff_not, Bool.and_eq_true, Bool.or_eq_true, Bool.and_eq_false_iff, Bool.or_eq_false_iff, Bool.not_eq_true', Bool.not_eq_false', Bool.not_eq_true, Bool.not_eq_false, Int.not_lt, Int.not_le, Decidable.not_not, ne_eq] at hc10
                refine Hd.exit ?_
                refine Hd.thenExit ?_
                refine Hd.thenExit ?_
                refine Hd.inBexit ?_
                refine Hd.toK hK41 ?_
                refine Hd.seq (fun K46 hK46 => ?_)
                refine Hd.seq (fun K47 hK47 => ?_)
                refine Hd.region ?_
                refine Hd.yv (y_move rfl) ?_
                refine Hd.yv (y_not rfl) ?_
                refine Hd.nil ?_
                refine Hd.slots [(0, _), (1, _), (5, _), (6, _), (7, _), (13, _), (14, _), (15, _), (148, _)] ⟨rfl, rfl, rfl, rfl, rfl, rfl, rfl, rfl, rfl, trivial⟩ ?_
                refine Hd.toK hK47 ?_
                refine Hd.cond rfl (fun hc11 => ?_) (fun hc11 => ?_)
                ·
                  try simp only [decide_eq_true_eq, decide_eq_false_iff_not, Bool.and_eq_true, Bool.or_eq_true, Bool.and_eq_false_iff, Bool.or_eq_false_iff, Bool.not_eq_true', Bool.not_eq_false', Bool.not_eq_true, Bool.not_eq_false, Int.not_lt, Int.not_le, Decidable.not_not, ne_eq] at hc11
                  refine Hd.region ?_
                  refine Hd.yv (y_move rfl) ?_
                  first | (refine Hd.yv (y_addn rfl rfl (by simp only [InK]; omega)) ?_) | (refine Hd.yv (y_add rfl rfl) ?_)
                  refine Hd.yv (y_assign rfl) ?_
                  refine Hd.nil ?_
                  refine Hd.slots [(0, _), (1, _), (5, _), (6, _), (7, _), (13, _), (14, _), (15, _)] ⟨rfl, rfl, rfl, rfl, rfl, rfl, rfl, rfl, trivial⟩ ?_
                  refine Hd.toK hK46 ?_
                  refine Hd.exit ?_
                  refine Hd.inBexit' rfl ?_
                  refine Hd.thenExit ?_
                  refine Hd.thenExit ?_
                  refine Hd.inBexit ?_
                  refine Hd.inB ?_
                  refine Hd.toK hK33 ?_
                  refine Hd.region ?_
                  refine Hd.yv (y_move rfl) ?_
                  first | (refine Hd.yv (y_addn rfl rfl (by simp only [InK]; omega)) ?_) | (refine Hd.yv (y_add rfl rfl) ?_)
                  refine Hd.yv (y_assign rfl) ?_
                  refine Hd.nil ?_
                  refine Hd.slots [(0, _), (1, _), (5, _), (6, _), (7, _), (13, _), (14, _), (15, _)] ⟨rfl, rfl, rfl, rfl, rfl, rfl, rfl, rfl, trivial⟩ ?_
                  clear hK1 hK2 hK3 hK4 hK6 hK7 hK8 hK9 hK10 hK11 hK15 hK16 hK17 hK18 hK19 hK27 hK28 hK29 hK30 hK31 hK32 hK33 hK34 hK35 hK36 hK37 hK38 hK39 hK40 hK41 hK42 hK43 hK44 hK46 hK47
                  refine Hd.thenN ?_
                  exact Hd.again (k + 1, oth + 1) (by first | omega | (simp only; omega) | (simp; omega)) (by repeat (first | exact trivial | refine ⟨rfl, ?_⟩)) (Ent.sep (.pure ⟨hk, by show ((own_ qt (s.take (k + 1)) : Nat) : Int) ≤ oth + 1; rw [hst]; split <;> omega, by show oth + 1 ≤ ((k + 1 : Nat) : Int); omega⟩ enn))
                ·
                  try simp only [decide_eq_true_eq, decide_eq_false_iff_not, Bool.and_eq_true, Bool.or_eq_true, Bool.and_eq_false_iff, Bool.or_eq_false_iff, Bool.not_eq_true', Bool.not_eq_false', Bool.not_eq_true, Bool.not_eq_false, Int.not_lt, Int.not_le, Decidable.not_not, ne_eq] at hc11
                  refine Hd.skip ?_
                  refine Hd.toK hK46 ?_
                  refine Hd.exit ?_
                  refine Hd.inBexit' rfl ?_
                  refine Hd.thenExit ?_
                  refine Hd.thenExit ?_
                  refine Hd.inBexit ?_
                  refine Hd.inB ?_
                  refine Hd.toK hK33 ?_
                  refine Hd.region ?_
                  refine Hd.yv (y_move rfl) ?_
                  first | (refine Hd.yv (y_addn rfl rfl (by simp only [InK]; omega)) ?_) | (refine Hd.yv (y_add rfl rfl) ?_)
                  refine Hd.yv (y_assign rfl) ?_
                  refine Hd.nil ?_
                  refine Hd.slots [(0, _), (1, _), (5, _), (6, _), (7, _), (13, _), (14, _), (15, _)] ⟨rfl, rfl, rfl, rfl, rfl, rfl, rfl, rfl, trivial⟩ ?_
                  clear hK1 hK2 hK3 hK4 hK6 hK7 hK8 hK9 hK10 hK11 hK15 hK16 hK17 hK18 hK19 hK27 hK28 hK29 hK30 hK31 hK32 hK33 hK34 hK35 hK36 hK37 hK38 hK39 hK40 hK41 hK42 hK43 hK44 hK46 hK47
                  refine Hd.thenN ?_
                  have hb : b = true := by simpa using hc11
                  exact Hd.again (k + 1, oth) (by first | omega | (simp only; omega) | (simp; omega)) (by repeat (first | exact trivial | refine ⟨rfl, ?_⟩)) (Ent.sep (.pure ⟨hk, by show ((own_ qt (s.take (k + 1)) : Nat) : Int) ≤ oth; rw [hst, if_pos (hin (hp4.2 hb))]; omega, by show oth ≤ ((k + 1 : Nat) : Int); omega⟩ enn))
          ·
            try simp only [decide_eq_true_eq, decide_eq_false_iff_not, Bool.and_eq_true, Bool.or_eq_true, Bool.and_eq_false_iff, Bool.or_eq_false_iff, Bool.not_eq_true', Bool.not_eq_false', Bool.not_eq_true, Bool.not_eq_false, Int.not_lt, Int.not_le, Decidable.not_not, ne_eq] at hc8
            exfalso
            obtain ⟨o2, ⟨k2, hk2, hx2, h0, hid, hl2⟩, hq2⟩ := hfw.last (g s k) (g_mem hk)
            exact hp3.2 k2 o2 (by omega) hx2 ⟨h0, hid⟩
        ·
          try simp only [decide_eq_true_eq, decide_eq_false_iff_not, Bool.and_eq_true, Bool.or_eq_true, Bool.and_eq_false_iff, Bool.or_eq_false_iff, Bool.not_eq_true', Bool.not_eq_false', Bool.not_eq_true, Bool.not_eq_false, Int.not_lt, Int.not_le, Decidable.not_not, ne_eq] at hc7
          have hk : k = s.length := by omega
          have hob := hp2.2
          rw [hk, List.take_length] at hob
          have hcnt : cnt qt s ≤ own_ qt s + qt.length := by unfold cnt own_; have := List.length_filter_le (fun q : Q => !q.l.isEmpty) qt; omega
          refine Hd.exit ?_
          refine Hd.thenExit ?_
          refine Hd.thenExit ?_
          refine Hd.inBexit ?_
          refine Hd.toK hK29 ?_
          refine Hd.seq (fun K48 hK48 => ?_)
          refine Hd.region ?_
          refine Hd.yv (y_move rfl) ?_
          refine Hd.yv (y_move rfl) ?_
          refine Hd.yg rfl rfl (y_move rfl) ?_
          refine Hd.unguard rfl rfl ?_
          refine Hd.callE rfl fk46 (cheap_ct _ o qt s nx) (Ent.sep enn) ?_
          intro _
          refine Hd.yg rfl rfl (y_move rfl) ?_
          refine Hd.yg rfl rfl (y_move rfl) ?_
          first | (refine Hd.yg rfl rfl (y_addn rfl rfl (by simp only [InK]; omega)) ?_) | (refine Hd.yg rfl rfl (y_add rfl rfl) ?_)
          refine Hd.yg rfl rfl (y_to (y_leq rfl rfl) (congrArg Value.bool (decide_eq_true ((by omega))))) ?_
          first | (refine Hd.yv (y_pickT rfl rfl) ?_) | (refine Hd.yv (y_pickF rfl rfl) ?_) | (refine Hd.yv (y_pickb rfl rfl rfl) ?_) | (refine Hd.yv (y_pick rfl rfl rfl) ?_)
          refine Hd.yv (y_move rfl) ?_
          refine Hd.yg rfl rfl (y_move rfl) ?_
          refine Hd.unguard rfl rfl ?_
          refine Hd.callE rfl fk45 (clen_ct _ o qt s nx) (Ent.sep enn) ?_
          intro _
          refine Hd.yg rfl rfl (y_move rfl) ?_
          refine Hd.yg rfl rfl (y_len Try.underlying22 rfl) ?_
          first | (refine Hd.yg rfl rfl (y_to (y_eqlT rfl rfl) (congrArg Value.bool (decide_eq_true (rfl)))) ?_) | (refine Hd.yg rfl rfl (y_to (y_eql rfl rfl) (congrArg Value.bool (decide_eq_true (rfl)))) ?_)
          first | (refine Hd.yv (y_pickT rfl rfl) ?_) | (refine Hd.yv (y_pickF rfl rfl) ?_) | (refine Hd.yv (y_pickb rfl rfl rfl) ?_) | (refine Hd.yv (y_pick rfl rfl rfl) ?_)
          refine Hd.yv (y_assign rfl) ?_
          refine Hd.nil ?_
          refine Hd.slots [(4, _)] ⟨rfl, trivial⟩ ?_
          refine Hd.toK hK48 ?_
          refine Hd.ret ?_
          clear hK1 hK2 hK3 hK4 hK6 hK7 hK8 hK9 hK10 hK11 hK15 hK16 hK17 hK18 hK19 hK27 hK28 hK29 hK30 hK31 hK32 hK48
          exact Hd.ret1 rfl () (by first | rfl | (simp only [*]; done) | (simp [*]; done)) (Ent.sep enn)
end Cm
end Go.Proofs.Ytcnegelaenkgpaa
