/-
  Lists in an order: what Shuffle and Places come to, and that the law answers true.
-/
import Derived.Test.YtkgkfjhfedjnpaaRows
import Derived.Test.YtkgkfjhfedjnpaaRxT
namespace Go.Proofs.Ytkgkfjhfedjnpaa
set_option linter.unusedSimpArgs false
set_option linter.unusedVariables false
set_option linter.unnecessarySimpa false
open Go.RX
namespace Sh
theorem ag3 : agk Try.prog 3 = some false := by kernel_rfl
theorem sz3 : szk Try.prog 3 = some 1 := by kernel_rfl
theorem zr3 : zrk Try.prog 3 = some ([.int .i64 0]) := by kernel_rfl
theorem ty3 : tyr Try.prog 3 = some (1, 8, 1) := by kernel_rfl
theorem ag22 : agk Try.prog 22 = some false := by kernel_rfl
theorem sz22 : szk Try.prog 22 = some 1 := by kernel_rfl
theorem zr22 : zrk Try.prog 22 = some ([.slice none 0 0]) := by kernel_rfl
theorem ty22 : tyr Try.prog 22 = some (1, 24, 1) := by kernel_rfl
theorem fk10 : fnk Try.prog 10 = true := by kernel_rfl
theorem fk11 : fnk Try.prog 11 = true := by kernel_rfl
theorem fk32 : fnk Try.prog 32 = true := by kernel_rfl
theorem mixed : Try.prog.follows .mixedOrders = true := by kernel_rfl
theorem bs11_17 (x1 : Int) : bltS Try.prog 22 1 [(0, .int .i64 x1)] = some (3, [.int .i64 x1]) := by kernel_rfl
theorem bs32_5  : bltS Try.prog 22 0 [] = some (3, []) := by kernel_rfl

/-! The plain law -/
def swp {α : Type} (xs : List α) (i k : Nat) : List α :=
  match xs[i]?, xs[k]? with
  | some a, some b => (xs.set i b).set k a
  | _, _ => xs
theorem swp_len {α : Type} (xs : List α) (i k : Nat) : (swp xs i k).length = xs.length := by
  unfold swp; split <;> simp
theorem swp_map {α β : Type} (f : α → β) (xs : List α) (i k : Nat) : swp (xs.map f) i k = (swp xs i k).map f := by
  unfold swp
  simp only [List.getElem?_map]
  cases xs[i]? <;> cases xs[k]? <;> simp [List.map_set]
def place (ord : List Int) (n i : Nat) : Nat := i + ((max 0 (ord.getD (i % ord.length) 0)) % ((n : Int) - i)).toNat
def shufTo {α : Type} (ord : List Int) (xs : List α) : Nat → List α
  | 0 => xs
  | i + 1 => if ord = [] then shufTo ord xs i else swp (shufTo ord xs i) i (place ord xs.length i)
theorem shuf_len {α : Type} (ord : List Int) (xs : List α) : ∀ i, (shufTo ord xs i).length = xs.length
  | 0 => rfl
  | i + 1 => by simp only [shufTo]; split <;> simp [swp_len, shuf_len ord xs i]
theorem shuf_map {α β : Type} (f : α → β) (ord : List Int) (xs : List α) : ∀ i, shufTo ord (xs.map f) i = (shufTo ord xs i).map f
  | 0 => rfl
  | i + 1 => by
    simp only [shufTo]
    split
    · exact shuf_map f ord xs i
    · rw [shuf_map f ord xs i, swp_map, List.length_map]
theorem shuf_nil {α : Type} {ord : List Int} (h : ord = []) (xs : List α) : ∀ i, shufTo ord xs i = xs
  | 0 => rfl
  | i + 1 => by simp only [shufTo, if_pos h]; exact shuf_nil h xs i
abbrev V (a : Int) : Value := .int .i64 a
abbrev VN (a : Nat) : Value := .int .i64 (a : Int)
theorem place_lt {ord : List Int} {n i : Nat} (h : i < n) : place ord n i < n := by
  unfold place
  have h1 := Int.emod_lt_of_pos (max 0 (ord.getD (i % ord.length) 0)) (b := (n : Int) - i) (by omega)
  have h2 := Int.emod_nonneg (max 0 (ord.getD (i % ord.length) 0)) (b := (n : Int) - i) (by omega)
  omega
theorem place_eq {ord : List Int} {n i : Nat} (h : i < n) {o : Int} (ho : ord[i % ord.length]? = some o) : (i : Int) + (max 0 o) % ((n : Int) - i) = (place ord n i : Int) := by
  unfold place
  have h2 := Int.emod_nonneg (max 0 o) (b := (n : Int) - i) (by omega)
  simp only [List.getD_eq_getElem?_getD, ho, Option.getD_some]
  omega
theorem swp_eq {α : Type} {xs : List α} {i k : Nat} (hi : i < xs.length) (hk : k < xs.length) : swp xs i k = (xs.set i xs[k]).set k xs[i] := by
  unfold swp; rw [List.getElem?_eq_getElem hi, List.getElem?_eq_getElem hk]

theorem cloneInt_ct (L : List SP) (ad : Option Addr) (c : Nat) (xs : List Value) (h : RdS L 1 ad xs.length xs) (h1 : ∀ u ∈ xs, u.oneCell' = true) (hb : xs.length ≤ 10000000) :
    Ct Try.prog 32 #[.slice ad xs.length c] L (fun i : Option Addr × Nat => .slice i.1 xs.length i.2) (fun i => own 3 1 i.1 xs.length i.2 xs :: L) := by
  refine Ct.of (vs := [.slice ad xs.length c]) Try.func32 rfl rfl [(0, .slice ad xs.length c)] ⟨rfl, trivial⟩ ?_
  intro E
  show Hd E 8 _ _ _ _
  refine Hd.rdsF h (fun _ hnil => ?_)
  refine Hd.seq (fun K1 hK1 => ?_)
  refine Hd.region ?_
  refine Hd.yv (y_assign rfl) ?_
  refine Hd.nil ?_
  refine Hd.slots [(0, _)] ⟨rfl, trivial⟩ ?_
  refine Hd.toK hK1 ?_
  refine Hd.seq (fun K2 hK2 => ?_)
  refine Hd.seq (fun K3 hK3 => ?_)
  refine Hd.region ?_
  refine Hd.yv (y_move rfl) ?_
  refine Hd.yv (y_eql_slice Try.underlying22 rfl rfl) ?_
  refine Hd.nil ?_
  refine Hd.slots [(0, _), (4, _)] ⟨rfl, rfl, trivial⟩ ?_
  refine Hd.toK hK3 ?_
  refine Hd.cond rfl (fun hc0 => ?_) (fun hc0 => ?_)
  ·
    try simp only [decide_eq_true_eq, decide_eq_false_iff_not, Bool.and_eq_true, Bool.or_eq_true, Bool.and_eq_false_iff, Bool.or_eq_false_iff, Bool.not_eq_true', Bool.not_eq_false', Bool.not_eq_true, Bool.not_eq_false, Int.not_lt, Int.not_le, Decidable.not_not, ne_eq] at hc0
    refine Hd.seq (fun K4 hK4 => ?_)
    refine Hd.region ?_
    refine Hd.yv (y_assign rfl) ?_
    refine Hd.nil ?_
    refine Hd.slots [(2, _)] ⟨rfl, trivial⟩ ?_
    refine Hd.toK hK4 ?_
    refine Hd.ret ?_
    refine Hd.thenRet ?_
    clear hK1 hK2 hK3 hK4
    have h0 : xs = [] := List.eq_nil_of_length_eq_zero (hnil (by simpa using hc0))
    subst h0
    exact Hd.ret1 rfl (none, 0) rfl (Ent.sep (.ownNil .same))
  ·
    try simp only [decide_eq_true_eq, decide_eq_false_iff_not, Bool.and_eq_true, Bool.or_eq_true, Bool.and_eq_false_iff, Bool.or_eq_false_iff, Bool.not_eq_true', Bool.not_eq_false', Bool.not_eq_true, Bool.not_eq_false, Int.not_lt, Int.not_le, Decidable.not_not, ne_eq] at hc0
    refine Hd.skip ?_
    refine Hd.toK hK2 ?_
    refine Hd.seq (fun K5 hK5 => ?_)
    refine Hd.region ?_
    refine Hd.bslice (vs := []) rfl (by first | exact bs32_5 .. | kernel_rfl) (fun b5 => ?_)
    refine Hd.ownNil 3 1 (some ⟨b5, 0, none⟩) ?_
    refine Hd.yv (y_move rfl) ?_
    refine Hd.append Try.underlying22 ty3 rfl rfl rfl (by repeat (first | with_reducible exact Pick.here | apply Pick.there)) (by first | exact RdS.rd (Rd.pt (by repeat (first | with_reducible exact Pick.here | apply Pick.there)) (fun j v e => by simpa using e)) rfl | (first | exact RdS.own (by repeat (first | with_reducible exact Pick.here | apply Pick.there)) | exact RdS.mono h (Ent.sep (by repeat (first | exact Ent.same | exact Ent.nil | refine Ent.pick (by repeat (first | with_reducible exact Pick.here | apply Pick.there)) ?_ | refine Ent.pure (by assumption) ?_ | refine Ent.skip ?_))))) (by first | (simp [Value.oneCell']; done) | assumption) (by first | (simp only [maxLen]; omega) | assumption) (by omega) (fun ad7 cap7 => ?_)
    refine Hd.yv (y_assign rfl) ?_
    refine Hd.nil ?_
    refine Hd.slots [(2, _)] ⟨rfl, trivial⟩ ?_
    refine Hd.toK hK5 ?_
    refine Hd.ret ?_
    clear hK1 hK2 hK3 hK5
    refine Hd.ret1 rfl (ad7, cap7) (by simp; rfl) (Ent.sep (.eq (by repeat (first | with_reducible exact Pick.here | apply Pick.there)) (own_eq (by omega) (by simp)) (by repeat (first | exact Ent.same | exact Ent.nil | refine Ent.pick (by repeat (first | with_reducible exact Pick.here | apply Pick.there)) ?_ | refine Ent.pure (by assumption) ?_ | refine Ent.skip ?_))))

theorem shuffle_ct (L : List SP) (ad ao : Option Addr) (c co : Nat) (xs : List Int) (ord : List Int) (h : RdS L 1 ad xs.length (xs.map V)) (ho : RdS L 1 ao ord.length (ord.map V)) (hb : xs.length ≤ 200) (hob : ord.length ≤ 200) :
    Ct Try.prog 10 #[.slice ad xs.length c, .slice ao ord.length co] L (fun i : Option Addr × Nat => .slice i.1 xs.length i.2) (fun i => own 3 1 i.1 xs.length i.2 ((shufTo ord xs xs.length).map V) :: L) := by
  refine Ct.of (vs := [.slice ad xs.length c, .slice ao ord.length co]) Try.func10 rfl rfl [(0, .slice ad xs.length c), (1, .slice ao ord.length co)] ⟨rfl, rfl, trivial⟩ ?_
  intro E
  show Hd E 49 _ _ _ _
  refine Hd.seq (fun K1 hK1 => ?_)
  refine Hd.region ?_
  refine Hd.yv (y_assign rfl) ?_
  refine Hd.nil ?_
  refine Hd.slots [(0, _), (1, _)] ⟨rfl, rfl, trivial⟩ ?_
  refine Hd.toK hK1 ?_
  refine Hd.seq (fun K2 hK2 => ?_)
  refine Hd.region ?_
  refine Hd.yv (y_move rfl) ?_
  refine Hd.call rfl fk32 (by have := cloneInt_ct L ad c (xs.map V) (by simpa using h) (by simp [Value.oneCell']) (by simp; omega); rw [List.length_map] at this; exact this) ?_
  rintro ⟨a1, c1⟩
  refine Hd.yv (y_assign rfl) ?_
  refine Hd.nil ?_
  refine Hd.slots [(1, _), (5, _)] ⟨rfl, rfl, trivial⟩ ?_
  refine Hd.toK hK2 ?_
  refine Hd.seq (fun K3 hK3 => ?_)
  refine Hd.seq (fun K4 hK4 => ?_)
  refine Hd.region ?_
  refine Hd.yv (y_move rfl) ?_
  refine Hd.yv (y_len Try.underlying22 rfl) ?_
  refine Hd.yv (y_move rfl) ?_
  refine Hd.nil ?_
  refine Hd.slots [(1, _), (5, _), (11, _), (12, _)] ⟨rfl, rfl, rfl, rfl, trivial⟩ ?_
  refine Hd.toK hK4 ?_
  refine Hd.block ?_
  refine Hd.loop (ι := Nat) (fun i => [(1, .slice ao ord.length co), (5, .slice a1 xs.length c1), (11, .int .i64 (xs.length : Int)), (12, .int .i64 (i : Int))])
    (fun i => pu (i ≤ xs.length) :: own 3 1 a1 xs.length c1 ((shufTo ord xs i).map V) :: L) (fun i => xs.length - i) 0 ⟨rfl, rfl, rfl, rfl, trivial⟩ (Ent.sep (.pure (by omega) (by repeat (first | exact Ent.same | exact Ent.nil | refine Ent.pick (by repeat (first | with_reducible exact Pick.here | apply Pick.there)) ?_ | refine Ent.pure (by assumption) ?_ | refine Ent.skip ?_)))) ?_
  intro i
  refine Hd.pure (fun hi => ?_)
  have hl := shuf_len ord xs i
  refine Hd.seq (fun K5 hK5 => ?_)
  refine Hd.region ?_
  refine Hd.yv (y_lss rfl rfl) ?_
  refine Hd.nil ?_
  refine Hd.slots [(1, _), (5, _), (11, _), (12, _), (13, _)] ⟨rfl, rfl, rfl, rfl, rfl, trivial⟩ ?_
  refine Hd.toK hK5 ?_
  refine Hd.seq (fun K6 hK6 => ?_)
  refine Hd.cond rfl (fun hc0 => ?_) (fun hc0 => ?_)
  ·
    try simp only [decide_eq_true_eq, decide_eq_false_iff_not, Bool.and_eq_true, Bool.or_eq_true, Bool.and_eq_false_iff, Bool.or_eq_false_iff, Bool.not_eq_true', Bool.not_eq_false', Bool.not_eq_true, Bool.not_eq_false, Int.not_lt, Int.not_le, Decidable.not_not, ne_eq] at hc0
    have hi' : i < xs.length := by omega
    refine Hd.skip ?_
    refine Hd.toK hK6 ?_
    refine Hd.seq (fun K7 hK7 => ?_)
    refine Hd.block ?_
    refine Hd.seq (fun K8 hK8 => ?_)
    refine Hd.region ?_
    refine Hd.yv (y_move rfl) ?_
    refine Hd.yv (y_assign rfl) ?_
    refine Hd.nil ?_
    refine Hd.slots [(1, _), (5, _), (6, _), (11, _), (12, _)] ⟨rfl, rfl, rfl, rfl, rfl, trivial⟩ ?_
    refine Hd.toK hK8 ?_
    refine Hd.seq (fun K9 hK9 => ?_)
    refine Hd.region ?_
    refine Hd.yv (y_move rfl) ?_
    refine Hd.yv (y_len Try.underlying22 rfl) ?_
    refine Hd.yv (y_gtr rfl rfl) ?_
    refine Hd.nil ?_
    refine Hd.slots [(1, _), (5, _), (6, _), (11, _), (12, _), (17, _)] ⟨rfl, rfl, rfl, rfl, rfl, rfl, trivial⟩ ?_
    refine Hd.toK hK9 ?_
    refine Hd.cond rfl (fun hc1 => ?_) (fun hc1 => ?_)
    ·
      try simp only [decide_eq_true_eq, decide_eq_false_iff_not, Bool.and_eq_true, Bool.or_eq_true, Bool.and_eq_false_iff, Bool.or_eq_false_iff, Bool.not_eq_true', Bool.not_eq_false', Bool.not_eq_true, Bool.not_eq_false, Int.not_lt, Int.not_le, Decidable.not_not, ne_eq] at hc1
      obtain ⟨o, hoi⟩ : ∃ o, ord[i % ord.length]? = some o := ⟨_, List.getElem?_eq_getElem (Nat.mod_lt _ (by omega))⟩
      refine Hd.seq (fun K10 hK10 => ?_)
      refine Hd.region ?_
      refine Hd.yv (y_move rfl) ?_
      refine Hd.yv (y_move rfl) ?_
      refine Hd.yv (y_move rfl) ?_
      refine Hd.yv (y_move rfl) ?_
      refine Hd.yv (y_len Try.underlying22 rfl) ?_
      first | (refine Hd.yv (y_remN rfl rfl (by omega)) ?_) | (refine Hd.yv (y_remn rfl rfl (by omega) (by omega)) ?_) | (refine Hd.yv (y_rem rfl rfl (by omega)) ?_)
      have hml : i % ord.length < ord.length := Nat.mod_lt _ (by omega)
      first | (refine Hd.yv (y_idxS Try.underlying22 sz3 rfl rfl (by first | omega | decide)) ?_) | (refine Hd.yv (y_idxR Try.underlying22 sz3 rfl rfl (by first | omega | decide) (by (first | exact RdS.own (by repeat (first | with_reducible exact Pick.here | apply Pick.there)) | exact RdS.mono ho (Ent.sep (by repeat (first | exact Ent.same | exact Ent.nil | refine Ent.pick (by repeat (first | with_reducible exact Pick.here | apply Pick.there)) ?_ | refine Ent.pure (by assumption) ?_ | refine Ent.skip ?_)))))) ?_)
      first | (refine Hd.yv (y_load1 ag3 rfl (Rd.pt1 (by repeat (first | with_reducible exact Pick.here | apply Pick.there)) (by (first | (simp [hoi]; rfl) | (simp [List.getElem?_eq_getElem, *]; rfl) | rfl)))) ?_) | (refine Hd.yv (y_loadR1 ag3 rfl (by (first | exact RdS.own (by repeat (first | with_reducible exact Pick.here | apply Pick.there)) | exact RdS.mono ho (Ent.sep (by repeat (first | exact Ent.same | exact Ent.nil | refine Ent.pick (by repeat (first | with_reducible exact Pick.here | apply Pick.there)) ?_ | refine Ent.pure (by assumption) ?_ | refine Ent.skip ?_))))) (by (first | (simp [hoi]; rfl) | (simp [List.getElem?_eq_getElem, *]; rfl) | rfl))) ?_)
      refine Hd.yv (y_max rfl rfl) ?_
      refine Hd.yv (y_move rfl) ?_
      refine Hd.yv (y_len Try.underlying22 rfl) ?_
      refine Hd.yv (y_move rfl) ?_
      first | (refine Hd.yv (y_subn rfl rfl (by simp only [InK]; omega)) ?_) | (refine Hd.yv (y_sub rfl rfl) ?_)
      first | (refine Hd.yv (y_remN rfl rfl (by omega)) ?_) | (refine Hd.yv (y_remn rfl rfl (by omega) (by omega)) ?_) | (refine Hd.yv (y_rem rfl rfl (by omega)) ?_)
      first | (refine Hd.yv (y_addn rfl rfl (by simp only [InK]; omega)) ?_) | (refine Hd.yv (y_add rfl rfl) ?_)
      rw [wrapIn (by rw [place_eq hi' hoi]; have hp := place_lt (ord := ord) hi'; simp only [InK]; omega)]
      refine Hd.name (b := (place ord xs.length i : Int)) 32 rfl (place_eq hi' hoi) ?_
      have hp := place_lt (ord := ord) hi'
      refine Hd.yv (y_assign rfl) ?_
      refine Hd.nil ?_
      refine Hd.slots [(1, _), (5, _), (6, _), (7, _), (11, _), (12, _)] ⟨rfl, rfl, rfl, rfl, rfl, rfl, trivial⟩ ?_
      refine Hd.toK hK10 ?_
      refine Hd.draws mixed ?_
      simp only [List.length, Nat.zero_add, Nat.reduceAdd]
      refine Hd.take 0 rfl (by kernel_rfl) (by kernel_rfl) (by kernel_rfl) rfl ?_
      refine Hd.take 1 rfl (by kernel_rfl) (by kernel_rfl) (by kernel_rfl) rfl ?_
      refine Hd.take 2 rfl (by kernel_rfl) (by kernel_rfl) (by kernel_rfl) rfl ?_
      refine Hd.take 3 rfl (by kernel_rfl) (by kernel_rfl) (by kernel_rfl) rfl ?_
      refine Hd.take 4 rfl (by kernel_rfl) (by kernel_rfl) (by kernel_rfl) rfl ?_
      refine Hd.take 5 rfl (by kernel_rfl) (by kernel_rfl) (by kernel_rfl) rfl ?_
      refine Hd.take 8 rfl (by kernel_rfl) (by kernel_rfl) (by kernel_rfl) rfl ?_
      refine Hd.take 9 rfl (by kernel_rfl) (by kernel_rfl) (by kernel_rfl) rfl ?_
      refine Hd.tailAt 13 [6, 7, 10, 11, 12] rfl rfl (by kernel_rfl) ?_
      simp only [pk, List.drop, List.getElem?_cons_zero, List.getElem?_cons_succ]
      first | (refine Ht.yv (y_idxS Try.underlying22 sz3 rfl rfl (by first | omega | decide)) ?_) | (refine Ht.yv (y_idxR Try.underlying22 sz3 rfl rfl (by first | omega | decide) (by (first | exact RdS.own (by repeat (first | with_reducible exact Pick.here | apply Pick.there)) | exact RdS.mono ho (Ent.sep (by repeat (first | exact Ent.same | exact Ent.nil | refine Ent.pick (by repeat (first | with_reducible exact Pick.here | apply Pick.there)) ?_ | refine Ent.pure (by assumption) ?_ | refine Ent.skip ?_)))))) ?_)
      first | (refine Ht.yv (y_load1 ag3 rfl (Rd.pt1 (by repeat (first | with_reducible exact Pick.here | apply Pick.there)) (by (first | (simp [hoi]; rfl) | (simp [List.getElem?_eq_getElem, *]; rfl) | rfl)))) ?_) | (refine Ht.yv (y_loadR1 ag3 rfl (by (first | exact RdS.own (by repeat (first | with_reducible exact Pick.here | apply Pick.there)) | exact RdS.mono ho (Ent.sep (by repeat (first | exact Ent.same | exact Ent.nil | refine Ent.pick (by repeat (first | with_reducible exact Pick.here | apply Pick.there)) ?_ | refine Ent.pure (by assumption) ?_ | refine Ent.skip ?_))))) (by (first | (simp [hoi]; rfl) | (simp [List.getElem?_eq_getElem, *]; rfl) | rfl))) ?_)
      first | (refine Ht.yv (y_idxS Try.underlying22 sz3 rfl rfl (by first | omega | decide)) ?_) | (refine Ht.yv (y_idxR Try.underlying22 sz3 rfl rfl (by first | omega | decide) (by (first | exact RdS.own (by repeat (first | with_reducible exact Pick.here | apply Pick.there)) | exact RdS.mono ho (Ent.sep (by repeat (first | exact Ent.same | exact Ent.nil | refine Ent.pick (by repeat (first | with_reducible exact Pick.here | apply Pick.there)) ?_ | refine Ent.pure (by assumption) ?_ | refine Ent.skip ?_)))))) ?_)
      first | (refine Ht.yv (y_load1 ag3 rfl (Rd.pt1 (by repeat (first | with_reducible exact Pick.here | apply Pick.there)) (by (first | (simp [hoi]; rfl) | (simp [List.getElem?_eq_getElem, *]; rfl) | rfl)))) ?_) | (refine Ht.yv (y_loadR1 ag3 rfl (by (first | exact RdS.own (by repeat (first | with_reducible exact Pick.here | apply Pick.there)) | exact RdS.mono ho (Ent.sep (by repeat (first | exact Ent.same | exact Ent.nil | refine Ent.pick (by repeat (first | with_reducible exact Pick.here | apply Pick.there)) ?_ | refine Ent.pure (by assumption) ?_ | refine Ent.skip ?_))))) (by (first | (simp [hoi]; rfl) | (simp [List.getElem?_eq_getElem, *]; rfl) | rfl))) ?_)
      first | (refine Ht.yv (y_idxS Try.underlying22 sz3 rfl rfl (by first | omega | decide)) ?_) | (refine Ht.yv (y_idxR Try.underlying22 sz3 rfl rfl (by first | omega | decide) (by (first | exact RdS.own (by repeat (first | with_reducible exact Pick.here | apply Pick.there)) | exact RdS.mono ho (Ent.sep (by repeat (first | exact Ent.same | exact Ent.nil | refine Ent.pick (by repeat (first | with_reducible exact Pick.here | apply Pick.there)) ?_ | refine Ent.pure (by assumption) ?_ | refine Ent.skip ?_)))))) ?_)
      refine Ht.nil ?_
      first | (refine Hd.store1 sz3 rfl rfl rfl (by repeat (first | with_reducible exact Pick.here | apply Pick.there)) (by first | decide | (simp; done) | (simp; omega)) ?_) | (refine Hd.storeO1 sz3 rfl rfl rfl (by repeat (first | with_reducible exact Pick.here | apply Pick.there)) (by first | omega | (simp; done) | (simp; omega)) ?_)
      try simp only [List.set_cons_zero, List.set_cons_succ]
      first | (refine Hd.yv (y_idxS Try.underlying22 sz3 rfl rfl (by first | omega | decide)) ?_) | (refine Hd.yv (y_idxR Try.underlying22 sz3 rfl rfl (by first | omega | decide) (by (first | exact RdS.own (by repeat (first | with_reducible exact Pick.here | apply Pick.there)) | exact RdS.mono ho (Ent.sep (by repeat (first | exact Ent.same | exact Ent.nil | refine Ent.pick (by repeat (first | with_reducible exact Pick.here | apply Pick.there)) ?_ | refine Ent.pure (by assumption) ?_ | refine Ent.skip ?_)))))) ?_)
      first | (refine Hd.store1 sz3 rfl rfl rfl (by repeat (first | with_reducible exact Pick.here | apply Pick.there)) (by first | decide | (simp; done) | (simp; omega)) ?_) | (refine Hd.storeO1 sz3 rfl rfl rfl (by repeat (first | with_reducible exact Pick.here | apply Pick.there)) (by first | omega | (simp; done) | (simp; omega)) ?_)
      try simp only [List.set_cons_zero, List.set_cons_succ]
      refine Hd.nil ?_
      refine Hd.noPn ?_
      refine Hd.slots [(1, _), (5, _), (11, _), (12, _)] ⟨rfl, rfl, rfl, rfl, trivial⟩ ?_
      refine Hd.inB ?_
      refine Hd.toK hK7 ?_
      refine Hd.region ?_
      first | (refine Hd.yv (y_addn rfl rfl (by simp only [InK]; omega)) ?_) | (refine Hd.yv (y_add rfl rfl) ?_)
      refine Hd.yv (y_move rfl) ?_
      refine Hd.nil ?_
      refine Hd.slots [(1, _), (5, _), (11, _), (12, _)] ⟨rfl, rfl, rfl, rfl, trivial⟩ ?_
      clear hK1 hK2 hK3 hK4 hK5 hK6 hK7 hK8 hK9 hK10
      refine Hd.thenN ?_
      refine Hd.again (i + 1) (by omega) ⟨rfl, rfl, rfl, rfl, trivial⟩ (Ent.sep (.pure (by omega) (.eq (by repeat (first | with_reducible exact Pick.here | apply Pick.there)) (own_eq rfl ?_) (by repeat (first | exact Ent.same | exact Ent.nil | refine Ent.pick (by repeat (first | with_reducible exact Pick.here | apply Pick.there)) ?_ | refine Ent.pure (by assumption) ?_ | refine Ent.skip ?_)))))
      simp only [shufTo]; rw [if_neg (by intro e; simp [e] at hc1), swp_eq (by omega) (by omega)]
      simp [List.map_set]
    ·
      try simp only [decide_eq_true_eq, decide_eq_false_iff_not, Bool.and_eq_true, Bool.or_eq_true, Bool.and_eq_false_iff, Bool.or_eq_false_iff, Bool.not_eq_true', Bool.not_eq_false', Bool.not_eq_true, Bool.not_eq_false, Int.not_lt, Int.not_le, Decidable.not_not, ne_eq] at hc1
      refine Hd.skip ?_
      refine Hd.inB ?_
      refine Hd.toK hK7 ?_
      refine Hd.region ?_
      first | (refine Hd.yv (y_addn rfl rfl (by simp only [InK]; omega)) ?_) | (refine Hd.yv (y_add rfl rfl) ?_)
      refine Hd.yv (y_move rfl) ?_
      refine Hd.nil ?_
      refine Hd.slots [(1, _), (5, _), (11, _), (12, _)] ⟨rfl, rfl, rfl, rfl, trivial⟩ ?_
      clear hK1 hK2 hK3 hK4 hK5 hK6 hK7 hK8 hK9
      refine Hd.thenN ?_
      refine Hd.again (i + 1) (by omega) ⟨rfl, rfl, rfl, rfl, trivial⟩ (Ent.sep (.pure (by omega) (.eq (by repeat (first | with_reducible exact Pick.here | apply Pick.there)) (own_eq rfl ?_) (by repeat (first | exact Ent.same | exact Ent.nil | refine Ent.pick (by repeat (first | with_reducible exact Pick.here | apply Pick.there)) ?_ | refine Ent.pure (by assumption) ?_ | refine Ent.skip ?_)))))
      simp only [shufTo]; rw [if_pos (List.eq_nil_of_length_eq_zero (by omega))]
  ·
    try simp only [decide_eq_true_eq, decide_eq_false_iff_not, Bool.and_eq_true, Bool.or_eq_true, Bool.and_eq_false_iff, Bool.or_eq_false_iff, Bool.not_eq_true', Bool.not_eq_false', Bool.not_eq_true, Bool.not_eq_false, Int.not_lt, Int.not_le, Decidable.not_not, ne_eq] at hc0
    refine Hd.exit ?_
    refine Hd.thenExit ?_
    refine Hd.thenExit ?_
    refine Hd.inBexit ?_
    refine Hd.toK hK3 ?_
    refine Hd.seq (fun K11 hK11 => ?_)
    refine Hd.region ?_
    refine Hd.yv (y_move rfl) ?_
    refine Hd.yv (y_assign rfl) ?_
    refine Hd.nil ?_
    refine Hd.slots [(4, _)] ⟨rfl, trivial⟩ ?_
    refine Hd.toK hK11 ?_
    refine Hd.ret ?_
    clear hK1 hK2 hK3 hK4 hK5 hK6 hK11
    obtain rfl : i = xs.length := by omega
    exact Hd.ret1 rfl (a1, c1) rfl (Ent.sep (by repeat (first | exact Ent.same | exact Ent.nil | refine Ent.pick (by repeat (first | with_reducible exact Pick.here | apply Pick.there)) ?_ | refine Ent.pure (by assumption) ?_ | refine Ent.skip ?_)))

theorem place_eq' {ord : List Int} {n i : Nat} (h : i < n) {o : Int} (ho : ord[i % ord.length]? = some o) : (i : Int) + (bif decide (o < 0) then 0 else o) % ((n : Int) - i) = (place ord n i : Int) := by
  rw [← place_eq h ho]
  congr 2
  by_cases h : o < 0 <;> simp [h] <;> omega
theorem places_ct (L : List SP) (ao : Option Addr) (co : Nat) (m : Nat) (ord : List Int) (ho : RdS L 1 ao ord.length (ord.map V)) (hb : m ≤ 200) (hob : ord.length ≤ 200) :
    Ct Try.prog 11 #[.int .i64 (m : Int), .slice ao ord.length co] L (fun i : Option Addr × Nat => .slice i.1 m i.2) (fun i => own 3 1 i.1 m i.2 ((shufTo ord (List.range m) m).map VN) :: L) := by
  refine Ct.of (vs := [.int .i64 (m : Int), .slice ao ord.length co]) Try.func11 rfl rfl [(0, .int .i64 (m : Int)), (1, .slice ao ord.length co)] ⟨rfl, rfl, trivial⟩ ?_
  intro E
  show Hd E 61 _ _ _ _
  refine Hd.seq (fun K1 hK1 => ?_)
  refine Hd.region ?_
  refine Hd.yv (y_assign rfl) ?_
  refine Hd.nil ?_
  refine Hd.slots [(0, _), (1, _)] ⟨rfl, rfl, trivial⟩ ?_
  refine Hd.toK hK1 ?_
  refine Hd.seq (fun K2 hK2 => ?_)
  refine Hd.region ?_
  refine Hd.yv (y_assign rfl) ?_
  refine Hd.nil ?_
  refine Hd.slots [(0, _), (1, _), (5, _)] ⟨rfl, rfl, rfl, trivial⟩ ?_
  refine Hd.toK hK2 ?_
  refine Hd.seq (fun K3 hK3 => ?_)
  refine Hd.seq (fun K4 hK4 => ?_)
  refine Hd.region ?_
  refine Hd.yv (y_assign rfl) ?_
  refine Hd.nil ?_
  refine Hd.slots [(0, _), (1, _), (5, _), (6, _)] ⟨rfl, rfl, rfl, rfl, trivial⟩ ?_
  refine Hd.toK hK4 ?_
  refine Hd.block ?_
  refine Hd.loop (ι := Nat × Option Addr × Nat) (fun i => [(0, .int .i64 (m : Int)), (1, .slice ao ord.length co), (5, .slice i.2.1 i.1 i.2.2), (6, .int .i64 (i.1 : Int))])
    (fun i => pu (i.1 ≤ m) :: own 3 1 i.2.1 i.1 i.2.2 ((List.range i.1).map VN) :: L) (fun i => m - i.1) (0, none, 0) ⟨rfl, rfl, rfl, rfl, trivial⟩ (Ent.sep (.pure (by simp) (.ownNil (by repeat (first | exact Ent.same | exact Ent.nil | refine Ent.pick (by repeat (first | with_reducible exact Pick.here | apply Pick.there)) ?_ | refine Ent.pure (by assumption) ?_ | refine Ent.skip ?_))))) ?_
  rintro ⟨i, a1, c1⟩
  refine Hd.pure (fun hi => ?_)
  have hi' : i ≤ m := hi
  refine Hd.seq (fun K5 hK5 => ?_)
  refine Hd.seq (fun K6 hK6 => ?_)
  refine Hd.region ?_
  refine Hd.yv (y_move rfl) ?_
  refine Hd.yv (y_move rfl) ?_
  refine Hd.yv (y_lss rfl rfl) ?_
  refine Hd.nil ?_
  refine Hd.slots [(0, _), (1, _), (5, _), (6, _), (12, _)] ⟨rfl, rfl, rfl, rfl, rfl, trivial⟩ ?_
  refine Hd.toK hK6 ?_
  refine Hd.cond rfl (fun hc0 => ?_) (fun hc0 => ?_)
  ·
    try simp only [decide_eq_true_eq, decide_eq_false_iff_not, Bool.and_eq_true, Bool.or_eq_true, Bool.and_eq_false_iff, Bool.or_eq_false_iff, Bool.not_eq_true', Bool.not_eq_false', Bool.not_eq_true, Bool.not_eq_false, Int.not_lt, Int.not_le, Decidable.not_not, ne_eq] at hc0
    refine Hd.skip ?_
    refine Hd.toK hK5 ?_
    refine Hd.seq (fun K7 hK7 => ?_)
    refine Hd.block ?_
    refine Hd.region ?_
    refine Hd.yv (y_move rfl) ?_
    refine Hd.yv (y_move rfl) ?_
    refine Hd.bslice (vs := [(0, _)]) rfl (by first | exact bs11_17 .. | kernel_rfl) (fun b17 => ?_)
    refine Hd.append Try.underlying22 ty3 rfl rfl rfl (by repeat (first | with_reducible exact Pick.here | apply Pick.there)) (by first | exact RdS.rd (Rd.pt (by repeat (first | with_reducible exact Pick.here | apply Pick.there)) (fun j v e => by simpa using e)) rfl | (first | exact RdS.own (by repeat (first | with_reducible exact Pick.here | apply Pick.there)) | exact RdS.mono ho (Ent.sep (by repeat (first | exact Ent.same | exact Ent.nil | refine Ent.pick (by repeat (first | with_reducible exact Pick.here | apply Pick.there)) ?_ | refine Ent.pure (by assumption) ?_ | refine Ent.skip ?_))))) (by first | (simp [Value.oneCell']; done) | assumption) (by first | (simp only [maxLen]; omega) | assumption) (by omega) (fun ad18 cap18 => ?_)
    refine Hd.yv (y_assign rfl) ?_
    refine Hd.nil ?_
    refine Hd.slots [(0, _), (1, _), (5, _), (6, _)] ⟨rfl, rfl, rfl, rfl, trivial⟩ ?_
    refine Hd.inB ?_
    refine Hd.toK hK7 ?_
    refine Hd.region ?_
    refine Hd.yv (y_move rfl) ?_
    first | (refine Hd.yv (y_addn rfl rfl (by simp only [InK]; omega)) ?_) | (refine Hd.yv (y_add rfl rfl) ?_)
    refine Hd.yv (y_assign rfl) ?_
    refine Hd.nil ?_
    refine Hd.slots [(0, _), (1, _), (5, _), (6, _)] ⟨rfl, rfl, rfl, rfl, trivial⟩ ?_
    clear hK1 hK2 hK3 hK4 hK5 hK6 hK7
    refine Hd.thenN ?_
    refine Hd.again (i + 1, ad18, cap18) (by simp only; omega) ⟨rfl, rfl, rfl, rfl, trivial⟩ (Ent.sep (.pure (by simp only; omega) (.eq (by repeat (first | with_reducible exact Pick.here | apply Pick.there)) (own_eq rfl (by simp [List.range_succ])) (by repeat (first | exact Ent.same | exact Ent.nil | refine Ent.pick (by repeat (first | with_reducible exact Pick.here | apply Pick.there)) ?_ | refine Ent.pure (by assumption) ?_ | refine Ent.skip ?_)))))
  ·
    try simp only [decide_eq_true_eq, decide_eq_false_iff_not, Bool.and_eq_true, Bool.or_eq_true, Bool.and_eq_false_iff, Bool.or_eq_false_iff, Bool.not_eq_true', Bool.not_eq_false', Bool.not_eq_true, Bool.not_eq_false, Int.not_lt, Int.not_le, Decidable.not_not, ne_eq] at hc0
    obtain rfl : i = m := by omega
    refine Hd.exit ?_
    refine Hd.thenExit ?_
    refine Hd.thenExit ?_
    refine Hd.inBexit ?_
    refine Hd.toK hK3 ?_
    refine Hd.seq (fun K8 hK8 => ?_)
    refine Hd.seq (fun K9 hK9 => ?_)
    refine Hd.region ?_
    refine Hd.yv (y_assign rfl) ?_
    refine Hd.nil ?_
    refine Hd.slots [(0, _), (1, _), (5, _), (7, _)] ⟨rfl, rfl, rfl, rfl, trivial⟩ ?_
    refine Hd.toK hK9 ?_
    refine Hd.block ?_
    refine Hd.loop (ι := Nat) (fun j => [(0, .int .i64 (i : Int)), (1, .slice ao ord.length co), (5, .slice a1 i c1), (7, .int .i64 (j : Int))])
      (fun j => pu (j ≤ i ∧ (ord = [] → j = 0)) :: own 3 1 a1 i c1 ((shufTo ord (List.range i) j).map VN) :: L) (fun j => i - j) 0 ⟨rfl, rfl, rfl, rfl, trivial⟩ (Ent.sep (.pure (by omega) (by repeat (first | exact Ent.same | exact Ent.nil | refine Ent.pick (by repeat (first | with_reducible exact Pick.here | apply Pick.there)) ?_ | refine Ent.pure (by assumption) ?_ | refine Ent.skip ?_)))) ?_
    intro j
    refine Hd.pure (fun hj => ?_)
    have hl := shuf_len ord (List.range i) j
    rw [List.length_range] at hl
    refine Hd.seq (fun K10 hK10 => ?_)
    refine Hd.seq (fun K11 hK11 => ?_)
    refine Hd.region ?_
    refine Hd.yv (y_move rfl) ?_
    refine Hd.yv (y_move rfl) ?_
    refine Hd.yv (y_lss rfl rfl) ?_
    refine Hd.yv (y_move rfl) ?_
    apply Hd.andg 4 22 26 [(0, _), (1, _), (5, _), (7, _)] rfl ⟨rfl, rfl, rfl, rfl, trivial⟩
    · intro hg7_22
      try simp only [decide_eq_true_eq, decide_eq_false_iff_not, Bool.and_eq_true, Bool.or_eq_true, Bool.and_eq_false_iff, Bool.or_eq_false_iff, Bool.not_eq_true', Bool.not_eq_false', Bool.not_eq_true, Bool.not_eq_false, Int.not_lt, Int.not_le, Decidable.not_not, ne_eq] at hg7_22
      simp only [List.take]
      refine Hd.yg rfl rfl (y_move rfl) ?_
      refine Hd.yg rfl rfl (y_len Try.underlying22 rfl) ?_
      refine Hd.yg rfl rfl (y_gtr rfl rfl) ?_
      first | (refine Hd.yv (y_pickT rfl rfl) ?_) | (refine Hd.yv (y_pickF rfl rfl) ?_) | (refine Hd.yv (y_pickb rfl rfl rfl) ?_) | (refine Hd.yv (y_pick rfl rfl rfl) ?_)
      refine Hd.nil ?_
      exact Hd.gend (by repeat (first | exact trivial | refine ⟨rfl, ?_⟩))
    · intro hg7_22
      try simp only [decide_eq_true_eq, decide_eq_false_iff_not, Bool.and_eq_true, Bool.or_eq_true, Bool.and_eq_false_iff, Bool.or_eq_false_iff, Bool.not_eq_true', Bool.not_eq_false', Bool.not_eq_true, Bool.not_eq_false, Int.not_lt, Int.not_le, Decidable.not_not, ne_eq] at hg7_22
      simp only [List.take]
      refine Hd.ng rfl rfl rfl ?_
      refine Hd.ng rfl rfl rfl ?_
      refine Hd.ng rfl rfl rfl ?_
      first | (refine Hd.yv (y_pickT rfl rfl) ?_) | (refine Hd.yv (y_pickF rfl rfl) ?_) | (refine Hd.yv (y_pickb rfl rfl rfl) ?_) | (refine Hd.yv (y_pick rfl rfl rfl) ?_)
      refine Hd.nil ?_
      exact Hd.gend (by repeat (first | exact trivial | refine ⟨rfl, ?_⟩))
    simp only [List.drop]
    refine Hd.nil ?_
    refine Hd.slots [(0, _), (1, _), (5, _), (7, _), (26, _)] ⟨rfl, rfl, rfl, rfl, rfl, trivial⟩ ?_
    refine Hd.toK hK11 ?_
    refine Hd.cond rfl (fun hc1 => ?_) (fun hc1 => ?_)
    ·
      try simp only [decide_eq_true_eq, decide_eq_false_iff_not, Bool.and_eq_true, Bool.or_eq_true, Bool.and_eq_false_iff, Bool.or_eq_false_iff, Bool.not_eq_true', Bool.not_eq_false', Bool.not_eq_true, Bool.not_eq_false, Int.not_lt, Int.not_le, Decidable.not_not, ne_eq] at hc1
      have hji : j < i := by omega
      have hol : 0 < ord.length := by omega
      have hml : j % ord.length < ord.length := Nat.mod_lt _ hol
      obtain ⟨o, hoi⟩ : ∃ o, ord[j % ord.length]? = some o := ⟨_, List.getElem?_eq_getElem hml⟩
      refine Hd.skip ?_
      refine Hd.toK hK10 ?_
      refine Hd.seq (fun K12 hK12 => ?_)
      refine Hd.block ?_
      refine Hd.seq (fun K13 hK13 => ?_)
      refine Hd.region ?_
      refine Hd.yv (y_move rfl) ?_
      refine Hd.yv (y_move rfl) ?_
      refine Hd.yv (y_move rfl) ?_
      refine Hd.yv (y_len Try.underlying22 rfl) ?_
      first | (refine Hd.yv (y_remN rfl rfl (by omega)) ?_) | (refine Hd.yv (y_remn rfl rfl (by omega) (by omega)) ?_) | (refine Hd.yv (y_rem rfl rfl (by omega)) ?_)
      first | (refine Hd.yv (y_idxS Try.underlying22 sz3 rfl rfl (by first | omega | decide)) ?_) | (refine Hd.yv (y_idxR Try.underlying22 sz3 rfl rfl (by first | omega | decide) (by (first | exact RdS.own (by repeat (first | with_reducible exact Pick.here | apply Pick.there)) | exact RdS.mono ho (Ent.sep (by repeat (first | exact Ent.same | exact Ent.nil | refine Ent.pick (by repeat (first | with_reducible exact Pick.here | apply Pick.there)) ?_ | refine Ent.pure (by assumption) ?_ | refine Ent.skip ?_)))))) ?_)
      first | (refine Hd.yv (y_load1 ag3 rfl (Rd.pt1 (by repeat (first | with_reducible exact Pick.here | apply Pick.there)) (by (first | (simp [hoi]; rfl) | (simp [List.getElem?_eq_getElem, *]; rfl) | rfl)))) ?_) | (refine Hd.yv (y_loadR1 ag3 rfl (by (first | exact RdS.own (by repeat (first | with_reducible exact Pick.here | apply Pick.there)) | exact RdS.mono ho (Ent.sep (by repeat (first | exact Ent.same | exact Ent.nil | refine Ent.pick (by repeat (first | with_reducible exact Pick.here | apply Pick.there)) ?_ | refine Ent.pure (by assumption) ?_ | refine Ent.skip ?_))))) (by (first | (simp [hoi]; rfl) | (simp [List.getElem?_eq_getElem, *]; rfl) | rfl))) ?_)
      refine Hd.yv (y_assign rfl) ?_
      refine Hd.nil ?_
      refine Hd.slots [(0, _), (1, _), (5, _), (7, _), (8, _)] ⟨rfl, rfl, rfl, rfl, rfl, trivial⟩ ?_
      refine Hd.toK hK13 ?_
      refine Hd.seq (fun K14 hK14 => ?_)
      refine Hd.seq (fun K15 hK15 => ?_)
      refine Hd.region ?_
      refine Hd.yv (y_move rfl) ?_
      refine Hd.yv (y_lss rfl rfl) ?_
      refine Hd.nil ?_
      refine Hd.slots [(0, _), (1, _), (5, _), (7, _), (8, _), (37, _)] ⟨rfl, rfl, rfl, rfl, rfl, rfl, trivial⟩ ?_
      refine Hd.toK hK15 ?_
      apply Hd.mergeK (L' := _) [(0, _), (1, _), (5, _), (7, _), (8, .int .i64 _)] [(0, _), (1, _), (5, _), (7, _), (8, .int .i64 _)] rfl
      · intro hc2
        try simp only [decide_eq_true_eq, decide_eq_false_iff_not, Bool.and_eq_true, Bool.or_eq_true, Bool.and_eq_false_iff, Bool.or_eq_false_iff, Bool.not_eq_true', Bool.not_eq_false', Bool.not_eq_true, Bool.not_eq_false, Int.not_lt, Int.not_le, Decidable.not_not, ne_eq] at hc2
        refine Hd.region ?_
        refine Hd.yv (y_assign rfl) ?_
        refine Hd.nil ?_
        refine Hd.slots [(0, _), (1, _), (5, _), (7, _), (8, _)] ⟨rfl, rfl, rfl, rfl, rfl, trivial⟩ ?_
        exact Hd.mend ⟨rfl, rfl, rfl, rfl, rfl, trivial⟩ (fun _ h => h)
      · intro hc2
        try simp only [decide_eq_true_eq, decide_eq_false_iff_not, Bool.and_eq_true, Bool.or_eq_true, Bool.and_eq_false_iff, Bool.or_eq_false_iff, Bool.not_eq_true', Bool.not_eq_false', Bool.not_eq_true, Bool.not_eq_false, Int.not_lt, Int.not_le, Decidable.not_not, ne_eq] at hc2
        refine Hd.skip ?_
        exact Hd.mend ⟨rfl, rfl, rfl, rfl, rfl, trivial⟩ (fun _ h => h)
      · repeat (first | exact Mrg.nil | apply Mrg.same | apply Mrg.int | apply Mrg.bool)
      refine Hd.toK0 hK14 ?_
      refine Hd.seq (fun K16 hK16 => ?_)
      refine Hd.region ?_
      refine Hd.yv (y_move rfl) ?_
      refine Hd.yv (y_move rfl) ?_
      refine Hd.yv (y_move rfl) ?_
      refine Hd.yv (y_move rfl) ?_
      first | (refine Hd.yv (y_subn rfl rfl (by simp only [InK]; omega)) ?_) | (refine Hd.yv (y_sub rfl rfl) ?_)
      have hmx : 0 ≤ (bif decide (o < 0) then 0 else o) := by by_cases h : o < 0 <;> simp [h]; omega
      first | (refine Hd.yv (y_remN rfl rfl (by omega)) ?_) | (refine Hd.yv (y_remn rfl rfl (by omega) (by omega)) ?_) | (refine Hd.yv (y_rem rfl rfl (by omega)) ?_)
      first | (refine Hd.yv (y_addn rfl rfl (by simp only [InK]; omega)) ?_) | (refine Hd.yv (y_add rfl rfl) ?_)
      rw [wrapIn (by rw [place_eq' hji hoi]; have hp := place_lt (ord := ord) hji; simp only [InK]; omega)]
      refine Hd.name (b := (place ord i j : Int)) 44 rfl (place_eq' hji hoi) ?_
      have hp := place_lt (ord := ord) hji
      refine Hd.yv (y_assign rfl) ?_
      refine Hd.nil ?_
      refine Hd.slots [(0, _), (1, _), (5, _), (7, _), (8, _)] ⟨rfl, rfl, rfl, rfl, rfl, trivial⟩ ?_
      refine Hd.toK hK16 ?_
      refine Hd.seq (fun K17 hK17 => ?_)
      refine Hd.region ?_
      refine Hd.yv (y_move rfl) ?_
      refine Hd.yv (y_move rfl) ?_
      first | (refine Hd.yv (y_idxS Try.underlying22 sz3 rfl rfl (by first | omega | decide)) ?_) | (refine Hd.yv (y_idxR Try.underlying22 sz3 rfl rfl (by first | omega | decide) (by (first | exact RdS.own (by repeat (first | with_reducible exact Pick.here | apply Pick.there)) | exact RdS.mono ho (Ent.sep (by repeat (first | exact Ent.same | exact Ent.nil | refine Ent.pick (by repeat (first | with_reducible exact Pick.here | apply Pick.there)) ?_ | refine Ent.pure (by assumption) ?_ | refine Ent.skip ?_)))))) ?_)
      first | (refine Hd.yv (y_load1 ag3 rfl (Rd.pt1 (by repeat (first | with_reducible exact Pick.here | apply Pick.there)) (by (first | (simp [hoi]; rfl) | (simp [List.getElem?_eq_getElem, *]; rfl) | rfl)))) ?_) | (refine Hd.yv (y_loadR1 ag3 rfl (by (first | exact RdS.own (by repeat (first | with_reducible exact Pick.here | apply Pick.there)) | exact RdS.mono ho (Ent.sep (by repeat (first | exact Ent.same | exact Ent.nil | refine Ent.pick (by repeat (first | with_reducible exact Pick.here | apply Pick.there)) ?_ | refine Ent.pure (by assumption) ?_ | refine Ent.skip ?_))))) (by (first | (simp [hoi]; rfl) | (simp [List.getElem?_eq_getElem, *]; rfl) | rfl))) ?_)
      refine Hd.yv (y_assign rfl) ?_
      refine Hd.nil ?_
      refine Hd.slots [(0, _), (1, _), (5, _), (7, _), (8, _), (9, _)] ⟨rfl, rfl, rfl, rfl, rfl, rfl, trivial⟩ ?_
      refine Hd.toK hK17 ?_
      refine Hd.seq (fun K18 hK18 => ?_)
      refine Hd.region ?_
      refine Hd.yv (y_move rfl) ?_
      refine Hd.yv (y_move rfl) ?_
      refine Hd.yv (y_move rfl) ?_
      refine Hd.yv (y_move rfl) ?_
      first | (refine Hd.yv (y_idxS Try.underlying22 sz3 rfl rfl (by first | omega | decide)) ?_) | (refine Hd.yv (y_idxR Try.underlying22 sz3 rfl rfl (by first | omega | decide) (by (first | exact RdS.own (by repeat (first | with_reducible exact Pick.here | apply Pick.there)) | exact RdS.mono ho (Ent.sep (by repeat (first | exact Ent.same | exact Ent.nil | refine Ent.pick (by repeat (first | with_reducible exact Pick.here | apply Pick.there)) ?_ | refine Ent.pure (by assumption) ?_ | refine Ent.skip ?_)))))) ?_)
      first | (refine Hd.yv (y_load1 ag3 rfl (Rd.pt1 (by repeat (first | with_reducible exact Pick.here | apply Pick.there)) (by (first | (simp [hoi]; rfl) | (simp [List.getElem?_eq_getElem, *]; rfl) | rfl)))) ?_) | (refine Hd.yv (y_loadR1 ag3 rfl (by (first | exact RdS.own (by repeat (first | with_reducible exact Pick.here | apply Pick.there)) | exact RdS.mono ho (Ent.sep (by repeat (first | exact Ent.same | exact Ent.nil | refine Ent.pick (by repeat (first | with_reducible exact Pick.here | apply Pick.there)) ?_ | refine Ent.pure (by assumption) ?_ | refine Ent.skip ?_))))) (by (first | (simp [hoi]; rfl) | (simp [List.getElem?_eq_getElem, *]; rfl) | rfl))) ?_)
      first | (refine Hd.yv (y_idxS Try.underlying22 sz3 rfl rfl (by first | omega | decide)) ?_) | (refine Hd.yv (y_idxR Try.underlying22 sz3 rfl rfl (by first | omega | decide) (by (first | exact RdS.own (by repeat (first | with_reducible exact Pick.here | apply Pick.there)) | exact RdS.mono ho (Ent.sep (by repeat (first | exact Ent.same | exact Ent.nil | refine Ent.pick (by repeat (first | with_reducible exact Pick.here | apply Pick.there)) ?_ | refine Ent.pure (by assumption) ?_ | refine Ent.skip ?_)))))) ?_)
      first | (refine Hd.store1 sz3 rfl rfl rfl (by repeat (first | with_reducible exact Pick.here | apply Pick.there)) (by first | decide | (simp; done) | (simp; omega)) ?_) | (refine Hd.storeO1 sz3 rfl rfl rfl (by repeat (first | with_reducible exact Pick.here | apply Pick.there)) (by first | omega | (simp; done) | (simp; omega)) ?_)
      try simp only [List.set_cons_zero, List.set_cons_succ]
      refine Hd.nil ?_
      refine Hd.slots [(0, _), (1, _), (5, _), (7, _), (8, _), (9, _)] ⟨rfl, rfl, rfl, rfl, rfl, rfl, trivial⟩ ?_
      refine Hd.toK hK18 ?_
      refine Hd.region ?_
      refine Hd.yv (y_move rfl) ?_
      refine Hd.yv (y_move rfl) ?_
      refine Hd.yv (y_move rfl) ?_
      first | (refine Hd.yv (y_idxS Try.underlying22 sz3 rfl rfl (by first | omega | decide)) ?_) | (refine Hd.yv (y_idxR Try.underlying22 sz3 rfl rfl (by first | omega | decide) (by (first | exact RdS.own (by repeat (first | with_reducible exact Pick.here | apply Pick.there)) | exact RdS.mono ho (Ent.sep (by repeat (first | exact Ent.same | exact Ent.nil | refine Ent.pick (by repeat (first | with_reducible exact Pick.here | apply Pick.there)) ?_ | refine Ent.pure (by assumption) ?_ | refine Ent.skip ?_)))))) ?_)
      first | (refine Hd.store1 sz3 rfl rfl rfl (by repeat (first | with_reducible exact Pick.here | apply Pick.there)) (by first | decide | (simp; done) | (simp; omega)) ?_) | (refine Hd.storeO1 sz3 rfl rfl rfl (by repeat (first | with_reducible exact Pick.here | apply Pick.there)) (by first | omega | (simp; done) | (simp; omega)) ?_)
      try simp only [List.set_cons_zero, List.set_cons_succ]
      refine Hd.nil ?_
      refine Hd.slots [(0, _), (1, _), (5, _), (7, _)] ⟨rfl, rfl, rfl, rfl, trivial⟩ ?_
      refine Hd.inB ?_
      refine Hd.toK hK12 ?_
      refine Hd.region ?_
      refine Hd.yv (y_move rfl) ?_
      first | (refine Hd.yv (y_addn rfl rfl (by simp only [InK]; omega)) ?_) | (refine Hd.yv (y_add rfl rfl) ?_)
      refine Hd.yv (y_assign rfl) ?_
      refine Hd.nil ?_
      refine Hd.slots [(0, _), (1, _), (5, _), (7, _)] ⟨rfl, rfl, rfl, rfl, trivial⟩ ?_
      clear hK1 hK2 hK3 hK4 hK5 hK6 hK8 hK9 hK10 hK11 hK12 hK13 hK14 hK15 hK16 hK17 hK18
      refine Hd.thenN ?_
      refine Hd.again (j + 1) (by omega) ⟨rfl, rfl, rfl, rfl, trivial⟩ (Ent.sep (.pure ⟨by omega, fun e => by rw [e] at hol; simp at hol⟩ (.eq (by repeat (first | with_reducible exact Pick.here | apply Pick.there)) (own_eq rfl ?_) (by repeat (first | exact Ent.same | exact Ent.nil | refine Ent.pick (by repeat (first | with_reducible exact Pick.here | apply Pick.there)) ?_ | refine Ent.pure (by assumption) ?_ | refine Ent.skip ?_)))))
      simp only [shufTo]; rw [if_neg (by intro e; rw [e] at hol; simp at hol), List.length_range, swp_eq (by omega) (by omega)]
      simp [List.map_set]
    ·
      try simp only [decide_eq_true_eq, decide_eq_false_iff_not, Bool.and_eq_true, Bool.or_eq_true, Bool.and_eq_false_iff, Bool.or_eq_false_iff, Bool.not_eq_true', Bool.not_eq_false', Bool.not_eq_true, Bool.not_eq_false, Int.not_lt, Int.not_le, Decidable.not_not, ne_eq] at hc1
      refine Hd.exit ?_
      refine Hd.thenExit ?_
      refine Hd.thenExit ?_
      refine Hd.inBexit ?_
      refine Hd.toK hK8 ?_
      refine Hd.seq (fun K19 hK19 => ?_)
      refine Hd.region ?_
      refine Hd.yv (y_move rfl) ?_
      refine Hd.yv (y_assign rfl) ?_
      refine Hd.nil ?_
      refine Hd.slots [(4, _)] ⟨rfl, trivial⟩ ?_
      refine Hd.toK hK19 ?_
      refine Hd.ret ?_
      clear hK1 hK2 hK3 hK4 hK5 hK6 hK8 hK9 hK10 hK11 hK19
      refine Hd.ret1 rfl (a1, c1) rfl (Ent.sep (.eq (by repeat (first | with_reducible exact Pick.here | apply Pick.there)) (own_eq rfl ?_) (by repeat (first | exact Ent.same | exact Ent.nil | refine Ent.pick (by repeat (first | with_reducible exact Pick.here | apply Pick.there)) ?_ | refine Ent.pure (by assumption) ?_ | refine Ent.skip ?_))))
      rcases Nat.lt_or_ge j i with h | h
      · have h0 : ord = [] := List.eq_nil_of_length_eq_zero (by rcases hc1 with h1 | h1 <;> omega)
        rw [shuf_nil h0, shuf_nil h0]
      · rw [show j = i by omega]

theorem swp_mem {α : Type} {xs : List α} {i k : Nat} {a : α} (h : a ∈ swp xs i k) : a ∈ xs := by
  unfold swp at h
  split at h
  · rename_i b c hb hc
    rcases List.mem_or_eq_of_mem_set h with h | rfl
    · rcases List.mem_or_eq_of_mem_set h with h | rfl
      · exact h
      · exact List.mem_of_getElem? hc
    · exact List.mem_of_getElem? hb
  · exact h
theorem shuf_mem {α : Type} {ord : List Int} {xs : List α} {a : α} : ∀ {i : Nat}, a ∈ shufTo ord xs i → a ∈ xs
  | 0, h => h
  | i + 1, h => by
    simp only [shufTo] at h
    split at h
    · exact shuf_mem h
    · exact shuf_mem (swp_mem h)
/-- each of the list is what stands at its place -/
theorem shuf_at {ord xs : List Int} {m i : Nat} (hi : i < xs.length) : ∃ k, (shufTo ord (List.range xs.length) m)[i]? = some k ∧ k < xs.length ∧ xs[k]? = (shufTo ord xs m)[i]? := by
  have e : xs = (List.range xs.length).map (fun k => xs.getD k 0) := by
    apply List.ext_getElem?
    intro j
    rw [List.getElem?_map]
    by_cases hj : j < xs.length
    · rw [List.getElem?_range hj]; simp [List.getElem?_eq_getElem hj]
    · rw [List.getElem?_eq_none (by omega), List.getElem?_eq_none (by simp; omega)]; rfl
  have hl := shuf_len ord (List.range xs.length) m
  rw [List.length_range] at hl
  have hx : (shufTo ord (List.range xs.length) m)[i]? = some (shufTo ord (List.range xs.length) m)[i] := List.getElem?_eq_getElem (by omega)
  refine ⟨_, hx, ?_, ?_⟩
  · have := shuf_mem (List.mem_of_getElem? hx); simpa using this
  · have hk : (shufTo ord (List.range xs.length) m)[i] < xs.length := by have := shuf_mem (List.mem_of_getElem? hx); simpa using this
    have e2 : shufTo ord xs m = (shufTo ord (List.range xs.length) m).map (fun k => xs.getD k 0) := by rw [← shuf_map, ← e]
    rw [e2, List.getElem?_map, hx, Option.map_some, List.getElem?_eq_getElem hk]
    simp [List.getElem?_eq_getElem hk]
theorem law_ct (L : List SP) (ad ao : Option Addr) (c co : Nat) (xs ord : List Int) (h : RdS L 1 ad xs.length (xs.map V)) (ho : RdS L 1 ao ord.length (ord.map V)) :
    Ct Try.prog 3 #[.slice ad xs.length c, .slice ao ord.length co] L (fun _ : Unit => .bool true) (fun _ => L) := by
  refine Ct.of (vs := [.slice ad xs.length c, .slice ao ord.length co]) Try.func3 rfl rfl [(0, .slice ad xs.length c), (1, .slice ao ord.length co)] ⟨rfl, rfl, trivial⟩ ?_
  intro E
  show Hd E 46 _ _ _ _
  refine Hd.seq (fun K1 hK1 => ?_)
  refine Hd.region ?_
  refine Hd.yv (y_assign rfl) ?_
  refine Hd.nil ?_
  refine Hd.slots [(0, _), (1, _)] ⟨rfl, rfl, trivial⟩ ?_
  refine Hd.toK hK1 ?_
  refine Hd.seq (fun K2 hK2 => ?_)
  refine Hd.seq (fun K3 hK3 => ?_)
  refine Hd.region ?_
  refine Hd.yv (y_move rfl) ?_
  refine Hd.yv (y_len Try.underlying22 rfl) ?_
  refine Hd.yv (y_gtr rfl rfl) ?_
  refine Hd.yv (y_move rfl) ?_
  apply Hd.org 4 11 15 [(0, _), (1, _)] rfl ⟨rfl, rfl, trivial⟩
  · intro hg1_11
    try simp only [decide_eq_true_eq, decide_eq_false_iff_not, Bool.and_eq_true, Bool.or_eq_true, Bool.and_eq_false_iff, Bool.or_eq_false_iff, Bool.not_eq_true', Bool.not_eq_false', Bool.not_eq_true, Bool.not_eq_false, Int.not_lt, Int.not_le, Decidable.not_not, ne_eq] at hg1_11
    simp only [List.take]
    refine Hd.ng rfl rfl rfl ?_
    refine Hd.ng rfl rfl rfl ?_
    refine Hd.ng rfl rfl rfl ?_
    first | (refine Hd.yv (y_pickT rfl rfl) ?_) | (refine Hd.yv (y_pickF rfl rfl) ?_) | (refine Hd.yv (y_pickb rfl rfl rfl) ?_) | (refine Hd.yv (y_pick rfl rfl rfl) ?_)
    refine Hd.nil ?_
    exact Hd.gend (by repeat (first | exact trivial | refine ⟨rfl, ?_⟩))
  · intro hg1_11
    try simp only [decide_eq_true_eq, decide_eq_false_iff_not, Bool.and_eq_true, Bool.or_eq_true, Bool.and_eq_false_iff, Bool.or_eq_false_iff, Bool.not_eq_true', Bool.not_eq_false', Bool.not_eq_true, Bool.not_eq_false, Int.not_lt, Int.not_le, Decidable.not_not, ne_eq] at hg1_11
    simp only [List.take]
    refine Hd.yg rfl rfl (y_move rfl) ?_
    refine Hd.yg rfl rfl (y_len Try.underlying22 rfl) ?_
    refine Hd.yg rfl rfl (y_gtr rfl rfl) ?_
    first | (refine Hd.yv (y_pickT rfl rfl) ?_) | (refine Hd.yv (y_pickF rfl rfl) ?_) | (refine Hd.yv (y_pickb rfl rfl rfl) ?_) | (refine Hd.yv (y_pick rfl rfl rfl) ?_)
    refine Hd.nil ?_
    exact Hd.gend (by repeat (first | exact trivial | refine ⟨rfl, ?_⟩))
  simp only [List.drop]
  refine Hd.nil ?_
  refine Hd.slots [(0, _), (1, _), (15, _)] ⟨rfl, rfl, rfl, trivial⟩ ?_
  refine Hd.toK hK3 ?_
  refine Hd.cond rfl (fun hc0 => ?_) (fun hc0 => ?_)
  ·
    try simp only [decide_eq_true_eq, decide_eq_false_iff_not, Bool.and_eq_true, Bool.or_eq_true, Bool.and_eq_false_iff, Bool.or_eq_false_iff, Bool.not_eq_true', Bool.not_eq_false', Bool.not_eq_true, Bool.not_eq_false, Int.not_lt, Int.not_le, Decidable.not_not, ne_eq] at hc0
    refine Hd.seq (fun K4 hK4 => ?_)
    refine Hd.region ?_
    refine Hd.yv (y_assign rfl) ?_
    refine Hd.nil ?_
    refine Hd.slots [(4, _)] ⟨rfl, trivial⟩ ?_
    refine Hd.toK hK4 ?_
    refine Hd.ret ?_
    refine Hd.thenRet ?_
    clear hK1 hK2 hK3 hK4
    exact Hd.ret1 rfl () rfl (Ent.sep (by repeat (first | exact Ent.same | exact Ent.nil | refine Ent.pick (by repeat (first | with_reducible exact Pick.here | apply Pick.there)) ?_ | refine Ent.pure (by assumption) ?_ | refine Ent.skip ?_)))
  ·
    try simp only [decide_eq_true_eq, decide_eq_false_iff_not, Bool.and_eq_true, Bool.or_eq_true, Bool.and_eq_false_iff, Bool.or_eq_false_iff, Bool.not_eq_true', Bool.not_eq_false', Bool.not_eq_true, Bool.not_eq_false, Int.not_lt, Int.not_le, Decidable.not_not, ne_eq] at hc0
    refine Hd.skip ?_
    refine Hd.toK hK2 ?_
    refine Hd.seq (fun K5 hK5 => ?_)
    refine Hd.region ?_
    refine Hd.yv (y_move rfl) ?_
    refine Hd.yv (y_move rfl) ?_
    refine Hd.call rfl fk10 (shuffle_ct _ _ _ _ _ _ _ h ho (by omega) (by omega)) ?_
    rintro ⟨a1, c1⟩
    refine Hd.yv (y_assign rfl) ?_
    refine Hd.nil ?_
    refine Hd.slots [(0, _), (1, _), (5, _)] ⟨rfl, rfl, rfl, trivial⟩ ?_
    refine Hd.toK hK5 ?_
    refine Hd.seq (fun K6 hK6 => ?_)
    refine Hd.region ?_
    refine Hd.yv (y_move rfl) ?_
    refine Hd.yv (y_len Try.underlying22 rfl) ?_
    refine Hd.yv (y_move rfl) ?_
    refine Hd.call rfl fk11 (places_ct _ _ _ _ _ (RdS.mono ho (Ent.sep (by repeat (first | exact Ent.same | exact Ent.nil | refine Ent.pick (by repeat (first | with_reducible exact Pick.here | apply Pick.there)) ?_ | refine Ent.pure (by assumption) ?_ | refine Ent.skip ?_)))) (by omega) (by omega)) ?_
    rintro ⟨a2, c2⟩
    refine Hd.yv (y_assign rfl) ?_
    refine Hd.nil ?_
    refine Hd.slots [(0, _), (5, _), (6, _)] ⟨rfl, rfl, rfl, trivial⟩ ?_
    refine Hd.toK hK6 ?_
    refine Hd.seq (fun K7 hK7 => ?_)
    refine Hd.seq (fun K8 hK8 => ?_)
    refine Hd.region ?_
    refine Hd.yv (y_move rfl) ?_
    refine Hd.yv (y_len Try.underlying22 rfl) ?_
    refine Hd.yv (y_move rfl) ?_
    refine Hd.yv (y_len Try.underlying22 rfl) ?_
    refine Hd.yv (y_neq rfl rfl) ?_
    refine Hd.nil ?_
    refine Hd.slots [(0, _), (5, _), (6, _), (27, _)] ⟨rfl, rfl, rfl, rfl, trivial⟩ ?_
    refine Hd.toK hK8 ?_
    refine Hd.cond rfl (fun hc1 => ?_) (fun hc1 => ?_)
    ·
      try simp only [decide_eq_true_eq, decide_eq_false_iff_not, Bool.and_eq_true, Bool.or_eq_true, Bool.and_eq_false_iff, Bool.or_eq_false_iff, Bool.not_eq_true', Bool.not_eq_false', Bool.not_eq_true, Bool.not_eq_false, Int.not_lt, Int.not_le, Decidable.not_not, ne_eq] at hc1
      exact absurd trivial hc1
    ·
      try simp only [decide_eq_true_eq, decide_eq_false_iff_not, Bool.and_eq_true, Bool.or_eq_true, Bool.and_eq_false_iff, Bool.or_eq_false_iff, Bool.not_eq_true', Bool.not_eq_false', Bool.not_eq_true, Bool.not_eq_false, Int.not_lt, Int.not_le, Decidable.not_not, ne_eq] at hc1
      refine Hd.skip ?_
      refine Hd.toK hK7 ?_
      refine Hd.seq (fun K9 hK9 => ?_)
      refine Hd.seq (fun K10 hK10 => ?_)
      refine Hd.region ?_
      refine Hd.yv (y_move rfl) ?_
      refine Hd.yv (y_len Try.underlying22 rfl) ?_
      refine Hd.yv (y_move rfl) ?_
      refine Hd.nil ?_
      refine Hd.slots [(0, _), (5, _), (6, _), (29, _), (30, _)] ⟨rfl, rfl, rfl, rfl, rfl, trivial⟩ ?_
      refine Hd.toK hK10 ?_
      refine Hd.block ?_
      refine Hd.loop (ι := Nat) (fun i => [(0, .slice ad xs.length c), (5, .slice a1 xs.length c1), (6, .slice a2 xs.length c2), (29, .int .i64 (xs.length : Int)), (30, .int .i64 (i : Int))])
        (fun i => pu (i ≤ xs.length) :: own 3 1 a2 xs.length c2 ((shufTo ord (List.range xs.length) xs.length).map VN) :: own 3 1 a1 xs.length c1 ((shufTo ord xs xs.length).map V) :: L) (fun i => xs.length - i) 0 ⟨rfl, rfl, rfl, rfl, rfl, trivial⟩ (Ent.sep (.pure (by omega) (by repeat (first | exact Ent.same | exact Ent.nil | refine Ent.pick (by repeat (first | with_reducible exact Pick.here | apply Pick.there)) ?_ | refine Ent.pure (by assumption) ?_ | refine Ent.skip ?_)))) ?_
      intro i
      refine Hd.pure (fun hi => ?_)
      refine Hd.seq (fun K11 hK11 => ?_)
      refine Hd.region ?_
      refine Hd.yv (y_lss rfl rfl) ?_
      refine Hd.nil ?_
      refine Hd.slots [(0, _), (5, _), (6, _), (29, _), (30, _), (31, _)] ⟨rfl, rfl, rfl, rfl, rfl, rfl, trivial⟩ ?_
      refine Hd.toK hK11 ?_
      refine Hd.seq (fun K12 hK12 => ?_)
      refine Hd.cond rfl (fun hc2 => ?_) (fun hc2 => ?_)
      ·
        try simp only [decide_eq_true_eq, decide_eq_false_iff_not, Bool.and_eq_true, Bool.or_eq_true, Bool.and_eq_false_iff, Bool.or_eq_false_iff, Bool.not_eq_true', Bool.not_eq_false', Bool.not_eq_true, Bool.not_eq_false, Int.not_lt, Int.not_le, Decidable.not_not, ne_eq] at hc2
        obtain ⟨kk, hk1, hk2, hk3⟩ := shuf_at (ord := ord) (xs := xs) (m := xs.length) (i := i) (by omega)
        obtain ⟨va, hva⟩ : ∃ va, (shufTo ord xs xs.length)[i]? = some va := ⟨_, List.getElem?_eq_getElem (by rw [shuf_len]; omega)⟩
        rw [hva] at hk3
        refine Hd.skip ?_
        refine Hd.toK hK12 ?_
        refine Hd.seq (fun K13 hK13 => ?_)
        refine Hd.block ?_
        refine Hd.seq (fun K14 hK14 => ?_)
        refine Hd.region ?_
        refine Hd.yv (y_move rfl) ?_
        refine Hd.yv (y_assign rfl) ?_
        refine Hd.nil ?_
        refine Hd.slots [(0, _), (5, _), (6, _), (7, _), (29, _), (30, _)] ⟨rfl, rfl, rfl, rfl, rfl, rfl, trivial⟩ ?_
        refine Hd.toK hK14 ?_
        refine Hd.seq (fun K15 hK15 => ?_)
        refine Hd.quiet mixed (by kernel_rfl) ?_
        refine Hq.yv (y_move rfl) ?_
        refine Hq.yv (y_move rfl) ?_
        first | (refine Hq.yv (y_idxS Try.underlying22 sz3 rfl rfl (by first | omega | decide)) ?_) | (refine Hq.yv (y_idxR Try.underlying22 sz3 rfl rfl (by first | omega | decide) (by (first | exact RdS.own (by repeat (first | with_reducible exact Pick.here | apply Pick.there)) | exact RdS.mono h (Ent.sep (by repeat (first | exact Ent.same | exact Ent.nil | refine Ent.pick (by repeat (first | with_reducible exact Pick.here | apply Pick.there)) ?_ | refine Ent.pure (by assumption) ?_ | refine Ent.skip ?_))) | exact RdS.mono ho (Ent.sep (by repeat (first | exact Ent.same | exact Ent.nil | refine Ent.pick (by repeat (first | with_reducible exact Pick.here | apply Pick.there)) ?_ | refine Ent.pure (by assumption) ?_ | refine Ent.skip ?_)))))) ?_)
        first | (refine Hq.yv (y_load1 ag3 rfl (Rd.pt1 (by repeat (first | with_reducible exact Pick.here | apply Pick.there)) (by (first | (simp [hva, hk1, hk3]; rfl) | rfl)))) ?_) | (refine Hq.yv (y_loadR1 ag3 rfl (by (first | exact RdS.own (by repeat (first | with_reducible exact Pick.here | apply Pick.there)) | exact RdS.mono h (Ent.sep (by repeat (first | exact Ent.same | exact Ent.nil | refine Ent.pick (by repeat (first | with_reducible exact Pick.here | apply Pick.there)) ?_ | refine Ent.pure (by assumption) ?_ | refine Ent.skip ?_))) | exact RdS.mono ho (Ent.sep (by repeat (first | exact Ent.same | exact Ent.nil | refine Ent.pick (by repeat (first | with_reducible exact Pick.here | apply Pick.there)) ?_ | refine Ent.pure (by assumption) ?_ | refine Ent.skip ?_))))) (by (first | (simp [hva, hk1, hk3]; rfl) | rfl))) ?_)
        refine Hq.yv (y_move rfl) ?_
        refine Hq.yv (y_move rfl) ?_
        refine Hq.yv (y_move rfl) ?_
        first | (refine Hq.yv (y_idxS Try.underlying22 sz3 rfl rfl (by first | omega | decide)) ?_) | (refine Hq.yv (y_idxR Try.underlying22 sz3 rfl rfl (by first | omega | decide) (by (first | exact RdS.own (by repeat (first | with_reducible exact Pick.here | apply Pick.there)) | exact RdS.mono h (Ent.sep (by repeat (first | exact Ent.same | exact Ent.nil | refine Ent.pick (by repeat (first | with_reducible exact Pick.here | apply Pick.there)) ?_ | refine Ent.pure (by assumption) ?_ | refine Ent.skip ?_))) | exact RdS.mono ho (Ent.sep (by repeat (first | exact Ent.same | exact Ent.nil | refine Ent.pick (by repeat (first | with_reducible exact Pick.here | apply Pick.there)) ?_ | refine Ent.pure (by assumption) ?_ | refine Ent.skip ?_)))))) ?_)
        first | (refine Hq.yv (y_load1 ag3 rfl (Rd.pt1 (by repeat (first | with_reducible exact Pick.here | apply Pick.there)) (by (first | (simp [hva, hk1, hk3]; rfl) | rfl)))) ?_) | (refine Hq.yv (y_loadR1 ag3 rfl (by (first | exact RdS.own (by repeat (first | with_reducible exact Pick.here | apply Pick.there)) | exact RdS.mono h (Ent.sep (by repeat (first | exact Ent.same | exact Ent.nil | refine Ent.pick (by repeat (first | with_reducible exact Pick.here | apply Pick.there)) ?_ | refine Ent.pure (by assumption) ?_ | refine Ent.skip ?_))) | exact RdS.mono ho (Ent.sep (by repeat (first | exact Ent.same | exact Ent.nil | refine Ent.pick (by repeat (first | with_reducible exact Pick.here | apply Pick.there)) ?_ | refine Ent.pure (by assumption) ?_ | refine Ent.skip ?_))))) (by (first | (simp [hva, hk1, hk3]; rfl) | rfl))) ?_)
        first | (refine Hq.yv (y_idxS Try.underlying22 sz3 rfl rfl (by first | omega | decide)) ?_) | (refine Hq.yv (y_idxR Try.underlying22 sz3 rfl rfl (by first | omega | decide) (by (first | exact RdS.own (by repeat (first | with_reducible exact Pick.here | apply Pick.there)) | exact RdS.mono h (Ent.sep (by repeat (first | exact Ent.same | exact Ent.nil | refine Ent.pick (by repeat (first | with_reducible exact Pick.here | apply Pick.there)) ?_ | refine Ent.pure (by assumption) ?_ | refine Ent.skip ?_))) | exact RdS.mono ho (Ent.sep (by repeat (first | exact Ent.same | exact Ent.nil | refine Ent.pick (by repeat (first | with_reducible exact Pick.here | apply Pick.there)) ?_ | refine Ent.pure (by assumption) ?_ | refine Ent.skip ?_)))))) ?_)
        first | (refine Hq.yv (y_load1 ag3 rfl (Rd.pt1 (by repeat (first | with_reducible exact Pick.here | apply Pick.there)) (by (first | (simp [hva, hk1, hk3]; rfl) | rfl)))) ?_) | (refine Hq.yv (y_loadR1 ag3 rfl (by (first | exact RdS.own (by repeat (first | with_reducible exact Pick.here | apply Pick.there)) | exact RdS.mono h (Ent.sep (by repeat (first | exact Ent.same | exact Ent.nil | refine Ent.pick (by repeat (first | with_reducible exact Pick.here | apply Pick.there)) ?_ | refine Ent.pure (by assumption) ?_ | refine Ent.skip ?_))) | exact RdS.mono ho (Ent.sep (by repeat (first | exact Ent.same | exact Ent.nil | refine Ent.pick (by repeat (first | with_reducible exact Pick.here | apply Pick.there)) ?_ | refine Ent.pure (by assumption) ?_ | refine Ent.skip ?_))))) (by (first | (simp [hva, hk1, hk3]; rfl) | rfl))) ?_)
        refine Hq.yv (y_neq rfl rfl) ?_
        refine Hq.nil ?_
        refine Hd.slots [(0, _), (5, _), (6, _), (29, _), (30, _), (44, _)] ⟨rfl, rfl, rfl, rfl, rfl, rfl, trivial⟩ ?_
        refine Hd.toK hK15 ?_
        refine Hd.cond rfl (fun hc3 => ?_) (fun hc3 => ?_)
        ·
          try simp only [decide_eq_true_eq, decide_eq_false_iff_not, Bool.and_eq_true, Bool.or_eq_true, Bool.and_eq_false_iff, Bool.or_eq_false_iff, Bool.not_eq_true', Bool.not_eq_false', Bool.not_eq_true, Bool.not_eq_false, Int.not_lt, Int.not_le, Decidable.not_not, ne_eq] at hc3
          exact absurd trivial hc3
        ·
          try simp only [decide_eq_true_eq, decide_eq_false_iff_not, Bool.and_eq_true, Bool.or_eq_true, Bool.and_eq_false_iff, Bool.or_eq_false_iff, Bool.not_eq_true', Bool.not_eq_false', Bool.not_eq_true, Bool.not_eq_false, Int.not_lt, Int.not_le, Decidable.not_not, ne_eq] at hc3
          refine Hd.skip ?_
          refine Hd.inB ?_
          refine Hd.toK hK13 ?_
          refine Hd.region ?_
          first | (refine Hd.yv (y_addn rfl rfl (by simp only [InK]; omega)) ?_) | (refine Hd.yv (y_add rfl rfl) ?_)
          refine Hd.yv (y_move rfl) ?_
          refine Hd.nil ?_
          refine Hd.slots [(0, _), (5, _), (6, _), (29, _), (30, _)] ⟨rfl, rfl, rfl, rfl, rfl, trivial⟩ ?_
          clear hK1 hK2 hK3 hK5 hK6 hK7 hK8 hK9 hK10 hK11 hK12 hK13 hK14 hK15
          refine Hd.thenN ?_
          exact Hd.again (i + 1) (by omega) ⟨rfl, rfl, rfl, rfl, rfl, trivial⟩ (Ent.sep (.pure (by omega) (by repeat (first | exact Ent.same | exact Ent.nil | refine Ent.pick (by repeat (first | with_reducible exact Pick.here | apply Pick.there)) ?_ | refine Ent.pure (by assumption) ?_ | refine Ent.skip ?_))))
      ·
        try simp only [decide_eq_true_eq, decide_eq_false_iff_not, Bool.and_eq_true, Bool.or_eq_true, Bool.and_eq_false_iff, Bool.or_eq_false_iff, Bool.not_eq_true', Bool.not_eq_false', Bool.not_eq_true, Bool.not_eq_false, Int.not_lt, Int.not_le, Decidable.not_not, ne_eq] at hc2
        refine Hd.exit ?_
        refine Hd.thenExit ?_
        refine Hd.thenExit ?_
        refine Hd.inBexit ?_
        refine Hd.toK hK9 ?_
        refine Hd.seq (fun K16 hK16 => ?_)
        refine Hd.region ?_
        refine Hd.yv (y_assign rfl) ?_
        refine Hd.nil ?_
        refine Hd.slots [(4, _)] ⟨rfl, trivial⟩ ?_
        refine Hd.toK hK16 ?_
        refine Hd.ret ?_
        clear hK1 hK2 hK3 hK5 hK6 hK7 hK8 hK9 hK10 hK11 hK12 hK16
        exact Hd.ret1 rfl () rfl (Ent.sep (by repeat (first | exact Ent.same | exact Ent.nil | refine Ent.pick (by repeat (first | with_reducible exact Pick.here | apply Pick.there)) ?_ | refine Ent.pure (by assumption) ?_ | refine Ent.skip ?_)))
end Sh
end Go.Proofs.Ytkgkfjhfedjnpaa
