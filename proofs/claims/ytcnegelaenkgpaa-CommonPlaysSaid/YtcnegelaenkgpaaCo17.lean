/-
  The document's set of deadlines: items in the order in which they came, and of each its queue: Make, find, Cut.
-/
import Derived.Test.YtcnegelaenkgpaaCo11
namespace Go.Proofs.Ytcnegelaenkgpaa
set_option linter.unusedSimpArgs false
set_option linter.unusedVariables false
set_option linter.unnecessarySimpa false
open Go.RX Fx Hp
namespace Cm
set_option maxRecDepth 8000
/-- a number's queue; -1: none -/
def qOf (id : Int) : List Q → Nat → Int
  | [], _ => -1
  | q :: t, i => if q.l.any (fun x => x.id == id) then (i : Int) else qOf id t (i + 1)
abbrev qV (qs : List Q) (x : It) : Int := qOf x.id qs 0
theorem any_rem {l : List It} {id k : Int} (h : k ≠ id) : (remI id l).any (fun x => x.id == k) = l.any (fun x => x.id == k) := by
  rw [Bool.eq_iff_iff, List.any_eq_true, List.any_eq_true]
  constructor
  · rintro ⟨x, hx, e⟩; exact ⟨x, (rem_mem.1 hx).1, e⟩
  · rintro ⟨x, hx, e⟩
    have hk : x.id = k := by simpa using e
    exact ⟨x, rem_mem.2 ⟨hx, by rw [hk]; exact h⟩, e⟩
theorem qOf_cut {id k : Int} (h : k ≠ id) : ∀ {qs : List Q} {i : Nat}, qOf k (cutQ id qs) i = qOf k qs i
  | [], _ => rfl
  | q :: t, i => by
    show (if _ then _ else qOf k (cutQ id t) (i + 1)) = (if _ then _ else _)
    rw [qOf_cut h, any_rem h]
theorem qOf_app {id : Int} {p : List Q} {i : Nat} (a : Int) : qOf id (p ++ [⟨a, []⟩]) i = qOf id p i := by
  induction p generalizing i with
  | nil => rfl
  | cons q t ih => show (if _ then _ else qOf id (t ++ _) (i + 1)) = (if _ then _ else _); rw [ih]
theorem qOf_mk {qs : List Q} {id : Int} (a : Int) : qOf id (mkS qs a) 0 = qOf id qs 0 := by
  unfold mkS; split
  · rfl
  · exact qOf_app a
theorem qOf_no {id : Int} : ∀ {qs : List Q} {i : Nat}, (∀ q ∈ qs, ∀ y ∈ q.l, y.id ≠ id) → qOf id qs i = -1
  | [], _, _ => rfl
  | q :: t, i, h => by
    show (if _ then _ else _) = _
    rw [if_neg, qOf_no fun p hp => h p (List.mem_cons_of_mem _ hp)]
    rw [Bool.not_eq_true, List.any_eq_false]
    exact fun y hy e => h q List.mem_cons_self y hy (by simpa using e)
theorem qOf_at {id : Int} : ∀ {qs : List Q} {i j : Nat} {q : Q}, qs[j]? = some q → (∃ y ∈ q.l, y.id = id) → (∀ k q', k < j → qs[k]? = some q' → ∀ y ∈ q'.l, y.id ≠ id) → qOf id qs i = ((i + j : Nat) : Int)
  | [], _, _, _, h, _, _ => by simp at h
  | p :: t, i, 0, q, h, he, _ => by
    obtain rfl : p = q := by simpa using h
    obtain ⟨y, hy, e⟩ := he
    show (if _ then _ else _) = _
    rw [if_pos (List.any_eq_true.2 ⟨y, hy, by simp [e]⟩)]; rfl
  | p :: t, i, j + 1, q, h, he, hn => by
    show (if _ then _ else _) = _
    rw [if_neg]
    · rw [qOf_at (j := j) (by simpa using h) he fun k q' hk hq => hn (k + 1) q' (by omega) (by simpa using hq)]
      congr 1; omega
    · rw [Bool.not_eq_true, List.any_eq_false]
      exact fun y hy e => hn 0 p (by omega) (by simp) y hy (by simpa using e)
theorem Ok.qOf_eq {qs : List Q} {s hs : List It} {nx : Int} {f : MF} (h : Ok qs s nx hs f) {j : Nat} {q : Q} (hj : qs[j]? = some q) {y : It} (hy : y ∈ q.l) : qOf y.id qs 0 = (j : Int) := by
  have := qOf_at (i := 0) hj ⟨y, hy, rfl⟩ fun k q' hk hq z hz e => by
    have h1 := h.fat j q hj y hy
    have h2 := h.fat k q' hq z hz
    rw [e, h1] at h2
    have := Option.some.inj h2
    simp at this; omega
  rwa [Nat.zero_add] at this
/-- a list without its item at a place: one more -/
theorem er_ne {α : Type} {l : List α} {i a : Nat} {x : α} (h : l[i]? = some x) (hn : i ≠ a) : (l.take (i + 1)).eraseIdx a = (l.take i).eraseIdx a ++ [x] := by
  have hl := (List.getElem?_eq_some_iff.1 h).1
  have ht : (l.take i).length = i := by rw [List.length_take]; omega
  rw [List.take_add_one, h, Option.toList_some]
  rcases Nat.lt_or_ge a i with h1 | h1
  · rw [List.eraseIdx_append_of_lt_length (by omega)]
  · rw [List.eraseIdx_of_length_le (by simp [ht]; omega), List.eraseIdx_of_length_le (by omega)]
theorem er_eq {α : Type} {l : List α} {i : Nat} {x : α} (h : l[i]? = some x) : (l.take (i + 1)).eraseIdx i = (l.take i).eraseIdx i := by
  have hl := (List.getElem?_eq_some_iff.1 h).1
  have ht : (l.take i).length = i := by rw [List.length_take]; omega
  rw [List.take_add_one, h, Option.toList_some, List.eraseIdx_append_of_length_le (by omega), ht, Nat.sub_self]
  rw [List.eraseIdx_of_length_le (l := l.take i) (by omega)]; simp
abbrev eI (l : List Int) : List Value := l.map fun y => .int .i64 y
abbrev eU (l : List Int) : List Value := l.map fun y => .int .u64 y
structure RI where
  a1 : Option Addr
  c1 : Nat
  a2 : Option Addr
  c2 : Nat
  a3 : Option Addr
  c3 : Nat
abbrev RcH (b n1 n2 n3 : Nat) (r : RI) (nx : Int) : SP := pt b [.slice r.a1 n1 r.c1, .slice r.a2 n2 r.c2, .slice r.a3 n3 r.c3, .int .u64 nx] 69
abbrev ownQ (a : Option Addr) (n c : Nat) (q : List Int) : SP := own 3 1 a n c (eI q)
abbrev ownC (a : Option Addr) (n c : Nat) (q : List Int) : SP := own 29 1 a n c (eU q)
/-- the reference's set in block b -/
abbrev RcL (b : Nat) (l : List It) (q cm : List Int) (nx : Int) (r : RI) (L : List SP) : List SP := RcH b l.length q.length cm.length r nx :: OwI r.a1 l.length r.c1 l :: ownQ r.a2 q.length r.c2 q :: ownC r.a3 cm.length r.c3 cm :: L
/-- it has these queues and items, too -/
structure Rel (qs : List Q) (s l : List It) (q cm : List Int) : Prop where
  perm : l.Perm s
  q : q = l.map (qV qs)
  cm : cm = qs.map Q.af
structure RJ where
  r : RI
  l : List It
  q : List Int
  cm : List Int
def RR (b : Nat) (qs : List Q) (s : List It) (nx : Int) : SP := RX.ex fun c : RJ => pu (Rel qs s c.l c.q c.cm) :: RcL b c.l c.q c.cm nx c.r []
theorem RR_eq {b : Nat} {qs qs' : List Q} {s s' : List It} {nx : Int} (h1 : qs = qs') (h2 : s = s') : RR b qs s nx = RR b qs' s' nx := by rw [h1, h2]
theorem int_one {l : List Int} {k : IntKind} : ∀ u ∈ l.map (fun y => Value.int k y), u.oneCell' = true := by simp [Value.oneCell']
theorem int_at {l : List Int} {k : IntKind} {i : Nat} {a : Int} (h : l[i]? = some a) : (l.map fun y => Value.int k y)[i * 1]? = some (.int k a) := by rw [Nat.mul_one, List.getElem?_map, h]; rfl
set_option maxHeartbeats 2000000 in
theorem rmake_ct (L : List SP) (b : Nat) (qs : List Q) (s : List It) (nx : Int) (hq : qs.length ≤ 32) (a : Int) : Ct Try.prog 50 #[.pointer (some ⟨b, 0, none⟩), .int .u64 a] (RR b qs s nx :: L) (fun _ : Unit => .int .i64 (mkV qs a)) (fun _ : Unit => RR b (mkS qs a) s nx :: L) := by
  refine Ct.of (vs := [.pointer (some ⟨b, 0, none⟩), .int .u64 a]) Try.func50 rfl rfl [(0, .pointer (some ⟨b, 0, none⟩)), (1, .int .u64 a)] (by repeat (first | exact trivial | refine ⟨rfl, ?_⟩)) ?_
  intro E
  show Hd E 44 _ _ _ _
  refine Hd.exs .here ?_
  rintro ⟨r, l, q, cm⟩
  simp only [List.cons_append, List.nil_append]
  refine Hd.pure (fun hr => ?_)
  have hcl : cm.length = qs.length := by rw [hr.cm, List.length_map]
  refine Hd.seq (fun K1 hK1 => ?_)
  refine Hd.region ?_
  refine Hd.yv (y_assign rfl) ?_
  refine Hd.nil ?_
  refine Hd.slots [(0, _), (1, _)] ⟨rfl, rfl, trivial⟩ ?_
  refine Hd.toK hK1 ?_
  refine Hd.seq (fun K2 hK2 => ?_)
  refine Hd.seq (fun K3 hK3 => ?_)
  refine Hd.region ?_
  refine Hd.yv (y_move rfl) ?_
  first | (refine Hd.yv (y_eqlT rfl rfl) ?_) | (refine Hd.yv (y_eql rfl rfl) ?_)
  refine Hd.yv (y_move rfl) ?_
  apply Hd.org 7 8 15 [(0, _), (1, _)] rfl ⟨rfl, rfl, trivial⟩
  · intro hg1_8
    try simp only [decide_eq_true_eq, decide_eq_false_iff_not, Bool.and_eq_true, Bool.or_eq_true, Bool.and_eq_false_iff, Bool.or_eq_false_iff, Bool.not_eq_true', Bool.not_eq_false', Bool.not_eq_true, Bool.not_eq_false, Int.not_lt, Int.not_le, Decidable.not_not, ne_eq] at hg1_8
    simp only [List.take]
    refine Hd.ng rfl rfl rfl ?_
    refine Hd.ng rfl rfl rfl ?_
    refine Hd.ng rfl rfl rfl ?_
    refine Hd.ng rfl rfl rfl ?_
    refine Hd.ng rfl rfl rfl ?_
    refine Hd.ng rfl rfl rfl ?_
    first | (refine Hd.yv (y_pickT rfl rfl) ?_) | (refine Hd.yv (y_pickF rfl rfl) ?_) | (refine Hd.yv (y_pickb rfl rfl rfl) ?_) | (refine Hd.yv (y_pick rfl rfl rfl) ?_)
    refine Hd.nil ?_
    exact Hd.mend (by repeat (first | exact trivial | refine ⟨rfl, ?_⟩)) (Ent.sep enn)
  · intro hg1_8
    try simp only [decide_eq_true_eq, decide_eq_false_iff_not, Bool.and_eq_true, Bool.or_eq_true, Bool.and_eq_false_iff, Bool.or_eq_false_iff, Bool.not_eq_true', Bool.not_eq_false', Bool.not_eq_true, Bool.not_eq_false, Int.not_lt, Int.not_le, Decidable.not_not, ne_eq] at hg1_8
    simp only [List.take]
    refine Hd.yg rfl rfl (y_move rfl) ?_
    refine Hd.yg rfl rfl (y_nilp rfl) ?_
    first | (refine Hd.yg rfl rfl (y_field' (q := 2) (ft := 58) Try.underlying69 rfl sz58 rfl rfl) ?_) | (refine Hd.yg rfl rfl (y_fieldR (q := 2) (ft := 58) Try.underlying69 rfl sz58 rfl rfl) ?_)
    first | (refine Hd.yg rfl rfl (y_load1 ag58 rfl (Rd.pt1 pkk (by (first | exact int_at hgi | rfl)))) ?_) | (refine Hd.yg rfl rfl (y_load1 ag58 rfl (Rd.seg1 pkk (by (first | exact int_at hgi | rfl)))) ?_) | (refine Hd.yg rfl rfl (y_loadR1 ag58 rfl (by (first | exact RdS.own pkk)) (by (first | exact int_at hgi | rfl))) ?_)
    refine Hd.yg rfl rfl (y_len Try.underlying58 rfl) ?_
    refine Hd.yg rfl rfl (y_geq rfl rfl) ?_
    first | (refine Hd.yv (y_pickT rfl rfl) ?_) | (refine Hd.yv (y_pickF rfl rfl) ?_) | (refine Hd.yv (y_pickb rfl rfl rfl) ?_) | (refine Hd.yv (y_pick rfl rfl rfl) ?_)
    refine Hd.nil ?_
    exact Hd.mend (by repeat (first | exact trivial | refine ⟨rfl, ?_⟩)) (Ent.sep enn)
  simp only [List.drop]
  refine Hd.nil ?_
  refine Hd.slots [(0, _), (1, _), (15, _)] ⟨rfl, rfl, rfl, trivial⟩ ?_
  refine Hd.toK hK3 ?_
  refine Hd.cond rfl (fun hc0 => ?_) (fun hc0 => ?_)
  ·
    try simp only [decide_eq_true_eq, decide_eq_false_iff_not, Bool.and_eq_true, Bool.or_eq_true, Bool.and_eq_false_iff, Bool.or_eq_false_iff, Bool.not_eq_true', Bool.not_eq_false', Bool.not_eq_true, Bool.not_eq_false, Int.not_lt, Int.not_le, Decidable.not_not, ne_eq] at hc0
    refine Hd.seq (fun K4 hK4 => ?_)
    refine Hd.region ?_
    refine Hd.yv (y_assign rfl) ?_
    refine Hd.nil ?_
    refine Hd.slots [(4, _)] ⟨rfl, trivial⟩ ?_
    refine Hd.toK hK4 ?_
    refine Hd.ret ?_
    refine Hd.thenRet ?_
    clear hK1 hK2 hK3 hK4
    have hno : noMk qs a = true := by unfold noMk; simp only [Bool.or_eq_true, decide_eq_true_eq]; omega
    rw [show mkS qs a = qs by unfold mkS; rw [if_pos hno], show mkV qs a = 90 by unfold mkV; rw [if_pos hno]]
    exact Hd.ret1 rfl () rfl (Ent.sep (.ex ⟨r, l, q, cm⟩ (.pure hr enn)))
  ·
    try simp only [decide_eq_true_eq, decide_eq_false_iff_not, Bool.and_eq_true, Bool.or_eq_true, Bool.and_eq_false_iff, Bool.or_eq_false_iff, Bool.not_eq_true', Bool.not_eq_false', Bool.not_eq_true, Bool.not_eq_false, Int.not_lt, Int.not_le, Decidable.not_not, ne_eq] at hc0
    refine Hd.skip ?_
    refine Hd.toK hK2 ?_
    refine Hd.seq (fun K5 hK5 => ?_)
    refine Hd.seq (fun K6 hK6 => ?_)
    refine Hd.region ?_
    refine Hd.yv (y_assign rfl) ?_
    refine Hd.nil ?_
    refine Hd.slots [(0, _), (1, _), (5, _)] ⟨rfl, rfl, rfl, trivial⟩ ?_
    refine Hd.toK hK6 ?_
    refine Hd.block ?_
    refine Hd.loopK (ι := Nat) [(0, _), (1, _)] (fun i => [(5, .int .i64 (i : Int))]) (fun i => pu (i ≤ cm.length ∧ a ∉ cm.take i) :: RcL b l q cm nx r L) (fun i => cm.length - i) 0 (by repeat (first | exact trivial | refine ⟨rfl, ?_⟩)) (by repeat (first | exact trivial | refine ⟨rfl, ?_⟩)) (Ent.sep (.pure ⟨Nat.zero_le _, by simp⟩ enn)) ?_
    intro i
    try dsimp only
    refine Hd.pure (fun hp0 => ?_)
    try dsimp only at hp0
    refine Hd.seq (fun K7 hK7 => ?_)
    refine Hd.seq (fun K8 hK8 => ?_)
    refine Hd.region ?_
    refine Hd.yv (y_move rfl) ?_
    refine Hd.yv (y_move rfl) ?_
    refine Hd.yv (y_nilp rfl) ?_
    first | (refine Hd.yv (y_field' (q := 2) (ft := 58) Try.underlying69 rfl sz58 rfl rfl) ?_) | (refine Hd.yv (y_fieldR (q := 2) (ft := 58) Try.underlying69 rfl sz58 rfl rfl) ?_)
    first | (refine Hd.yv (y_load1 ag58 rfl (Rd.pt1 pkk (by (first | exact int_at hgi | rfl)))) ?_) | (refine Hd.yv (y_load1 ag58 rfl (Rd.seg1 pkk (by (first | exact int_at hgi | rfl)))) ?_) | (refine Hd.yv (y_loadR1 ag58 rfl (by (first | exact RdS.own pkk)) (by (first | exact int_at hgi | rfl))) ?_)
    refine Hd.yv (y_len Try.underlying58 rfl) ?_
    refine Hd.yv (y_lss rfl rfl) ?_
    refine Hd.nil ?_
    refine Hd.slots [(0, _), (1, _), (5, _), (22, _)] ⟨rfl, rfl, rfl, rfl, trivial⟩ ?_
    refine Hd.toK hK8 ?_
    refine Hd.cond rfl (fun hc1 => ?_) (fun hc1 => ?_)
    ·
      try simp only [decide_eq_true_eq, decide_eq_false_iff_not, Bool.and_eq_true, Bool.or_eq_true, Bool.and_eq_false_iff, Bool.or_eq_false_iff, Bool.not_eq_true', Bool.not_eq_false', Bool.not_eq_true, Bool.not_eq_false, Int.not_lt, Int.not_le, Decidable.not_not, ne_eq] at hc1
      have hi : i < cm.length := by omega
      have hgi : cm[i]? = some cm[i] := List.getElem?_eq_getElem hi
      refine Hd.skip ?_
      refine Hd.toK hK7 ?_
      refine Hd.seq (fun K9 hK9 => ?_)
      refine Hd.block ?_
      refine Hd.seq (fun K10 hK10 => ?_)
      refine Hd.region ?_
      refine Hd.yv (y_move rfl) ?_
      refine Hd.yv (y_nilp rfl) ?_
      first | (refine Hd.yv (y_field' (q := 2) (ft := 58) Try.underlying69 rfl sz58 rfl rfl) ?_) | (refine Hd.yv (y_fieldR (q := 2) (ft := 58) Try.underlying69 rfl sz58 rfl rfl) ?_)
      first | (refine Hd.yv (y_load1 ag58 rfl (Rd.pt1 pkk (by (first | exact int_at hgi | rfl)))) ?_) | (refine Hd.yv (y_load1 ag58 rfl (Rd.seg1 pkk (by (first | exact int_at hgi | rfl)))) ?_) | (refine Hd.yv (y_loadR1 ag58 rfl (by (first | exact RdS.own pkk)) (by (first | exact int_at hgi | rfl))) ?_)
      refine Hd.yv (y_move rfl) ?_
      first | (refine Hd.yv (y_idxS Try.underlying58 sz29 rfl rfl (by first | omega | decide)) ?_) | (refine Hd.yv (y_idxR Try.underlying58 sz29 rfl rfl (by first | omega | decide) (by (first | exact RdS.own pkk))) ?_)
      first | (refine Hd.yv (y_load1 ag29 rfl (Rd.pt1 pkk (by (first | exact int_at hgi | rfl)))) ?_) | (refine Hd.yv (y_load1 ag29 rfl (Rd.seg1 pkk (by (first | exact int_at hgi | rfl)))) ?_) | (refine Hd.yv (y_loadR1 ag29 rfl (by (first | exact RdS.own pkk)) (by (first | exact int_at hgi | rfl))) ?_)
      refine Hd.yv (y_move rfl) ?_
      first | (refine Hd.yv (y_eqlT rfl rfl) ?_) | (refine Hd.yv (y_eql rfl rfl) ?_)
      refine Hd.nil ?_
      refine Hd.slots [(0, _), (1, _), (5, _), (33, _)] ⟨rfl, rfl, rfl, rfl, trivial⟩ ?_
      refine Hd.toK hK10 ?_
      refine Hd.cond rfl (fun hc2 => ?_) (fun hc2 => ?_)
      ·
        try simp only [decide_eq_true_eq, decide_eq_false_iff_not, Bool.and_eq_true, Bool.or_eq_true, Bool.and_eq_false_iff, Bool.or_eq_false_iff, Bool.not_eq_true', Bool.not_eq_false', Bool.not_eq_true, Bool.not_eq_false, Int.not_lt, Int.not_le, Decidable.not_not, ne_eq] at hc2
        refine Hd.seq (fun K11 hK11 => ?_)
        refine Hd.region ?_
        refine Hd.yv (y_assign rfl) ?_
        refine Hd.nil ?_
        refine Hd.slots [(4, _)] ⟨rfl, trivial⟩ ?_
        refine Hd.toK hK11 ?_
        refine Hd.ret ?_
        refine Hd.inBret ?_
        refine Hd.thenRet ?_
        refine Hd.thenRet ?_
        refine Hd.inBret ?_
        refine Hd.thenRet ?_
        clear hK1 hK2 hK3 hK5 hK6 hK7 hK8 hK9 hK10 hK11
        have hno : noMk qs a = true := by
          unfold noMk; simp only [Bool.or_eq_true, decide_eq_true_eq]
          right; rw [← hr.cm, ← hc2]; exact List.getElem_mem hi
        rw [show mkS qs a = qs by unfold mkS; rw [if_pos hno], show mkV qs a = 90 by unfold mkV; rw [if_pos hno]]
        exact Hd.ret1 rfl () rfl (Ent.sep (.ex ⟨r, l, q, cm⟩ (.pure hr enn)))
      ·
        try simp only [decide_eq_true_eq, decide_eq_false_iff_not, Bool.and_eq_true, Bool.or_eq_true, Bool.and_eq_false_iff, Bool.or_eq_false_iff, Bool.not_eq_true', Bool.not_eq_false', Bool.not_eq_true, Bool.not_eq_false, Int.not_lt, Int.not_le, Decidable.not_not, ne_eq] at hc2
        refine Hd.skip ?_
        refine Hd.inB ?_
        refine Hd.toK hK9 ?_
        refine Hd.region ?_
        refine Hd.yv (y_move rfl) ?_
        first | (refine Hd.yv (y_addn rfl rfl (by simp only [InK]; omega)) ?_) | (refine Hd.yv (y_add rfl rfl) ?_)
        refine Hd.yv (y_assign rfl) ?_
        refine Hd.nil ?_
        refine Hd.slots [(0, _), (1, _), (5, _)] ⟨rfl, rfl, rfl, trivial⟩ ?_
        clear hK1 hK2 hK3 hK5 hK6 hK7 hK8 hK9 hK10
        refine Hd.thenN ?_
        exact Hd.again (i + 1) (by first | omega | (simp only; omega) | (simp; omega)) (by repeat (first | exact trivial | refine ⟨rfl, ?_⟩)) (Ent.sep (.pure ⟨hi, by rw [List.take_add_one, hgi]; simp only [Option.toList_some, List.mem_append, not_or]; exact ⟨hp0.2, by simpa using fun e => hc2 e.symm⟩⟩ enn))
    ·
      try simp only [decide_eq_true_eq, decide_eq_false_iff_not, Bool.and_eq_true, Bool.or_eq_true, Bool.and_eq_false_iff, Bool.or_eq_false_iff, Bool.not_eq_true', Bool.not_eq_false', Bool.not_eq_true, Bool.not_eq_false, Int.not_lt, Int.not_le, Decidable.not_not, ne_eq] at hc1
      have hno : noMk qs a = false := by
        unfold noMk; simp only [Bool.or_eq_false_iff, decide_eq_false_iff_not]
        have hp := hp0.2
        rw [List.take_of_length_le (by omega), hr.cm] at hp
        exact ⟨⟨by omega, by omega⟩, hp⟩
      refine Hd.exit ?_
      refine Hd.thenExit ?_
      refine Hd.thenExit ?_
      refine Hd.inBexit ?_
      refine Hd.toK hK5 ?_
      refine Hd.seq (fun K12 hK12 => ?_)
      refine Hd.region ?_
      refine Hd.yv (y_move rfl) ?_
      refine Hd.yv (y_move rfl) ?_
      refine Hd.yv (y_nilp rfl) ?_
      first | (refine Hd.yv (y_field' (q := 2) (ft := 58) Try.underlying69 rfl sz58 rfl rfl) ?_) | (refine Hd.yv (y_fieldR (q := 2) (ft := 58) Try.underlying69 rfl sz58 rfl rfl) ?_)
      first | (refine Hd.yv (y_load1 ag58 rfl (Rd.pt1 pkk (by (first | exact int_at hgi | rfl)))) ?_) | (refine Hd.yv (y_load1 ag58 rfl (Rd.seg1 pkk (by (first | exact int_at hgi | rfl)))) ?_) | (refine Hd.yv (y_loadR1 ag58 rfl (by (first | exact RdS.own pkk)) (by (first | exact int_at hgi | rfl))) ?_)
      refine Hd.yv (y_move rfl) ?_
      refine Hd.bslice (vs := [(0, _)]) rfl (by first | exact bs50_40 .. | kernel_rfl) (fun b40 => ?_)
      refine Hd.append Try.underlying58 ty29 rfl rfl rfl pkk (by first | exact RdS.rd (Rd.pt pkk (fun j v e => by simpa using e)) rfl | (first | exact RdS.own pkk)) (by first | (simp [Value.oneCell']; done) | assumption) (by first | (simp only [maxLen]; omega) | assumption) (by omega) (fun ad41 cap41 => ?_)
      refine Hd.yv (y_nilp rfl) ?_
      first | (refine Hd.yv (y_field' (q := 2) (ft := 58) Try.underlying69 rfl sz58 rfl rfl) ?_) | (refine Hd.yv (y_fieldR (q := 2) (ft := 58) Try.underlying69 rfl sz58 rfl rfl) ?_)
      first | (refine Hd.store1 sz58 rfl rfl rfl pkk (by first | decide | (simp; done) | (simp; omega)) ?_) | (refine Hd.storeG1 sz58 rfl rfl rfl pkk (by first | decide | (simp; done) | (simp; omega)) ?_) | (refine Hd.storeO1 sz58 rfl rfl rfl pkk (by first | omega | (simp; done) | (simp; omega)) ?_)
      try simp only [List.set_cons_zero, List.set_cons_succ]
      refine Hd.nil ?_
      refine Hd.slots [] trivial ?_
      refine Hd.toK hK12 ?_
      refine Hd.seq (fun K13 hK13 => ?_)
      refine Hd.region ?_
      refine Hd.yv (y_assign rfl) ?_
      refine Hd.nil ?_
      refine Hd.slots [(4, _)] ⟨rfl, trivial⟩ ?_
      refine Hd.toK hK13 ?_
      refine Hd.ret ?_
      clear hK1 hK2 hK3 hK5 hK6 hK7 hK8 hK12 hK13
      rw [show mkS qs a = qs ++ [⟨a, []⟩] by unfold mkS; rw [if_neg (by rw [hno]; simp)], show mkV qs a = 0 by unfold mkV; rw [if_neg (by rw [hno]; simp)]]
      have hcl2 : (cm ++ [a]).length = cm.length + 1 := by simp
      exact Hd.ret1 rfl () rfl (Ent.sep (.ex ⟨{ r with a3 := ad41, c3 := cap41 }, l, q, cm ++ [a]⟩ (.pure ⟨hr.perm, by rw [hr.q]; exact List.map_congr_left fun x _ => (qOf_app a).symm, by rw [hr.cm, List.map_append]; rfl⟩ (.eq pkk (pt_eq (by rw [hcl2])) (.pick pkk (.pick pkk (.eq pkk (own_eq3 hcl2.symm rfl (show eU cm ++ [Value.int .u64 a] = eU (cm ++ [a]) by simp [eU])) enn)))))))
end Cm
end Go.Proofs.Ytcnegelaenkgpaa
