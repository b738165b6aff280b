/-
  The document's timers: the calls' contracts, in the same plain words.
-/
import Derived.Test.YtdjoofidicoimaaTi11
namespace Go.Proofs.Ytdjoofidicoimaa
set_option linter.unusedSimpArgs false
set_option linter.unusedVariables false
set_option linter.unnecessarySimpa false
open Go.RX Fx Hp Cm
namespace Tm
set_option maxRecDepth 8000
abbrev OwT (ad : Option Addr) (n cap : Nat) (l : List On) : SP := own 61 5 ad n cap (l.flatMap encT)
abbrev TrH (b n : Nat) (r : Option Addr × Nat) (nx lim : Int) : SP := pt b [.slice r.1 n r.2, .int .i64 nx, .int .u64 lim] 58
abbrev TrL (b : Nat) (l : List On) (nx lim : Int) (r : Option Addr × Nat) (L : List SP) : List SP := TrH b l.length r nx lim :: OwT r.1 l.length r.2 l :: L
structure TrOk (s : List It) (af : AF) (nx : Int) (l : List On) : Prop where
  rel : RelT s af l
  len : (l.length : Int) ≤ nx
  nx : nx ≤ 1000
/-- the document's timers in block b -/
def TrA (b : Nat) (s : List It) (nx : Int) (af : AF) (lim : Int) : SP := RX.ex fun c : (Option Addr × Nat) × List On => pu (TrOk s af nx c.2) :: TrL b c.2 nx lim c.1 []
theorem TrOk.nil : TrOk [] (fun _ => none) 0 [] := ⟨RelT.nil, by simp, by omega⟩
set_option maxHeartbeats 2000000 in
theorem rtnew_ct (L : List SP) : Ct Try.prog 24 #[] (L) (fun b : Nat => .pointer (some ⟨b, 0, none⟩)) (fun b : Nat => TrA b [] 0 (fun _ => none) NV :: L) := by
  refine Ct.of (vs := []) Try.func24 rfl rfl [] (by repeat (first | exact trivial | refine ⟨rfl, ?_⟩)) ?_
  intro E
  show Hd E 3 _ _ _ _
  refine Hd.seq (fun K1 hK1 => ?_)
  refine Hd.region ?_
  refine Hd.yv (y_assign rfl) ?_
  refine Hd.nil ?_
  refine Hd.slots [] trivial ?_
  refine Hd.toK hK1 ?_
  refine Hd.seq (fun K2 hK2 => ?_)
  refine Hd.region ?_
  refine Hd.yv (y_build (vs := [(2, _)]) rfl (by first | exact bd24_1 .. | kernel_rfl)) ?_
  refine Hd.box rfl rfl (fun b2 => ?_)
  refine Hd.yv (y_assign rfl) ?_
  refine Hd.nil ?_
  refine Hd.slots [(0, _)] ⟨rfl, trivial⟩ ?_
  refine Hd.toK hK2 ?_
  refine Hd.ret ?_
  clear hK1 hK2
  exact Hd.ret1 rfl _ rfl (Ent.sep (.ex ((none, 0), []) (.pure TrOk.nil (.eq pkk (pt_eq (by rfl)) (.ownNil enn)))))
set_option maxHeartbeats 2000000 in
theorem rtfind_ct (L : List SP) (b : Nat) (l : List On) (nx lim : Int) (r : Option Addr × Nat) (hl : l.length ≤ 1000000) (id : Int) : Ct Try.prog 31 #[.pointer (some ⟨b, 0, none⟩), .int .i64 id] (TrL b l nx lim r L) (fun _ : Unit => .int .i64 (idxA id (l.map On.id) 0)) (fun _ : Unit => TrL b l nx lim r L) := by
  refine Ct.of (vs := [.pointer (some ⟨b, 0, none⟩), .int .i64 id]) Try.func31 rfl rfl [(0, .pointer (some ⟨b, 0, none⟩)), (1, .int .i64 id)] (by repeat (first | exact trivial | refine ⟨rfl, ?_⟩)) ?_
  intro E
  show Hd E 26 _ _ _ _
  refine Hd.seq (fun K1 hK1 => ?_)
  refine Hd.region ?_
  refine Hd.yv (y_assign rfl) ?_
  refine Hd.nil ?_
  refine Hd.slots [(0, _), (1, _)] ⟨rfl, rfl, trivial⟩ ?_
  refine Hd.toK hK1 ?_
  refine Hd.seq (fun K2 hK2 => ?_)
  refine Hd.seq (fun K3 hK3 => ?_)
  refine Hd.region ?_
  refine Hd.yv (y_assign rfl) ?_
  refine Hd.nil ?_
  refine Hd.slots [(0, _), (1, _), (5, _)] ⟨rfl, rfl, rfl, trivial⟩ ?_
  refine Hd.toK hK3 ?_
  refine Hd.block ?_
  refine Hd.loopK (ι := Nat) [(0, _), (1, _)] (fun i => [(5, .int .i64 (i : Int))]) (fun i => pu (i ≤ l.length ∧ id ∉ (l.take i).map On.id) :: TrL b l nx lim r L) (fun i => l.length - i) 0 (by repeat (first | exact trivial | refine ⟨rfl, ?_⟩)) (by repeat (first | exact trivial | refine ⟨rfl, ?_⟩)) (Ent.sep (.pure ⟨Nat.zero_le _, by simp⟩ enn)) ?_
  intro i
  try dsimp only
  refine Hd.pure (fun hp0 => ?_)
  try dsimp only at hp0
  refine Hd.seq (fun K4 hK4 => ?_)
  refine Hd.seq (fun K5 hK5 => ?_)
  refine Hd.region ?_
  refine Hd.yv (y_move rfl) ?_
  refine Hd.yv (y_move rfl) ?_
  refine Hd.yv (y_nilp rfl) ?_
  first | (refine Hd.yv (y_field' (q := 0) (ft := 56) Try.underlying58 rfl sz56 rfl rfl) ?_) | (refine Hd.yv (y_fieldR (q := 0) (ft := 56) Try.underlying58 rfl sz56 rfl rfl) ?_)
  first | (refine Hd.yv (y_load1 ag56 rfl (Rd.pt1 pkk (by (first | rfl)))) ?_) | (refine Hd.yv (y_load1 ag56 rfl (Rd.seg1 pkk (by (first | rfl)))) ?_) | (refine Hd.yv (y_loadR1 ag56 rfl (by (first | exact RdS.own pkk)) (by (first | rfl))) ?_)
  refine Hd.yv (y_len Try.underlying56 rfl) ?_
  refine Hd.yv (y_lss rfl rfl) ?_
  refine Hd.nil ?_
  refine Hd.slots [(0, _), (1, _), (5, _), (12, _)] ⟨rfl, rfl, rfl, rfl, trivial⟩ ?_
  refine Hd.toK hK5 ?_
  refine Hd.cond rfl (fun hc0 => ?_) (fun hc0 => ?_)
  ·
    try simp only [decide_eq_true_eq, decide_eq_false_iff_not, Bool.and_eq_true, Bool.or_eq_true, Bool.and_eq_false_iff, Bool.or_eq_false_iff, Bool.not_eq_true', Bool.not_eq_false', Bool.not_eq_true, Bool.not_eq_false, Int.not_lt, Int.not_le, Decidable.not_not, ne_eq] at hc0
    have hi : i < l.length := by omega
    have hgi : l[i]? = some (gO l i) := gO_at hi
    refine Hd.skip ?_
    refine Hd.toK hK4 ?_
    refine Hd.seq (fun K6 hK6 => ?_)
    refine Hd.block ?_
    refine Hd.seq (fun K7 hK7 => ?_)
    refine Hd.region ?_
    refine Hd.yv (y_move rfl) ?_
    refine Hd.yv (y_nilp rfl) ?_
    first | (refine Hd.yv (y_field' (q := 0) (ft := 56) Try.underlying58 rfl sz56 rfl rfl) ?_) | (refine Hd.yv (y_fieldR (q := 0) (ft := 56) Try.underlying58 rfl sz56 rfl rfl) ?_)
    first | (refine Hd.yv (y_load1 ag56 rfl (Rd.pt1 pkk (by (first | rfl)))) ?_) | (refine Hd.yv (y_load1 ag56 rfl (Rd.seg1 pkk (by (first | rfl)))) ?_) | (refine Hd.yv (y_loadR1 ag56 rfl (by (first | exact RdS.own pkk)) (by (first | rfl))) ?_)
    refine Hd.yv (y_move rfl) ?_
    first | (refine Hd.yv (y_idxS Try.underlying56 sz61 rfl rfl (by first | omega | decide)) ?_) | (refine Hd.yv (y_idxR Try.underlying56 sz61 rfl rfl (by first | omega | decide) (by (first | exact RdS.own pkk))) ?_)
    first | (refine Hd.yv (y_field' (q := 0) (ft := 3) Try.underlying61 rfl sz3 rfl rfl) ?_) | (refine Hd.yv (y_fieldR (q := 0) (ft := 3) Try.underlying61 rfl sz3 rfl rfl) ?_)
    refine Hd.yv (y_loadR1 ag3 rfl (RdS.own (ad := r.1) (us := l.flatMap encT) pkk) (flat_cells encT 5 (fun _ => rfl) hgi 0 _ rfl)) ?_
    refine Hd.yv (y_move rfl) ?_
    first | (refine Hd.yv (y_eqlT rfl rfl) ?_) | (refine Hd.yv (y_eql rfl rfl) ?_)
    refine Hd.nil ?_
    refine Hd.slots [(0, _), (1, _), (5, _), (24, _)] ⟨rfl, rfl, rfl, rfl, trivial⟩ ?_
    refine Hd.toK hK7 ?_
    refine Hd.cond rfl (fun hc1 => ?_) (fun hc1 => ?_)
    ·
      try simp only [decide_eq_true_eq, decide_eq_false_iff_not, Bool.and_eq_true, Bool.or_eq_true, Bool.and_eq_false_iff, Bool.or_eq_false_iff, Bool.not_eq_true', Bool.not_eq_false', Bool.not_eq_true, Bool.not_eq_false, Int.not_lt, Int.not_le, Decidable.not_not, ne_eq] at hc1
      refine Hd.seq (fun K8 hK8 => ?_)
      refine Hd.region ?_
      refine Hd.yv (y_move rfl) ?_
      refine Hd.yv (y_assign rfl) ?_
      refine Hd.nil ?_
      refine Hd.slots [(4, _)] ⟨rfl, trivial⟩ ?_
      refine Hd.toK hK8 ?_
      refine Hd.ret ?_
      refine Hd.inBret ?_
      refine Hd.thenRet ?_
      refine Hd.thenRet ?_
      refine Hd.inBret ?_
      refine Hd.thenRet ?_
      clear hK1 hK2 hK3 hK4 hK5 hK6 hK7 hK8
      have e : l.map On.id = (l.take i).map On.id ++ id :: (l.drop (i + 1)).map On.id := by
        conv => lhs; rw [← List.take_append_drop i l]
        have h2 : l.drop i = gO l i :: l.drop (i + 1) := by
          obtain ⟨h, e⟩ := List.getElem?_eq_some_iff.1 hgi
          rw [List.drop_eq_getElem_cons h, e]
        rw [h2, List.map_append, List.map_cons, hc1]
      have hlt : ((l.take i).map On.id).length = i := by simp; omega
      exact Hd.ret1 rfl () (by rw [e, idxA_at hp0.2, hlt, Nat.zero_add]; rfl) (Ent.sep enn)
    ·
      try simp only [decide_eq_true_eq, decide_eq_false_iff_not, Bool.and_eq_true, Bool.or_eq_true, Bool.and_eq_false_iff, Bool.or_eq_false_iff, Bool.not_eq_true', Bool.not_eq_false', Bool.not_eq_true, Bool.not_eq_false, Int.not_lt, Int.not_le, Decidable.not_not, ne_eq] at hc1
      refine Hd.skip ?_
      refine Hd.inB ?_
      refine Hd.toK hK6 ?_
      refine Hd.region ?_
      refine Hd.yv (y_move rfl) ?_
      first | (refine Hd.yv (y_addn rfl rfl (by simp only [InK]; omega)) ?_) | (refine Hd.yv (y_add rfl rfl) ?_)
      refine Hd.yv (y_assign rfl) ?_
      refine Hd.nil ?_
      refine Hd.slots [(0, _), (1, _), (5, _)] ⟨rfl, rfl, rfl, trivial⟩ ?_
      clear hK1 hK2 hK3 hK4 hK5 hK6 hK7
      refine Hd.thenN ?_
      exact Hd.again (i + 1) (by first | omega | (simp only; omega) | (simp; omega)) (by repeat (first | exact trivial | refine ⟨rfl, ?_⟩)) (Ent.sep (.pure ⟨hi, by rw [List.take_add_one, hgi]; simp only [Option.toList_some, List.map_append, List.mem_append, not_or]; exact ⟨hp0.2, by simpa using fun e => hc1 e.symm⟩⟩ enn))
  ·
    try simp only [decide_eq_true_eq, decide_eq_false_iff_not, Bool.and_eq_true, Bool.or_eq_true, Bool.and_eq_false_iff, Bool.or_eq_false_iff, Bool.not_eq_true', Bool.not_eq_false', Bool.not_eq_true, Bool.not_eq_false, Int.not_lt, Int.not_le, Decidable.not_not, ne_eq] at hc0
    have hno : id ∉ l.map On.id := by have h := hp0.2; rwa [List.take_of_length_le (by omega)] at h
    refine Hd.exit ?_
    refine Hd.thenExit ?_
    refine Hd.thenExit ?_
    refine Hd.inBexit ?_
    refine Hd.toK hK2 ?_
    refine Hd.seq (fun K9 hK9 => ?_)
    refine Hd.region ?_
    refine Hd.yv (y_assign rfl) ?_
    refine Hd.nil ?_
    refine Hd.slots [(4, _)] ⟨rfl, trivial⟩ ?_
    refine Hd.toK hK9 ?_
    refine Hd.ret ?_
    clear hK1 hK2 hK3 hK4 hK5 hK9
    exact Hd.ret1 rfl () (by rw [idxA_no hno]; rfl) (Ent.sep enn)
/-- the number's place, as Find tells it -/
abbrev fx (id : Int) (l : List On) : Int := idxA id (l.map On.id) 0
theorem fx_cases {id : Int} {l : List On} (hnd : (l.map On.id).Nodup) : (fx id l = -1 ∧ id ∉ l.map On.id) ∨ ∃ pre x post, AtO id l pre x post ∧ fx id l = (pre.length : Int) ∧ pre.length < l.length ∧ l[pre.length]? = some x := by
  by_cases h : id ∈ l.map On.id
  · obtain ⟨pre, x, post, ha⟩ := atO hnd h
    exact .inr ⟨pre, x, post, ha, ha.ix, (List.getElem?_eq_some_iff.1 ha.get).1, ha.get⟩
  · exact .inl ⟨idxA_no h, h⟩
theorem wrap_u64 (x : Int) : IntKind.u64.wrap x = x % 18446744073709551616 := by simp [IntKind.wrap, IntKind.bits, IntKind.signed]
set_option maxHeartbeats 2000000 in
theorem rdl_ct (L : List SP) (now after : Int) (hn : InK .u64 now) (ha : InK .u64 after) : Ct Try.prog 46 #[.int .u64 now, .int .u64 after] (L) (fun _ : Unit => .int .u64 (dl now after)) (fun _ : Unit => L) := by
  refine Ct.of (vs := [.int .u64 now, .int .u64 after]) Try.func46 rfl rfl [(0, .int .u64 now), (1, .int .u64 after)] (by repeat (first | exact trivial | refine ⟨rfl, ?_⟩)) ?_
  intro E
  show Hd E 15 _ _ _ _
  simp only [InK] at hn ha
  refine Hd.seq (fun K1 hK1 => ?_)
  refine Hd.region ?_
  refine Hd.yv (y_assign rfl) ?_
  refine Hd.nil ?_
  refine Hd.slots [(0, _), (1, _)] ⟨rfl, rfl, trivial⟩ ?_
  refine Hd.toK hK1 ?_
  refine Hd.seq (fun K2 hK2 => ?_)
  refine Hd.seq (fun K3 hK3 => ?_)
  refine Hd.region ?_
  refine Hd.yv (y_move rfl) ?_
  first | (refine Hd.yv (y_eqlT rfl rfl) ?_) | (refine Hd.yv (y_eql rfl rfl) ?_)
  refine Hd.nil ?_
  refine Hd.slots [(0, _), (1, _), (7, _)] ⟨rfl, rfl, rfl, trivial⟩ ?_
  refine Hd.toK hK3 ?_
  refine Hd.cond rfl (fun hc0 => ?_) (fun hc0 => ?_)
  ·
    try simp only [decide_eq_true_eq, decide_eq_false_iff_not, Bool.and_eq_true, Bool.or_eq_true, Bool.and_eq_false_iff, Bool.or_eq_false_iff, Bool.not_eq_true', Bool.not_eq_false', Bool.not_eq_true, Bool.not_eq_false, Int.not_lt, Int.not_le, Decidable.not_not, ne_eq] at hc0
    refine Hd.seq (fun K4 hK4 => ?_)
    refine Hd.region ?_
    refine Hd.yv (y_assign rfl) ?_
    refine Hd.nil ?_
    refine Hd.slots [(4, _)] ⟨rfl, trivial⟩ ?_
    refine Hd.toK hK4 ?_
    refine Hd.ret ?_
    refine Hd.thenRet ?_
    clear hK1 hK2 hK3 hK4
    exact Hd.ret1 rfl () (congrArg (fun z => some (Value.int .u64 z)) (show (18446744073709551615 : Int) = dl now after by unfold dl; split <;> omega)) (Ent.sep enn)
  ·
    try simp only [decide_eq_true_eq, decide_eq_false_iff_not, Bool.and_eq_true, Bool.or_eq_true, Bool.and_eq_false_iff, Bool.or_eq_false_iff, Bool.not_eq_true', Bool.not_eq_false', Bool.not_eq_true, Bool.not_eq_false, Int.not_lt, Int.not_le, Decidable.not_not, ne_eq] at hc0
    refine Hd.skip ?_
    refine Hd.toK hK2 ?_
    refine Hd.seq (fun K5 hK5 => ?_)
    refine Hd.region ?_
    refine Hd.yv (y_move rfl) ?_
    refine Hd.yv (y_move rfl) ?_
    first | (refine Hd.yv (y_addn rfl rfl (by simp only [InK]; omega)) ?_) | (refine Hd.yv (y_add rfl rfl) ?_)
    refine Hd.yv (y_assign rfl) ?_
    refine Hd.nil ?_
    refine Hd.slots [(0, _), (5, _)] ⟨rfl, rfl, trivial⟩ ?_
    refine Hd.toK hK5 ?_
    refine Hd.seq (fun K6 hK6 => ?_)
    refine Hd.seq (fun K7 hK7 => ?_)
    refine Hd.region ?_
    refine Hd.yv (y_move rfl) ?_
    refine Hd.yv (y_move rfl) ?_
    refine Hd.yv (y_lss rfl rfl) ?_
    refine Hd.nil ?_
    refine Hd.slots [(5, _), (13, _)] ⟨rfl, rfl, trivial⟩ ?_
    refine Hd.toK hK7 ?_
    refine Hd.cond rfl (fun hc1 => ?_) (fun hc1 => ?_)
    ·
      try simp only [decide_eq_true_eq, decide_eq_false_iff_not, Bool.and_eq_true, Bool.or_eq_true, Bool.and_eq_false_iff, Bool.or_eq_false_iff, Bool.not_eq_true', Bool.not_eq_false', Bool.not_eq_true, Bool.not_eq_false, Int.not_lt, Int.not_le, Decidable.not_not, ne_eq] at hc1
      refine Hd.seq (fun K8 hK8 => ?_)
      refine Hd.region ?_
      refine Hd.yv (y_assign rfl) ?_
      refine Hd.nil ?_
      refine Hd.slots [(4, _)] ⟨rfl, trivial⟩ ?_
      refine Hd.toK hK8 ?_
      refine Hd.ret ?_
      refine Hd.thenRet ?_
      clear hK1 hK2 hK3 hK5 hK6 hK7 hK8
      exact Hd.ret1 rfl () (congrArg (fun z => some (Value.int .u64 z)) (show (18446744073709551615 : Int) = dl now after by rw [wrap_u64] at hc1; unfold dl; split <;> omega)) (Ent.sep enn)
    ·
      try simp only [decide_eq_true_eq, decide_eq_false_iff_not, Bool.and_eq_true, Bool.or_eq_true, Bool.and_eq_false_iff, Bool.or_eq_false_iff, Bool.not_eq_true', Bool.not_eq_false', Bool.not_eq_true, Bool.not_eq_false, Int.not_lt, Int.not_le, Decidable.not_not, ne_eq] at hc1
      refine Hd.skip ?_
      refine Hd.toK hK6 ?_
      refine Hd.seq (fun K9 hK9 => ?_)
      refine Hd.region ?_
      refine Hd.yv (y_move rfl) ?_
      refine Hd.yv (y_assign rfl) ?_
      refine Hd.nil ?_
      refine Hd.slots [(4, _)] ⟨rfl, trivial⟩ ?_
      refine Hd.toK hK9 ?_
      refine Hd.ret ?_
      clear hK1 hK2 hK3 hK5 hK6 hK7 hK9
      exact Hd.ret1 rfl () (congrArg (fun z => some (Value.int .u64 z)) (show IntKind.u64.wrap (now + after) = dl now after by rw [wrap_u64] at hc1 ⊢; unfold dl; split <;> omega)) (Ent.sep enn)
abbrev newO (id now a nx : Int) : On := ⟨id, a, true, dl now a, nx⟩
set_option maxHeartbeats 2000000 in
theorem rtadd_ct (L : List SP) (b : Nat) (s : List It) (nx : Int) (af : AF) (lim : Int) (h0 : 0 ≤ nx) (hnx : nx < 1000) (id now a : Int) (hn : InK .u64 now) (ha : InK .u64 a) : Ct Try.prog 25 #[.pointer (some ⟨b, 0, none⟩), .int .i64 id, .int .u64 now, .int .u64 a] (TrA b s nx af lim :: L) (fun _ : Unit => .int .i64 (addV id)) (fun _ : Unit => TrA b (addS s id now a nx) (addN id nx) (addF af id a) lim :: L) := by
  refine Ct.of (vs := [.pointer (some ⟨b, 0, none⟩), .int .i64 id, .int .u64 now, .int .u64 a]) Try.func25 rfl rfl [(0, .pointer (some ⟨b, 0, none⟩)), (1, .int .i64 id), (2, .int .u64 now), (3, .int .u64 a)] (by repeat (first | exact trivial | refine ⟨rfl, ?_⟩)) ?_
  intro E
  show Hd E 52 _ _ _ _
  refine Hd.seq (fun K1 hK1 => ?_)
  refine Hd.region ?_
  refine Hd.yv (y_assign rfl) ?_
  refine Hd.nil ?_
  refine Hd.slots [(0, _), (1, _), (2, _), (3, _)] ⟨rfl, rfl, rfl, rfl, trivial⟩ ?_
  refine Hd.toK hK1 ?_
  refine Hd.seq (fun K2 hK2 => ?_)
  refine Hd.seq (fun K3 hK3 => ?_)
  refine Hd.region ?_
  refine Hd.yv (y_move rfl) ?_
  refine Hd.yv (y_lss rfl rfl) ?_
  refine Hd.nil ?_
  refine Hd.slots [(0, _), (1, _), (2, _), (3, _), (12, _)] ⟨rfl, rfl, rfl, rfl, rfl, trivial⟩ ?_
  refine Hd.toK hK3 ?_
  refine Hd.cond rfl (fun hc0 => ?_) (fun hc0 => ?_)
  ·
    try simp only [decide_eq_true_eq, decide_eq_false_iff_not, Bool.and_eq_true, Bool.or_eq_true, Bool.and_eq_false_iff, Bool.or_eq_false_iff, Bool.not_eq_true', Bool.not_eq_false', Bool.not_eq_true, Bool.not_eq_false, Int.not_lt, Int.not_le, Decidable.not_not, ne_eq] at hc0
    refine Hd.seq (fun K4 hK4 => ?_)
    refine Hd.region ?_
    refine Hd.yv (y_assign rfl) ?_
    refine Hd.nil ?_
    refine Hd.slots [(8, _)] ⟨rfl, trivial⟩ ?_
    refine Hd.toK hK4 ?_
    refine Hd.ret ?_
    refine Hd.thenRet ?_
    clear hK1 hK2 hK3 hK4
    have hid : id < 0 := hc0
    rw [show addV id = 2 by unfold addV; rw [if_pos hid], show addS s id now a nx = s by unfold addS; rw [if_pos hid], show addN id nx = nx by unfold addN; rw [if_pos hid], show addF af id a = af by unfold addF; rw [if_pos hid]]
    exact Hd.ret1 rfl () rfl (Ent.sep enn)
  ·
    try simp only [decide_eq_true_eq, decide_eq_false_iff_not, Bool.and_eq_true, Bool.or_eq_true, Bool.and_eq_false_iff, Bool.or_eq_false_iff, Bool.not_eq_true', Bool.not_eq_false', Bool.not_eq_true, Bool.not_eq_false, Int.not_lt, Int.not_le, Decidable.not_not, ne_eq] at hc0
    have hid : ¬ id < 0 := by omega
    refine Hd.exs .here ?_
    rintro ⟨r, l⟩
    simp only [List.cons_append, List.nil_append]
    refine Hd.pure (fun hr => ?_)
    have hll := hr.len
    have hv : addV id = 0 := by unfold addV; rw [if_neg hid]
    have hN : addN id nx = nx + 1 := by unfold addN; rw [if_neg hid]
    refine Hd.skip ?_
    refine Hd.toK hK2 ?_
    refine Hd.cutK (ι := Nat) [(0, _), (1, _)] (fun b9 => [(9, .pointer (some ⟨b9, 0, none⟩))]) (fun b9 => pt b9 (encT (newO id now a nx)) 61 :: TrL b l nx lim r L) ?_ ?_ ⟨rfl, rfl, trivial⟩
    ·
      refine Hd.drawsH ([TrH b l.length r nx lim]) (fun j => !([11].contains j)) mixed ?_
      simp only [List.length, Nat.zero_add, Nat.reduceAdd]
      refine Hd.takeH 0 rfl (by kernel_rfl) (by kernel_rfl) (by kernel_rfl) (by kernel_rfl) (y_move rfl) (fun _ _ => rfl) (Ent.sep enn) ?_
      refine Hd.takeH 1 rfl (by kernel_rfl) (by kernel_rfl) (by kernel_rfl) (by kernel_rfl) (y_move rfl) (fun _ _ => rfl) (Ent.sep enn) ?_
      refine Hd.takeH 2 rfl (by kernel_rfl) (by kernel_rfl) (by kernel_rfl) (by kernel_rfl) (y_move rfl) (fun _ _ => rfl) (Ent.sep enn) ?_
      refine Hd.takeH 3 rfl (by kernel_rfl) (by kernel_rfl) (by kernel_rfl) (by kernel_rfl) (y_move rfl) (fun _ _ => rfl) (Ent.sep enn) ?_
      refine Hd.takeH 5 rfl (by kernel_rfl) (by kernel_rfl) (by kernel_rfl) (by kernel_rfl) (y_move rfl) (fun _ _ => rfl) (Ent.sep enn) ?_
      refine Hd.takeH 6 rfl (by kernel_rfl) (by kernel_rfl) (by kernel_rfl) (by kernel_rfl) (y_nilp rfl) (fun _ _ => rfl) (Ent.sep enn) ?_
      first | (refine Hd.takeH 7 rfl (by kernel_rfl) (by kernel_rfl) (by kernel_rfl) (by kernel_rfl) (y_field' (q := 1) (ft := 3) Try.underlying58 rfl sz3 rfl rfl) (fun _ _ => rfl) (Ent.sep enn) ?_) | (refine Hd.takeH 7 rfl (by kernel_rfl) (by kernel_rfl) (by kernel_rfl) (by kernel_rfl) (y_fieldR (q := 1) (ft := 3) Try.underlying58 rfl sz3 rfl rfl) (fun _ _ => rfl) (Ent.sep enn) ?_)
      first | (refine Hd.takeH 8 rfl (by kernel_rfl) (by kernel_rfl) (by kernel_rfl) (by kernel_rfl) (y_load1 ag3 rfl (Rd.pt1 pkk (by (first | rfl)))) (fun _ _ => rfl) (Ent.sep enn) ?_) | (refine Hd.takeH 8 rfl (by kernel_rfl) (by kernel_rfl) (by kernel_rfl) (by kernel_rfl) (y_load1 ag3 rfl (Rd.seg1 pkk (by (first | rfl)))) (fun _ _ => rfl) (Ent.sep enn) ?_) | (refine Hd.takeH 8 rfl (by kernel_rfl) (by kernel_rfl) (by kernel_rfl) (by kernel_rfl) (y_loadR1 ag3 rfl (by (first | exact RdS.own pkk)) (by (first | rfl))) (fun _ _ => rfl) (Ent.sep enn) ?_)
      refine Hd.eitherH 4 10 rfl rfl (by kernel_rfl) ?_ ?_
      ·
        refine Hd.callE rfl fk46 (rdl_ct _ now a hn ha) (Ent.sep enn) ?_
        intro _
        refine Hd.nil ?_
        refine Hd.thenN ?_
        refine Hd.heldK (J := (fun j => !([11].contains j))) (i := 4) (Ent.sep enn) ?_
        refine Hd.takeH 9 rfl (by kernel_rfl) (by kernel_rfl) (by kernel_rfl) (by kernel_rfl) (y_build (vs := [(0, _), (1, _), (2, _), (3, _), (4, _)]) rfl (by first | exact bd25_22 .. | kernel_rfl)) (fun _ _ => rfl) (Ent.sep enn) ?_
        refine Hd.onlyH 10 rfl (by kernel_rfl) ?_
        refine Hd.alloc zr61 (fun b9 => ?_)
        refine Hd.nil ?_
        refine Hd.thenN ?_
        refine Hd.heldK (J := (fun j => !([11].contains j))) (i := 10) (Ent.sep enn) ?_
        refine Hd.onlyH 11 rfl (by kernel_rfl) ?_
        refine Hd.storeA (us := encT (newO id now a nx)) sz61 rfl rfl rfl (encT_one _) pkk (by exact rfl) ?_
        refine Hd.nil ?_
        refine Hd.thenN ?_
        refine Hd.heldN (J := (fun j => !([11].contains j))) (i := 11) rfl ?_
        refine Hd.endH (by kernel_rfl) ?_
        refine Hd.slots [(0, _), (1, _), (9, _)] ⟨rfl, rfl, rfl, trivial⟩ ?_
        clear hK1 hK2 hK3
        refine Hd.thenN ?_
        exact Hd.meet b9 (by repeat (first | exact trivial | refine ⟨rfl, ?_⟩)) (Ent.sep enn)
      ·
        refine Hd.alloc zr61 (fun b9 => ?_)
        refine Hd.nil ?_
        refine Hd.thenN ?_
        refine Hd.heldK (J := (fun j => !([11].contains j))) (i := 10) (Ent.sep enn) ?_
        refine Hd.onlyH 4 rfl (by kernel_rfl) ?_
        refine Hd.callE rfl fk46 (rdl_ct _ now a hn ha) (Ent.sep enn) ?_
        intro _
        refine Hd.nil ?_
        refine Hd.thenN ?_
        refine Hd.heldK (J := (fun j => !([11].contains j))) (i := 4) (Ent.sep enn) ?_
        refine Hd.takeH 9 rfl (by kernel_rfl) (by kernel_rfl) (by kernel_rfl) (by kernel_rfl) (y_build (vs := [(0, _), (1, _), (2, _), (3, _), (4, _)]) rfl (by first | exact bd25_22 .. | kernel_rfl)) (fun _ _ => rfl) (Ent.sep enn) ?_
        refine Hd.onlyH 11 rfl (by kernel_rfl) ?_
        refine Hd.storeA (us := encT (newO id now a nx)) sz61 rfl rfl rfl (encT_one _) pkk (by exact rfl) ?_
        refine Hd.nil ?_
        refine Hd.thenN ?_
        refine Hd.heldN (J := (fun j => !([11].contains j))) (i := 11) rfl ?_
        refine Hd.endH (by kernel_rfl) ?_
        refine Hd.slots [(0, _), (1, _), (9, _)] ⟨rfl, rfl, rfl, trivial⟩ ?_
        clear hK1 hK2 hK3
        refine Hd.thenN ?_
        exact Hd.meet b9 (by repeat (first | exact trivial | refine ⟨rfl, ?_⟩)) (Ent.sep enn)
    ·
      intro b9
      refine Hd.seq (fun K5 hK5 => ?_)
      refine Hd.region ?_
      refine Hd.yv (y_move rfl) ?_
      refine Hd.yv (y_nilp rfl) ?_
      first | (refine Hd.yv (y_field' (q := 1) (ft := 3) Try.underlying58 rfl sz3 rfl rfl) ?_) | (refine Hd.yv (y_fieldR (q := 1) (ft := 3) Try.underlying58 rfl sz3 rfl rfl) ?_)
      first | (refine Hd.yv (y_load1 ag3 rfl (Rd.pt1 pkk (by (first | rfl)))) ?_) | (refine Hd.yv (y_load1 ag3 rfl (Rd.seg1 pkk (by (first | rfl)))) ?_) | (refine Hd.yv (y_loadR1 ag3 rfl (by (first | exact RdS.own pkk)) (by (first | rfl))) ?_)
      first | (refine Hd.yv (y_addn rfl rfl (by simp only [InK]; omega)) ?_) | (refine Hd.yv (y_add rfl rfl) ?_)
      refine Hd.yv (y_nilp rfl) ?_
      first | (refine Hd.yv (y_field' (q := 1) (ft := 3) Try.underlying58 rfl sz3 rfl rfl) ?_) | (refine Hd.yv (y_fieldR (q := 1) (ft := 3) Try.underlying58 rfl sz3 rfl rfl) ?_)
      first | (refine Hd.store1 sz3 rfl rfl rfl pkk (by first | decide | (simp; done) | (simp; omega)) ?_) | (refine Hd.storeG1 sz3 rfl rfl rfl pkk (by first | decide | (simp; done) | (simp; omega)) ?_) | (refine Hd.storeO1 sz3 rfl rfl rfl pkk (by first | omega | (simp; done) | (simp; omega)) ?_)
      try simp only [List.set_cons_zero, List.set_cons_succ]
      refine Hd.nil ?_
      refine Hd.slots [(0, _), (1, _), (9, _)] ⟨rfl, rfl, rfl, trivial⟩ ?_
      refine Hd.toK hK5 ?_
      refine Hd.seq (fun K6 hK6 => ?_)
      refine Hd.region ?_
      refine Hd.yv (y_move rfl) ?_
      refine Hd.yv (y_move rfl) ?_
      refine Hd.callE rfl fk31 (rtfind_ct _ b l (nx + 1) lim r (by omega) id) (Ent.sep enn) ?_
      intro _
      refine Hd.yv (y_assign rfl) ?_
      refine Hd.nil ?_
      refine Hd.slots [(0, _), (9, _), (10, _)] ⟨rfl, rfl, rfl, trivial⟩ ?_
      refine Hd.toK hK6 ?_
      refine Hd.seq (fun K7 hK7 => ?_)
      refine Hd.seq (fun K8 hK8 => ?_)
      refine Hd.region ?_
      refine Hd.yv (y_move rfl) ?_
      refine Hd.yv (y_lss rfl rfl) ?_
      refine Hd.nil ?_
      refine Hd.slots [(0, _), (9, _), (10, _), (34, _)] ⟨rfl, rfl, rfl, rfl, trivial⟩ ?_
      refine Hd.toK hK8 ?_
      refine Hd.cond rfl (fun hc1 => ?_) (fun hc1 => ?_)
      ·
        try simp only [decide_eq_true_eq, decide_eq_false_iff_not, Bool.and_eq_true, Bool.or_eq_true, Bool.and_eq_false_iff, Bool.or_eq_false_iff, Bool.not_eq_true', Bool.not_eq_false', Bool.not_eq_true, Bool.not_eq_false, Int.not_lt, Int.not_le, Decidable.not_not, ne_eq] at hc1
        have hno : id ∉ l.map On.id := by
          rcases fx_cases (id := id) hr.rel.nd with ⟨_, h⟩ | ⟨pre, x, post, ha, e, h1, h2⟩
          · exact h
          · have e' : idxA id (l.map On.id) 0 = (pre.length : Int) := e
            omega
        have hn1 : (l ++ [newO id now a nx]).length = l.length + 1 := by simp
        have hok : TrOk (addS s id now a nx) (addF af id a) (nx + 1) (l ++ [newO id now a nx]) := ⟨hr.rel.putB hno now a nx hid, by rw [hn1]; omega, by omega⟩
        refine Hd.drawsH ([TrH b l.length r (nx + 1) lim, pt b9 (encT (newO id now a nx)) 61]) (fun j => !([10].contains j)) mixed ?_
        simp only [List.length, Nat.zero_add, Nat.reduceAdd]
        refine Hd.takeH 0 rfl (by kernel_rfl) (by kernel_rfl) (by kernel_rfl) (by kernel_rfl) (y_move rfl) (fun _ _ => rfl) (Ent.sep enn) ?_
        refine Hd.takeH 1 rfl (by kernel_rfl) (by kernel_rfl) (by kernel_rfl) (by kernel_rfl) (y_move rfl) (fun _ _ => rfl) (Ent.sep enn) ?_
        refine Hd.takeH 2 rfl (by kernel_rfl) (by kernel_rfl) (by kernel_rfl) (by kernel_rfl) (y_nilp rfl) (fun _ _ => rfl) (Ent.sep enn) ?_
        first | (refine Hd.takeH 3 rfl (by kernel_rfl) (by kernel_rfl) (by kernel_rfl) (by kernel_rfl) (y_field' (q := 0) (ft := 56) Try.underlying58 rfl sz56 rfl rfl) (fun _ _ => rfl) (Ent.sep enn) ?_) | (refine Hd.takeH 3 rfl (by kernel_rfl) (by kernel_rfl) (by kernel_rfl) (by kernel_rfl) (y_fieldR (q := 0) (ft := 56) Try.underlying58 rfl sz56 rfl rfl) (fun _ _ => rfl) (Ent.sep enn) ?_)
        first | (refine Hd.takeH 4 rfl (by kernel_rfl) (by kernel_rfl) (by kernel_rfl) (by kernel_rfl) (y_load1 ag56 rfl (Rd.pt1 pkk (by (first | rfl)))) (fun _ _ => rfl) (Ent.sep enn) ?_) | (refine Hd.takeH 4 rfl (by kernel_rfl) (by kernel_rfl) (by kernel_rfl) (by kernel_rfl) (y_load1 ag56 rfl (Rd.seg1 pkk (by (first | rfl)))) (fun _ _ => rfl) (Ent.sep enn) ?_) | (refine Hd.takeH 4 rfl (by kernel_rfl) (by kernel_rfl) (by kernel_rfl) (by kernel_rfl) (y_loadR1 ag56 rfl (by (first | exact RdS.own pkk)) (by (first | rfl))) (fun _ _ => rfl) (Ent.sep enn) ?_)
        first | (refine Hd.takeH 5 rfl (by kernel_rfl) (by kernel_rfl) (by kernel_rfl) (by kernel_rfl) (y_loadn (us := [_, _, _, _, _]) ag61 rfl (Rd.pt pkk (by (first | (intro j v e; rcases j with _|_|_|_|_|_|_|_|_|_|_|_|j <;> first | exact e | exact absurd e (by simp))))) (by exact sz61)) (fun _ _ => rfl) (Ent.sep enn) ?_) | (refine Hd.takeH 5 rfl (by kernel_rfl) (by kernel_rfl) (by kernel_rfl) (by kernel_rfl) (y_loadn (us := [_, _, _, _, _]) ag61 rfl (Rd.seg pkk (by (first | (intro j v e; rcases j with _|_|_|_|_|_|_|_|_|_|_|_|j <;> first | exact e | exact absurd e (by simp))))) (by exact sz61)) (fun _ _ => rfl) (Ent.sep enn) ?_) | (refine Hd.takeH 5 rfl (by kernel_rfl) (by kernel_rfl) (by kernel_rfl) (by kernel_rfl) (y_loadRn ag61 rfl (by (first | exact RdS.own pkk)) (by (first | (intro j v e; rcases j with _|_|_|_|_|_|_|_|_|_|_|_|j <;> first | exact e | exact absurd e (by simp)))) (by exact sz61) (by simp)) (fun _ _ => rfl) (Ent.sep enn) ?_)
        refine Hd.onlyH 6 rfl (by kernel_rfl) ?_
        refine Hd.bslice (vs := [(0, _)]) rfl (by first | exact bs25_41 .. | kernel_rfl) (fun b41 => ?_)
        refine Hd.nil ?_
        refine Hd.thenN ?_
        refine Hd.heldK (J := (fun j => !([10].contains j))) (i := 6) (Ent.sep enn) ?_
        refine Hd.onlyH 7 rfl (by kernel_rfl) ?_
        refine Hd.append Try.underlying56 ty61 rfl rfl rfl pkk (by first | exact RdS.rd (Rd.pt pkk (fun j v e => by simpa using e)) rfl | (first | exact RdS.own pkk)) (by first | (simp [Value.oneCell']; done) | assumption) (by first | (simp only [maxLen]; omega) | assumption) (by omega) (fun ad42 cap42 => ?_)
        refine Hd.nil ?_
        refine Hd.thenN ?_
        refine Hd.heldK (J := (fun j => !([10].contains j))) (i := 7) (Ent.sep enn) ?_
        refine Hd.onlyH 8 rfl (by kernel_rfl) ?_
        refine Hd.yv (y_nilp rfl) ?_
        refine Hd.nil ?_
        refine Hd.thenN ?_
        refine Hd.heldK (J := (fun j => !([10].contains j))) (i := 8) (Ent.sep enn) ?_
        first | (refine Hd.takeH 9 rfl (by kernel_rfl) (by kernel_rfl) (by kernel_rfl) (by kernel_rfl) (y_field' (q := 0) (ft := 56) Try.underlying58 rfl sz56 rfl rfl) (fun _ _ => rfl) (Ent.sep enn) ?_) | (refine Hd.takeH 9 rfl (by kernel_rfl) (by kernel_rfl) (by kernel_rfl) (by kernel_rfl) (y_fieldR (q := 0) (ft := 56) Try.underlying58 rfl sz56 rfl rfl) (fun _ _ => rfl) (Ent.sep enn) ?_)
        refine Hd.onlyH 10 rfl (by kernel_rfl) ?_
        first | (refine Hd.store1 sz56 rfl rfl rfl pkk (by first | decide | (simp; done) | (simp; omega)) ?_) | (refine Hd.storeG1 sz56 rfl rfl rfl pkk (by first | decide | (simp; done) | (simp; omega)) ?_) | (refine Hd.storeO1 sz56 rfl rfl rfl pkk (by first | omega | (simp; done) | (simp; omega)) ?_)
        try simp only [List.set_cons_zero, List.set_cons_succ]
        refine Hd.nil ?_
        refine Hd.thenN ?_
        refine Hd.heldN (J := (fun j => !([10].contains j))) (i := 10) rfl ?_
        refine Hd.endH (by kernel_rfl) ?_
        refine Hd.slots [] trivial ?_
        refine Hd.toK hK7 ?_
        refine Hd.seq (fun K9 hK9 => ?_)
        refine Hd.region ?_
        refine Hd.yv (y_assign rfl) ?_
        refine Hd.nil ?_
        refine Hd.slots [(8, _)] ⟨rfl, trivial⟩ ?_
        refine Hd.toK hK9 ?_
        refine Hd.ret ?_
        clear hK1 hK2 hK3 hK5 hK6 hK7 hK8 hK9
        rw [hv, hN]
        exact Hd.ret1 rfl () rfl (Ent.sep (.ex ((ad42, cap42), l ++ [newO id now a nx]) (.pure hok (.eq pkk (pt_eq (by rw [hn1]; rfl)) (.eq pkk (own_eq3 hn1.symm rfl (show l.flatMap encT ++ encT (newO id now a nx) = (l ++ [newO id now a nx]).flatMap encT by rw [List.flatMap_append]; rfl)) enn)))))
      ·
        try simp only [decide_eq_true_eq, decide_eq_false_iff_not, Bool.and_eq_true, Bool.or_eq_true, Bool.and_eq_false_iff, Bool.or_eq_false_iff, Bool.not_eq_true', Bool.not_eq_false', Bool.not_eq_true, Bool.not_eq_false, Int.not_lt, Int.not_le, Decidable.not_not, ne_eq] at hc1
        obtain ⟨pre, x, post, hat, hfx, hpl, hpg⟩ : ∃ pre x post, AtO id l pre x post ∧ idxA id (l.map On.id) 0 = (pre.length : Int) ∧ pre.length < l.length ∧ l[pre.length]? = some x := by
          rcases fx_cases (id := id) hr.rel.nd with ⟨h, _⟩ | h
          · have e' : idxA id (l.map On.id) 0 = -1 := h
            omega
          · exact h
        rw [hfx]
        have hok : TrOk (addS s id now a nx) (addF af id a) (nx + 1) (l.set pre.length (newO id now a nx)) := ⟨hr.rel.putA hat now a nx hid, by rw [List.length_set]; omega, by omega⟩
        refine Hd.drawsH ([TrH b l.length r (nx + 1) lim, OwT r.1 l.length r.2 l, pt b9 (encT (newO id now a nx)) 61]) (fun j => !([7].contains j)) mixed ?_
        simp only [List.length, Nat.zero_add, Nat.reduceAdd]
        refine Hd.takeH 0 rfl (by kernel_rfl) (by kernel_rfl) (by kernel_rfl) (by kernel_rfl) (y_move rfl) (fun _ _ => rfl) (Ent.sep enn) ?_
        refine Hd.takeH 1 rfl (by kernel_rfl) (by kernel_rfl) (by kernel_rfl) (by kernel_rfl) (y_nilp rfl) (fun _ _ => rfl) (Ent.sep enn) ?_
        first | (refine Hd.takeH 2 rfl (by kernel_rfl) (by kernel_rfl) (by kernel_rfl) (by kernel_rfl) (y_field' (q := 0) (ft := 56) Try.underlying58 rfl sz56 rfl rfl) (fun _ _ => rfl) (Ent.sep enn) ?_) | (refine Hd.takeH 2 rfl (by kernel_rfl) (by kernel_rfl) (by kernel_rfl) (by kernel_rfl) (y_fieldR (q := 0) (ft := 56) Try.underlying58 rfl sz56 rfl rfl) (fun _ _ => rfl) (Ent.sep enn) ?_)
        first | (refine Hd.takeH 3 rfl (by kernel_rfl) (by kernel_rfl) (by kernel_rfl) (by kernel_rfl) (y_load1 ag56 rfl (Rd.pt1 pkk (by (first | rfl)))) (fun _ _ => rfl) (Ent.sep enn) ?_) | (refine Hd.takeH 3 rfl (by kernel_rfl) (by kernel_rfl) (by kernel_rfl) (by kernel_rfl) (y_load1 ag56 rfl (Rd.seg1 pkk (by (first | rfl)))) (fun _ _ => rfl) (Ent.sep enn) ?_) | (refine Hd.takeH 3 rfl (by kernel_rfl) (by kernel_rfl) (by kernel_rfl) (by kernel_rfl) (y_loadR1 ag56 rfl (by (first | exact RdS.own pkk)) (by (first | rfl))) (fun _ _ => rfl) (Ent.sep enn) ?_)
        refine Hd.takeH 4 rfl (by kernel_rfl) (by kernel_rfl) (by kernel_rfl) (by kernel_rfl) (y_move rfl) (fun _ _ => rfl) (Ent.sep enn) ?_
        first | (refine Hd.takeH 5 rfl (by kernel_rfl) (by kernel_rfl) (by kernel_rfl) (by kernel_rfl) (y_loadn (us := [_, _, _, _, _]) ag61 rfl (Rd.pt pkk (by (first | (intro j v e; rcases j with _|_|_|_|_|_|_|_|_|_|_|_|j <;> first | exact e | exact absurd e (by simp))))) (by exact sz61)) (fun _ _ => rfl) (Ent.sep enn) ?_) | (refine Hd.takeH 5 rfl (by kernel_rfl) (by kernel_rfl) (by kernel_rfl) (by kernel_rfl) (y_loadn (us := [_, _, _, _, _]) ag61 rfl (Rd.seg pkk (by (first | (intro j v e; rcases j with _|_|_|_|_|_|_|_|_|_|_|_|j <;> first | exact e | exact absurd e (by simp))))) (by exact sz61)) (fun _ _ => rfl) (Ent.sep enn) ?_) | (refine Hd.takeH 5 rfl (by kernel_rfl) (by kernel_rfl) (by kernel_rfl) (by kernel_rfl) (y_loadRn ag61 rfl (by (first | exact RdS.own pkk)) (by (first | (intro j v e; rcases j with _|_|_|_|_|_|_|_|_|_|_|_|j <;> first | exact e | exact absurd e (by simp)))) (by exact sz61) (by simp)) (fun _ _ => rfl) (Ent.sep enn) ?_)
        first | (refine Hd.takeH 6 rfl (by kernel_rfl) (by kernel_rfl) (by kernel_rfl) (by kernel_rfl) (y_idxS Try.underlying56 sz61 rfl rfl (by first | omega | decide)) (fun _ _ => rfl) (Ent.sep enn) ?_) | (refine Hd.takeH 6 rfl (by kernel_rfl) (by kernel_rfl) (by kernel_rfl) (by kernel_rfl) (y_idxR Try.underlying56 sz61 rfl rfl (by first | omega | decide) (by (first | exact RdS.own pkk))) (fun _ _ => rfl) (Ent.sep enn) ?_)
        refine Hd.onlyH 7 rfl (by kernel_rfl) ?_
        refine Hd.storeO (vs := encT (newO id now a nx)) sz61 rfl rfl rfl (encT_one _) pkk (by rw [flat_lenT]; simp only [List.length]; omega) (by simp) ?_
        refine Hd.nil ?_
        refine Hd.thenN ?_
        refine Hd.heldN (J := (fun j => !([7].contains j))) (i := 7) rfl ?_
        refine Hd.endH (by kernel_rfl) ?_
        rw [show (l.flatMap encT).take (pre.length * 5) ++ encT (newO id now a nx) ++ (l.flatMap encT).drop (pre.length * 5 + (encT (newO id now a nx)).length) = (l.set pre.length (newO id now a nx)).flatMap encT from flat_setT hpl]
        refine Hd.slots [] trivial ?_
        refine Hd.toK hK7 ?_
        refine Hd.seq (fun K10 hK10 => ?_)
        refine Hd.region ?_
        refine Hd.yv (y_assign rfl) ?_
        refine Hd.nil ?_
        refine Hd.slots [(8, _)] ⟨rfl, trivial⟩ ?_
        refine Hd.toK hK10 ?_
        refine Hd.ret ?_
        clear hK1 hK2 hK3 hK5 hK6 hK7 hK8 hK10
        rw [hv, hN]
        exact Hd.ret1 rfl () rfl (Ent.sep (.ex (r, l.set pre.length (newO id now a nx)) (.pure hok (.eq pkk (pt_eq (by rw [List.length_set])) (.eq pkk (own_eq3 (List.length_set ..).symm rfl rfl) enn)))))
set_option maxHeartbeats 2000000 in
theorem rtagain_ct (L : List SP) (b : Nat) (s : List It) (nx : Int) (af : AF) (lim : Int) (h0 : 0 ≤ nx) (hnx : nx < 1000) (hA : AfOk af) (id now : Int) (hn : InK .u64 now) : Ct Try.prog 26 #[.pointer (some ⟨b, 0, none⟩), .int .i64 id, .int .u64 now] (TrA b s nx af lim :: L) (fun _ : Unit => .int .i64 (agV af id)) (fun _ : Unit => TrA b (agS s af id now nx) (agN af id nx) (agF af id) lim :: L) := by
  refine Ct.of (vs := [.pointer (some ⟨b, 0, none⟩), .int .i64 id, .int .u64 now]) Try.func26 rfl rfl [(0, .pointer (some ⟨b, 0, none⟩)), (1, .int .i64 id), (2, .int .u64 now)] (by repeat (first | exact trivial | refine ⟨rfl, ?_⟩)) ?_
  intro E
  show Hd E 25 _ _ _ _
  refine Hd.exs .here ?_
  rintro ⟨r, l⟩
  simp only [List.cons_append, List.nil_append]
  refine Hd.pure (fun hr => ?_)
  have hll := hr.len
  have his := hr.rel.is id
  refine Hd.seq (fun K1 hK1 => ?_)
  refine Hd.region ?_
  refine Hd.yv (y_assign rfl) ?_
  refine Hd.nil ?_
  refine Hd.slots [(0, _), (1, _), (2, _)] ⟨rfl, rfl, rfl, trivial⟩ ?_
  refine Hd.toK hK1 ?_
  refine Hd.seq (fun K2 hK2 => ?_)
  refine Hd.region ?_
  refine Hd.yv (y_move rfl) ?_
  refine Hd.yv (y_move rfl) ?_
  refine Hd.callE rfl fk31 (rtfind_ct _ b l nx lim r (by omega) id) (Ent.sep enn) ?_
  intro _
  refine Hd.yv (y_assign rfl) ?_
  refine Hd.nil ?_
  refine Hd.slots [(0, _), (1, _), (2, _), (7, _)] ⟨rfl, rfl, rfl, rfl, trivial⟩ ?_
  refine Hd.toK hK2 ?_
  refine Hd.seq (fun K3 hK3 => ?_)
  refine Hd.seq (fun K4 hK4 => ?_)
  refine Hd.region ?_
  refine Hd.yv (y_move rfl) ?_
  refine Hd.yv (y_lss rfl rfl) ?_
  refine Hd.nil ?_
  refine Hd.slots [(0, _), (1, _), (2, _), (7, _), (12, _)] ⟨rfl, rfl, rfl, rfl, rfl, trivial⟩ ?_
  refine Hd.toK hK4 ?_
  refine Hd.cond rfl (fun hc0 => ?_) (fun hc0 => ?_)
  ·
    try simp only [decide_eq_true_eq, decide_eq_false_iff_not, Bool.and_eq_true, Bool.or_eq_true, Bool.and_eq_false_iff, Bool.or_eq_false_iff, Bool.not_eq_true', Bool.not_eq_false', Bool.not_eq_true, Bool.not_eq_false, Int.not_lt, Int.not_le, Decidable.not_not, ne_eq] at hc0
    refine Hd.seq (fun K5 hK5 => ?_)
    refine Hd.region ?_
    refine Hd.yv (y_assign rfl) ?_
    refine Hd.nil ?_
    refine Hd.slots [(6, _)] ⟨rfl, trivial⟩ ?_
    refine Hd.toK hK5 ?_
    refine Hd.ret ?_
    refine Hd.thenRet ?_
    clear hK1 hK2 hK3 hK4 hK5
    have hno : ¬ (af id).isSome = true := by rw [his, decide_eq_true_iff]; omega
    rw [show agV af id = 220 by unfold agV; rw [if_neg hno], show agS s af id now nx = s by unfold agS; rw [if_neg hno], show agN af id nx = nx by unfold agN; rw [if_neg hno], show agF af id = af by unfold agF; rw [if_neg hno]]
    exact Hd.ret1 rfl () rfl (Ent.sep (.ex (r, l) (.pure hr enn)))
  ·
    try simp only [decide_eq_true_eq, decide_eq_false_iff_not, Bool.and_eq_true, Bool.or_eq_true, Bool.and_eq_false_iff, Bool.or_eq_false_iff, Bool.not_eq_true', Bool.not_eq_false', Bool.not_eq_true, Bool.not_eq_false, Int.not_lt, Int.not_le, Decidable.not_not, ne_eq] at hc0
    have hc : (af id).isSome = true := by rw [his, decide_eq_true_iff]; omega
    obtain ⟨pre, x, post, hat, hfx, hpl, hpg⟩ : ∃ pre x post, AtO id l pre x post ∧ idxA id (l.map On.id) 0 = (pre.length : Int) ∧ pre.length < l.length ∧ l[pre.length]? = some x := by
      rcases fx_cases (id := id) hr.rel.nd with ⟨h, _⟩ | h
      · have e' : idxA id (l.map On.id) 0 = -1 := h
        omega
      · exact h
    have haf : (af id).getD 0 = x.af := by rw [hr.rel.af, hat.f]; rfl
    rw [hfx]
    refine Hd.skip ?_
    refine Hd.toK hK3 ?_
    refine Hd.seq (fun K6 hK6 => ?_)
    refine Hd.region ?_
    refine Hd.yv (y_move rfl) ?_
    refine Hd.yv (y_move rfl) ?_
    refine Hd.yv (y_move rfl) ?_
    refine Hd.yv (y_move rfl) ?_
    refine Hd.yv (y_nilp rfl) ?_
    first | (refine Hd.yv (y_field' (q := 0) (ft := 56) Try.underlying58 rfl sz56 rfl rfl) ?_) | (refine Hd.yv (y_fieldR (q := 0) (ft := 56) Try.underlying58 rfl sz56 rfl rfl) ?_)
    first | (refine Hd.yv (y_load1 ag56 rfl (Rd.pt1 pkk (by (first | rfl)))) ?_) | (refine Hd.yv (y_load1 ag56 rfl (Rd.seg1 pkk (by (first | rfl)))) ?_) | (refine Hd.yv (y_loadR1 ag56 rfl (by (first | exact RdS.own pkk)) (by (first | rfl))) ?_)
    refine Hd.yv (y_move rfl) ?_
    first | (refine Hd.yv (y_idxS Try.underlying56 sz61 rfl rfl (by first | omega | decide)) ?_) | (refine Hd.yv (y_idxR Try.underlying56 sz61 rfl rfl (by first | omega | decide) (by (first | exact RdS.own pkk))) ?_)
    first | (refine Hd.yv (y_field' (q := 1) (ft := 23) Try.underlying61 rfl sz23 rfl rfl) ?_) | (refine Hd.yv (y_fieldR (q := 1) (ft := 23) Try.underlying61 rfl sz23 rfl rfl) ?_)
    refine Hd.yv (y_loadR1 ag23 rfl (RdS.own (ad := r.1) (us := l.flatMap encT) pkk) (flat_cells encT 5 (fun _ => rfl) hpg 1 _ rfl)) ?_
    rw [← haf]
    refine Hd.heap (TrA b s nx af lim :: L) (Ent.sep (.ex (r, l) (.pure hr enn))) ?_
    refine Hd.callE rfl fk25 (rtadd_ct L b s nx af lim h0 hnx id now ((af id).getD 0) hn (hA.get id)) (Ent.sep enn) ?_
    intro _
    refine Hd.yv (y_assign rfl) ?_
    refine Hd.nil ?_
    refine Hd.slots [(6, _)] ⟨rfl, trivial⟩ ?_
    refine Hd.toK hK6 ?_
    refine Hd.ret ?_
    clear hK1 hK2 hK3 hK4 hK6
    rw [show agV af id = addV id by unfold agV; rw [if_pos hc], show agS s af id now nx = addS s id now ((af id).getD 0) nx by unfold agS; rw [if_pos hc], show agN af id nx = addN id nx by unfold agN; rw [if_pos hc], show agF af id = addF af id ((af id).getD 0) by unfold agF; rw [if_pos hc]]
    exact Hd.ret1 rfl () rfl (Ent.sep enn)
end Tm
end Go.Proofs.Ytdjoofidicoimaa
