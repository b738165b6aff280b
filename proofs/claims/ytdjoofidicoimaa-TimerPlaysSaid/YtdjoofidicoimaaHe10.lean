/-
  Heaps: All.
-/
import Derived.Test.YtdjoofidicoimaaHe9
namespace Go.Proofs.Ytdjoofidicoimaa
set_option linter.unusedSimpArgs false
set_option linter.unusedVariables false
set_option linter.unnecessarySimpa false
open Go.RX Fx
namespace Hp
set_option maxRecDepth 8000
abbrev SlI (b : Nat) (ad : Option Addr) (n cap : Nat) : SP := pt b [.slice ad n cap] 77
theorem values_it (b1 : Nat) (ad : Option Addr) (n cap : Nat) (xs : List It) (hn : xs.length = n) (hlen : n ≤ 1000000) : RX.It Try.prog 86 [.pointer (some ⟨b1, 0, none⟩)] encA (fun ys => ys = xs) (fun ys => ys <+: xs)
    [SlI b1 ad n cap, OwI ad n cap xs] [SlI b1 ad n cap, OwI ad n cap xs] := by
  intro l J X hy
  refine Ct.of (vs := [.func (.yield l) #[] #[], .pointer (some ⟨b1, 0, none⟩)]) Try.func86 rfl rfl [(0, .func (.yield l) #[] #[]), (1, .pointer (some ⟨b1, 0, none⟩))] ⟨rfl, rfl, trivial⟩ ?_
  intro E
  show Hd E 16 _ _ _ _
  refine Hd.heap (SlI b1 ad n cap :: OwI ad n cap xs :: J []) (fun k h => by have := sep_app h; exact this) ?_
  refine Hd.seq (fun K1 hK1 => ?_)
  refine Hd.region ?_
  first | (refine Hd.yv (y_load1 ag77 rfl (Rd.pt1 pkk (by (first | rfl)))) ?_) | (refine Hd.yv (y_load1 ag77 rfl (Rd.seg1 pkk (by (first | rfl)))) ?_) | (refine Hd.yv (y_loadR1 ag77 rfl (by (first | exact RdS.own pkk)) (by (first | rfl))) ?_)
  refine Hd.yv (y_len Try.underlying77 rfl) ?_
  refine Hd.yv (y_move rfl) ?_
  refine Hd.nil ?_
  refine Hd.slots [(0, _), (5, _), (6, _), (7, _)] ⟨rfl, rfl, rfl, rfl, trivial⟩ ?_
  refine Hd.toK hK1 ?_
  refine Hd.block ?_
  refine Hd.loopK (ι := Nat) [(0, _), (5, _), (6, _)] (fun i => [(7, .int .i64 (i : Int))]) (fun i => pu (i ≤ n) :: SlI b1 ad n cap :: OwI ad n cap xs :: J (xs.take i)) (fun i => n - i) 0 (by repeat (first | exact trivial | refine ⟨rfl, ?_⟩)) (by repeat (first | exact trivial | refine ⟨rfl, ?_⟩)) (Ent.sep (.pure (by first | omega | (simp; done) | (simp; omega) | exact ⟨by simp, by simp⟩) enn)) ?_
  intro i
  try dsimp only
  refine Hd.pure (fun hp0 => ?_)
  try dsimp only at hp0
  refine Hd.seq (fun K2 hK2 => ?_)
  refine Hd.region ?_
  refine Hd.yv (y_lss rfl rfl) ?_
  refine Hd.nil ?_
  refine Hd.slots [(0, _), (5, _), (6, _), (7, _), (8, _)] ⟨rfl, rfl, rfl, rfl, rfl, trivial⟩ ?_
  refine Hd.toK hK2 ?_
  refine Hd.seq (fun K3 hK3 => ?_)
  refine Hd.cond rfl (fun hc0 => ?_) (fun hc0 => ?_)
  ·
    try simp only [decide_eq_true_eq, decide_eq_false_iff_not, Bool.and_eq_true, Bool.or_eq_true, Bool.and_eq_false_iff, Bool.or_eq_false_iff, Bool.not_eq_true', Bool.not_eq_false', Bool.not_eq_true, Bool.not_eq_false, Int.not_lt, Int.not_le, Decidable.not_not, ne_eq] at hc0
    have hi : i < n := by omega
    have hgi : xs[i]? = some (g xs i) := g_at (by omega)
    have htk : xs.take (i + 1) = xs.take i ++ [g xs i] := by rw [List.take_add_one, hgi]; rfl
    have hpr : xs.take i ++ [g xs i] <+: xs := by rw [← htk]; exact List.take_prefix _ _
    refine Hd.skip ?_
    refine Hd.toK hK3 ?_
    refine Hd.seq (fun K4 hK4 => ?_)
    refine Hd.block ?_
    refine Hd.seq (fun K5 hK5 => ?_)
    refine Hd.region ?_
    first | (refine Hd.yv (y_idxS Try.underlying77 sz69 rfl rfl (by first | omega | decide)) ?_) | (refine Hd.yv (y_idxR Try.underlying77 sz69 rfl rfl (by first | omega | decide) (by (first | exact RdS.own pkk))) ?_)
    refine Hd.yv (y_loadRn (vs := [_, _, _]) ag69 rfl (RdS.own pkk) (flat_cells encI 3 (fun _ => rfl) hgi) (by exact sz69) (by simp)) ?_
    refine Hd.alloc zr69 (fun b4 => ?_)
    refine Hd.storeA (us := encI (g xs i)) sz69 rfl rfl rfl (encI_one _) pkk (by exact rfl) ?_
    refine Hd.nil ?_
    refine Hd.slots [(0, _), (4, _), (5, _), (6, _), (7, _)] ⟨rfl, rfl, rfl, rfl, rfl, trivial⟩ ?_
    refine Hd.toK hK5 ?_
    refine Hd.seq (fun K6 hK6 => ?_)
    refine Hd.region ?_
    refine Hd.yv (y_move rfl) ?_
    refine Hd.yv (y_loadn (us := encI (g xs i)) ag69 rfl (Rd.pt pkk (fun j v e => by rw [Nat.zero_add]; exact e)) (by exact sz69)) ?_
    refine Hd.yield (pre := xs.take i) (c := g xs i) (M := [SlI b1 ad n cap, OwI ad n cap xs]) hy rfl rfl hpr (fun k' h => sep_app (show sep ([SlI b1 ad n cap, OwI ad n cap xs] ++ J (xs.take i)) k' from Ent.sep (show Ent _ (SlI b1 ad n cap :: OwI ad n cap xs :: J (xs.take i)) from enn) k' h)) ?_
    intro yb
    refine Hd.yv (y_not rfl) ?_
    refine Hd.nil ?_
    refine Hd.slots [(0, _), (5, _), (6, _), (7, _), (14, _)] ⟨rfl, rfl, rfl, rfl, rfl, trivial⟩ ?_
    refine Hd.toK hK6 ?_
    refine Hd.cond rfl (fun hc1 => ?_) (fun hc1 => ?_)
    ·
      try simp only [decide_eq_true_eq, decide_eq_false_iff_not, Bool.and_eq_true, Bool.or_eq_true, Bool.and_eq_false_iff, Bool.or_eq_false_iff, Bool.not_eq_true', Bool.not_eq_false', Bool.not_eq_true, Bool.not_eq_false, Int.not_lt, Int.not_le, Decidable.not_not, ne_eq] at hc1
      subst hc1
      simp only [cond_false]
      refine Hd.ret ?_
      refine Hd.inBret ?_
      refine Hd.thenRet ?_
      refine Hd.thenRet ?_
      refine Hd.inBret ?_
      clear hK1 hK2 hK3 hK4 hK5 hK6
      exact Hd.ret0 rfl (xs.take i ++ [g xs i], false) rfl (fun k' h => Ent.sep (.pure hpr .same) k' h)
    ·
      try simp only [decide_eq_true_eq, decide_eq_false_iff_not, Bool.and_eq_true, Bool.or_eq_true, Bool.and_eq_false_iff, Bool.or_eq_false_iff, Bool.not_eq_true', Bool.not_eq_false', Bool.not_eq_true, Bool.not_eq_false, Int.not_lt, Int.not_le, Decidable.not_not, ne_eq] at hc1
      subst hc1
      simp only [cond_true]
      refine Hd.heap (SlI b1 ad n cap :: OwI ad n cap xs :: J (xs.take (i + 1))) (fun k' h => by rw [htk]; exact sep_app h) ?_
      refine Hd.skip ?_
      refine Hd.inB ?_
      refine Hd.toK hK4 ?_
      refine Hd.region ?_
      first | (refine Hd.yv (y_addn rfl rfl (by simp only [InK]; omega)) ?_) | (refine Hd.yv (y_add rfl rfl) ?_)
      refine Hd.yv (y_move rfl) ?_
      refine Hd.nil ?_
      refine Hd.slots [(0, _), (5, _), (6, _), (7, _)] ⟨rfl, rfl, rfl, rfl, trivial⟩ ?_
      clear hK1 hK2 hK3 hK4 hK5 hK6
      refine Hd.thenN ?_
      exact Hd.again (i + 1) (by first | omega | (simp only; omega) | (simp; omega)) (by repeat (first | exact trivial | refine ⟨rfl, ?_⟩)) (Ent.sep (.pure (by first | omega | (simp; done) | (simp; omega) | (dsimp only; omega)) enn))
  ·
    try simp only [decide_eq_true_eq, decide_eq_false_iff_not, Bool.and_eq_true, Bool.or_eq_true, Bool.and_eq_false_iff, Bool.or_eq_false_iff, Bool.not_eq_true', Bool.not_eq_false', Bool.not_eq_true, Bool.not_eq_false, Int.not_lt, Int.not_le, Decidable.not_not, ne_eq] at hc0
    refine Hd.exit ?_
    refine Hd.thenExit ?_
    refine Hd.thenExit ?_
    refine Hd.inBexit ?_
    clear hK1 hK2 hK3
    have hi : i = n := by omega
    have hx : xs.take i = xs := List.take_of_length_le (by omega)
    rw [hx]
    exact Hd.end0 rfl (xs, true) rfl (fun k' h => Ent.sep (.pure rfl .same) k' (sep_app (M := [SlI b1 ad n cap, OwI ad n cap xs]) (N := J xs) h))
set_option maxHeartbeats 2000000 in
theorem values_ct (L : List SP) (ad : Option Addr) (n cap : Nat) : Ct Try.prog 80 #[.slice ad n cap] (L) (fun b : Nat => .func (.func 86) #[] #[.pointer (some ⟨b, 0, none⟩)]) (fun b : Nat => SlI b ad n cap :: L) := by
  refine Ct.of (vs := [.slice ad n cap]) Try.func80 rfl rfl [(0, .slice ad n cap)] (by repeat (first | exact trivial | refine ⟨rfl, ?_⟩)) ?_
  intro E
  show Hd E 4 _ _ _ _
  refine Hd.seq (fun K1 hK1 => ?_)
  refine Hd.region ?_
  refine Hd.box rfl rfl (fun b1 => ?_)
  refine Hd.yv (y_assign rfl) ?_
  refine Hd.nil ?_
  refine Hd.slots [(1, _)] ⟨rfl, trivial⟩ ?_
  refine Hd.toK hK1 ?_
  refine Hd.seq (fun K2 hK2 => ?_)
  refine Hd.region ?_
  refine Hd.yv (y_mkf (fv := []) (cv := [_]) rfl rfl) ?_
  refine Hd.yv (y_assign rfl) ?_
  refine Hd.nil ?_
  refine Hd.slots [(2, _)] ⟨rfl, trivial⟩ ?_
  refine Hd.toK hK2 ?_
  refine Hd.ret ?_
  clear hK1 hK2
  exact Hd.ret1 rfl b1 rfl (Ent.sep enn)
abbrev seqV (b : Nat) : Value := .func (.func 86) #[] #[.pointer (some ⟨b, 0, none⟩)]
set_option maxHeartbeats 2000000 in
theorem appseq_ct (L : List SP) (b1 : Nat) (ad : Option Addr) (n cap : Nat) (xs : List It) (hn : xs.length = n) (hlen : n ≤ 1000000) : Ct Try.prog 98 #[.slice none 0 0, seqV b1] (SlI b1 ad n cap :: OwI ad n cap xs :: L) (fun q_ : Option Addr × Nat => .slice q_.1 n q_.2) (fun q_ : Option Addr × Nat => OwI q_.1 n q_.2 xs :: SlI b1 ad n cap :: OwI ad n cap xs :: L) := by
  refine Ct.ofM (vs := [.slice none 0 0, seqV b1]) Try.func98 rfl rfl [(0, .slice none 0 0), (1, seqV b1)] (by repeat (first | exact trivial | refine ⟨rfl, ?_⟩)) ?_
  intro E
  show Hd E 13 _ _ _ _
  refine Hd.seq (fun K1 hK1 => ?_)
  refine Hd.region ?_
  refine Hd.box rfl rfl (fun b2 => ?_)
  refine Hd.yv (y_assign rfl) ?_
  refine Hd.nil ?_
  refine Hd.slots [(1, _), (2, _)] ⟨rfl, rfl, trivial⟩ ?_
  refine Hd.toK hK1 ?_
  refine Hd.seq (fun K2 hK2 => ?_)
  refine Hd.seq (fun K3 hK3 => ?_)
  refine Hd.region ?_
  refine Hd.yv (y_move rfl) ?_
  refine Hd.nil ?_
  refine Hd.slots [(2, _), (6, _)] ⟨rfl, rfl, trivial⟩ ?_
  refine Hd.toK hK3 ?_
  refine Hd.block ?_
  refine Hd.rangeF (enc := encA) (S := fun ys => ys = xs) (Sp := fun ys => ys <+: xs)
    (fun pre => OutI b2 pre :: L) (fun _ _ => [pu False])
    rfl (by kernel_rfl) (fun _ => rfl) rfl (values_it b1 ad n cap xs hn hlen) (Ent.sep (.ex (none, 0) (.eq pkk (pt_eq (by rfl)) (.ownNil Ent.two)))) ?_ ?_ ?_
  ·
    intro E l' R pre c N hR hG
    have hpl : pre.length + 1 ≤ 1000000 := by have h1 := hG.length_le; simp at h1; omega
    unfold Rnd
    simp only [List.cons_append, List.nil_append, pz, encA]
    refine Hd.region ?_
    refine Hd.alloc zr69 (fun b5 => ?_)
    refine Hd.storeA (us := encI c) sz69 rfl rfl rfl (encI_one _) pkk (by exact rfl) ?_
    refine Hd.nil ?_
    refine Hd.slots [(2, _), (5, _)] ⟨rfl, rfl, trivial⟩ ?_
    refine Hd.thenN ?_
    refine Hd.begin hR pkk ?_
    refine Hd.block ?_
    refine Hd.exs pkk ?_
    rintro ⟨a3, c3⟩
    simp only [List.cons_append, List.nil_append]
    refine Hd.region ?_
    first | (refine Hd.yv (y_load1 ag77 rfl (Rd.pt1 pkk (by (first | rfl)))) ?_) | (refine Hd.yv (y_load1 ag77 rfl (Rd.seg1 pkk (by (first | rfl)))) ?_) | (refine Hd.yv (y_loadR1 ag77 rfl (by (first | exact RdS.own pkk)) (by (first | rfl))) ?_)
    refine Hd.yv (y_loadn (us := encI c) ag69 rfl (Rd.pt pkk (fun j v e => by rw [Nat.zero_add]; exact e)) (by exact sz69)) ?_
    refine Hd.bslice (vs := [(0, _)]) rfl (by first | exact bs98_10 .. | kernel_rfl) (fun b10 => ?_)
    refine Hd.append Try.underlying77 ty69 rfl rfl rfl pkk (by first | exact RdS.rd (Rd.pt pkk (fun j v e => by simpa using e)) rfl | (first | exact RdS.own pkk)) (by first | (simp [Value.oneCell']; done) | assumption) (by first | (simp only [maxLen]; omega) | assumption) (by omega) (fun ad11 cap11 => ?_)
    first | (refine Hd.store1 sz77 rfl rfl rfl pkk (by first | decide | (simp; done) | (simp; omega)) ?_) | (refine Hd.storeG1 sz77 rfl rfl rfl pkk (by first | decide | (simp; done) | (simp; omega)) ?_) | (refine Hd.storeO1 sz77 rfl rfl rfl pkk (by first | omega | (simp; done) | (simp; omega)) ?_)
    try simp only [List.set_cons_zero, List.set_cons_succ]
    refine Hd.nil ?_
    refine Hd.slots [(2, _)] ⟨rfl, trivial⟩ ?_
    refine Hd.inB ?_
    clear hK1 hK2 hK3
    refine Hd.reN ?_
    simp only [List.cons_append, List.nil_append]
    exact Ent.sep (.pick pkk (.ex (ad11, cap11) (.eq pkk (pt_eq (by simp)) (.eq pkk (own_eq (by simp) (by simp)) enn))))
  ·
    intro r0 ys hys
    obtain rfl : ys = xs := hys
    simp only [List.cons_append, List.nil_append]
    refine Hd.inB ?_
    refine Hd.toK hK2 ?_
    refine Hd.seq (fun K4 hK4 => ?_)
    refine Hd.exs pkk ?_
    rintro ⟨a3, c3⟩
    simp only [List.cons_append, List.nil_append]
    refine Hd.region ?_
    first | (refine Hd.yv (y_load1 ag77 rfl (Rd.pt1 pkk (by (first | rfl)))) ?_) | (refine Hd.yv (y_load1 ag77 rfl (Rd.seg1 pkk (by (first | rfl)))) ?_) | (refine Hd.yv (y_loadR1 ag77 rfl (by (first | exact RdS.own pkk)) (by (first | rfl))) ?_)
    refine Hd.yv (y_assign rfl) ?_
    refine Hd.nil ?_
    refine Hd.slots [(4, _)] ⟨rfl, trivial⟩ ?_
    refine Hd.toK hK4 ?_
    refine Hd.ret ?_
    clear hK1 hK2 hK3 hK4
    exact Hd.retM (fun a fr => Lv.mark pkk (Lv.end1 fr rfl (a3, c3) (by dsimp only; rw [← hn]; rfl) (Ent.sep (.eq pkk (own_eq3 hn rfl rfl) enn))))
  ·
    rintro r0_0 (_ | id0) pre0 hG0
    ·
      exact Hd.absurd (by first | exact id | simp)
    ·
      exact Hd.absurd (by first | exact id | simp)
set_option maxHeartbeats 2000000 in
theorem collect_ct (L : List SP) (b1 : Nat) (ad : Option Addr) (n cap : Nat) (xs : List It) (hn : xs.length = n) (hlen : n ≤ 1000000) : Ct Try.prog 85 #[seqV b1] (SlI b1 ad n cap :: OwI ad n cap xs :: L) (fun q_ : Option Addr × Nat => .slice q_.1 n q_.2) (fun q_ : Option Addr × Nat => OwI q_.1 n q_.2 xs :: SlI b1 ad n cap :: OwI ad n cap xs :: L) := by
  refine Ct.of (vs := [seqV b1]) Try.func85 rfl rfl [(0, seqV b1)] (by repeat (first | exact trivial | refine ⟨rfl, ?_⟩)) ?_
  intro E
  show Hd E 5 _ _ _ _
  refine Hd.seq (fun K1 hK1 => ?_)
  refine Hd.region ?_
  refine Hd.yv (y_assign rfl) ?_
  refine Hd.nil ?_
  refine Hd.slots [(0, _)] ⟨rfl, trivial⟩ ?_
  refine Hd.toK hK1 ?_
  refine Hd.seq (fun K2 hK2 => ?_)
  refine Hd.region ?_
  refine Hd.yv (y_move rfl) ?_
  refine Hd.callE rfl fk98 (appseq_ct L b1 ad n cap xs hn hlen) (Ent.sep enn) ?_
  rintro ⟨a2, c2⟩
  dsimp only
  refine Hd.yv (y_assign rfl) ?_
  refine Hd.nil ?_
  refine Hd.slots [(2, _)] ⟨rfl, trivial⟩ ?_
  refine Hd.toK hK2 ?_
  refine Hd.ret ?_
  clear hK1 hK2
  exact Hd.ret1 rfl (a2, c2) rfl (Ent.sep enn)
set_option maxHeartbeats 2000000 in
theorem sortedf_ct (L : List SP) (b1 : Nat) (ad : Option Addr) (n cap : Nat) (xs s : List It) (hn : xs.length = n) (hlen : n ≤ 1000000) (hp : xs.Perm s) (hs : s.Pairwise ltI) : Ct Try.prog 79 #[seqV b1, .func (.func 78) #[] #[]] (SlI b1 ad n cap :: OwI ad n cap xs :: L) (fun q_ : Option Addr × Nat => .slice q_.1 n q_.2) (fun q_ : Option Addr × Nat => OwI q_.1 n q_.2 s :: SlI b1 ad n cap :: OwI ad n cap xs :: L) := by
  refine Ct.of (vs := [seqV b1, .func (.func 78) #[] #[]]) Try.func79 rfl rfl [(0, seqV b1), (1, .func (.func 78) #[] #[])] (by repeat (first | exact trivial | refine ⟨rfl, ?_⟩)) ?_
  intro E
  show Hd E 12 _ _ _ _
  refine Hd.seq (fun K1 hK1 => ?_)
  refine Hd.region ?_
  refine Hd.yv (y_assign rfl) ?_
  refine Hd.nil ?_
  refine Hd.slots [(0, _), (1, _)] ⟨rfl, rfl, trivial⟩ ?_
  refine Hd.toK hK1 ?_
  refine Hd.seq (fun K2 hK2 => ?_)
  refine Hd.region ?_
  refine Hd.yv (y_move rfl) ?_
  refine Hd.callE rfl fk85 (collect_ct L b1 ad n cap xs hn hlen) (Ent.sep enn) ?_
  rintro ⟨a2, c2⟩
  dsimp only
  refine Hd.yv (y_assign rfl) ?_
  refine Hd.nil ?_
  refine Hd.slots [(1, _), (5, _)] ⟨rfl, rfl, trivial⟩ ?_
  refine Hd.toK hK2 ?_
  refine Hd.seq (fun K3 hK3 => ?_)
  refine Hd.region ?_
  refine Hd.yv (y_move rfl) ?_
  refine Hd.yv (y_move rfl) ?_
  refine Hd.callE rfl fk69 (sort_ct (SlI b1 ad n cap :: OwI ad n cap xs :: L) a2 n c2 xs s hn hp hs hlen) (Ent.sep enn) ?_
  intro _
  refine Hd.nil ?_
  refine Hd.slots [(5, _)] ⟨rfl, trivial⟩ ?_
  refine Hd.toK hK3 ?_
  refine Hd.seq (fun K4 hK4 => ?_)
  refine Hd.region ?_
  refine Hd.yv (y_move rfl) ?_
  refine Hd.yv (y_assign rfl) ?_
  refine Hd.nil ?_
  refine Hd.slots [(4, _)] ⟨rfl, trivial⟩ ?_
  refine Hd.toK hK4 ?_
  refine Hd.ret ?_
  clear hK1 hK2 hK3 hK4
  exact Hd.ret1 rfl (a2, c2) rfl (Ent.sep enn)
set_option maxHeartbeats 2000000 in
theorem all_ct (L : List SP) (b : Nat) (s : List It) : Ct Try.prog 68 #[.pointer (some ⟨b, 0, none⟩)] (HpA b s :: L) (fun q_ : Option Addr × Nat => .slice q_.1 s.length q_.2) (fun q_ : Option Addr × Nat => OwI q_.1 s.length q_.2 s :: HpA b s :: L) := by
  refine Ct.of (vs := [.pointer (some ⟨b, 0, none⟩)]) Try.func68 rfl rfl [(0, .pointer (some ⟨b, 0, none⟩))] (by repeat (first | exact trivial | refine ⟨rfl, ?_⟩)) ?_
  intro E
  show Hd E 11 _ _ _ _
  refine Hd.exs .here ?_
  rintro ⟨mb, ad, cap, V, f⟩
  simp only [List.cons_append, List.nil_append]
  refine Hd.pure (fun hq => ?_)
  have hVn := hq.vlen
  have hln := hq.len
  refine Hd.seq (fun K1 hK1 => ?_)
  refine Hd.region ?_
  refine Hd.yv (y_assign rfl) ?_
  refine Hd.nil ?_
  refine Hd.slots [(0, _)] ⟨rfl, trivial⟩ ?_
  refine Hd.toK hK1 ?_
  refine Hd.seq (fun K2 hK2 => ?_)
  refine Hd.seq (fun K3 hK3 => ?_)
  refine Hd.region ?_
  refine Hd.yv (y_move rfl) ?_
  refine Hd.callE rfl fk66 (none_ct _ b mb ad s.length cap) (Ent.sep enn) ?_
  intro _
  refine Hd.nil ?_
  refine Hd.slots [(0, _), (4, _)] ⟨rfl, rfl, trivial⟩ ?_
  refine Hd.toK hK3 ?_
  refine Hd.condF rfl ?_
  refine Hd.skip ?_
  refine Hd.toK hK2 ?_
  refine Hd.seq (fun K4 hK4 => ?_)
  refine Hd.region ?_
  refine Hd.yv (y_move rfl) ?_
  refine Hd.yv (y_nilp rfl) ?_
  first | (refine Hd.yv (y_field' (q := 0) (ft := 77) Try.underlying100 rfl sz77 rfl rfl) ?_) | (refine Hd.yv (y_fieldR (q := 0) (ft := 77) Try.underlying100 rfl sz77 rfl rfl) ?_)
  first | (refine Hd.yv (y_load1 ag77 rfl (Rd.pt1 pkk (by (first | rfl)))) ?_) | (refine Hd.yv (y_load1 ag77 rfl (Rd.seg1 pkk (by (first | rfl)))) ?_) | (refine Hd.yv (y_loadR1 ag77 rfl (by (first | exact RdS.own pkk)) (by (first | rfl))) ?_)
  refine Hd.callE rfl fk80 (values_ct _ ad s.length cap) (Ent.sep enn) ?_
  intro b1
  refine Hd.callE rfl fk79 (sortedf_ct _ b1 ad s.length cap V s hVn hln hq.perm hq.srt) (Ent.sep enn) ?_
  rintro ⟨a2, c2⟩
  dsimp only
  refine Hd.yv (y_assign rfl) ?_
  refine Hd.nil ?_
  refine Hd.slots [(2, _)] ⟨rfl, trivial⟩ ?_
  refine Hd.toK hK4 ?_
  refine Hd.ret ?_
  clear hK1 hK2 hK3 hK4
  exact Hd.ret1 rfl (a2, c2) rfl (Ent.sep (.pick pkk (.ex (mb, ad, cap, V, f) (.pure hq enn))))
end Hp
end Go.Proofs.Ytdjoofidicoimaa
