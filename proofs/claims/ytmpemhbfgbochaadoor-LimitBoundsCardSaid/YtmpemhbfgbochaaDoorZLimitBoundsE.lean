/-
  Worlds: numbers, open, make. Worlds: open, make, Pair. Worlds: open, make, Pair: the calls. Worlds: Pair, Close. Worlds: Close (of a wire at which none waits). What chains of bytes stand on: rows of bytes; slices' Clone, Grow, Concat and Chunk. slices.Chunk's pieces; chains: what may come, Add and Ahead. Chains: Add and Ahead.
-/
import Derived.Test.YtmpemhbfgbochaaDoorZLimitBoundsD
namespace Go.Proofs.YtmpemhbfgbochaaDoor
set_option linter.unusedSimpArgs false
set_option linter.unusedVariables false
set_option linter.unnecessarySimpa false
open Go.RX Fx
namespace Wo
set_option maxRecDepth 8000
theorem woT_at {t : Int → Option (Nat × Nat)} {w : WA} {n j o : Nat} {i : WoI} {v : Value} (ho : o = 288 + j) (hv : (woT w n i)[j]? = some v) : (fdC t ++ woT w n i)[o]? = some v := by
  subst ho
  rw [List.getElem?_append_right (by rw [fdC_len]; omega), fdC_len, Nat.add_sub_cancel_left]; exact hv
abbrev OutN (b n : Nat) (l : List Nat) : SP := RX.ex fun i : Option Addr × Nat => [pu (l.length ≤ n), pt b [.slice i.1 l.length i.2] 89, own 3 1 i.1 l.length i.2 (nats l)]
theorem frees_len (t : Int → Option (Nat × Nat)) : (frees t).length ≤ 96 := by
  have := List.length_filter_le (fun fd : Nat => (t (fd : Int)).isNone) (List.range 96)
  rwa [List.length_range] at this
set_option maxHeartbeats 2000000 in
theorem numbers_ct (L : List SP) (wb m : Nat) (t : Int → Option (Nat × Nat)) (w : WA) (i : WoI) (n : Nat) : Ct Tryd.prog 71 #[.pointer (some ⟨wb, 0, none⟩), .int .i64 (n : Int)] (WoH wb t w m i :: L) (fun q_ : Option Addr × Nat => .tuple #[.slice q_.1 ((frees t).take n).length q_.2, .bool (decide ((((frees t).take n).length : Int) = (n : Int)) && decide ((m : Int) < 1000))]) (fun q_ : Option Addr × Nat => own 3 1 q_.1 ((frees t).take n).length q_.2 (nats ((frees t).take n)) :: WoH wb t w m i :: L) := by
  refine Ct.ofM (vs := [.pointer (some ⟨wb, 0, none⟩), .int .i64 (n : Int)]) Tryd.func71 rfl rfl [(0, .pointer (some ⟨wb, 0, none⟩)), (1, .int .i64 (n : Int))] (by repeat (first | exact trivial | refine ⟨rfl, ?_⟩)) ?_
  intro E
  show Hd E 32 _ _ _ _
  refine Hd.seq (fun K1 hK1 => ?_)
  refine Hd.region ?_
  refine Hd.box rfl rfl (fun b3 => ?_)
  refine Hd.yv (y_assign rfl) ?_
  refine Hd.yv (y_assign rfl) ?_
  refine Hd.nil ?_
  refine Hd.slots [(0, _), (3, _)] ⟨rfl, rfl, trivial⟩ ?_
  refine Hd.toK hK1 ?_
  refine Hd.scope ?_
  refine Hd.seq (fun K2 hK2 => ?_)
  refine Hd.region ?_
  refine Hd.alloc zr89 (fun b6 => ?_)
  refine Hd.nil ?_
  refine Hd.slots [(0, _), (3, _), (6, _)] ⟨rfl, rfl, rfl, trivial⟩ ?_
  refine Hd.toK hK2 ?_
  refine Hd.seq (fun K3 hK3 => ?_)
  refine Hd.label ?_
  refine Hd.toK hK3 ?_
  refine Hd.seq (fun K4 hK4 => ?_)
  refine Hd.seq (fun K5 hK5 => ?_)
  refine Hd.region ?_
  refine Hd.yv (y_move rfl) ?_
  refine Hd.callE rfl fk88 (free_ct _ wb) (Ent.sep enn) ?_
  intro bx
  refine Hd.nil ?_
  refine Hd.slots [(0, _), (3, _), (6, _), (9, _)] ⟨rfl, rfl, rfl, rfl, trivial⟩ ?_
  refine Hd.toK hK5 ?_
  refine Hd.block ?_
  refine Hd.rangeF (enc := encF) (S := fun ys => ys = frees t) (Sp := fun ys => ys <+: frees t)
    (fun pre => OutN b6 n pre :: pt b3 [.int .i64 (n : Int)] 3 :: L) (fun j _ => [pu (j = some 0), OutN b6 n ((frees t).take n), pt b3 [.int .i64 (n : Int)] 3] ++ L)
    rfl (by kernel_rfl) (fun _ => rfl) rfl (free_it wb bx m t w i) (by refine Ent.sep ?_; refine Ent.ex (none, 0) ?_; refine Ent.pure (Nat.zero_le _) ?_; refine Ent.eq pkk (pt_eq (by rfl)) ?_; refine Ent.ownNil ?_; refine Ent.pick pkk ?_; exact Ent.swap (L := [_, _])) ?_ ?_ ?_
  ·
    intro E l' R pre p N hR hG
    have hfl := frees_len t
    have hpl := hG.length_le
    rw [List.length_append] at hpl
    have htk : pre.length = n → (frees t).take n = pre := fun e => by
      obtain ⟨r, hr⟩ := hG
      rw [← hr, ← e, List.append_assoc, List.take_left]
    unfold Rnd
    simp only [List.cons_append, List.nil_append, pz, encF]
    refine Hd.region ?_
    refine Hd.yv (y_assign rfl) ?_
    refine Hd.nil ?_
    refine Hd.slots [(0, _), (3, _), (6, _), (7, _)] ⟨rfl, rfl, rfl, rfl, trivial⟩ ?_
    refine Hd.thenN ?_
    refine Hd.begin hR pkk ?_
    refine Hd.block ?_
    refine Hd.seq (fun K6 hK6 => ?_)
    refine Hd.seq (fun K7 hK7 => ?_)
    refine Hd.exs pkk ?_
    rintro ⟨a3, c3⟩
    simp only [List.cons_append, List.nil_append]
    refine Hd.pure (fun hpn => ?_)
    refine Hd.region ?_
    first | (refine Hd.yv (y_load1 ag89 rfl (Rd.pt1 pkk (by (first | exact woT_at (j := 0) (by omega) rfl | rfl)))) ?_) | (refine Hd.yv (y_load1 ag89 rfl (Rd.seg1 pkk (by (first | exact woT_at (j := 0) (by omega) rfl | rfl)))) ?_) | (refine Hd.yv (y_loadR1 ag89 rfl (by (first | exact RdS.own pkk | exact RdS.own pkk)) (by (first | exact woT_at (j := 0) (by omega) rfl | rfl))) ?_)
    refine Hd.yv (y_len Tryd.underlying89 rfl) ?_
    first | (refine Hd.yv (y_load1 ag3 rfl (Rd.pt1 pkk (by (first | exact woT_at (j := 0) (by omega) rfl | rfl)))) ?_) | (refine Hd.yv (y_load1 ag3 rfl (Rd.seg1 pkk (by (first | exact woT_at (j := 0) (by omega) rfl | rfl)))) ?_) | (refine Hd.yv (y_loadR1 ag3 rfl (by (first | exact RdS.own pkk | exact RdS.own pkk)) (by (first | exact woT_at (j := 0) (by omega) rfl | rfl))) ?_)
    first | (refine Hd.yv (y_eqlT rfl rfl) ?_) | (refine Hd.yv (y_eql rfl rfl) ?_)
    refine Hd.nil ?_
    refine Hd.slots [(0, _), (3, _), (6, _), (7, _), (14, _)] ⟨rfl, rfl, rfl, rfl, rfl, trivial⟩ ?_
    refine Hd.toK hK7 ?_
    refine Hd.cond rfl (fun hc0 => ?_) (fun hc0 => ?_)
    ·
      try simp only [decide_eq_true_eq, decide_eq_false_iff_not, Bool.and_eq_true, Bool.or_eq_true, Bool.and_eq_false_iff, Bool.or_eq_false_iff, Bool.not_eq_true', Bool.not_eq_false', Bool.not_eq_true, Bool.not_eq_false, Int.not_lt, Int.not_le, Decidable.not_not, ne_eq] at hc0
      refine Hd.exit ?_
      refine Hd.thenExit ?_
      refine Hd.inBexit' rfl ?_
      clear hK1 hK2 hK3 hK4 hK5 hK6 hK7
      refine Hd.reX ?_
      simp only [List.cons_append, List.nil_append]
      have hc0' : pre.length = n := by omega
      rw [htk hc0']
      exact Ent.sep (.pick pkk (.pure (by first | trivial | rfl) (.ex (a3, c3) (.pure (by omega) enn))))
    ·
      try simp only [decide_eq_true_eq, decide_eq_false_iff_not, Bool.and_eq_true, Bool.or_eq_true, Bool.and_eq_false_iff, Bool.or_eq_false_iff, Bool.not_eq_true', Bool.not_eq_false', Bool.not_eq_true, Bool.not_eq_false, Int.not_lt, Int.not_le, Decidable.not_not, ne_eq] at hc0
      refine Hd.skip ?_
      refine Hd.toK hK6 ?_
      refine Hd.region ?_
      first | (refine Hd.yv (y_load1 ag89 rfl (Rd.pt1 pkk (by (first | exact woT_at (j := 0) (by omega) rfl | rfl)))) ?_) | (refine Hd.yv (y_load1 ag89 rfl (Rd.seg1 pkk (by (first | exact woT_at (j := 0) (by omega) rfl | rfl)))) ?_) | (refine Hd.yv (y_loadR1 ag89 rfl (by (first | exact RdS.own pkk | exact RdS.own pkk)) (by (first | exact woT_at (j := 0) (by omega) rfl | rfl))) ?_)
      refine Hd.yv (y_move rfl) ?_
      refine Hd.bslice (vs := [(0, _)]) rfl (by first | exact bs71_17 .. | kernel_rfl) (fun b17 => ?_)
      refine Hd.append Tryd.underlying89 ty3 rfl rfl rfl pkk (by first | exact RdS.rd (Rd.pt pkk (fun j v e => by simpa using e)) rfl | (first | exact RdS.own pkk | exact RdS.own pkk)) (by first | (simp [Value.oneCell']; done) | assumption) (by first | (simp only [maxLen]; omega) | assumption) (by omega) (fun ad18 cap18 => ?_)
      first | (refine Hd.store1 sz89 rfl rfl rfl pkk (by first | decide | (simp; done) | (simp; omega)) ?_) | (refine Hd.storeG1 sz89 rfl rfl rfl pkk (by first | decide | (simp; done) | (simp; omega)) ?_) | (refine Hd.storeO1 sz89 rfl rfl rfl pkk (by first | omega | (simp; done) | (simp; omega)) ?_)
      try simp only [List.set_cons_zero, List.set_cons_succ]
      refine Hd.nil ?_
      refine Hd.slots [(0, _), (3, _), (6, _)] ⟨rfl, rfl, rfl, trivial⟩ ?_
      refine Hd.inB ?_
      clear hK1 hK2 hK3 hK4 hK5 hK6 hK7
      refine Hd.reN ?_
      simp only [List.cons_append, List.nil_append]
      exact Ent.sep (.pick pkk (.ex (ad18, cap18) (.pure (by rw [List.length_append]; show pre.length + 1 ≤ n; omega) (.eq pkk (pt_eq (by simp)) (.eq pkk (own_eq (by simp) (by simp [nats])) enn)))))
  ·
    intro r0 ys hys
    obtain rfl : ys = frees t := hys
    simp only [List.cons_append, List.nil_append]
    refine Hd.exs pkk ?_
    rintro ⟨a3, c3⟩
    simp only [List.cons_append, List.nil_append]
    refine Hd.pure (fun hfn => ?_)
    have htk : (frees t).take n = frees t := List.take_of_length_le hfn
    try simp only [List.cons_append, List.nil_append]
    refine Hd.inB ?_
    refine Hd.toK hK4 ?_
    refine Hd.seq (fun K8 hK8 => ?_)
    refine Hd.quiet mixed (by kernel_rfl) ?_
    first | (refine Hq.yv (y_load1 ag89 rfl (Rd.pt1 pkk (by (first | exact woT_at (j := 0) (by omega) rfl | rfl)))) ?_) | (refine Hq.yv (y_load1 ag89 rfl (Rd.seg1 pkk (by (first | exact woT_at (j := 0) (by omega) rfl | rfl)))) ?_) | (refine Hq.yv (y_loadR1 ag89 rfl (by (first | exact RdS.own pkk | exact RdS.own pkk)) (by (first | exact woT_at (j := 0) (by omega) rfl | rfl))) ?_)
    first | (refine Hq.yv (y_load1 ag89 rfl (Rd.pt1 pkk (by (first | exact woT_at (j := 0) (by omega) rfl | rfl)))) ?_) | (refine Hq.yv (y_load1 ag89 rfl (Rd.seg1 pkk (by (first | exact woT_at (j := 0) (by omega) rfl | rfl)))) ?_) | (refine Hq.yv (y_loadR1 ag89 rfl (by (first | exact RdS.own pkk | exact RdS.own pkk)) (by (first | exact woT_at (j := 0) (by omega) rfl | rfl))) ?_)
    refine Hq.yv (y_len Tryd.underlying89 rfl) ?_
    first | (refine Hq.yv (y_load1 ag3 rfl (Rd.pt1 pkk (by (first | exact woT_at (j := 0) (by omega) rfl | rfl)))) ?_) | (refine Hq.yv (y_load1 ag3 rfl (Rd.seg1 pkk (by (first | exact woT_at (j := 0) (by omega) rfl | rfl)))) ?_) | (refine Hq.yv (y_loadR1 ag3 rfl (by (first | exact RdS.own pkk | exact RdS.own pkk)) (by (first | exact woT_at (j := 0) (by omega) rfl | rfl))) ?_)
    first | (refine Hq.yv (y_eqlT rfl rfl) ?_) | (refine Hq.yv (y_eql rfl rfl) ?_)
    refine Hq.yv (y_move rfl) ?_
    apply Hq.andg 7 24 31 [(19, _)] rfl ⟨rfl, trivial⟩
    · intro hg6_24
      try simp only [decide_eq_true_eq, decide_eq_false_iff_not, Bool.and_eq_true, Bool.or_eq_true, Bool.and_eq_false_iff, Bool.or_eq_false_iff, Bool.not_eq_true', Bool.not_eq_false', Bool.not_eq_true, Bool.not_eq_false, Int.not_lt, Int.not_le, Decidable.not_not, ne_eq] at hg6_24
      simp only [List.take]
      refine Hq.yg rfl rfl (y_move rfl) ?_
      refine Hq.yg rfl rfl (y_nilp rfl) ?_
      first | (refine Hq.yg rfl rfl (y_field' (q := 288) (ft := 115) Tryd.underlying117 rfl sz115 rfl rfl) ?_) | (refine Hq.yg rfl rfl (y_fieldR (q := 288) (ft := 115) Tryd.underlying117 rfl sz115 rfl rfl) ?_)
      first | (refine Hq.yg rfl rfl (y_load1 ag115 rfl (Rd.pt1 pkk (by (first | exact woT_at (j := 0) (by omega) rfl | rfl)))) ?_) | (refine Hq.yg rfl rfl (y_load1 ag115 rfl (Rd.seg1 pkk (by (first | exact woT_at (j := 0) (by omega) rfl | rfl)))) ?_) | (refine Hq.yg rfl rfl (y_loadR1 ag115 rfl (by (first | exact RdS.own pkk | exact RdS.own pkk)) (by (first | exact woT_at (j := 0) (by omega) rfl | rfl))) ?_)
      refine Hq.yg rfl rfl (y_len Tryd.underlying115 rfl) ?_
      refine Hq.yg rfl rfl (y_lss rfl rfl) ?_
      first | (refine Hq.yv (y_pickT rfl rfl) ?_) | (refine Hq.yv (y_pickF rfl rfl) ?_) | (refine Hq.yv (y_pickb rfl rfl rfl) ?_) | (refine Hq.yv (y_pick rfl rfl rfl) ?_)
      exact Hq.mend (by repeat (first | exact trivial | refine ⟨rfl, ?_⟩))
    · intro hg6_24
      try simp only [decide_eq_true_eq, decide_eq_false_iff_not, Bool.and_eq_true, Bool.or_eq_true, Bool.and_eq_false_iff, Bool.or_eq_false_iff, Bool.not_eq_true', Bool.not_eq_false', Bool.not_eq_true, Bool.not_eq_false, Int.not_lt, Int.not_le, Decidable.not_not, ne_eq] at hg6_24
      simp only [List.take]
      refine Hq.ng rfl rfl rfl ?_
      refine Hq.ng rfl rfl rfl ?_
      refine Hq.ng rfl rfl rfl ?_
      refine Hq.ng rfl rfl rfl ?_
      refine Hq.ng rfl rfl rfl ?_
      refine Hq.ng rfl rfl rfl ?_
      first | (refine Hq.yv (y_pickT rfl rfl) ?_) | (refine Hq.yv (y_pickF rfl rfl) ?_) | (refine Hq.yv (y_pickb rfl rfl rfl) ?_) | (refine Hq.yv (y_pick rfl rfl rfl) ?_)
      exact Hq.mend (by repeat (first | exact trivial | refine ⟨rfl, ?_⟩))
    simp only [List.drop]
    refine Hq.yv (y_assign rfl) ?_
    refine Hq.yv (y_assign rfl) ?_
    refine Hq.nil ?_
    refine Hd.slots [(4, _), (5, _)] ⟨rfl, rfl, trivial⟩ ?_
    refine Hd.toK hK8 ?_
    refine Hd.ret ?_
    refine Hd.scRet ?_
    clear hK1 hK2 hK3 hK4 hK5 hK8
    rw [htk]
    exact Hd.retM (fun a fr => Lv.mark pkk (Lv.end2 fr rfl (a3, c3) rfl rfl rfl (Ent.sep enn)))
  ·
    rintro r0_0 (_ | id0) pre0 hG0
    ·
      exact Hd.absurd (by first | exact id | simp)
    ·
      by_cases hid0 : id0 = 0
      · subst hid0
        simp only [List.cons_append, List.nil_append]
        refine Hd.pure (fun _ => ?_)
        refine Hd.exs pkk ?_
        rintro ⟨a3, c3⟩
        simp only [List.cons_append, List.nil_append]
        refine Hd.pure (fun hfn => ?_)
        try simp only [List.cons_append, List.nil_append]
        refine Hd.exit ?_
        refine Hd.inBexit ?_
        refine Hd.toK hK4 ?_
        refine Hd.seq (fun K9 hK9 => ?_)
        refine Hd.quiet mixed (by kernel_rfl) ?_
        first | (refine Hq.yv (y_load1 ag89 rfl (Rd.pt1 pkk (by (first | exact woT_at (j := 0) (by omega) rfl | rfl)))) ?_) | (refine Hq.yv (y_load1 ag89 rfl (Rd.seg1 pkk (by (first | exact woT_at (j := 0) (by omega) rfl | rfl)))) ?_) | (refine Hq.yv (y_loadR1 ag89 rfl (by (first | exact RdS.own pkk | exact RdS.own pkk)) (by (first | exact woT_at (j := 0) (by omega) rfl | rfl))) ?_)
        first | (refine Hq.yv (y_load1 ag89 rfl (Rd.pt1 pkk (by (first | exact woT_at (j := 0) (by omega) rfl | rfl)))) ?_) | (refine Hq.yv (y_load1 ag89 rfl (Rd.seg1 pkk (by (first | exact woT_at (j := 0) (by omega) rfl | rfl)))) ?_) | (refine Hq.yv (y_loadR1 ag89 rfl (by (first | exact RdS.own pkk | exact RdS.own pkk)) (by (first | exact woT_at (j := 0) (by omega) rfl | rfl))) ?_)
        refine Hq.yv (y_len Tryd.underlying89 rfl) ?_
        first | (refine Hq.yv (y_load1 ag3 rfl (Rd.pt1 pkk (by (first | exact woT_at (j := 0) (by omega) rfl | rfl)))) ?_) | (refine Hq.yv (y_load1 ag3 rfl (Rd.seg1 pkk (by (first | exact woT_at (j := 0) (by omega) rfl | rfl)))) ?_) | (refine Hq.yv (y_loadR1 ag3 rfl (by (first | exact RdS.own pkk | exact RdS.own pkk)) (by (first | exact woT_at (j := 0) (by omega) rfl | rfl))) ?_)
        first | (refine Hq.yv (y_eqlT rfl rfl) ?_) | (refine Hq.yv (y_eql rfl rfl) ?_)
        refine Hq.yv (y_move rfl) ?_
        apply Hq.andg 7 24 31 [(19, _)] rfl ⟨rfl, trivial⟩
        · intro hg6_24
          try simp only [decide_eq_true_eq, decide_eq_false_iff_not, Bool.and_eq_true, Bool.or_eq_true, Bool.and_eq_false_iff, Bool.or_eq_false_iff, Bool.not_eq_true', Bool.not_eq_false', Bool.not_eq_true, Bool.not_eq_false, Int.not_lt, Int.not_le, Decidable.not_not, ne_eq] at hg6_24
          simp only [List.take]
          refine Hq.yg rfl rfl (y_move rfl) ?_
          refine Hq.yg rfl rfl (y_nilp rfl) ?_
          first | (refine Hq.yg rfl rfl (y_field' (q := 288) (ft := 115) Tryd.underlying117 rfl sz115 rfl rfl) ?_) | (refine Hq.yg rfl rfl (y_fieldR (q := 288) (ft := 115) Tryd.underlying117 rfl sz115 rfl rfl) ?_)
          first | (refine Hq.yg rfl rfl (y_load1 ag115 rfl (Rd.pt1 pkk (by (first | exact woT_at (j := 0) (by omega) rfl | rfl)))) ?_) | (refine Hq.yg rfl rfl (y_load1 ag115 rfl (Rd.seg1 pkk (by (first | exact woT_at (j := 0) (by omega) rfl | rfl)))) ?_) | (refine Hq.yg rfl rfl (y_loadR1 ag115 rfl (by (first | exact RdS.own pkk | exact RdS.own pkk)) (by (first | exact woT_at (j := 0) (by omega) rfl | rfl))) ?_)
          refine Hq.yg rfl rfl (y_len Tryd.underlying115 rfl) ?_
          refine Hq.yg rfl rfl (y_lss rfl rfl) ?_
          first | (refine Hq.yv (y_pickT rfl rfl) ?_) | (refine Hq.yv (y_pickF rfl rfl) ?_) | (refine Hq.yv (y_pickb rfl rfl rfl) ?_) | (refine Hq.yv (y_pick rfl rfl rfl) ?_)
          exact Hq.mend (by repeat (first | exact trivial | refine ⟨rfl, ?_⟩))
        · intro hg6_24
          try simp only [decide_eq_true_eq, decide_eq_false_iff_not, Bool.and_eq_true, Bool.or_eq_true, Bool.and_eq_false_iff, Bool.or_eq_false_iff, Bool.not_eq_true', Bool.not_eq_false', Bool.not_eq_true, Bool.not_eq_false, Int.not_lt, Int.not_le, Decidable.not_not, ne_eq] at hg6_24
          simp only [List.take]
          refine Hq.ng rfl rfl rfl ?_
          refine Hq.ng rfl rfl rfl ?_
          refine Hq.ng rfl rfl rfl ?_
          refine Hq.ng rfl rfl rfl ?_
          refine Hq.ng rfl rfl rfl ?_
          refine Hq.ng rfl rfl rfl ?_
          first | (refine Hq.yv (y_pickT rfl rfl) ?_) | (refine Hq.yv (y_pickF rfl rfl) ?_) | (refine Hq.yv (y_pickb rfl rfl rfl) ?_) | (refine Hq.yv (y_pick rfl rfl rfl) ?_)
          exact Hq.mend (by repeat (first | exact trivial | refine ⟨rfl, ?_⟩))
        simp only [List.drop]
        refine Hq.yv (y_assign rfl) ?_
        refine Hq.yv (y_assign rfl) ?_
        refine Hq.nil ?_
        refine Hd.slots [(4, _), (5, _)] ⟨rfl, rfl, trivial⟩ ?_
        refine Hd.toK hK9 ?_
        refine Hd.ret ?_
        refine Hd.scRet ?_
        clear hK1 hK2 hK3 hK4 hK5 hK9
        exact Hd.retM (fun a fr => Lv.mark pkk (Lv.end2 fr rfl (a3, c3) rfl rfl rfl (Ent.sep enn)))
      · exact Hd.absurd (by first | exact hid0 | (simpa using hid0))
end Wo
end Go.Proofs.YtmpemhbfgbochaaDoor
namespace Go.Proofs.YtmpemhbfgbochaaDoor
set_option linter.unusedSimpArgs false
set_option linter.unusedVariables false
set_option linter.unnecessarySimpa false
open Go.RX Fx
namespace Wo
set_option maxRecDepth 8000
def openW (x : WireA) (fs : List Nat) (k : Nat) : WireA := { x with e := fun j => if j < k then { x.e j with what := 1, fd := ((fs.getD j 0 : Nat) : Int) } else x.e j }
def openT (t : Int → Option (Nat × Nat)) (m : Nat) (fs : List Nat) : Nat → Int → Option (Nat × Nat)
  | 0 => t
  | k + 1 => setT (openT t m fs k) ((fs.getD k 0 : Nat) : Int) (some (m, k))
def WA.addW (w : WA) (x : WireA) : WA := { w with ws := w.ws ++ [x] }
theorem atW_app (fd : Int) (x : WireA) : ∀ (ws : List WireA) (i : Nat), atW (ws ++ [x]) i fd = (atW ws i fd).or ((atE x fd).map fun k => (i + ws.length, k))
  | [], i => by
    show (match atE x fd with | some k => some (i, k) | none => none) = _
    cases h : atE x fd <;> rfl
  | y :: t, i => by
    show (match atE y fd with | some k => some (i, k) | none => atW (t ++ [x]) (i + 1) fd) = (match atE y fd with | some k => some (i, k) | none => atW t (i + 1) fd).or _
    cases h : atE y fd with
    | some k => rfl
    | none =>
      show atW (t ++ [x]) (i + 1) fd = _
      rw [atW_app fd x t (i + 1), List.length_cons, show i + 1 + t.length = i + (t.length + 1) by omega]
theorem frees_mem {t : Int → Option (Nat × Nat)} {fd : Nat} : fd ∈ frees t ↔ fd < 96 ∧ t (fd : Int) = none := by
  unfold frees
  rw [List.mem_filter, List.mem_range, Option.isNone_iff_eq_none]
theorem frees_nd (t : Int → Option (Nat × Nat)) : (frees t).Nodup := List.nodup_range.filter _
structure NewW (x : WireA) (l : Nat) : Prop where
  wf : WfW x
  no : ∀ k, k < 2 → (x.e k).what ≠ 1
  wt : x.wt = []
theorem open_e (x : WireA) (fs : List Nat) (k j : Nat) : (openW x fs k).e j = if j < k then { x.e j with what := 1, fd := ((fs.getD j 0 : Nat) : Int) } else x.e j := rfl
theorem open_wf {x : WireA} {l : Nat} (h : NewW x l) (fs : List Nat) (k : Nat) : WfW (openW x fs k) := by
  have e : ∀ j, ((openW x fs k).e j).rd = (x.e j).rd ∧ ((openW x fs k).e j).wr = (x.e j).wr ∧ ((openW x fs k).e j).b = (x.e j).b ∧ (((openW x fs k).e j).what = 1 ∨ ((openW x fs k).e j).what = (x.e j).what) := fun j => by
    rw [open_e]
    split
    · exact ⟨rfl, rfl, rfl, .inl rfl⟩
    · exact ⟨rfl, rfl, rfl, .inr rfl⟩
  refine ⟨fun j hj => by rw [(e j).2.1, (e (1 - j)).1]; exact h.wf.wr j hj, fun j hj => by rw [(e j).2.2.1]; exact h.wf.le j hj, fun j hj hr => by rw [(e j).2.2.1]; exact h.wf.nb j hj (by rw [← (e j).1]; exact hr), h.wf.cap, fun j hj => ?_, h.wf.bl⟩
  rcases (e j).2.2.2 with h1 | h1
  · rw [h1]; omega
  · rw [h1]; exact h.wf.what j hj
structure OpF (w : WA) (fs : List Nat) : Prop where
  nd : fs.Nodup
  fr : ∀ f ∈ fs, f < 96 ∧ w.at (f : Int) = none
  le : fs.length ≤ 2
theorem opF_take (w : WA) {n : Nat} (hn : n ≤ 2) : OpF w ((frees w.at).take n) :=
  ⟨(frees_nd _).sublist (List.take_sublist _ _), fun f hf => frees_mem.1 (List.mem_of_mem_take hf), by rw [List.length_take]; omega⟩
theorem open_in {x : WireA} {l : Nat} (hx : NewW x l) {fs : List Nat} {k : Nat} (hk : k < 2) : ((openW x fs fs.length).e k).what = 1 ↔ k < fs.length := by
  rw [open_e]
  split
  · simp [*]
  · rename_i h; exact ⟨fun h1 => absurd h1 (hx.no k hk), fun h1 => absurd h1 h⟩
theorem open_fd {x : WireA} {fs : List Nat} {k : Nat} (h : k < fs.length) : ((openW x fs fs.length).e k).fd = ((fs.getD k 0 : Nat) : Int) := by rw [open_e, if_pos h]
theorem getD_mem {fs : List Nat} {k : Nat} (h : k < fs.length) : fs.getD k 0 ∈ fs := by
  rw [List.getD_eq_getElem?_getD, List.getElem?_eq_getElem h]; exact List.getElem_mem h
theorem getD_inj {fs : List Nat} (hn : fs.Nodup) {k j : Nat} (h : k < fs.length) (h2 : j < fs.length) (e : fs.getD k 0 = fs.getD j 0) : k = j := by
  rw [List.getD_eq_getElem?_getD, List.getD_eq_getElem?_getD, List.getElem?_eq_getElem h, List.getElem?_eq_getElem h2] at e
  exact (List.getElem_inj hn).1 e
theorem app_at {α : Type} {l : List α} {x y : α} {n : Nat} (h : (l ++ [x])[n]? = some y) : l[n]? = some y ∨ (n = l.length ∧ y = x) := by
  rcases Nat.lt_or_ge n l.length with h1 | h1
  · rw [List.getElem?_append_left h1] at h; exact .inl h
  · rw [List.getElem?_append_right h1] at h
    have : n - l.length = 0 := by have := (List.getElem?_eq_some_iff.1 h).1; simp at this; omega
    rw [this] at h
    exact .inr ⟨by omega, (Option.some.inj h).symm⟩
theorem WOk.addW {w : WA} (h : WOk w) {x : WireA} {fs : List Nat} (hx : NewW x w.ws.length) (hf : OpF w fs) (hl : w.ws.length < 1000) : WOk (w.addW (openW x fs fs.length)) := by
  have hold : ∀ {n : Nat} {y : WireA} {k : Nat}, w.ws[n]? = some y → k < 2 → (y.e k).what = 1 → ∀ j, j < fs.length → (y.e k).fd ≠ ((fs.getD j 0 : Nat) : Int) := fun {n y k} hy hk h1 j hj e =>
    atW_no.1 (hf.fr _ (getD_mem hj)).2 y (List.mem_of_getElem? hy) k hk ⟨h1, e⟩
  refine ⟨?_, ?_, by show (w.ws ++ [_]).length ≤ 1000; rw [List.length_append]; simp; omega, h.hdl, h.ctl, ?_, ?_, ?_, ?_⟩
  · intro a b y z k j ha hb hk hj h1 h2 h3
    rcases app_at ha with ha | ⟨rfl, rfl⟩ <;> rcases app_at hb with hb | ⟨rfl, rfl⟩
    · exact h.uq a b y z k j ha hb hk hj h1 h2 h3
    · have := (open_in hx hj).1 h2
      rw [open_fd this] at h3
      exact absurd h3 (hold ha hk h1 j this)
    · have := (open_in hx hk).1 h1
      rw [open_fd this] at h3
      exact absurd h3.symm (hold hb hj h2 k this)
    · have a1 := (open_in hx hk).1 h1
      have a2 := (open_in hx hj).1 h2
      rw [open_fd a1, open_fd a2] at h3
      exact ⟨rfl, getD_inj hf.nd a1 a2 (by omega)⟩
  · intro y hy k hk h1
    rcases List.mem_append.1 hy with hy | hy
    · exact h.fd y hy k hk h1
    · obtain rfl : y = _ := by simpa using hy
      have a1 := (open_in hx hk).1 h1
      have := (hf.fr _ (getD_mem a1)).1
      rw [open_fd a1]; omega
  · intro y hy
    rcases List.mem_append.1 hy with hy | hy
    · exact h.wf y hy
    · obtain rfl : y = _ := by simpa using hy
      exact open_wf hx fs _
  · show ((w.ws ++ [_]).flatMap WireA.wt).Nodup
    rw [List.flatMap_append, List.flatMap_cons, List.flatMap_nil, show (openW x fs fs.length).wt = [] from hx.wt, List.append_nil, List.append_nil]
    exact h.wn
  · intro m hm
    have hm' : m ∈ w.ws.flatMap WireA.wt := by
      have h2 : m ∈ (w.ws ++ [openW x fs fs.length]).flatMap WireA.wt := hm
      rwa [List.flatMap_append, List.flatMap_cons, List.flatMap_nil, show (openW x fs fs.length).wt = [] from hx.wt, List.append_nil, List.append_nil] at h2
    obtain ⟨y, hy, h0⟩ := h.wm m hm'
    exact ⟨y, by show (w.ws ++ [_])[m]? = _; rw [List.getElem?_append_left (List.getElem?_eq_some_iff.1 hy).1]; exact hy, h0⟩
  · intro n k hn
    obtain ⟨hk, y, hy, h0⟩ := h.nt n k hn
    exact ⟨hk, y, by show (w.ws ++ [_])[n]? = _; rw [List.getElem?_append_left (List.getElem?_eq_some_iff.1 hy).1]; exact hy, h0⟩
theorem openT_eq {t : Int → Option (Nat × Nat)} {m : Nat} {fs : List Nat} (hn : fs.Nodup) (hle : fs.length ≤ 2) (fd : Int) : openT t m fs fs.length fd = if ∃ k, k < fs.length ∧ fd = ((fs.getD k 0 : Nat) : Int) then (if 0 < fs.length ∧ fd = ((fs.getD 0 0 : Nat) : Int) then some (m, 0) else some (m, 1)) else t fd := by
  match fs, hle with
  | [], _ => simp [openT]
  | [a], _ =>
    show (if fd = ((([a] : List Nat).getD 0 0 : Nat) : Int) then _ else t fd) = _
    by_cases h : fd = (a : Int)
    · rw [if_pos (by simpa using h), if_pos ⟨0, by simp, by simpa using h⟩, if_pos ⟨by simp, by simpa using h⟩]
    · rw [if_neg (by simpa using h), if_neg]
      rintro ⟨k, hk, e⟩
      have : k = 0 := by simp at hk; omega
      subst this; exact h (by simpa using e)
  | [a, b], _ =>
    have hab : a ≠ b := by simpa using (List.nodup_cons.1 hn).1
    show (if fd = ((([a, b] : List Nat).getD 1 0 : Nat) : Int) then _ else if fd = ((([a, b] : List Nat).getD 0 0 : Nat) : Int) then _ else t fd) = _
    by_cases h : fd = (b : Int)
    · rw [if_pos (by simpa using h), if_pos ⟨1, by simp, by simpa using h⟩, if_neg]
      · rfl
      · rintro ⟨_, e⟩
        have : fd = (a : Int) := by simpa using e
        omega
    · rw [if_neg (by simpa using h)]
      by_cases h2 : fd = (a : Int)
      · rw [if_pos (by simpa using h2), if_pos ⟨0, by simp, by simpa using h2⟩, if_pos ⟨by simp, by simpa using h2⟩]
      · rw [if_neg (by simpa using h2), if_neg]
        rintro ⟨k, hk, e⟩
        rcases (show k = 0 ∨ k = 1 by simp at hk; omega) with rfl | rfl
        · exact h2 (by simpa using e)
        · exact h (by simpa using e)
theorem addW_at {w : WA} {x : WireA} {fs : List Nat} (hx : NewW x w.ws.length) (hf : OpF w fs) : (w.addW (openW x fs fs.length)).at = openT w.at w.ws.length fs fs.length := by
  funext fd
  rw [openT_eq hf.nd hf.le]
  show atW (w.ws ++ [_]) 0 fd = _
  rw [atW_app, Nat.zero_add]
  by_cases h : ∃ k, k < fs.length ∧ fd = ((fs.getD k 0 : Nat) : Int)
  · rw [if_pos h]
    obtain ⟨k, hk, e⟩ := h
    have hno : atW w.ws 0 fd = none := by rw [e]; exact (hf.fr _ (getD_mem hk)).2
    rw [hno, Option.none_or]
    unfold atE
    by_cases h0 : 0 < fs.length ∧ fd = ((fs.getD 0 0 : Nat) : Int)
    · rw [if_pos h0, if_pos ⟨(open_in hx (by omega)).2 h0.1, by rw [open_fd h0.1]; exact h0.2.symm⟩]; rfl
    · have hk1 : k = 1 := by
        have hkl : k < 2 := by have := hf.le; omega
        rcases (show k = 0 ∨ k = 1 by omega) with rfl | rfl
        · exact absurd ⟨hk, e⟩ h0
        · rfl
      subst hk1
      rw [if_neg h0, if_neg, if_pos ⟨(open_in hx (by omega)).2 hk, by rw [open_fd hk]; exact e.symm⟩]
      · rfl
      · rintro ⟨h1, h2⟩
        have := (open_in hx (by omega)).1 h1
        rw [open_fd this] at h2
        exact h0 ⟨this, h2.symm⟩
  · rw [if_neg h]
    have : atE (openW x fs fs.length) fd = none := atE_no fun k hk ⟨h1, h2⟩ => by
      have := (open_in hx hk).1 h1
      rw [open_fd this] at h2
      exact h ⟨k, this, h2.symm⟩
    rw [this, Option.map_none, Option.or_none]
end Wo
end Go.Proofs.YtmpemhbfgbochaaDoor
namespace Go.Proofs.YtmpemhbfgbochaaDoor
set_option linter.unusedSimpArgs false
set_option linter.unusedVariables false
set_option linter.unnecessarySimpa false
open Go.RX Fx
namespace Wo
set_option maxRecDepth 8000
theorem enc_open {x : WireA} {fs : List Nat} {i : WI} {k : Nat} (hk : k < 2) : ((encW (openW x fs k) i).set (0 + 0 + k * 7 + 0) (.int .i64 1)).set (0 + 0 + k * 7 + 1) (.int .i64 ((fs.getD k 0 : Nat) : Int)) = encW (openW x fs (k + 1)) i := by
  rcases (show k = 0 ∨ k = 1 by omega) with rfl | rfl <;> rfl
theorem nats_at {fs : List Nat} {k : Nat} (h : k < fs.length) : (nats fs)[k * 1]? = some (.int .i64 ((fs.getD k 0 : Nat) : Int)) := by
  rw [Nat.mul_one, List.getElem?_map, List.getElem?_eq_getElem h, List.getD_eq_getElem?_getD, List.getElem?_eq_getElem h]; rfl
theorem open_same (x : WireA) (fs : List Nat) (k j : Nat) : ((openW x fs k).e j).rd = (x.e j).rd ∧ ((openW x fs k).e j).b = (x.e j).b := by
  rw [open_e]; split <;> exact ⟨rfl, rfl⟩
theorem open_close {b k : Nat} {x : WireA} {fs : List Nat} {i : WI} {L : List SP} (hi : WIOk x i) : ∀ h, sep (pt b (encW (openW x fs k) i) 91 :: WireB x i 0 L) h → sep (WireP b (openW x fs k) :: L) h := by
  intro h s
  refine wire_fold (x := openW x fs k) (i := i) (k := 0) ⟨fun j hj => by rw [(open_same x fs k j).1]; exact hi.rd j hj⟩ (by omega) h ?_
  unfold WireB at s ⊢
  rw [(open_same x fs k 0).2, (open_same x fs k (1 - 0)).2]
  exact s
set_option maxHeartbeats 2000000 in
theorem open_ct (L : List SP) (wb m b : Nat) (t : Int → Option (Nat × Nat)) (w : WA) (i : WoI) (x : WireA) (fs : List Nat) (fa : Option Addr) (fc : Nat) (hR : RdS L 1 fa fs.length (nats fs)) (hle : fs.length ≤ 2) (hf : ∀ f ∈ fs, f < 96) (hm : m < 100000) (hml : i.rs.length = m) : Ct Tryd.prog 72 #[.pointer (some ⟨wb, 0, none⟩), .pointer (some ⟨b, 0, none⟩), .slice fa fs.length fc] (WoH wb t w m i :: own 82 1 i.wa m i.wc (pws i.rs) :: WireP b x :: L) (fun q_ : Option Addr × Nat => .tuple #[]) (fun q_ : Option Addr × Nat => WoH wb (openT t m fs fs.length) w (m + 1) { i with wa := q_.1, wc := q_.2 } :: own 82 1 q_.1 (m + 1) q_.2 (pws i.rs ++ [ptr (some b)]) :: WireP b (openW x fs fs.length) :: L) := by
  refine Ct.of (vs := [.pointer (some ⟨wb, 0, none⟩), .pointer (some ⟨b, 0, none⟩), .slice fa fs.length fc]) Tryd.func72 rfl rfl [(0, .pointer (some ⟨wb, 0, none⟩)), (1, .pointer (some ⟨b, 0, none⟩)), (2, .slice fa fs.length fc)] (by repeat (first | exact trivial | refine ⟨rfl, ?_⟩)) ?_
  intro E
  show Hd E 51 _ _ _ _
  refine Hd.wire (.there (.there .here)) 0 (by omega) (fun i2 hi => ?_)
  have e0 : x = openW x fs 0 := by
    obtain ⟨e, cp, r, bl, wt⟩ := x
    unfold openW; congr 1
  refine Hd.heap (pt b (encW (openW x fs 0) i2) 91 :: WoH wb t w m i :: own 82 1 i.wa m i.wc (pws i.rs) :: WireB x i2 0 L) (Ent.sep (.eq pkk (pt_eq (congrArg (fun z => encW z i2) e0)) enn)) ?_
  refine Hd.seq (fun K1 hK1 => ?_)
  refine Hd.seq (fun K2 hK2 => ?_)
  refine Hd.region ?_
  refine Hd.yv (y_move rfl) ?_
  refine Hd.yv (y_len Tryd.underlying89 rfl) ?_
  refine Hd.yv (y_move rfl) ?_
  refine Hd.nil ?_
  refine Hd.slots [(0, _), (1, _), (8, _), (9, _), (10, _)] ⟨rfl, rfl, rfl, rfl, rfl, trivial⟩ ?_
  refine Hd.toK hK2 ?_
  refine Hd.block ?_
  refine Hd.loopK (ι := Nat) [(0, _), (1, _), (8, _), (9, _)] (fun k => [(10, .int .i64 (k : Int))]) (fun k => pu (k ≤ fs.length) :: pt b (encW (openW x fs k) i2) 91 :: WoH wb (openT t m fs k) w m i :: own 82 1 i.wa m i.wc (pws i.rs) :: WireB x i2 0 L) (fun k => fs.length - k) 0 (by repeat (first | exact trivial | refine ⟨rfl, ?_⟩)) (by repeat (first | exact trivial | refine ⟨rfl, ?_⟩)) (Ent.sep (.pure (by first | omega | (simp; done) | (simp; omega) | exact ⟨by simp, by simp⟩) enn)) ?_
  intro k
  try dsimp only
  refine Hd.pure (fun hp0 => ?_)
  try dsimp only at hp0
  refine Hd.seq (fun K3 hK3 => ?_)
  refine Hd.region ?_
  refine Hd.yv (y_lss rfl rfl) ?_
  refine Hd.nil ?_
  refine Hd.slots [(0, _), (1, _), (8, _), (9, _), (10, _), (11, _)] ⟨rfl, rfl, rfl, rfl, rfl, rfl, trivial⟩ ?_
  refine Hd.toK hK3 ?_
  refine Hd.seq (fun K4 hK4 => ?_)
  refine Hd.cond rfl (fun hc0 => ?_) (fun hc0 => ?_)
  ·
    try simp only [decide_eq_true_eq, decide_eq_false_iff_not, Bool.and_eq_true, Bool.or_eq_true, Bool.and_eq_false_iff, Bool.or_eq_false_iff, Bool.not_eq_true', Bool.not_eq_false', Bool.not_eq_true, Bool.not_eq_false, Int.not_lt, Int.not_le, Decidable.not_not, ne_eq] at hc0
    have hk : k < fs.length := by omega
    have hfk : fs.getD k 0 < 96 := hf _ (getD_mem hk)
    refine Hd.skip ?_
    refine Hd.toK hK4 ?_
    refine Hd.seq (fun K5 hK5 => ?_)
    refine Hd.block ?_
    refine Hd.seq (fun K6 hK6 => ?_)
    refine Hd.region ?_
    refine Hd.yv (y_move rfl) ?_
    first | (refine Hd.yv (y_idxS Tryd.underlying89 sz3 rfl rfl (by first | omega | decide)) ?_) | (refine Hd.yv (y_idxR Tryd.underlying89 sz3 rfl rfl (by first | omega | decide) (by (first | exact RdS.own pkk | exact RdS.mono hR (Ent.sep enn)))) ?_)
    first | (refine Hd.yv (y_load1 ag3 rfl (Rd.pt1 pkk (by (first | exact nats_at (by omega) | exact woT_at (j := 0) (by omega) rfl | rfl)))) ?_) | (refine Hd.yv (y_load1 ag3 rfl (Rd.seg1 pkk (by (first | exact nats_at (by omega) | exact woT_at (j := 0) (by omega) rfl | rfl)))) ?_) | (refine Hd.yv (y_loadR1 ag3 rfl (by (first | exact RdS.own pkk | exact RdS.mono hR (Ent.sep enn))) (by (first | exact nats_at (by omega) | exact woT_at (j := 0) (by omega) rfl | rfl))) ?_)
    refine Hd.yv (y_assign rfl) ?_
    refine Hd.yv (y_assign rfl) ?_
    refine Hd.nil ?_
    refine Hd.slots [(0, _), (1, _), (6, _), (7, _), (8, _), (9, _), (10, _)] ⟨rfl, rfl, rfl, rfl, rfl, rfl, rfl, trivial⟩ ?_
    refine Hd.toK hK6 ?_
    refine Hd.seq (fun K7 hK7 => ?_)
    refine Hd.drawsH ([]) (fun j => !(([1000] : List Nat).contains j)) mixed ?_
    simp only [List.length, Nat.zero_add, Nat.reduceAdd]
    refine Hd.takeH 0 rfl (by kernel_rfl) (by kernel_rfl) (by kernel_rfl) (by kernel_rfl) (y_move rfl) (fun _ _ => rfl) (Ent.sep enn) ?_
    refine Hd.takeH 1 rfl (by kernel_rfl) (by kernel_rfl) (by kernel_rfl) (by kernel_rfl) (y_move rfl) (fun _ _ => rfl) (Ent.sep enn) ?_
    refine Hd.takeH 2 rfl (by kernel_rfl) (by kernel_rfl) (by kernel_rfl) (by kernel_rfl) (y_move rfl) (fun _ _ => rfl) (Ent.sep enn) ?_
    refine Hd.takeH 3 rfl (by kernel_rfl) (by kernel_rfl) (by kernel_rfl) (by kernel_rfl) (y_move rfl) (fun _ _ => rfl) (Ent.sep enn) ?_
    refine Hd.takeH 4 rfl (by kernel_rfl) (by kernel_rfl) (by kernel_rfl) (by kernel_rfl) (y_move rfl) (fun _ _ => rfl) (Ent.sep enn) ?_
    refine Hd.takeH 5 rfl (by kernel_rfl) (by kernel_rfl) (by kernel_rfl) (by kernel_rfl) (y_nilp rfl) (fun _ _ => rfl) (Ent.sep enn) ?_
    first | (refine Hd.takeH 6 rfl (by kernel_rfl) (by kernel_rfl) (by kernel_rfl) (by kernel_rfl) (y_field' (q := 0) (ft := 88) Tryd.underlying91 rfl sz88 rfl rfl) (fun _ _ => rfl) (Ent.sep enn) ?_) | (refine Hd.takeH 6 rfl (by kernel_rfl) (by kernel_rfl) (by kernel_rfl) (by kernel_rfl) (y_fieldR (q := 0) (ft := 88) Tryd.underlying91 rfl sz88 rfl rfl) (fun _ _ => rfl) (Ent.sep enn) ?_)
    refine Hd.takeH 7 rfl (by kernel_rfl) (by kernel_rfl) (by kernel_rfl) (by kernel_rfl) (y_idxA Tryd.underlying88 sz87 rfl rfl (by first | omega | decide)) (fun _ _ => rfl) (Ent.sep enn) ?_
    first | (refine Hd.takeH 8 rfl (by kernel_rfl) (by kernel_rfl) (by kernel_rfl) (by kernel_rfl) (y_field' (q := 0) (ft := 3) Tryd.underlying87 rfl sz3 rfl rfl) (fun _ _ => rfl) (Ent.sep enn) ?_) | (refine Hd.takeH 8 rfl (by kernel_rfl) (by kernel_rfl) (by kernel_rfl) (by kernel_rfl) (y_fieldR (q := 0) (ft := 3) Tryd.underlying87 rfl sz3 rfl rfl) (fun _ _ => rfl) (Ent.sep enn) ?_)
    refine Hd.takeH 10 rfl (by kernel_rfl) (by kernel_rfl) (by kernel_rfl) (by kernel_rfl) (y_nilp rfl) (fun _ _ => rfl) (Ent.sep enn) ?_
    first | (refine Hd.takeH 11 rfl (by kernel_rfl) (by kernel_rfl) (by kernel_rfl) (by kernel_rfl) (y_field' (q := 0) (ft := 88) Tryd.underlying91 rfl sz88 rfl rfl) (fun _ _ => rfl) (Ent.sep enn) ?_) | (refine Hd.takeH 11 rfl (by kernel_rfl) (by kernel_rfl) (by kernel_rfl) (by kernel_rfl) (y_fieldR (q := 0) (ft := 88) Tryd.underlying91 rfl sz88 rfl rfl) (fun _ _ => rfl) (Ent.sep enn) ?_)
    refine Hd.onlyH 9 rfl (by kernel_rfl) ?_
    first | (refine Hd.store1 sz3 rfl rfl rfl pkk (by first | (rw [List.length_append, fdC_len]; simp) | decide | (simp; done) | (simp; omega)) ?_) | (refine Hd.storeG1 sz3 rfl rfl rfl pkk (by first | (rw [List.length_append, fdC_len]; simp) | decide | (simp; done) | (simp; omega)) ?_) | (refine Hd.storeO1 sz3 rfl rfl rfl pkk (by first | (rw [List.length_append, fdC_len]; simp) | omega | (simp; done) | (simp; omega)) ?_)
    try simp only [List.set_cons_zero, List.set_cons_succ]
    refine Hd.nil ?_
    refine Hd.thenN ?_
    refine Hd.heldK (J := (fun j => !(([1000] : List Nat).contains j))) (i := 9) (Ent.sep enn) ?_
    refine Hd.takeH 12 rfl (by kernel_rfl) (by kernel_rfl) (by kernel_rfl) (by kernel_rfl) (y_idxA Tryd.underlying88 sz87 rfl rfl (by first | omega | decide)) (fun _ _ => rfl) (Ent.sep enn) ?_
    first | (refine Hd.takeH 13 rfl (by kernel_rfl) (by kernel_rfl) (by kernel_rfl) (by kernel_rfl) (y_field' (q := 1) (ft := 3) Tryd.underlying87 rfl sz3 rfl rfl) (fun _ _ => rfl) (Ent.sep enn) ?_) | (refine Hd.takeH 13 rfl (by kernel_rfl) (by kernel_rfl) (by kernel_rfl) (by kernel_rfl) (y_fieldR (q := 1) (ft := 3) Tryd.underlying87 rfl sz3 rfl rfl) (fun _ _ => rfl) (Ent.sep enn) ?_)
    refine Hd.onlyH 14 rfl (by kernel_rfl) ?_
    first | (refine Hd.store1 sz3 rfl rfl rfl pkk (by first | (rw [List.length_append, fdC_len]; simp) | decide | (simp; done) | (simp; omega)) ?_) | (refine Hd.storeG1 sz3 rfl rfl rfl pkk (by first | (rw [List.length_append, fdC_len]; simp) | decide | (simp; done) | (simp; omega)) ?_) | (refine Hd.storeO1 sz3 rfl rfl rfl pkk (by first | (rw [List.length_append, fdC_len]; simp) | omega | (simp; done) | (simp; omega)) ?_)
    try simp only [List.set_cons_zero, List.set_cons_succ]
    refine Hd.nil ?_
    refine Hd.thenN ?_
    refine Hd.heldK (J := (fun j => !(([1000] : List Nat).contains j))) (i := 14) (Ent.sep enn) ?_
    refine Hd.endH (by kernel_rfl) ?_
    rw [enc_open (by omega)]
    refine Hd.slots [(0, _), (1, _), (6, _), (7, _), (8, _), (9, _), (10, _)] ⟨rfl, rfl, rfl, rfl, rfl, rfl, rfl, trivial⟩ ?_
    refine Hd.toK hK7 ?_
    refine Hd.drawsH ([WoH wb (openT t m fs k) w m i]) (fun j => !([12].contains j)) mixed ?_
    simp only [List.length, Nat.zero_add, Nat.reduceAdd]
    refine Hd.takeH 0 rfl (by kernel_rfl) (by kernel_rfl) (by kernel_rfl) (by kernel_rfl) (y_move rfl) (fun _ _ => rfl) (Ent.sep enn) ?_
    refine Hd.takeH 1 rfl (by kernel_rfl) (by kernel_rfl) (by kernel_rfl) (by kernel_rfl) (y_move rfl) (fun _ _ => rfl) (Ent.sep enn) ?_
    refine Hd.takeH 2 rfl (by kernel_rfl) (by kernel_rfl) (by kernel_rfl) (by kernel_rfl) (y_move rfl) (fun _ _ => rfl) (Ent.sep enn) ?_
    refine Hd.takeH 3 rfl (by kernel_rfl) (by kernel_rfl) (by kernel_rfl) (by kernel_rfl) (y_nilp rfl) (fun _ _ => rfl) (Ent.sep enn) ?_
    first | (refine Hd.takeH 4 rfl (by kernel_rfl) (by kernel_rfl) (by kernel_rfl) (by kernel_rfl) (y_field' (q := 288) (ft := 115) Tryd.underlying117 rfl sz115 rfl rfl) (fun _ _ => rfl) (Ent.sep enn) ?_) | (refine Hd.takeH 4 rfl (by kernel_rfl) (by kernel_rfl) (by kernel_rfl) (by kernel_rfl) (y_fieldR (q := 288) (ft := 115) Tryd.underlying117 rfl sz115 rfl rfl) (fun _ _ => rfl) (Ent.sep enn) ?_)
    first | (refine Hd.takeH 5 rfl (by kernel_rfl) (by kernel_rfl) (by kernel_rfl) (by kernel_rfl) (y_load1 ag115 rfl (Rd.pt1 pkk (by (first | exact nats_at (by omega) | exact woT_at (j := 0) (by omega) rfl | rfl)))) (fun _ _ => rfl) (Ent.sep enn) ?_) | (refine Hd.takeH 5 rfl (by kernel_rfl) (by kernel_rfl) (by kernel_rfl) (by kernel_rfl) (y_load1 ag115 rfl (Rd.seg1 pkk (by (first | exact nats_at (by omega) | exact woT_at (j := 0) (by omega) rfl | rfl)))) (fun _ _ => rfl) (Ent.sep enn) ?_) | (refine Hd.takeH 5 rfl (by kernel_rfl) (by kernel_rfl) (by kernel_rfl) (by kernel_rfl) (y_loadR1 ag115 rfl (by (first | exact RdS.own pkk | exact RdS.mono hR (Ent.sep enn))) (by (first | exact nats_at (by omega) | exact woT_at (j := 0) (by omega) rfl | rfl))) (fun _ _ => rfl) (Ent.sep enn) ?_)
    refine Hd.takeH 6 rfl (by kernel_rfl) (by kernel_rfl) (by kernel_rfl) (by kernel_rfl) (y_len Tryd.underlying115 rfl) (fun _ _ => rfl) (Ent.sep enn) ?_
    refine Hd.takeH 7 rfl (by kernel_rfl) (by kernel_rfl) (by kernel_rfl) (by kernel_rfl) (y_move rfl) (fun _ _ => rfl) (Ent.sep enn) ?_
    refine Hd.takeH 8 rfl (by kernel_rfl) (by kernel_rfl) (by kernel_rfl) (by kernel_rfl) (y_build (vs := [(0, _), (1, _), (2, _)]) rfl (by first | exact bd72_36 .. | kernel_rfl)) (fun _ _ => rfl) (Ent.sep enn) ?_
    refine Hd.onlyH 9 rfl (by kernel_rfl) ?_
    refine Hd.yv (y_nilp rfl) ?_
    refine Hd.nil ?_
    refine Hd.thenN ?_
    refine Hd.heldK (J := (fun j => !([12].contains j))) (i := 9) (Ent.sep enn) ?_
    refine Hd.onlyH 10 rfl (by kernel_rfl) ?_
    first | (refine Hd.yv (y_field' (q := 0) (ft := 114) Tryd.underlying117 rfl sz114 rfl rfl) ?_) | (refine Hd.yv (y_fieldR (q := 0) (ft := 114) Tryd.underlying117 rfl sz114 rfl rfl) ?_)
    refine Hd.nil ?_
    refine Hd.thenN ?_
    refine Hd.heldK (J := (fun j => !([12].contains j))) (i := 10) (Ent.sep enn) ?_
    refine Hd.takeH 11 rfl (by kernel_rfl) (by kernel_rfl) (by kernel_rfl) (by kernel_rfl) (y_idxA Tryd.underlying114 sz81 rfl rfl (by first | omega | decide)) (fun _ _ => rfl) (Ent.sep enn) ?_
    refine Hd.onlyH 12 rfl (by kernel_rfl) ?_
    refine Hd.store (us := plc (some (m, k))) sz81 rfl rfl rfl (plc_one _) pkk (by rw [List.length_append, fdC_len, plc_len]; omega) ?_
    refine Hd.nil ?_
    refine Hd.thenN ?_
    refine Hd.heldN (J := (fun j => !([12].contains j))) (i := 12) rfl ?_
    refine Hd.endH (by kernel_rfl) ?_
    rw [show 0 + 0 + fs.getD k 0 * 3 = fs.getD k 0 * 3 by omega, show (plc (some (m, k))).length = 3 from rfl, fdC_set hfk]
    refine Hd.slots [(0, _), (1, _), (8, _), (9, _), (10, _)] ⟨rfl, rfl, rfl, rfl, rfl, trivial⟩ ?_
    refine Hd.inB ?_
    refine Hd.toK hK5 ?_
    refine Hd.region ?_
    first | (refine Hd.yv (y_addn rfl rfl (by simp only [InK]; omega)) ?_) | (refine Hd.yv (y_add rfl rfl) ?_)
    refine Hd.yv (y_move rfl) ?_
    refine Hd.nil ?_
    refine Hd.slots [(0, _), (1, _), (8, _), (9, _), (10, _)] ⟨rfl, rfl, rfl, rfl, rfl, trivial⟩ ?_
    clear hK1 hK2 hK3 hK4 hK5 hK6 hK7
    refine Hd.thenN ?_
    exact Hd.again (k + 1) (by first | omega | (simp only; omega) | (simp; omega)) (by repeat (first | exact trivial | refine ⟨rfl, ?_⟩)) (Ent.sep (.pure (by first | omega | (simp; done) | (simp; omega) | (dsimp only; omega)) enn))
  ·
    try simp only [decide_eq_true_eq, decide_eq_false_iff_not, Bool.and_eq_true, Bool.or_eq_true, Bool.and_eq_false_iff, Bool.or_eq_false_iff, Bool.not_eq_true', Bool.not_eq_false', Bool.not_eq_true, Bool.not_eq_false, Int.not_lt, Int.not_le, Decidable.not_not, ne_eq] at hc0
    obtain rfl : k = fs.length := by omega
    refine Hd.exit ?_
    refine Hd.thenExit ?_
    refine Hd.thenExit ?_
    refine Hd.inBexit ?_
    refine Hd.toK hK1 ?_
    refine Hd.region ?_
    refine Hd.yv (y_move rfl) ?_
    refine Hd.yv (y_move rfl) ?_
    refine Hd.yv (y_nilp rfl) ?_
    first | (refine Hd.yv (y_field' (q := 288) (ft := 115) Tryd.underlying117 rfl sz115 rfl rfl) ?_) | (refine Hd.yv (y_fieldR (q := 288) (ft := 115) Tryd.underlying117 rfl sz115 rfl rfl) ?_)
    first | (refine Hd.yv (y_load1 ag115 rfl (Rd.pt1 pkk (by (first | exact nats_at (by omega) | exact woT_at (j := 0) (by omega) rfl | rfl)))) ?_) | (refine Hd.yv (y_load1 ag115 rfl (Rd.seg1 pkk (by (first | exact nats_at (by omega) | exact woT_at (j := 0) (by omega) rfl | rfl)))) ?_) | (refine Hd.yv (y_loadR1 ag115 rfl (by (first | exact RdS.own pkk | exact RdS.mono hR (Ent.sep enn))) (by (first | exact nats_at (by omega) | exact woT_at (j := 0) (by omega) rfl | rfl))) ?_)
    refine Hd.yv (y_move rfl) ?_
    refine Hd.bslice (vs := [(0, _)]) rfl (by first | exact bs72_47 .. | kernel_rfl) (fun b47 => ?_)
    refine Hd.append Tryd.underlying115 ty82 rfl rfl rfl pkk (by first | exact RdS.rd (Rd.pt pkk (fun j v e => by simpa using e)) rfl | (first | exact RdS.own pkk | exact RdS.mono hR (Ent.sep enn))) (by first | (simp [Value.oneCell']; done) | assumption) (by first | (simp only [maxLen]; omega) | assumption) (by omega) (fun ad48 cap48 => ?_)
    refine Hd.yv (y_nilp rfl) ?_
    first | (refine Hd.yv (y_field' (q := 288) (ft := 115) Tryd.underlying117 rfl sz115 rfl rfl) ?_) | (refine Hd.yv (y_fieldR (q := 288) (ft := 115) Tryd.underlying117 rfl sz115 rfl rfl) ?_)
    first | (refine Hd.store1 sz115 rfl rfl rfl pkk (by first | (rw [List.length_append, fdC_len]; simp) | decide | (simp; done) | (simp; omega)) ?_) | (refine Hd.storeG1 sz115 rfl rfl rfl pkk (by first | (rw [List.length_append, fdC_len]; simp) | decide | (simp; done) | (simp; omega)) ?_) | (refine Hd.storeO1 sz115 rfl rfl rfl pkk (by first | (rw [List.length_append, fdC_len]; simp) | omega | (simp; done) | (simp; omega)) ?_)
    try simp only [List.set_cons_zero, List.set_cons_succ]
    refine Hd.nil ?_
    refine Hd.slots [] trivial ?_
    clear hK1 hK2 hK3 hK4
    rw [show (fdC (openT t m fs fs.length) ++ woT w m i).set (0 + 288) (.slice ad48 (m + 1) cap48) = fdC (openT t m fs fs.length) ++ woT w (m + 1) { i with wa := ad48, wc := cap48 } by rw [List.set_append_right _ _ (by rw [fdC_len]; omega), fdC_len]; rfl]
    exact Hd.end0 rfl (ad48, cap48) rfl (fun q s => Ent.sep (show Ent (WireP b (openW x fs fs.length) :: WoH wb (openT t m fs fs.length) w (m + 1) { i with wa := ad48, wc := cap48 } :: own 82 1 ad48 (m + 1) cap48 (pws i.rs ++ [ptr (some b)]) :: L) _ from enn) q (open_close hi q (Ent.sep (.pick pkk (.pick pkk (.pick pkk (.pick pkk (.pick pkk (.eq pkk (show own 82 1 ad48 (m + 1) cap48 (pws i.rs ++ [Value.pointer (some ⟨b, 0, none⟩)]) = own 82 1 ad48 (m + 1) cap48 (pws i.rs ++ [ptr (some b)]) from rfl) enn)))))) q s)))
def mkOk (w : WA) (k : Nat) : Bool := decide ((((frees w.at).take k).length : Int) = (k : Int)) && decide ((w.ws.length : Int) < 1000)
def mkF (w : WA) (k : Nat) : List Nat := if mkOk w k = true then (frees w.at).take k else []
def mkE (w : WA) (k : Nat) : Int := if mkOk w k = true then 0 else 112
def mkW (w : WA) (k : Nat) (x : WireA) : WA := if mkOk w k = true then w.addW (openW x ((frees w.at).take k) k) else w
set_option maxHeartbeats 2000000 in
theorem cap_ct (L : List SP) (n : Int) : Ct Tryd.prog 70 #[.int .i64 n] (L) (fun _ : Unit => .bool (decide (n ≥ 1) && decide (n ≤ 65536))) (fun _ : Unit => L) := by
  refine Ct.of (vs := [.int .i64 n]) Tryd.func70 rfl rfl [(0, .int .i64 n)] (by repeat (first | exact trivial | refine ⟨rfl, ?_⟩)) ?_
  intro E
  show Hd E 9 _ _ _ _
  refine Hd.seq (fun K1 hK1 => ?_)
  refine Hd.region ?_
  refine Hd.yv (y_assign rfl) ?_
  refine Hd.nil ?_
  refine Hd.slots [(0, _)] ⟨rfl, trivial⟩ ?_
  refine Hd.toK hK1 ?_
  refine Hd.seq (fun K2 hK2 => ?_)
  refine Hd.region ?_
  refine Hd.yv (y_move rfl) ?_
  refine Hd.yv (y_geq rfl rfl) ?_
  refine Hd.yv (y_move rfl) ?_
  apply Hd.andg 3 5 8 [] rfl trivial
  · intro hg1_5
    try simp only [decide_eq_true_eq, decide_eq_false_iff_not, Bool.and_eq_true, Bool.or_eq_true, Bool.and_eq_false_iff, Bool.or_eq_false_iff, Bool.not_eq_true', Bool.not_eq_false', Bool.not_eq_true, Bool.not_eq_false, Int.not_lt, Int.not_le, Decidable.not_not, ne_eq] at hg1_5
    simp only [List.take]
    refine Hd.yg rfl rfl (y_move rfl) ?_
    refine Hd.yg rfl rfl (y_leq rfl rfl) ?_
    first | (refine Hd.yv (y_pickT rfl rfl) ?_) | (refine Hd.yv (y_pickF rfl rfl) ?_) | (refine Hd.yv (y_pickb rfl rfl rfl) ?_) | (refine Hd.yv (y_pick rfl rfl rfl) ?_)
    refine Hd.nil ?_
    exact Hd.mend (by repeat (first | exact trivial | refine ⟨rfl, ?_⟩)) (Ent.sep enn)
  · intro hg1_5
    try simp only [decide_eq_true_eq, decide_eq_false_iff_not, Bool.and_eq_true, Bool.or_eq_true, Bool.and_eq_false_iff, Bool.or_eq_false_iff, Bool.not_eq_true', Bool.not_eq_false', Bool.not_eq_true, Bool.not_eq_false, Int.not_lt, Int.not_le, Decidable.not_not, ne_eq] at hg1_5
    simp only [List.take]
    refine Hd.ng rfl rfl rfl ?_
    refine Hd.ng rfl rfl rfl ?_
    first | (refine Hd.yv (y_pickT rfl rfl) ?_) | (refine Hd.yv (y_pickF rfl rfl) ?_) | (refine Hd.yv (y_pickb rfl rfl rfl) ?_) | (refine Hd.yv (y_pick rfl rfl rfl) ?_)
    refine Hd.nil ?_
    exact Hd.mend (by repeat (first | exact trivial | refine ⟨rfl, ?_⟩)) (Ent.sep enn)
  simp only [List.drop]
  refine Hd.yv (y_assign rfl) ?_
  refine Hd.nil ?_
  refine Hd.slots [(2, _)] ⟨rfl, trivial⟩ ?_
  refine Hd.toK hK2 ?_
  refine Hd.ret ?_
  clear hK1 hK2
  exact Hd.ret1 rfl () (by first | rfl | (simp only [*]; done) | (simp [*]; done)) (Ent.sep enn)
theorem pws_app (rs : List (Nat × WireA)) (b : Nat) (x : WireA) : pws rs ++ [ptr (some b)] = pws (rs ++ [(b, x)]) := by simp [pws]
theorem world_add {wb b : Nat} {w : WA} {i : WoI} {x : WireA} {ad : Option Addr} {c : Nat} {t : Int → Option (Nat × Nat)} {L : List SP} (hw : WOk (w.addW x)) (hrs : i.rs.map Prod.snd = w.ws) (ht : (w.addW x).at = t) :
    ∀ h, sep (WireP b x :: Wires i.rs :: WoH wb t w (i.rs.length + 1) { i with wa := ad, wc := c } :: own 82 1 ad (i.rs.length + 1) c (pws i.rs ++ [ptr (some b)]) :: SigP i.sb w.hd w.ct :: L) h → sep (WorldP wb (w.addW x) :: L) h := by
  intro h s
  have h1 := ws_add s
  have hl : (i.rs ++ [(b, x)]).length = i.rs.length + 1 := by simp
  refine Ent.sep (.ex { i with rs := i.rs ++ [(b, x)], wa := ad, wc := c } (.pure ⟨hw, by show (i.rs ++ [(b, x)]).map Prod.snd = w.ws ++ [x]; rw [List.map_append, hrs]; rfl⟩ ?_)) h h1
  exact .eq pkk (pt_eq (show fdC t ++ woT w (i.rs.length + 1) { i with wa := ad, wc := c } = fdC (w.addW x).at ++ woT (w.addW x) (i.rs ++ [(b, x)]).length { i with rs := i.rs ++ [(b, x)], wa := ad, wc := c } by rw [ht, hl]; rfl)) (.eq pkk (own_eq3 hl.symm rfl (pws_app ..)) enn)
set_option maxHeartbeats 2000000 in
theorem make_ct (L : List SP) (wb b : Nat) (w : WA) (n : Nat) (h1 : 1 ≤ n) (h2 : n ≤ 65536) (k : Nat) (hk : k ≤ 2) (x : WireA) (hx : NewW x w.ws.length) : Ct Tryd.prog 45 #[.pointer (some ⟨wb, 0, none⟩), .int .i64 (n : Int), .int .i64 (k : Int), .pointer (some ⟨b, 0, none⟩)] (WorldP wb w :: WireP b x :: L) (fun q_ : Option Addr × Nat => .tuple #[.slice q_.1 (mkF w k).length q_.2, .int .i64 (mkE w k)]) (fun q_ : Option Addr × Nat => own 3 1 q_.1 (mkF w k).length q_.2 (nats (mkF w k)) :: WorldP wb (mkW w k x) :: L) := by
  refine Ct.of (vs := [.pointer (some ⟨wb, 0, none⟩), .int .i64 (n : Int), .int .i64 (k : Int), .pointer (some ⟨b, 0, none⟩)]) Tryd.func45 rfl rfl [(0, .pointer (some ⟨wb, 0, none⟩)), (1, .int .i64 (n : Int)), (2, .int .i64 (k : Int)), (3, .pointer (some ⟨b, 0, none⟩))] (by repeat (first | exact trivial | refine ⟨rfl, ?_⟩)) ?_
  intro E
  show Hd E 32 _ _ _ _
  refine Hd.world .here (fun i hw hrs => ?_)
  have hrl : i.rs.length = w.ws.length := by rw [← hrs, List.length_map]
  refine Hd.seq (fun K1 hK1 => ?_)
  refine Hd.region ?_
  refine Hd.yv (y_assign rfl) ?_
  refine Hd.yv (y_assign rfl) ?_
  refine Hd.nil ?_
  refine Hd.slots [(0, _), (1, _), (2, _), (3, _)] ⟨rfl, rfl, rfl, rfl, trivial⟩ ?_
  refine Hd.toK hK1 ?_
  refine Hd.seq (fun K2 hK2 => ?_)
  refine Hd.block ?_
  refine Hd.seq (fun K3 hK3 => ?_)
  refine Hd.region ?_
  refine Hd.yv (y_move rfl) ?_
  refine Hd.callE rfl fk60 (wnone_ct _ wb w.at w i.rs.length i) (Ent.sep enn) ?_
  intro _
  refine Hd.yv (y_assign rfl) ?_
  refine Hd.nil ?_
  refine Hd.slots [(0, _), (1, _), (2, _), (3, _), (12, _)] ⟨rfl, rfl, rfl, rfl, rfl, trivial⟩ ?_
  refine Hd.toK hK3 ?_
  refine Hd.condF rfl ?_
  refine Hd.seq (fun K4 hK4 => ?_)
  refine Hd.region ?_
  refine Hd.yv (y_move rfl) ?_
  refine Hd.callE rfl fk70 (cap_ct _ (n : Int)) (Ent.sep enn) ?_
  intro _
  refine Hd.yv (y_not rfl) ?_
  refine Hd.yv (y_assign rfl) ?_
  refine Hd.nil ?_
  refine Hd.slots [(0, _), (2, _), (3, _), (15, _)] ⟨rfl, rfl, rfl, rfl, trivial⟩ ?_
  refine Hd.toK hK4 ?_
  refine Hd.cond rfl (fun hc1 => ?_) (fun hc1 => ?_)
  ·
    try simp only [decide_eq_true_eq, decide_eq_false_iff_not, Bool.and_eq_true, Bool.or_eq_true, Bool.and_eq_false_iff, Bool.or_eq_false_iff, Bool.not_eq_true', Bool.not_eq_false', Bool.not_eq_true, Bool.not_eq_false, Int.not_lt, Int.not_le, Decidable.not_not, ne_eq] at hc1
    exfalso
    omega
  ·
    try simp only [decide_eq_true_eq, decide_eq_false_iff_not, Bool.and_eq_true, Bool.or_eq_true, Bool.and_eq_false_iff, Bool.or_eq_false_iff, Bool.not_eq_true', Bool.not_eq_false', Bool.not_eq_true, Bool.not_eq_false, Int.not_lt, Int.not_le, Decidable.not_not, ne_eq] at hc1
    refine Hd.skip ?_
    refine Hd.inB ?_
    refine Hd.toK hK2 ?_
    refine Hd.seq (fun K5 hK5 => ?_)
    refine Hd.region ?_
    refine Hd.yv (y_move rfl) ?_
    refine Hd.yv (y_move rfl) ?_
    refine Hd.callE rfl fk71 (numbers_ct _ wb i.rs.length w.at w i k) (Ent.sep enn) ?_
    rintro ⟨ad, c⟩
    dsimp only
    rw [show (decide ((((frees w.at).take k).length : Int) = (k : Int)) && decide ((i.rs.length : Int) < 1000)) = mkOk w k by unfold mkOk; rw [hrl]]
    refine Hd.yv (y_move rfl) ?_
    refine Hd.yv (y_extract rfl rfl) ?_
    refine Hd.yv (y_extract rfl rfl) ?_
    refine Hd.yv (y_assign rfl) ?_
    refine Hd.yv (y_assign rfl) ?_
    refine Hd.nil ?_
    refine Hd.slots [(0, _), (3, _), (10, _), (11, _)] ⟨rfl, rfl, rfl, rfl, trivial⟩ ?_
    refine Hd.toK hK5 ?_
    refine Hd.seq (fun K6 hK6 => ?_)
    refine Hd.seq (fun K7 hK7 => ?_)
    refine Hd.region ?_
    refine Hd.yv (y_move rfl) ?_
    refine Hd.yv (y_not rfl) ?_
    refine Hd.nil ?_
    refine Hd.slots [(0, _), (3, _), (10, _), (26, _)] ⟨rfl, rfl, rfl, rfl, trivial⟩ ?_
    refine Hd.toK hK7 ?_
    refine Hd.cond rfl (fun hc2 => ?_) (fun hc2 => ?_)
    ·
      try simp only [decide_eq_true_eq, decide_eq_false_iff_not, Bool.and_eq_true, Bool.or_eq_true, Bool.and_eq_false_iff, Bool.or_eq_false_iff, Bool.not_eq_true', Bool.not_eq_false', Bool.not_eq_true, Bool.not_eq_false, Int.not_lt, Int.not_le, Decidable.not_not, ne_eq] at hc2
      refine Hd.seq (fun K8 hK8 => ?_)
      refine Hd.region ?_
      refine Hd.yv (y_assign rfl) ?_
      refine Hd.yv (y_assign rfl) ?_
      refine Hd.nil ?_
      refine Hd.slots [(8, _), (9, _)] ⟨rfl, rfl, trivial⟩ ?_
      refine Hd.toK hK8 ?_
      refine Hd.ret ?_
      refine Hd.thenRet ?_
      clear hK1 hK2 hK3 hK4 hK5 hK6 hK7 hK8
      have hno : mkOk w k = false := by simpa using hc2
      rw [show mkF w k = [] by unfold mkF; rw [if_neg (by rw [hno]; simp)], show mkE w k = 112 by unfold mkE; rw [if_neg (by rw [hno]; simp)], show mkW w k x = w by unfold mkW; rw [if_neg (by rw [hno]; simp)]]
      exact Hd.ret2 rfl (none, 0) rfl rfl rfl (Ent.sep (.ownNil (.ex i (.pure ⟨hw, hrs⟩ enn))))
    ·
      try simp only [decide_eq_true_eq, decide_eq_false_iff_not, Bool.and_eq_true, Bool.or_eq_true, Bool.and_eq_false_iff, Bool.or_eq_false_iff, Bool.not_eq_true', Bool.not_eq_false', Bool.not_eq_true, Bool.not_eq_false, Int.not_lt, Int.not_le, Decidable.not_not, ne_eq] at hc2
      have hok : mkOk w k = true := by simpa using hc2
      obtain ⟨hfl, hwl⟩ : ((frees w.at).take k).length = k ∧ w.ws.length < 1000 := by
        unfold mkOk at hok
        simp only [Bool.and_eq_true, decide_eq_true_eq] at hok
        omega
      have hof := opF_take w hk
      refine Hd.skip ?_
      refine Hd.toK hK6 ?_
      refine Hd.seq (fun K9 hK9 => ?_)
      refine Hd.region ?_
      refine Hd.yv (y_move rfl) ?_
      refine Hd.yv (y_move rfl) ?_
      refine Hd.yv (y_move rfl) ?_
      refine Hd.callE rfl fk72 (open_ct _ wb i.rs.length b w.at w i x ((frees w.at).take k) ad c ?hD hof.le (fun f hf => (hof.fr f hf).1) (by omega) rfl) (Ent.sep enn) ?_
      case hD => exact RdS.own pkk
      rintro ⟨ad2, c2⟩
      dsimp only
      refine Hd.nil ?_
      refine Hd.slots [(10, _)] ⟨rfl, trivial⟩ ?_
      refine Hd.toK hK9 ?_
      refine Hd.seq (fun K10 hK10 => ?_)
      refine Hd.region ?_
      refine Hd.yv (y_move rfl) ?_
      refine Hd.yv (y_assign rfl) ?_
      refine Hd.yv (y_assign rfl) ?_
      refine Hd.nil ?_
      refine Hd.slots [(8, _), (9, _)] ⟨rfl, rfl, trivial⟩ ?_
      refine Hd.toK hK10 ?_
      refine Hd.ret ?_
      clear hK1 hK2 hK3 hK4 hK5 hK6 hK7 hK9 hK10
      rw [show mkF w k = (frees w.at).take k by unfold mkF; rw [if_pos hok], show mkE w k = 0 by unfold mkE; rw [if_pos hok], show mkW w k x = w.addW (openW x ((frees w.at).take k) ((frees w.at).take k).length) by unfold mkW; rw [if_pos hok, hfl]]
      have hat := addW_at hx hof
      rw [← hrl] at hat
      exact Hd.ret2 rfl (ad, c) rfl rfl rfl (fun q s => Ent.sep (show Ent (WorldP wb (w.addW (openW x ((frees w.at).take k) ((frees w.at).take k).length)) :: own 3 1 ad ((frees w.at).take k).length c (nats ((frees w.at).take k)) :: L) _ from enn) q (world_add (hw.addW hx hof hwl) hrs hat q (Ent.sep enn q s)))
end Wo
end Go.Proofs.YtmpemhbfgbochaaDoor
namespace Go.Proofs.YtmpemhbfgbochaaDoor
set_option linter.unusedSimpArgs false
set_option linter.unusedVariables false
set_option linter.unnecessarySimpa false
open Go.RX Fx
namespace Wo
set_option maxRecDepth 8000
theorem half_new {n l : Nat} (h : n ≤ 65536) : NewW (halfW n 2) l := by
  have e : ∀ k, k < 2 → (halfW n 2).e k = fullE := fun k hk => if_pos hk
  refine ⟨⟨fun k hk => by rw [e k hk, e (1 - k) (by omega)]; rfl, fun k hk => by rw [e k hk]; exact Nat.zero_le _, fun k hk _ => by rw [e k hk]; rfl, h, fun k hk => by rw [e k hk]; exact ⟨Int.le_refl _, by decide⟩, ⟨Int.le_refl _, by show (0 : Int) ≤ 64; decide, by show ((0 : Nat) : Int) ≤ 0; decide⟩⟩, fun k hk => by rw [e k hk]; decide, rfl⟩
theorem mkF_len {w : WA} {k : Nat} : (mkE w k = 0 ∧ (mkF w k).length = k) ∨ (mkE w k = 112 ∧ mkF w k = []) := by
  unfold mkE mkF
  by_cases h : mkOk w k = true
  · rw [if_pos h, if_pos h]
    refine .inl ⟨rfl, ?_⟩
    unfold mkOk at h
    simp only [Bool.and_eq_true, decide_eq_true_eq] at h
    omega
  · rw [if_neg h, if_neg h]; exact .inr ⟨rfl, rfl⟩
abbrev mkI (w : WA) (k j : Nat) : Int := (((mkF w k).getD j 0 : Nat) : Int)
set_option maxHeartbeats 2000000 in
theorem pair_ct (L : List SP) (wb : Nat) (w : WA) (n : Nat) (h1 : 1 ≤ n) (h2 : n ≤ 65536) : Ct Tryd.prog 24 #[.pointer (some ⟨wb, 0, none⟩), .int .i64 (n : Int)] (WorldP wb w :: L) (fun _ : Unit => .tuple #[.int .i64 (mkI w 2 0), .int .i64 (mkI w 2 1), .int .i64 (mkE w 2)]) (fun _ : Unit => WorldP wb (mkW w 2 (halfW n 2)) :: L) := by
  refine Ct.of (vs := [.pointer (some ⟨wb, 0, none⟩), .int .i64 (n : Int)]) Tryd.func24 rfl rfl [(0, .pointer (some ⟨wb, 0, none⟩)), (1, .int .i64 (n : Int))] (by repeat (first | exact trivial | refine ⟨rfl, ?_⟩)) ?_
  intro E
  show Hd E 25 _ _ _ _
  refine Hd.seq (fun K1 hK1 => ?_)
  refine Hd.region ?_
  refine Hd.yv (y_assign rfl) ?_
  refine Hd.yv (y_assign rfl) ?_
  refine Hd.yv (y_assign rfl) ?_
  refine Hd.nil ?_
  refine Hd.slots [(0, _), (1, _)] ⟨rfl, rfl, trivial⟩ ?_
  refine Hd.toK hK1 ?_
  refine Hd.seq (fun K2 hK2 => ?_)
  refine Hd.region ?_
  refine Hd.yv (y_move rfl) ?_
  refine Hd.yv (y_move rfl) ?_
  refine Hd.yv (y_move rfl) ?_
  refine Hd.callE rfl fk46 (both_ct _ n h1 h2) (Ent.sep enn) ?_
  intro b
  refine Hd.callE rfl fk45 (make_ct _ wb b w n h1 h2 2 (by omega) (halfW n 2) (half_new h2)) (Ent.sep enn) ?_
  rintro ⟨ad, c⟩
  dsimp only
  refine Hd.yv (y_move rfl) ?_
  refine Hd.yv (y_extract rfl rfl) ?_
  refine Hd.yv (y_extract rfl rfl) ?_
  refine Hd.yv (y_assign rfl) ?_
  refine Hd.yv (y_assign rfl) ?_
  refine Hd.nil ?_
  refine Hd.slots [(6, _), (7, _)] ⟨rfl, rfl, trivial⟩ ?_
  refine Hd.toK hK2 ?_
  refine Hd.seq (fun K3 hK3 => ?_)
  refine Hd.seq (fun K4 hK4 => ?_)
  refine Hd.region ?_
  refine Hd.yv (y_move rfl) ?_
  refine Hd.yv (y_neq rfl rfl) ?_
  refine Hd.nil ?_
  refine Hd.slots [(6, _), (7, _), (17, _)] ⟨rfl, rfl, rfl, trivial⟩ ?_
  refine Hd.toK hK4 ?_
  refine Hd.cond rfl (fun hc0 => ?_) (fun hc0 => ?_)
  ·
    try simp only [decide_eq_true_eq, decide_eq_false_iff_not, Bool.and_eq_true, Bool.or_eq_true, Bool.and_eq_false_iff, Bool.or_eq_false_iff, Bool.not_eq_true', Bool.not_eq_false', Bool.not_eq_true, Bool.not_eq_false, Int.not_lt, Int.not_le, Decidable.not_not, ne_eq] at hc0
    refine Hd.seq (fun K5 hK5 => ?_)
    refine Hd.region ?_
    refine Hd.yv (y_move rfl) ?_
    refine Hd.yv (y_assign rfl) ?_
    refine Hd.yv (y_assign rfl) ?_
    refine Hd.yv (y_assign rfl) ?_
    refine Hd.nil ?_
    refine Hd.slots [(4, _), (5, _), (6, _)] ⟨rfl, rfl, rfl, trivial⟩ ?_
    refine Hd.toK hK5 ?_
    refine Hd.ret ?_
    refine Hd.thenRet ?_
    clear hK1 hK2 hK3 hK4 hK5
    have h : mkF w 2 = [] := by
      rcases mkF_len (w := w) (k := 2) with h | h
      · exact absurd h.1 hc0
      · exact h.2
    rw [show mkI w 2 0 = 0 by unfold mkI; rw [h]; rfl, show mkI w 2 1 = 0 by unfold mkI; rw [h]; rfl]
    exact Hd.ret3 rfl () rfl rfl rfl rfl (Ent.sep enn)
  ·
    try simp only [decide_eq_true_eq, decide_eq_false_iff_not, Bool.and_eq_true, Bool.or_eq_true, Bool.and_eq_false_iff, Bool.or_eq_false_iff, Bool.not_eq_true', Bool.not_eq_false', Bool.not_eq_true, Bool.not_eq_false, Int.not_lt, Int.not_le, Decidable.not_not, ne_eq] at hc0
    have hl : (mkF w 2).length = 2 := by
      rcases mkF_len (w := w) (k := 2) with h | h
      · exact h.2
      · rw [h.1] at hc0; exact absurd hc0 (by decide)
    have hg0 : (nats (mkF w 2))[0 * 1]? = some (.int .i64 (mkI w 2 0)) := nats_at (by omega)
    have hg1 : (nats (mkF w 2))[1 * 1]? = some (.int .i64 (mkI w 2 1)) := nats_at (by omega)
    refine Hd.skip ?_
    refine Hd.toK hK3 ?_
    refine Hd.seq (fun K6 hK6 => ?_)
    refine Hd.quiet mixed (by kernel_rfl) ?_
    refine Hq.yv (y_move rfl) ?_
    first | (refine Hq.yv (y_idxS Tryd.underlying89 sz3 rfl rfl (by first | exact (show (0 : Nat) < _ by omega) | omega | decide)) ?_) | (refine Hq.yv (y_idxR Tryd.underlying89 sz3 rfl rfl (by first | exact (show (0 : Nat) < _ by omega) | omega | decide) (by (first | exact RdS.own pkk))) ?_)
    refine Hq.yv (y_loadR1 ag3 rfl (RdS.own (ad := ad) (us := nats (mkF w 2)) pkk) hg0) ?_
    refine Hq.yv (y_move rfl) ?_
    first | (refine Hq.yv (y_idxS Tryd.underlying89 sz3 rfl rfl (by first | exact (show (1 : Nat) < _ by omega) | omega | decide)) ?_) | (refine Hq.yv (y_idxR Tryd.underlying89 sz3 rfl rfl (by first | exact (show (1 : Nat) < _ by omega) | omega | decide) (by (first | exact RdS.own pkk))) ?_)
    refine Hq.yv (y_loadR1 ag3 rfl (RdS.own (ad := ad) (us := nats (mkF w 2)) pkk) hg1) ?_
    refine Hq.yv (y_assign rfl) ?_
    refine Hq.yv (y_assign rfl) ?_
    refine Hq.yv (y_assign rfl) ?_
    refine Hq.nil ?_
    refine Hd.slots [(4, _), (5, _), (6, _)] ⟨rfl, rfl, rfl, trivial⟩ ?_
    refine Hd.toK hK6 ?_
    refine Hd.ret ?_
    clear hK1 hK2 hK3 hK4 hK6
    exact Hd.ret3 rfl () rfl rfl (by rw [hc0]; rfl) rfl (Ent.sep enn)
end Wo
end Go.Proofs.YtmpemhbfgbochaaDoor
namespace Go.Proofs.YtmpemhbfgbochaaDoor
set_option linter.unusedSimpArgs false
set_option linter.unusedVariables false
set_option linter.unnecessarySimpa false
open Go.RX Fx
namespace Wo
set_option maxRecDepth 8000
end Wo
end Go.Proofs.YtmpemhbfgbochaaDoor
namespace Go.Proofs.YtmpemhbfgbochaaDoor
set_option linter.unusedSimpArgs false
set_option linter.unusedVariables false
set_option linter.unnecessarySimpa false
open Go.RX Fx
namespace Bc
structure Row where
  ad : Option Addr
  cap : Nat
  l : List UInt8
abbrev bsl (l : List UInt8) : List Value := l.map B
abbrev hdr (r : Row) : Value := .slice r.ad r.l.length r.cap
def flat (rs : List Row) : List UInt8 := rs.flatMap (·.l)
abbrev ow (r : Row) : SP := own 5 1 r.ad r.l.length r.cap (bsl r.l)
structure rows (rs : List Row) (h : PH) : Prop where
  all : sep (rs.map ow) h
theorem rows_split {a b : List Row} {L : List SP} {h : PH} (s : sep (rows (a ++ b) :: L) h) : sep (rows a :: rows b :: L) h := by
  obtain ⟨h1, h2, d, s1, s2, ⟨x⟩, y⟩ := s
  rw [List.map_append] at x
  obtain ⟨k1, k2, d', a', b', x1, x2⟩ := sep_append x
  exact ⟨k1, uni k2 h2, (Dis.uniL d'.sym (d.subL a').sym).sym, a'.tr s1, Sub.uni (b'.tr s1) s2, ⟨x1⟩, k2, h2, d.subL b', Sub.uniL, Sub.uniR (d.subL b'), ⟨x2⟩, y⟩
theorem rows_join {a b : List Row} {L : List SP} {h : PH} (s : sep (rows a :: rows b :: L) h) : sep (rows (a ++ b) :: L) h := by
  obtain ⟨h1, h2, d, s1, s2, ⟨x⟩, k1, k2, d', a', b', ⟨x'⟩, y⟩ := s
  refine ⟨uni h1 k1, k2, Dis.uniL (d.subR b') d', Sub.uni s1 (a'.tr s2), b'.tr s2, ⟨?_⟩, y⟩
  rw [List.map_append]
  exact sep_join (d.subR a') Sub.uniL (Sub.uniR (d.subR a')) x x'
theorem rows_own {r : Row} {L : List SP} {h : PH} (s : sep (rows [r] :: L) h) : sep (ow r :: L) h := by
  obtain ⟨h1, h2, d, s1, s2, ⟨k1, k2, d', a', b', x, _⟩, y⟩ := s
  exact ⟨k1, h2, d.subL a', a'.tr s1, s2, x, y⟩
theorem own_rows {r : Row} {L : List SP} {h : PH} (s : sep (ow r :: L) h) : sep (rows [r] :: L) h := by
  obtain ⟨h1, h2, d, s1, s2, x, y⟩ := s
  exact ⟨h1, h2, d, s1, s2, ⟨h1, fun _ => none, fun _ => .inr rfl, Sub.rfl', (fun _ _ e => by cases e), x, trivial⟩, y⟩
theorem rows_nil {L : List SP} {h : PH} (s : sep L h) : sep (rows [] :: L) h := ⟨fun _ => none, h, fun _ => .inl rfl, (fun _ _ e => by cases e), Sub.rfl', ⟨trivial⟩, s⟩
theorem pick_mem {rs : List Row} {r : Row} (hr : r ∈ rs) : ∃ L', Pick (rs.map ow) (ow r) L' := by
  induction rs with
  | nil => cases hr
  | cons a rs ih =>
    rcases List.mem_cons.1 hr with rfl | h
    · exact ⟨_, .here⟩
    · obtain ⟨L', p⟩ := ih h; exact ⟨_, .there p⟩
theorem rows_rd {L L' : List SP} {rs : List Row} (p : Pick L (rows rs) L') {r : Row} (hr : r ∈ rs) : RdS L 1 r.ad r.l.length (bsl r.l) := fun k s => by
  obtain ⟨h1, s1, ⟨x⟩⟩ := sep.one p s
  obtain ⟨L2, p2⟩ := pick_mem hr
  obtain ⟨hl, hv⟩ := RdS.own p2 h1 x
  refine ⟨hl, ?_⟩
  rcases hv with h | ⟨b, o, had, hc⟩
  · exact .inl h
  · exact .inr ⟨b, o, had, fun j v e => by obtain ⟨fr, hh⟩ := hc j v e; exact ⟨fr, s1 _ _ hh⟩⟩
theorem flat_take_succ {rs : List Row} {i : Nat} (h : i < rs.length) : flat (rs.take (i + 1)) = flat (rs.take i) ++ rs[i].l := by
  unfold flat
  rw [List.take_add_one, List.getElem?_eq_getElem h]
  simp only [List.flatMap_append, Option.toList_some, List.flatMap_cons, List.flatMap_nil, List.append_nil]
theorem flat_take_le {rs : List Row} (i : Nat) : (flat (rs.take i)).length ≤ (flat rs).length := by
  have : flat rs = flat (rs.take i) ++ flat (rs.drop i) := by unfold flat; rw [← List.flatMap_append, List.take_append_drop]
  rw [this, List.length_append]; omega
theorem flat_all {rs : List Row} {i : Nat} (h : rs.length ≤ i) : flat (rs.take i) = flat rs := by rw [List.take_of_length_le h]
theorem hdr_at {rs : List Row} {i : Nat} (h : i < rs.length) : (rs.map hdr)[i * 1]? = some (hdr rs[i]) := by simp [h]
theorem hdr_one {rs : List Row} : ∀ u ∈ rs.map hdr, u.oneCell' = true := by simp [Value.oneCell']
set_option maxHeartbeats 2000000 in
theorem clone_ct (L : List SP) (ad : Option Addr) (m cap : Nat) (l : List UInt8) (hR : RdS L 1 ad m (bsl l)) (hb : m ≤ 70368744177664) : Ct Tryd.prog 80 #[.slice ad m cap] (L) (fun i : Option Addr × Nat => .slice i.1 m i.2) (fun i : Option Addr × Nat => own 5 1 i.1 m i.2 (bsl l) :: L) := by
  refine Ct.of (vs := [.slice ad m cap]) Tryd.func80 rfl rfl [(0, .slice ad m cap)] (by repeat (first | exact trivial | refine ⟨rfl, ?_⟩)) ?_
  intro E
  show Hd E 8 _ _ _ _
  refine Hd.rdsF hR (fun hlen hnil => ?_)
  refine Hd.seq (fun K1 hK1 => ?_)
  refine Hd.region ?_
  refine Hd.yv (y_assign rfl) ?_
  refine Hd.nil ?_
  refine Hd.slots [(0, _)] ⟨rfl, trivial⟩ ?_
  refine Hd.toK hK1 ?_
  refine Hd.seq (fun K2 hK2 => ?_)
  refine Hd.seq (fun K3 hK3 => ?_)
  refine Hd.region ?_
  refine Hd.yv (y_move rfl) ?_
  refine Hd.yv (y_eql_slice Tryd.underlying35 rfl rfl) ?_
  refine Hd.nil ?_
  refine Hd.slots [(0, _), (4, _)] ⟨rfl, rfl, trivial⟩ ?_
  refine Hd.toK hK3 ?_
  refine Hd.cond rfl (fun hc0 => ?_) (fun hc0 => ?_)
  ·
    try simp only [decide_eq_true_eq, decide_eq_false_iff_not, Bool.and_eq_true, Bool.or_eq_true, Bool.and_eq_false_iff, Bool.or_eq_false_iff, Bool.not_eq_true', Bool.not_eq_false', Bool.not_eq_true, Bool.not_eq_false, Int.not_lt, Int.not_le, Decidable.not_not, ne_eq] at hc0
    have hnone : ad = none := by simpa using hc0
    obtain rfl := hnil hnone
    obtain rfl : l = [] := List.eq_nil_of_length_eq_zero (by simpa using hlen)
    refine Hd.seq (fun K4 hK4 => ?_)
    refine Hd.region ?_
    refine Hd.yv (y_assign rfl) ?_
    refine Hd.nil ?_
    refine Hd.slots [(2, _)] ⟨rfl, trivial⟩ ?_
    refine Hd.toK hK4 ?_
    refine Hd.ret ?_
    refine Hd.thenRet ?_
    clear hK1 hK2 hK3 hK4
    exact Hd.ret1 rfl (none, 0) rfl (Ent.sep enn)
  ·
    try simp only [decide_eq_true_eq, decide_eq_false_iff_not, Bool.and_eq_true, Bool.or_eq_true, Bool.and_eq_false_iff, Bool.or_eq_false_iff, Bool.not_eq_true', Bool.not_eq_false', Bool.not_eq_true, Bool.not_eq_false, Int.not_lt, Int.not_le, Decidable.not_not, ne_eq] at hc0
    refine Hd.skip ?_
    refine Hd.toK hK2 ?_
    refine Hd.seq (fun K5 hK5 => ?_)
    refine Hd.region ?_
    refine Hd.bslice (vs := []) rfl (by first | exact bs80_5 .. | kernel_rfl) (fun b5 => ?_)
    refine Hd.ownNil 5 1 (some ⟨b5, 0, none⟩) ?_
    refine Hd.yv (y_move rfl) ?_
    refine Hd.append Tryd.underlying35 ty5 rfl rfl rfl pkk (by first | exact RdS.rd (Rd.pt pkk (fun j v e => by simpa using e)) rfl | (first | exact RdS.own pkk | exact RdS.mono hR (Ent.sep enn))) (by first | (simp [Value.oneCell']; done) | assumption) (by first | (simp only [maxLen]; omega) | assumption) (by omega) (fun ad7 cap7 => ?_)
    refine Hd.yv (y_assign rfl) ?_
    refine Hd.nil ?_
    refine Hd.slots [(2, _)] ⟨rfl, trivial⟩ ?_
    refine Hd.toK hK5 ?_
    refine Hd.ret ?_
    clear hK1 hK2 hK3 hK5
    exact Hd.ret1 rfl (ad7, cap7) (by simp only [Nat.zero_add]; rfl) (Ent.sep (.eq pkk (own_eq (by simp) (by simp)) enn))
set_option maxHeartbeats 2000000 in
theorem clone2_ct (L : List SP) (ad : Option Addr) (m cap : Nat) (us : List Value) (h1 : ∀ u ∈ us, u.oneCell' = true) (hR : RdS L 1 ad m us) (hb : m ≤ 1099511627776) : Ct Tryd.prog 87 #[.slice ad m cap] (L) (fun i : Option Addr × Nat => .slice i.1 m i.2) (fun i : Option Addr × Nat => own 35 1 i.1 m i.2 us :: L) := by
  refine Ct.of (vs := [.slice ad m cap]) Tryd.func87 rfl rfl [(0, .slice ad m cap)] (by repeat (first | exact trivial | refine ⟨rfl, ?_⟩)) ?_
  intro E
  show Hd E 8 _ _ _ _
  refine Hd.rdsF hR (fun hlen hnil => ?_)
  refine Hd.seq (fun K1 hK1 => ?_)
  refine Hd.region ?_
  refine Hd.yv (y_assign rfl) ?_
  refine Hd.nil ?_
  refine Hd.slots [(0, _)] ⟨rfl, trivial⟩ ?_
  refine Hd.toK hK1 ?_
  refine Hd.seq (fun K2 hK2 => ?_)
  refine Hd.seq (fun K3 hK3 => ?_)
  refine Hd.region ?_
  refine Hd.yv (y_move rfl) ?_
  refine Hd.yv (y_eql_slice Tryd.underlying97 rfl rfl) ?_
  refine Hd.nil ?_
  refine Hd.slots [(0, _), (4, _)] ⟨rfl, rfl, trivial⟩ ?_
  refine Hd.toK hK3 ?_
  refine Hd.cond rfl (fun hc0 => ?_) (fun hc0 => ?_)
  ·
    try simp only [decide_eq_true_eq, decide_eq_false_iff_not, Bool.and_eq_true, Bool.or_eq_true, Bool.and_eq_false_iff, Bool.or_eq_false_iff, Bool.not_eq_true', Bool.not_eq_false', Bool.not_eq_true, Bool.not_eq_false, Int.not_lt, Int.not_le, Decidable.not_not, ne_eq] at hc0
    have hnone : ad = none := by simpa using hc0
    obtain rfl := hnil hnone
    obtain rfl : us = [] := List.eq_nil_of_length_eq_zero (by simpa using hlen)
    refine Hd.seq (fun K4 hK4 => ?_)
    refine Hd.region ?_
    refine Hd.yv (y_assign rfl) ?_
    refine Hd.nil ?_
    refine Hd.slots [(2, _)] ⟨rfl, trivial⟩ ?_
    refine Hd.toK hK4 ?_
    refine Hd.ret ?_
    refine Hd.thenRet ?_
    clear hK1 hK2 hK3 hK4
    exact Hd.ret1 rfl (none, 0) rfl (Ent.sep enn)
  ·
    try simp only [decide_eq_true_eq, decide_eq_false_iff_not, Bool.and_eq_true, Bool.or_eq_true, Bool.and_eq_false_iff, Bool.or_eq_false_iff, Bool.not_eq_true', Bool.not_eq_false', Bool.not_eq_true, Bool.not_eq_false, Int.not_lt, Int.not_le, Decidable.not_not, ne_eq] at hc0
    refine Hd.skip ?_
    refine Hd.toK hK2 ?_
    refine Hd.seq (fun K5 hK5 => ?_)
    refine Hd.region ?_
    refine Hd.bslice (vs := []) rfl (by first | exact bs87_5 .. | kernel_rfl) (fun b5 => ?_)
    refine Hd.ownNil 35 1 (some ⟨b5, 0, none⟩) ?_
    refine Hd.yv (y_move rfl) ?_
    refine Hd.append Tryd.underlying97 ty35 rfl rfl rfl pkk (by first | exact RdS.rd (Rd.pt pkk (fun j v e => by simpa using e)) rfl | (first | exact RdS.own pkk | exact RdS.mono hR (Ent.sep enn))) (by first | (simp [Value.oneCell']; done) | assumption) (by first | (simp only [maxLen]; omega) | assumption) (by omega) (fun ad7 cap7 => ?_)
    refine Hd.yv (y_assign rfl) ?_
    refine Hd.nil ?_
    refine Hd.slots [(2, _)] ⟨rfl, trivial⟩ ?_
    refine Hd.toK hK5 ?_
    refine Hd.ret ?_
    clear hK1 hK2 hK3 hK5
    exact Hd.ret1 rfl (ad7, cap7) (by simp only [Nat.zero_add]; rfl) (Ent.sep (.eq pkk (own_eq (by simp) (by simp)) enn))
set_option maxHeartbeats 2000000 in
theorem grow_ct (L : List SP) (j : Nat) (hj : j ≤ 70368744177664) : Ct Tryd.prog 86 #[.slice none 0 0, .int .i64 (j : Int)] (L) (fun i : Option Addr × Nat => .slice i.1 0 i.2) (fun i : Option Addr × Nat => own 5 1 i.1 0 i.2 [] :: L) := by
  refine Ct.of (vs := [.slice none 0 0, .int .i64 (j : Int)]) Tryd.func86 rfl rfl [(0, .slice none 0 0), (1, .int .i64 (j : Int))] (by repeat (first | exact trivial | refine ⟨rfl, ?_⟩)) ?_
  intro E
  show Hd E 27 _ _ _ _
  refine Hd.seq (fun K1 hK1 => ?_)
  refine Hd.region ?_
  refine Hd.yv (y_assign rfl) ?_
  refine Hd.nil ?_
  refine Hd.slots [(0, _), (1, _)] ⟨rfl, rfl, trivial⟩ ?_
  refine Hd.toK hK1 ?_
  refine Hd.seq (fun K2 hK2 => ?_)
  refine Hd.seq (fun K3 hK3 => ?_)
  refine Hd.region ?_
  refine Hd.yv (y_move rfl) ?_
  refine Hd.yv (y_lss rfl rfl) ?_
  rw [decide_eq_false (show ¬((j : Int) < 0) by omega)]
  refine Hd.nil ?_
  refine Hd.slots [(0, _), (1, _), (6, _)] ⟨rfl, rfl, rfl, trivial⟩ ?_
  refine Hd.toK hK3 ?_
  refine Hd.condF rfl ?_
  refine Hd.skip ?_
  refine Hd.toK hK2 ?_
  refine Hd.seq (fun K4 hK4 => ?_)
  refine Hd.seq (fun K5 hK5 => ?_)
  refine Hd.region ?_
  refine Hd.yv (y_move rfl) ?_
  refine Hd.yv (y_move rfl) ?_
  refine Hd.yv (y_cap Tryd.underlying35 rfl) ?_
  refine Hd.yv (y_move rfl) ?_
  refine Hd.yv (y_len Tryd.underlying35 rfl) ?_
  first | (refine Hd.yv (y_subn rfl rfl (by simp only [InK]; omega)) ?_) | (refine Hd.yv (y_sub rfl rfl) ?_)
  first | (refine Hd.yv (y_subn rfl rfl (by simp only [InK]; omega)) ?_) | (refine Hd.yv (y_sub rfl rfl) ?_)
  refine Hd.yv (y_assign rfl) ?_
  refine Hd.nil ?_
  refine Hd.slots [(0, _), (1, _)] ⟨rfl, rfl, trivial⟩ ?_
  refine Hd.toK hK5 ?_
  refine Hd.seq (fun K6 hK6 => ?_)
  refine Hd.region ?_
  refine Hd.yv (y_move rfl) ?_
  refine Hd.yv (y_gtr rfl rfl) ?_
  refine Hd.nil ?_
  refine Hd.slots [(0, _), (1, _), (16, _)] ⟨rfl, rfl, rfl, trivial⟩ ?_
  refine Hd.toK hK6 ?_
  refine Hd.cond rfl (fun hc1 => ?_) (fun hc1 => ?_)
  ·
    try simp only [decide_eq_true_eq, decide_eq_false_iff_not, Bool.and_eq_true, Bool.or_eq_true, Bool.and_eq_false_iff, Bool.or_eq_false_iff, Bool.not_eq_true', Bool.not_eq_false', Bool.not_eq_true, Bool.not_eq_false, Int.not_lt, Int.not_le, Decidable.not_not, ne_eq] at hc1
    refine Hd.ownNil 5 1 none ?_
    refine Hd.region ?_
    refine Hd.yv (y_move rfl) ?_
    refine Hd.yv (y_move rfl) ?_
    refine Hd.yv (y_cap Tryd.underlying35 rfl) ?_
    first | (refine Hd.yv (y_slo_xoxN Tryd.underlying35 sz5 rfl rfl (by first | omega | (simp; done) | decide)) ?_) | (refine Hd.yv (y_slo_xox Tryd.underlying35 sz5 rfl rfl (by first | omega | (simp; done) | decide) (by first | omega | (simp; done) | decide)) ?_)
    refine Hd.yv (y_move rfl) ?_
    refine Hd.name (b := (j : Int)) 21 rfl (by omega) ?_
    refine Hd.appendZ Tryd.underlying35 Tryd.underlying3 ty5 zr5 rfl rfl rfl pkk (by omega) (by omega) (by simp only [maxLen]; omega) (by omega) (fun ad22 cap22 => ?_)
    refine Hd.yv (y_move rfl) ?_
    refine Hd.yv (y_len Tryd.underlying35 rfl) ?_
    first | (refine Hd.yv (y_slo_xoxN Tryd.underlying35 sz5 rfl rfl (by first | omega | (simp; done) | decide)) ?_) | (refine Hd.yv (y_slo_xox Tryd.underlying35 sz5 rfl rfl (by first | omega | (simp; done) | decide) (by first | omega | (simp; done) | decide)) ?_)
    refine Hd.yv (y_assign rfl) ?_
    refine Hd.nil ?_
    refine Hd.slots [(0, _)] ⟨rfl, trivial⟩ ?_
    refine Hd.toK hK4 ?_
    refine Hd.seq (fun K7 hK7 => ?_)
    refine Hd.region ?_
    refine Hd.yv (y_move rfl) ?_
    refine Hd.yv (y_assign rfl) ?_
    refine Hd.nil ?_
    refine Hd.slots [(4, _)] ⟨rfl, trivial⟩ ?_
    refine Hd.toK hK7 ?_
    refine Hd.ret ?_
    clear hK1 hK2 hK3 hK4 hK5 hK6 hK7
    exact Hd.ret1 rfl (ad22, cap22) rfl (fun k s => sep_head (Ent.sep (.pick pkk enn) k s) fun k' x => own_take (us1 := []) (us2 := List.replicate j (.int .u8 0)) (Nat.zero_le _) rfl (by simpa using x))
  ·
    try simp only [decide_eq_true_eq, decide_eq_false_iff_not, Bool.and_eq_true, Bool.or_eq_true, Bool.and_eq_false_iff, Bool.or_eq_false_iff, Bool.not_eq_true', Bool.not_eq_false', Bool.not_eq_true, Bool.not_eq_false, Int.not_lt, Int.not_le, Decidable.not_not, ne_eq] at hc1
    refine Hd.skip ?_
    refine Hd.toK hK4 ?_
    refine Hd.seq (fun K8 hK8 => ?_)
    refine Hd.region ?_
    refine Hd.yv (y_move rfl) ?_
    refine Hd.yv (y_assign rfl) ?_
    refine Hd.nil ?_
    refine Hd.slots [(4, _)] ⟨rfl, trivial⟩ ?_
    refine Hd.toK hK8 ?_
    refine Hd.ret ?_
    clear hK1 hK2 hK3 hK4 hK5 hK6 hK8
    exact Hd.ret1 rfl (none, 0) rfl (Ent.sep (.ownNil enn))
set_option maxHeartbeats 2000000 in
theorem concat_ct (L : List SP) (ad : Option Addr) (cap : Nat) (rs : List Row) (hR : RdS L 1 ad rs.length (rs.map hdr)) (hrd : ∀ r ∈ rs, RdS L 1 r.ad r.l.length (bsl r.l)) (hm : rs.length ≤ 1099511627776) (hb : (flat rs).length ≤ 70368744177664) : Ct Tryd.prog 64 #[.slice ad rs.length cap] (L) (fun i : Option Addr × Nat => .slice i.1 (flat rs).length i.2) (fun i : Option Addr × Nat => own 5 1 i.1 (flat rs).length i.2 (bsl (flat rs)) :: L) := by
  refine Ct.of (vs := [.slice ad rs.length cap]) Tryd.func64 rfl rfl [(0, .slice ad rs.length cap)] (by repeat (first | exact trivial | refine ⟨rfl, ?_⟩)) ?_
  intro E
  show Hd E 36 _ _ _ _
  refine Hd.seq (fun K1 hK1 => ?_)
  refine Hd.region ?_
  refine Hd.yv (y_assign rfl) ?_
  refine Hd.nil ?_
  refine Hd.slots [(0, _)] ⟨rfl, trivial⟩ ?_
  refine Hd.toK hK1 ?_
  refine Hd.seq (fun K2 hK2 => ?_)
  refine Hd.region ?_
  refine Hd.yv (y_assign rfl) ?_
  refine Hd.nil ?_
  refine Hd.slots [(0, _), (3, _)] ⟨rfl, rfl, trivial⟩ ?_
  refine Hd.toK hK2 ?_
  refine Hd.seq (fun K3 hK3 => ?_)
  refine Hd.seq (fun K4 hK4 => ?_)
  refine Hd.region ?_
  refine Hd.yv (y_move rfl) ?_
  refine Hd.yv (y_len Tryd.underlying97 rfl) ?_
  refine Hd.yv (y_move rfl) ?_
  refine Hd.nil ?_
  refine Hd.slots [(0, _), (3, _), (9, _), (10, _), (11, _)] ⟨rfl, rfl, rfl, rfl, rfl, trivial⟩ ?_
  refine Hd.toK hK4 ?_
  refine Hd.block ?_
  refine Hd.loopK (ι := Nat) [(0, _), (9, _), (10, _)] (fun i => [(3, .int .i64 ((flat (rs.take i)).length : Int)), (11, .int .i64 (i : Int))]) (fun i => pu (i ≤ rs.length) :: L) (fun i => rs.length - i) 0 (by repeat (first | exact trivial | refine ⟨rfl, ?_⟩)) (by repeat (first | exact trivial | refine ⟨rfl, ?_⟩)) (Ent.sep (.pure (by first | omega | (simp; done) | (simp; omega) | exact ⟨by simp, by simp⟩) enn)) ?_
  intro i
  try dsimp only
  refine Hd.pure (fun hp0 => ?_)
  try dsimp only at hp0
  refine Hd.seq (fun K5 hK5 => ?_)
  refine Hd.region ?_
  refine Hd.yv (y_lss rfl rfl) ?_
  refine Hd.nil ?_
  refine Hd.slots [(0, _), (3, _), (9, _), (10, _), (11, _), (12, _)] ⟨rfl, rfl, rfl, rfl, rfl, rfl, trivial⟩ ?_
  refine Hd.toK hK5 ?_
  refine Hd.seq (fun K6 hK6 => ?_)
  refine Hd.cond rfl (fun hc0 => ?_) (fun hc0 => ?_)
  ·
    try simp only [decide_eq_true_eq, decide_eq_false_iff_not, Bool.and_eq_true, Bool.or_eq_true, Bool.and_eq_false_iff, Bool.or_eq_false_iff, Bool.not_eq_true', Bool.not_eq_false', Bool.not_eq_true, Bool.not_eq_false, Int.not_lt, Int.not_le, Decidable.not_not, ne_eq] at hc0
    have hi' : i < rs.length := by omega
    have e1 := flat_take_succ hi'
    have e2 := flat_take_le (rs := rs) (i + 1)
    rw [e1, List.length_append] at e2
    refine Hd.skip ?_
    refine Hd.toK hK6 ?_
    refine Hd.seq (fun K7 hK7 => ?_)
    refine Hd.block ?_
    refine Hd.seq (fun K8 hK8 => ?_)
    refine Hd.region ?_
    first | (refine Hd.yv (y_idxS Tryd.underlying97 sz35 rfl rfl (by first | omega | decide)) ?_) | (refine Hd.yv (y_idxR Tryd.underlying97 sz35 rfl rfl (by first | omega | decide) (by (first | exact RdS.own pkk | exact RdS.mono hR (Ent.sep enn) | exact RdS.mono (hrd _ (List.getElem_mem hi')) (Ent.sep enn)))) ?_)
    first | (refine Hd.yv (y_load1 ag35 rfl (Rd.pt1 pkk (by (first | exact hdr_at hi' | rfl)))) ?_) | (refine Hd.yv (y_load1 ag35 rfl (Rd.seg1 pkk (by (first | exact hdr_at hi' | rfl)))) ?_) | (refine Hd.yv (y_loadR1 ag35 rfl (by (first | exact RdS.own pkk | exact RdS.mono hR (Ent.sep enn) | exact RdS.mono (hrd _ (List.getElem_mem hi')) (Ent.sep enn))) (by (first | exact hdr_at hi' | rfl))) ?_)
    refine Hd.yv (y_assign rfl) ?_
    refine Hd.nil ?_
    refine Hd.slots [(0, _), (3, _), (5, _), (9, _), (10, _), (11, _)] ⟨rfl, rfl, rfl, rfl, rfl, rfl, trivial⟩ ?_
    refine Hd.toK hK8 ?_
    refine Hd.seq (fun K9 hK9 => ?_)
    refine Hd.region ?_
    refine Hd.yv (y_move rfl) ?_
    refine Hd.yv (y_move rfl) ?_
    refine Hd.yv (y_len Tryd.underlying35 rfl) ?_
    refine Hd.yv (y_addn rfl rfl (by simp only [InK]; omega)) ?_
    refine Hd.yv (y_assign rfl) ?_
    refine Hd.nil ?_
    refine Hd.slots [(0, _), (3, _), (9, _), (10, _), (11, _)] ⟨rfl, rfl, rfl, rfl, rfl, trivial⟩ ?_
    refine Hd.toK hK9 ?_
    refine Hd.seq (fun K10 hK10 => ?_)
    refine Hd.region ?_
    refine Hd.yv (y_move rfl) ?_
    refine Hd.yv (y_lss rfl rfl) ?_
    rw [decide_eq_false (show ¬(((flat (rs.take i)).length : Int) + (rs[i].l.length : Int) < 0) by omega)]
    refine Hd.nil ?_
    refine Hd.slots [(0, _), (3, _), (9, _), (10, _), (11, _), (20, _)] ⟨rfl, rfl, rfl, rfl, rfl, rfl, trivial⟩ ?_
    refine Hd.toK hK10 ?_
    refine Hd.condF rfl ?_
    refine Hd.skip ?_
    refine Hd.inB ?_
    refine Hd.toK hK7 ?_
    refine Hd.region ?_
    first | (refine Hd.yv (y_addn rfl rfl (by simp only [InK]; omega)) ?_) | (refine Hd.yv (y_add rfl rfl) ?_)
    refine Hd.yv (y_move rfl) ?_
    refine Hd.nil ?_
    refine Hd.slots [(0, _), (3, _), (9, _), (10, _), (11, _)] ⟨rfl, rfl, rfl, rfl, rfl, trivial⟩ ?_
    clear hK1 hK2 hK3 hK4 hK5 hK6 hK7 hK8 hK9 hK10
    refine Hd.thenN ?_
    exact Hd.again (i + 1) (by first | omega | (simp only; omega) | (simp; omega)) (by repeat (first | exact trivial | refine ⟨rfl, ?_⟩ | refine ⟨by (simp only [look, e1, List.length_append]; try rfl), ?_⟩)) (Ent.sep (.pure (by first | omega | (simp; done) | (simp; omega) | (dsimp only; omega)) enn))
  ·
    try simp only [decide_eq_true_eq, decide_eq_false_iff_not, Bool.and_eq_true, Bool.or_eq_true, Bool.and_eq_false_iff, Bool.or_eq_false_iff, Bool.not_eq_true', Bool.not_eq_false', Bool.not_eq_true, Bool.not_eq_false, Int.not_lt, Int.not_le, Decidable.not_not, ne_eq] at hc0
    obtain rfl : i = rs.length := by omega
    rw [flat_all (Nat.le_refl _)]
    refine Hd.exit ?_
    refine Hd.thenExit ?_
    refine Hd.thenExit ?_
    refine Hd.inBexit ?_
    refine Hd.toK hK3 ?_
    refine Hd.seq (fun K11 hK11 => ?_)
    refine Hd.region ?_
    refine Hd.yv (y_move rfl) ?_
    refine Hd.callE rfl fk86 (grow_ct _ _ hb) (Ent.sep enn) ?_
    rintro ⟨ad2, cap2⟩
    refine Hd.yv (y_assign rfl) ?_
    refine Hd.nil ?_
    refine Hd.slots [(0, _), (6, _)] ⟨rfl, rfl, trivial⟩ ?_
    refine Hd.toK hK11 ?_
    refine Hd.seq (fun K12 hK12 => ?_)
    refine Hd.seq (fun K13 hK13 => ?_)
    refine Hd.region ?_
    refine Hd.yv (y_move rfl) ?_
    refine Hd.yv (y_len Tryd.underlying97 rfl) ?_
    refine Hd.yv (y_move rfl) ?_
    refine Hd.nil ?_
    refine Hd.slots [(6, _), (25, _), (26, _), (27, _)] ⟨rfl, rfl, rfl, rfl, trivial⟩ ?_
    refine Hd.toK hK13 ?_
    refine Hd.block ?_
    refine Hd.loopK (ι := Nat × Option Addr × Nat) [(25, _), (26, _)] (fun q_ => [(6, .slice q_.2.1 (flat (rs.take q_.1)).length q_.2.2), (27, .int .i64 (q_.1 : Int))]) (fun q_ => pu (q_.1 ≤ rs.length) :: own 5 1 q_.2.1 (flat (rs.take q_.1)).length q_.2.2 (bsl (flat (rs.take q_.1))) :: L) (fun q_ => rs.length - q_.1) (0, ad2, cap2) (by repeat (first | exact trivial | refine ⟨rfl, ?_⟩)) (by repeat (first | exact trivial | refine ⟨rfl, ?_⟩)) (Ent.sep (.pure (by first | omega | (simp; done) | (simp; omega) | exact ⟨by simp, by simp⟩) enn)) ?_
    rintro ⟨i, ad3, cap3⟩
    try dsimp only
    refine Hd.pure (fun hp1 => ?_)
    try dsimp only at hp1
    refine Hd.seq (fun K14 hK14 => ?_)
    refine Hd.region ?_
    refine Hd.yv (y_lss rfl rfl) ?_
    refine Hd.nil ?_
    refine Hd.slots [(6, _), (25, _), (26, _), (27, _), (28, _)] ⟨rfl, rfl, rfl, rfl, rfl, trivial⟩ ?_
    refine Hd.toK hK14 ?_
    refine Hd.seq (fun K15 hK15 => ?_)
    refine Hd.cond rfl (fun hc2 => ?_) (fun hc2 => ?_)
    ·
      try simp only [decide_eq_true_eq, decide_eq_false_iff_not, Bool.and_eq_true, Bool.or_eq_true, Bool.and_eq_false_iff, Bool.or_eq_false_iff, Bool.not_eq_true', Bool.not_eq_false', Bool.not_eq_true, Bool.not_eq_false, Int.not_lt, Int.not_le, Decidable.not_not, ne_eq] at hc2
      have hi' : i < rs.length := by omega
      have e1 := flat_take_succ hi'
      have e2 := flat_take_le (rs := rs) (i + 1)
      rw [e1, List.length_append] at e2
      refine Hd.skip ?_
      refine Hd.toK hK15 ?_
      refine Hd.seq (fun K16 hK16 => ?_)
      refine Hd.block ?_
      refine Hd.seq (fun K17 hK17 => ?_)
      refine Hd.region ?_
      first | (refine Hd.yv (y_idxS Tryd.underlying97 sz35 rfl rfl (by first | omega | decide)) ?_) | (refine Hd.yv (y_idxR Tryd.underlying97 sz35 rfl rfl (by first | omega | decide) (by (first | exact RdS.own pkk | exact RdS.mono hR (Ent.sep enn) | exact RdS.mono (hrd _ (List.getElem_mem hi')) (Ent.sep enn)))) ?_)
      first | (refine Hd.yv (y_load1 ag35 rfl (Rd.pt1 pkk (by (first | exact hdr_at hi' | rfl)))) ?_) | (refine Hd.yv (y_load1 ag35 rfl (Rd.seg1 pkk (by (first | exact hdr_at hi' | rfl)))) ?_) | (refine Hd.yv (y_loadR1 ag35 rfl (by (first | exact RdS.own pkk | exact RdS.mono hR (Ent.sep enn) | exact RdS.mono (hrd _ (List.getElem_mem hi')) (Ent.sep enn))) (by (first | exact hdr_at hi' | rfl))) ?_)
      refine Hd.yv (y_assign rfl) ?_
      refine Hd.nil ?_
      refine Hd.slots [(6, _), (8, _), (25, _), (26, _), (27, _)] ⟨rfl, rfl, rfl, rfl, rfl, trivial⟩ ?_
      refine Hd.toK hK17 ?_
      refine Hd.region ?_
      refine Hd.yv (y_move rfl) ?_
      refine Hd.yv (y_move rfl) ?_
      refine Hd.append Tryd.underlying35 ty5 rfl rfl rfl pkk (by first | exact RdS.rd (Rd.pt pkk (fun j v e => by simpa using e)) rfl | (first | exact RdS.own pkk | exact RdS.mono hR (Ent.sep enn) | exact RdS.mono (hrd _ (List.getElem_mem hi')) (Ent.sep enn))) (by first | (simp [Value.oneCell']; done) | assumption) (by first | (simp only [maxLen]; omega) | assumption) (by omega) (fun ad33 cap33 => ?_)
      refine Hd.yv (y_assign rfl) ?_
      refine Hd.nil ?_
      refine Hd.slots [(6, _), (25, _), (26, _), (27, _)] ⟨rfl, rfl, rfl, rfl, trivial⟩ ?_
      refine Hd.inB ?_
      refine Hd.toK hK16 ?_
      refine Hd.region ?_
      first | (refine Hd.yv (y_addn rfl rfl (by simp only [InK]; omega)) ?_) | (refine Hd.yv (y_add rfl rfl) ?_)
      refine Hd.yv (y_move rfl) ?_
      refine Hd.nil ?_
      refine Hd.slots [(6, _), (25, _), (26, _), (27, _)] ⟨rfl, rfl, rfl, rfl, trivial⟩ ?_
      clear hK1 hK2 hK3 hK4 hK5 hK6 hK11 hK12 hK13 hK14 hK15 hK16 hK17
      refine Hd.thenN ?_
      exact Hd.again (i + 1, ad33, cap33) (by first | omega | (simp only; omega) | (simp; omega)) (by repeat (first | exact trivial | refine ⟨rfl, ?_⟩ | refine ⟨by (simp only [look, e1, List.length_append]; try rfl), ?_⟩)) (Ent.sep (.pure (by first | omega | (simp; done) | (simp; omega) | (dsimp only; omega)) (.eq pkk (own_eq (by rw [e1, List.length_append]) (by rw [e1]; simp)) enn)))
    ·
      try simp only [decide_eq_true_eq, decide_eq_false_iff_not, Bool.and_eq_true, Bool.or_eq_true, Bool.and_eq_false_iff, Bool.or_eq_false_iff, Bool.not_eq_true', Bool.not_eq_false', Bool.not_eq_true, Bool.not_eq_false, Int.not_lt, Int.not_le, Decidable.not_not, ne_eq] at hc2
      refine Hd.exit ?_
      refine Hd.thenExit ?_
      refine Hd.thenExit ?_
      refine Hd.inBexit ?_
      refine Hd.toK hK12 ?_
      refine Hd.seq (fun K18 hK18 => ?_)
      refine Hd.region ?_
      refine Hd.yv (y_move rfl) ?_
      refine Hd.yv (y_assign rfl) ?_
      refine Hd.nil ?_
      refine Hd.slots [(2, _)] ⟨rfl, trivial⟩ ?_
      refine Hd.toK hK18 ?_
      refine Hd.ret ?_
      clear hK1 hK2 hK3 hK4 hK5 hK6 hK11 hK12 hK13 hK14 hK15 hK18
      obtain rfl : i = rs.length := by omega
      rw [flat_all (Nat.le_refl _)]
      exact Hd.ret1 rfl (ad3, cap3) rfl (Ent.sep enn)
end Bc
end Go.Proofs.YtmpemhbfgbochaaDoor
namespace Go.Proofs.YtmpemhbfgbochaaDoor
set_option linter.unusedSimpArgs false
set_option linter.unusedVariables false
set_option linter.unnecessarySimpa false
open Go.RX Fx
namespace Bc
def mayE (have_ more : Nat) : Int := if more ≤ 1048576 - have_ then 0 else 70
set_option maxHeartbeats 2000000 in
theorem may_ct (L : List SP) (b o : Nat) (v : Value) (k m : Nat) (hk : k ≤ 1048576) : Ct Tryd.prog 78 #[.pointer (some ⟨b, o, none⟩), .int .i64 (m : Int)] (seg b o [v, .int .i64 (k : Int)] :: L) (fun _ : Unit => .int .i64 (mayE k m)) (fun _ : Unit => seg b o [v, .int .i64 (k : Int)] :: L) := by
  refine Ct.of (vs := [.pointer (some ⟨b, o, none⟩), .int .i64 (m : Int)]) Tryd.func78 rfl rfl [(0, .pointer (some ⟨b, o, none⟩)), (1, .int .i64 (m : Int))] (by repeat (first | exact trivial | refine ⟨rfl, ?_⟩)) ?_
  intro E
  show Hd E 16 _ _ _ _
  refine Hd.seq (fun K1 hK1 => ?_)
  refine Hd.region ?_
  refine Hd.yv (y_assign rfl) ?_
  refine Hd.nil ?_
  refine Hd.slots [(0, _), (1, _)] ⟨rfl, rfl, trivial⟩ ?_
  refine Hd.toK hK1 ?_
  refine Hd.seq (fun K2 hK2 => ?_)
  refine Hd.block ?_
  refine Hd.seq (fun K3 hK3 => ?_)
  refine Hd.region ?_
  refine Hd.yv (y_move rfl) ?_
  first | (refine Hd.yv (y_eql_pointer Tryd.underlying143 rfl rfl) ?_) | (refine Hd.yv (y_eql_one Tryd.underlying143 sz99 rfl rfl rfl) ?_)
  refine Hd.yv (y_assign rfl) ?_
  refine Hd.nil ?_
  refine Hd.slots [(0, _), (1, _), (5, _)] ⟨rfl, rfl, rfl, trivial⟩ ?_
  refine Hd.toK hK3 ?_
  refine Hd.condF rfl ?_
  refine Hd.seq (fun K4 hK4 => ?_)
  refine Hd.region ?_
  refine Hd.yv (y_move rfl) ?_
  refine Hd.yv (y_move rfl) ?_
  refine Hd.yv (y_nilp rfl) ?_
  first | (refine Hd.yv (y_field' (q := 1) (ft := 3) Tryd.underlying99 rfl sz3 rfl rfl) ?_) | (refine Hd.yv (y_fieldR (q := 1) (ft := 3) Tryd.underlying99 rfl sz3 rfl rfl) ?_)
  first | (refine Hd.yv (y_load1 ag3 rfl (Rd.pt1 pkk (by (first | rfl)))) ?_) | (refine Hd.yv (y_load1 ag3 rfl (Rd.seg1 pkk (by (first | rfl)))) ?_) | (refine Hd.yv (y_loadR1 ag3 rfl (by (first | exact RdS.own pkk)) (by (first | rfl))) ?_)
  first | (refine Hd.yv (y_subn rfl rfl (by simp only [InK]; omega)) ?_) | (refine Hd.yv (y_sub rfl rfl) ?_)
  refine Hd.yv (y_gtr rfl rfl) ?_
  refine Hd.yv (y_assign rfl) ?_
  refine Hd.nil ?_
  refine Hd.slots [(8, _)] ⟨rfl, trivial⟩ ?_
  refine Hd.toK hK4 ?_
  refine Hd.cond rfl (fun hc1 => ?_) (fun hc1 => ?_)
  ·
    try simp only [decide_eq_true_eq, decide_eq_false_iff_not, Bool.and_eq_true, Bool.or_eq_true, Bool.and_eq_false_iff, Bool.or_eq_false_iff, Bool.not_eq_true', Bool.not_eq_false', Bool.not_eq_true, Bool.not_eq_false, Int.not_lt, Int.not_le, Decidable.not_not, ne_eq] at hc1
    refine Hd.seq (fun K5 hK5 => ?_)
    refine Hd.region ?_
    refine Hd.yv (y_assign rfl) ?_
    refine Hd.nil ?_
    refine Hd.slots [(4, _)] ⟨rfl, trivial⟩ ?_
    refine Hd.toK hK5 ?_
    refine Hd.ret ?_
    refine Hd.inBret ?_
    refine Hd.thenRet ?_
    clear hK1 hK2 hK3 hK4 hK5
    exact Hd.ret1 rfl () (by simp only [mayE]; rw [if_neg (by omega)]; rfl) (Ent.sep enn)
  ·
    try simp only [decide_eq_true_eq, decide_eq_false_iff_not, Bool.and_eq_true, Bool.or_eq_true, Bool.and_eq_false_iff, Bool.or_eq_false_iff, Bool.not_eq_true', Bool.not_eq_false', Bool.not_eq_true, Bool.not_eq_false, Int.not_lt, Int.not_le, Decidable.not_not, ne_eq] at hc1
    refine Hd.skip ?_
    refine Hd.inB ?_
    refine Hd.toK hK2 ?_
    refine Hd.seq (fun K6 hK6 => ?_)
    refine Hd.region ?_
    refine Hd.yv (y_assign rfl) ?_
    refine Hd.nil ?_
    refine Hd.slots [(4, _)] ⟨rfl, trivial⟩ ?_
    refine Hd.toK hK6 ?_
    refine Hd.ret ?_
    clear hK1 hK2 hK3 hK4 hK6
    exact Hd.ret1 rfl () (by simp only [mayE]; rw [if_pos (by omega)]; rfl) (Ent.sep enn)
def pcs (m : Nat) : Nat → List (Nat × Nat)
  | 0 => []
  | k + 1 => pcs m k ++ [(k * 256, min 256 (m - k * 256))]
theorem pcs_len (m : Nat) : ∀ k, (pcs m k).length = k
  | 0 => rfl
  | k + 1 => by simp [pcs, pcs_len m k]
def npc (m : Nat) : Nat := (m + 255) / 256
abbrev encP (ad : Option Addr) (c : Nat × Nat) : List Value := [.slice (cutA ad 1 c.1 (c.1 + c.2)) (c.1 + c.2 - c.1) (c.1 + c.2 - c.1)]
def SpP (m : Nat) (xs : List (Nat × Nat)) : Prop := ∃ k, xs = pcs m (k + 1) ∧ k * 256 < m
theorem spP_last {m : Nat} {pre : List (Nat × Nat)} {c : Nat × Nat} (h : SpP m (pre ++ [c])) : ∃ k, pre = pcs m k ∧ c = (k * 256, min 256 (m - k * 256)) ∧ k * 256 < m := by
  obtain ⟨k, e, hk⟩ := h
  simp only [pcs] at e
  have := List.append_inj' e rfl
  exact ⟨k, this.1, by simpa using this.2, hk⟩
set_option maxHeartbeats 2000000 in
theorem chunk_ct (L : List SP) (v : Value) (hv : v.cells = #[v]) : Ct Tryd.prog 79 #[v, .int .i64 256] (L) (fun i : Nat × Nat => .func (.func 90) #[] #[.pointer (some ⟨i.1, 0, none⟩), .pointer (some ⟨i.2, 0, none⟩)]) (fun i : Nat × Nat => pt i.1 [v] 35 :: pt i.2 [.int .i64 256] 3 :: L) := by
  refine Ct.of (vs := [v, .int .i64 256]) Tryd.func79 rfl rfl [(0, v), (1, .int .i64 256)] (by repeat (first | exact trivial | refine ⟨rfl, ?_⟩)) ?_
  intro E
  show Hd E 9 _ _ _ _
  refine Hd.seq (fun K1 hK1 => ?_)
  refine Hd.region ?_
  refine Hd.box (us := [v]) rfl hv (fun b2 => ?_)
  refine Hd.box rfl rfl (fun b3 => ?_)
  refine Hd.yv (y_assign rfl) ?_
  refine Hd.nil ?_
  refine Hd.slots [(2, _), (3, _)] ⟨rfl, rfl, trivial⟩ ?_
  refine Hd.toK hK1 ?_
  refine Hd.seq (fun K2 hK2 => ?_)
  refine Hd.seq (fun K3 hK3 => ?_)
  refine Hd.region ?_
  first | (refine Hd.yv (y_load1 ag3 rfl (Rd.pt1 pkk (by (first | rfl)))) ?_) | (refine Hd.yv (y_load1 ag3 rfl (Rd.seg1 pkk (by (first | rfl)))) ?_) | (refine Hd.yv (y_loadR1 ag3 rfl (by (first | exact RdS.own pkk)) (by (first | rfl))) ?_)
  refine Hd.yv (y_lss rfl rfl) ?_
  rw [decide_eq_false (show ¬((256 : Int) < 1) by omega)]
  refine Hd.nil ?_
  refine Hd.slots [(2, _), (3, _), (6, _)] ⟨rfl, rfl, rfl, trivial⟩ ?_
  refine Hd.toK hK3 ?_
  refine Hd.condF rfl ?_
  refine Hd.skip ?_
  refine Hd.toK hK2 ?_
  refine Hd.seq (fun K4 hK4 => ?_)
  refine Hd.region ?_
  refine Hd.yv (y_mkf (fv := []) (cv := [_, _]) rfl rfl) ?_
  refine Hd.yv (y_assign rfl) ?_
  refine Hd.nil ?_
  refine Hd.slots [(4, _)] ⟨rfl, trivial⟩ ?_
  refine Hd.toK hK4 ?_
  refine Hd.ret ?_
  clear hK1 hK2 hK3 hK4
  exact Hd.ret1 rfl (b2, b3) rfl (Ent.sep enn)
theorem chunk_it (L : List SP) (b2 b3 : Nat) (ad : Option Addr) (m cap : Nat) (hmc : m ≤ cap) (hm : m ≤ 70368744177664) : It Tryd.prog 90 [.pointer (some ⟨b2, 0, none⟩), .pointer (some ⟨b3, 0, none⟩)] (encP ad)
    (fun xs => xs = pcs m (npc m)) (SpP m)
    (pt b2 [.slice ad m cap] 35 :: pt b3 [.int .i64 256] 3 :: L) (pt b2 [.slice ad m cap] 35 :: pt b3 [.int .i64 256] 3 :: L) := by
  intro l J X hy
  refine Ct.of (vs := [.func (.yield l) #[] #[], .pointer (some ⟨b2, 0, none⟩), .pointer (some ⟨b3, 0, none⟩)]) Tryd.func90 rfl rfl [(0, .func (.yield l) #[] #[]), (1, .pointer (some ⟨b2, 0, none⟩)), (2, .pointer (some ⟨b3, 0, none⟩))] ⟨rfl, rfl, rfl, trivial⟩ ?_
  intro E
  show Hd E 31 _ _ _ _
  refine Hd.heap (pt b2 [.slice ad m cap] 35 :: pt b3 [.int .i64 256] 3 :: (J [] ++ L)) (fun k h => sep_two h) ?_
  refine Hd.seq (fun K1 hK1 => ?_)
  refine Hd.region ?_
  refine Hd.yv (y_assign rfl) ?_
  refine Hd.nil ?_
  refine Hd.slots [(0, _), (1, _), (2, _), (4, _)] ⟨rfl, rfl, rfl, rfl, trivial⟩ ?_
  refine Hd.toK hK1 ?_
  refine Hd.block ?_
  refine Hd.loopK (ι := Nat) [(0, _), (1, _), (2, _)] (fun k => [(4, .int .i64 ((k * 256 : Nat) : Int))]) (fun k => pu (k = 0 ∨ (k - 1) * 256 < m) :: pt b2 [.slice ad m cap] 35 :: pt b3 [.int .i64 256] 3 :: (J (pcs m k) ++ L)) (fun k => npc m - k) 0 (by repeat (first | exact trivial | refine ⟨rfl, ?_⟩)) (by repeat (first | exact trivial | refine ⟨rfl, ?_⟩)) (Ent.sep (.pure (by first | omega | (simp; done) | (simp; omega) | exact ⟨by simp, by simp⟩) enn)) ?_
  intro k
  try dsimp only
  refine Hd.pure (fun hp0 => ?_)
  try dsimp only at hp0
  refine Hd.seq (fun K2 hK2 => ?_)
  refine Hd.seq (fun K3 hK3 => ?_)
  refine Hd.region ?_
  refine Hd.yv (y_move rfl) ?_
  first | (refine Hd.yv (y_load1 ag35 rfl (Rd.pt1 pkk (by (first | rfl)))) ?_) | (refine Hd.yv (y_load1 ag35 rfl (Rd.seg1 pkk (by (first | rfl)))) ?_) | (refine Hd.yv (y_loadR1 ag35 rfl (by (first | exact RdS.own pkk)) (by (first | rfl))) ?_)
  refine Hd.yv (y_len Tryd.underlying35 rfl) ?_
  refine Hd.yv (y_lss rfl rfl) ?_
  refine Hd.nil ?_
  refine Hd.slots [(0, _), (1, _), (2, _), (4, _), (9, _)] ⟨rfl, rfl, rfl, rfl, rfl, trivial⟩ ?_
  refine Hd.toK hK3 ?_
  refine Hd.cond rfl (fun hc0 => ?_) (fun hc0 => ?_)
  ·
    try simp only [decide_eq_true_eq, decide_eq_false_iff_not, Bool.and_eq_true, Bool.or_eq_true, Bool.and_eq_false_iff, Bool.or_eq_false_iff, Bool.not_eq_true', Bool.not_eq_false', Bool.not_eq_true, Bool.not_eq_false, Int.not_lt, Int.not_le, Decidable.not_not, ne_eq] at hc0
    have hk : k * 256 < m := by omega
    refine Hd.skip ?_
    refine Hd.toK hK2 ?_
    refine Hd.seq (fun K4 hK4 => ?_)
    refine Hd.block ?_
    refine Hd.seq (fun K5 hK5 => ?_)
    refine Hd.quiet mixed (by kernel_rfl) ?_
    first | (refine Hq.yv (y_load1 ag3 rfl (Rd.pt1 pkk (by (first | rfl)))) ?_) | (refine Hq.yv (y_load1 ag3 rfl (Rd.seg1 pkk (by (first | rfl)))) ?_) | (refine Hq.yv (y_loadR1 ag3 rfl (by (first | exact RdS.own pkk)) (by (first | rfl))) ?_)
    first | (refine Hq.yv (y_load1 ag35 rfl (Rd.pt1 pkk (by (first | rfl)))) ?_) | (refine Hq.yv (y_load1 ag35 rfl (Rd.seg1 pkk (by (first | rfl)))) ?_) | (refine Hq.yv (y_loadR1 ag35 rfl (by (first | exact RdS.own pkk)) (by (first | rfl))) ?_)
    refine Hq.yv (y_move rfl) ?_
    first | (refine Hq.yv (y_slo_oxxN Tryd.underlying35 sz5 rfl rfl (by first | omega | (simp; done) | decide)) ?_) | (refine Hq.yv (y_slo_oxx Tryd.underlying35 sz5 rfl rfl (by first | omega | (simp; done) | decide) (by first | omega | (simp; done) | decide)) ?_)
    refine Hq.yv (y_len Tryd.underlying35 rfl) ?_
    refine Hq.yv (y_min rfl rfl) ?_
    refine Hq.yv (y_assign rfl) ?_
    refine Hq.nil ?_
    refine Hd.name (b := ((min 256 (m - k * 256) : Nat) : Int)) 5 rfl (by omega) ?_
    refine Hd.slots [(0, _), (1, _), (2, _), (4, _), (5, _)] ⟨rfl, rfl, rfl, rfl, rfl, trivial⟩ ?_
    refine Hd.toK hK5 ?_
    refine Hd.seq (fun K6 hK6 => ?_)
    refine Hd.region ?_
    refine Hd.yv (y_move rfl) ?_
    first | (refine Hd.yv (y_load1 ag35 rfl (Rd.pt1 pkk (by (first | rfl)))) ?_) | (refine Hd.yv (y_load1 ag35 rfl (Rd.seg1 pkk (by (first | rfl)))) ?_) | (refine Hd.yv (y_loadR1 ag35 rfl (by (first | exact RdS.own pkk)) (by (first | rfl))) ?_)
    refine Hd.yv (y_move rfl) ?_
    refine Hd.yv (y_move rfl) ?_
    refine Hd.yv (y_move rfl) ?_
    first | (refine Hd.yv (y_addn rfl rfl (by simp only [InK]; omega)) ?_) | (refine Hd.yv (y_add rfl rfl) ?_)
    refine Hd.yv (y_move rfl) ?_
    refine Hd.yv (y_move rfl) ?_
    first | (refine Hd.yv (y_addn rfl rfl (by simp only [InK]; omega)) ?_) | (refine Hd.yv (y_add rfl rfl) ?_)
    refine Hd.name (b := ((k * 256 + min 256 (m - k * 256) : Nat) : Int)) 24 rfl (by omega) ?_
    refine Hd.name (b := ((k * 256 + min 256 (m - k * 256) : Nat) : Int)) 27 rfl (by omega) ?_
    first | (refine Hd.yv (y_slo_oooN Tryd.underlying35 sz5 rfl rfl rfl rfl (by first | omega | (simp; done) | decide) (by first | omega | (simp; done) | decide) (by first | omega | (simp; done) | decide)) ?_) | (refine Hd.yv (y_slo_ooo Tryd.underlying35 sz5 rfl rfl rfl rfl (by first | omega | (simp; done) | decide) (by first | omega | (simp; done) | decide) (by first | omega | (simp; done) | decide) (by first | omega | (simp; done) | decide)) ?_)
    refine Hd.yield (pre := pcs m k) (c := (k * 256, min 256 (m - k * 256))) (M := pt b2 [.slice ad m cap] 35 :: pt b3 [.int .i64 256] 3 :: L) hy rfl rfl ⟨k, rfl, hk⟩ (fun k h => sep_two' h) ?_
    intro yb
    refine Hd.yv (y_not rfl) ?_
    refine Hd.nil ?_
    refine Hd.slots [(0, _), (1, _), (2, _), (4, _), (30, _)] ⟨rfl, rfl, rfl, rfl, rfl, trivial⟩ ?_
    refine Hd.toK hK6 ?_
    refine Hd.cond rfl (fun hc1 => ?_) (fun hc1 => ?_)
    ·
      try simp only [decide_eq_true_eq, decide_eq_false_iff_not, Bool.and_eq_true, Bool.or_eq_true, Bool.and_eq_false_iff, Bool.or_eq_false_iff, Bool.not_eq_true', Bool.not_eq_false', Bool.not_eq_true, Bool.not_eq_false, Int.not_lt, Int.not_le, Decidable.not_not, ne_eq] at hc1
      subst hc1
      simp only [cond_false]
      refine Hd.ret ?_
      refine Hd.inBret ?_
      refine Hd.thenRet ?_
      refine Hd.thenRet ?_
      refine Hd.inBret ?_
      clear hK1 hK2 hK3 hK4 hK5 hK6
      exact Hd.ret0 rfl (pcs m (k + 1), false) rfl (fun k' h => Ent.sep (.pure ⟨k, rfl, hk⟩ .same) k' h)
    ·
      try simp only [decide_eq_true_eq, decide_eq_false_iff_not, Bool.and_eq_true, Bool.or_eq_true, Bool.and_eq_false_iff, Bool.or_eq_false_iff, Bool.not_eq_true', Bool.not_eq_false', Bool.not_eq_true, Bool.not_eq_false, Int.not_lt, Int.not_le, Decidable.not_not, ne_eq] at hc1
      subst hc1
      simp only [cond_true]
      refine Hd.heap (pt b2 [.slice ad m cap] 35 :: pt b3 [.int .i64 256] 3 :: (J (pcs m (k + 1)) ++ L)) (fun k h => sep_two h) ?_
      refine Hd.skip ?_
      refine Hd.inB ?_
      refine Hd.toK hK4 ?_
      refine Hd.region ?_
      refine Hd.yv (y_move rfl) ?_
      first | (refine Hd.yv (y_load1 ag3 rfl (Rd.pt1 pkk (by (first | rfl)))) ?_) | (refine Hd.yv (y_load1 ag3 rfl (Rd.seg1 pkk (by (first | rfl)))) ?_) | (refine Hd.yv (y_loadR1 ag3 rfl (by (first | exact RdS.own pkk)) (by (first | rfl))) ?_)
      first | (refine Hd.yv (y_addn rfl rfl (by simp only [InK]; omega)) ?_) | (refine Hd.yv (y_add rfl rfl) ?_)
      refine Hd.yv (y_assign rfl) ?_
      refine Hd.nil ?_
      refine Hd.slots [(0, _), (1, _), (2, _), (4, _)] ⟨rfl, rfl, rfl, rfl, trivial⟩ ?_
      clear hK1 hK2 hK3 hK4 hK5 hK6
      refine Hd.thenN ?_
      refine Hd.name (b := (((k + 1) * 256 : Nat) : Int)) 4 rfl (by omega) ?_
      exact Hd.again (k + 1) (by simp only [npc]; omega) (by repeat (first | exact trivial | refine ⟨rfl, ?_⟩)) (fun k' h => Ent.sep (.pure (by omega) .same) k' h)
  ·
    try simp only [decide_eq_true_eq, decide_eq_false_iff_not, Bool.and_eq_true, Bool.or_eq_true, Bool.and_eq_false_iff, Bool.or_eq_false_iff, Bool.not_eq_true', Bool.not_eq_false', Bool.not_eq_true, Bool.not_eq_false, Int.not_lt, Int.not_le, Decidable.not_not, ne_eq] at hc0
    refine Hd.exit ?_
    refine Hd.thenExit ?_
    refine Hd.thenExit ?_
    refine Hd.inBexit ?_
    clear hK1 hK2 hK3
    have hk : k = npc m := by simp only [npc]; omega
    subst hk
    exact Hd.end0 rfl (pcs m (npc m), true) rfl (fun k' h => Ent.sep (.pure rfl .same) k' (sep_two' h))
end Bc
end Go.Proofs.YtmpemhbfgbochaaDoor
namespace Go.Proofs.YtmpemhbfgbochaaDoor
set_option linter.unusedSimpArgs false
set_option linter.unusedVariables false
set_option linter.unnecessarySimpa false
open Go.RX Fx
namespace Bc
abbrev ChL (b o : Nat) (rs : List Row) (len : Int) : SP := RX.ex fun i : Option Addr × Nat => [seg b o [.slice i.1 rs.length i.2, .int .i64 len], own 35 1 i.1 rs.length i.2 (rs.map hdr), rows rs]
def Full (rs : List Row) : Prop := ∀ r ∈ rs, 0 < r.l.length
def Good (rs : List Row) : Prop := Full rs ∧ (flat rs).length ≤ 1048576
abbrev Ch (b o : Nat) (rs : List Row) : SP := ChL b o rs ((flat rs).length : Int)
theorem full_len {rs : List Row} (h : Full rs) : rs.length ≤ (flat rs).length := by
  induction rs with
  | nil => simp
  | cons r rs ih =>
    have h1 := h r (by simp)
    have h2 := ih (fun x hx => h x (List.mem_cons_of_mem _ hx))
    simp only [flat, List.flatMap_cons, List.length_append, List.length_cons] at *
    omega
theorem flat_app (a b : List Row) : flat (a ++ b) = flat a ++ flat b := by simp [flat]
theorem flat_one (r : Row) : flat [r] = r.l := by simp [flat]
theorem full_app {a b : List Row} (ha : Full a) (hb : Full b) : Full (a ++ b) := fun r hr => by
  rcases List.mem_append.1 hr with h | h
  · exact ha r h
  · exact hb r h
theorem full_one {r : Row} (h : 0 < r.l.length) : Full [r] := fun x hx => by simp at hx; subst hx; exact h
theorem mem_le {rs : List Row} {r : Row} (h : r ∈ rs) : r.l.length ≤ (flat rs).length := by
  induction rs with
  | nil => cases h
  | cons a rs ih =>
    simp only [flat, List.flatMap_cons, List.length_append]
    rcases List.mem_cons.1 h with rfl | h
    · omega
    · have := ih h; simp only [flat] at this; omega
theorem last_of {rs : List Row} (h : 0 < rs.length) : ∃ a r, rs = a ++ [r] := by
  refine ⟨rs.dropLast, rs.getLast (by intro e; subst e; simp at h), (List.dropLast_concat_getLast _).symm⟩
theorem hdr_last {rs rs0 : List Row} {r0 : Row} (h : rs = rs0 ++ [r0]) : (rs.map hdr)[(rs.length - 1) * 1]? = some (hdr r0) := by subst h; simp
theorem hdr_set {rs rs0 : List Row} {r0 r1 : Row} (h : rs = rs0 ++ [r0]) : (rs.map hdr).set ((rs.length - 1) * 1) (hdr r1) = (rs0 ++ [r1]).map hdr := by
  subst h
  simp only [List.map_append, List.length_append, List.map_cons, List.map_nil, List.length_cons, List.length_nil]
  rw [List.set_append_right _ _ (by simp)]; simp
theorem addRow_sep {L L' L2 : List SP} {rs : List Row} {ad : Option Addr} {m cap : Nat} {us : List Value} (l : List UInt8) (p1 : Pick L (rows rs) L') (p2 : Pick L' (own 5 1 ad m cap us) L2) (hl : l.length = m) (hu : us = bsl l) (k : PH) (s : sep L k) : sep (rows (rs ++ [⟨ad, cap, l⟩]) :: L2) k := by
  subst hl; subst hu
  have s1 := p1.sep s
  have s2 : sep (rows rs :: ow ⟨ad, cap, l⟩ :: L2) k := Ent.imp' .here (fun _ x => x) (fun k s => p2.sep s) s1
  exact rows_join (Ent.imp' .here (fun _ x => x) (fun k s => own_rows s) s2)
section
variable {E : World} {n : Nat} {ds : List Deferred} {st : List (Nat × Value)} {L L' L2 : List SP} {K : Act → World → Prop}
theorem Hd.splitLast {rs rs0 : List Row} {r0 : Row} (e : rs = rs0 ++ [r0]) (p : Pick L (rows rs) L') (h : Hd E n ds st (rows rs0 :: ow r0 :: L') K) : Hd E n ds st L K := by
  subst e
  exact Hd.heap _ (fun _ s => Ent.imp' .here (fun _ x => x) (fun k s => rows_own s) (rows_split (p.sep s))) h
theorem Hd.addRow {rs : List Row} {ad : Option Addr} {m cap : Nat} {us : List Value} (l : List UInt8) (p1 : Pick L (rows rs) L') (p2 : Pick L' (own 5 1 ad m cap us) L2) (hl : l.length = m) (hu : us = bsl l) (h : Hd E n ds st (rows (rs ++ [⟨ad, cap, l⟩]) :: L2) K) : Hd E n ds st L K :=
  Hd.heap _ (fun k s => addRow_sep l p1 p2 hl hu k s) h
end
def AddI (L : List SP) (rs : List Row) (l : List UInt8) (rs1 : List Row) (ad1 : Option Addr) (m1 cap1 : Nat) (l1 : List UInt8) : Prop :=
  flat rs1 ++ l1 = flat rs ++ l ∧ Full rs1 ∧ m1 ≤ cap1 ∧ (l1.length = m1 ∧ m1 ≤ l.length) ∧ RdS L 1 ad1 m1 (bsl l1)
theorem take_piece {l : List UInt8} {k : Nat} (h : k * 256 < l.length) : l.take ((k + 1) * 256) = l.take (k * 256) ++ (l.drop (k * 256)).take (min 256 (l.length - k * 256)) := by
  rw [show (k + 1) * 256 = k * 256 + 256 by omega, List.take_add]
  congr 1
  rw [List.take_eq_take_iff, List.length_drop]; omega
theorem B_take {l : List UInt8} {k : Nat} : ∀ u ∈ (bsl l).take k, u.oneCell' = true := fun u hu => B_one u (List.mem_of_mem_take hu)
set_option maxHeartbeats 2000000 in
theorem add_ct (L : List SP) (b o : Nat) (rs : List Row) (hg : Good rs) (ad : Option Addr) (m cap : Nat) (l : List UInt8) (hD : RdS L 1 ad m (bsl l)) (hmc : m ≤ cap) (hm : m ≤ 70368744177664) : Ct Tryd.prog 51 #[.pointer (some ⟨b, o, none⟩), .slice ad m cap] (Ch b o rs :: L) (fun rs' : List Row => .int .i64 (mayE (flat rs).length m)) (fun rs' : List Row => pu (Good rs' ∧ flat rs' = if m ≤ 1048576 - (flat rs).length then flat rs ++ l else flat rs) :: Ch b o rs' :: L) := by
  refine Ct.ofM (vs := [.pointer (some ⟨b, o, none⟩), .slice ad m cap]) Tryd.func51 rfl rfl [(0, .pointer (some ⟨b, o, none⟩)), (1, .slice ad m cap)] (by repeat (first | exact trivial | refine ⟨rfl, ?_⟩)) ?_
  intro E
  show Hd E 77 _ _ _ _
  obtain ⟨hfull, hlen⟩ := hg
  have hrl := full_len hfull
  refine Hd.exs pkk ?_
  rintro ⟨ha, hcp⟩
  simp only [List.cons_append, List.nil_append]
  refine Hd.rdsF (RdS.mono hD (Ent.sep enn)) (fun hlm hnil => ?_)
  have hl : l.length = m := by simpa using hlm
  refine Hd.seq (fun K1 hK1 => ?_)
  refine Hd.region ?_
  refine Hd.box rfl rfl (fun b2 => ?_)
  refine Hd.yv (y_assign rfl) ?_
  refine Hd.nil ?_
  refine Hd.slots [(1, _), (2, _)] ⟨rfl, rfl, trivial⟩ ?_
  refine Hd.toK hK1 ?_
  refine Hd.seq (fun K2 hK2 => ?_)
  refine Hd.seq (fun K3 hK3 => ?_)
  refine Hd.region ?_
  first | (refine Hd.yv (y_load1 ag143 rfl (Rd.pt1 pkk (by (first | exact hdr_last hrs | rfl)))) ?_) | (refine Hd.yv (y_load1 ag143 rfl (Rd.seg1 pkk (by (first | exact hdr_last hrs | rfl)))) ?_) | (refine Hd.yv (y_loadR1 ag143 rfl (by (first | exact RdS.own pkk | exact RdS.mono (RdS.head hD (show min m (256 - r0.l.length) ≤ m by omega)) (Ent.sep enn))) (by (first | exact hdr_last hrs | rfl))) ?_)
  refine Hd.yv (y_move rfl) ?_
  refine Hd.yv (y_len Tryd.underlying35 rfl) ?_
  refine Hd.callE rfl fk78 (may_ct _ b o _ (flat rs).length m hlen) (Ent.sep enn) ?_
  intro _
  refine Hd.yv (y_assign rfl) ?_
  refine Hd.nil ?_
  refine Hd.slots [(1, _), (2, _), (5, _)] ⟨rfl, rfl, rfl, trivial⟩ ?_
  refine Hd.toK hK3 ?_
  refine Hd.seq (fun K4 hK4 => ?_)
  refine Hd.region ?_
  refine Hd.yv (y_move rfl) ?_
  refine Hd.yv (y_neq rfl rfl) ?_
  refine Hd.nil ?_
  refine Hd.slots [(1, _), (2, _), (5, _), (15, _)] ⟨rfl, rfl, rfl, rfl, trivial⟩ ?_
  refine Hd.toK hK4 ?_
  refine Hd.cond rfl (fun hc0 => ?_) (fun hc0 => ?_)
  ·
    try simp only [decide_eq_true_eq, decide_eq_false_iff_not, Bool.and_eq_true, Bool.or_eq_true, Bool.and_eq_false_iff, Bool.or_eq_false_iff, Bool.not_eq_true', Bool.not_eq_false', Bool.not_eq_true, Bool.not_eq_false, Int.not_lt, Int.not_le, Decidable.not_not, ne_eq] at hc0
    have hno : ¬ m ≤ 1048576 - (flat rs).length := fun h => hc0 (by simp [mayE, h])
    refine Hd.seq (fun K5 hK5 => ?_)
    refine Hd.region ?_
    refine Hd.yv (y_move rfl) ?_
    refine Hd.yv (y_assign rfl) ?_
    refine Hd.nil ?_
    refine Hd.slots [(4, _)] ⟨rfl, trivial⟩ ?_
    refine Hd.toK hK5 ?_
    refine Hd.ret ?_
    refine Hd.thenRet ?_
    clear hK1 hK2 hK3 hK4 hK5
    exact Hd.retM (fun a fr => Lv.end1 fr rfl rs rfl (Ent.sep (.pure ⟨⟨hfull, hlen⟩, by rw [if_neg hno]⟩ (.ex (ha, hcp) enn))))
  ·
    try simp only [decide_eq_true_eq, decide_eq_false_iff_not, Bool.and_eq_true, Bool.or_eq_true, Bool.and_eq_false_iff, Bool.or_eq_false_iff, Bool.not_eq_true', Bool.not_eq_false', Bool.not_eq_true, Bool.not_eq_false, Int.not_lt, Int.not_le, Decidable.not_not, ne_eq] at hc0
    have hyes : m ≤ 1048576 - (flat rs).length := by
      refine Decidable.byContradiction fun h => ?_
      simp [mayE, h] at hc0
    refine Hd.skip ?_
    refine Hd.toK hK2 ?_
    refine Hd.seq (fun K6 hK6 => ?_)
    refine Hd.region ?_
    first | (refine Hd.yv (y_load1 ag143 rfl (Rd.pt1 pkk (by (first | exact hdr_last hrs | rfl)))) ?_) | (refine Hd.yv (y_load1 ag143 rfl (Rd.seg1 pkk (by (first | exact hdr_last hrs | rfl)))) ?_) | (refine Hd.yv (y_loadR1 ag143 rfl (by (first | exact RdS.own pkk | exact RdS.mono (RdS.head hD (show min m (256 - r0.l.length) ≤ m by omega)) (Ent.sep enn))) (by (first | exact hdr_last hrs | rfl))) ?_)
    refine Hd.yv (y_nilp rfl) ?_
    first | (refine Hd.yv (y_field' (q := 1) (ft := 3) Tryd.underlying99 rfl sz3 rfl rfl) ?_) | (refine Hd.yv (y_fieldR (q := 1) (ft := 3) Tryd.underlying99 rfl sz3 rfl rfl) ?_)
    first | (refine Hd.yv (y_load1 ag3 rfl (Rd.pt1 pkk (by (first | exact hdr_last hrs | rfl)))) ?_) | (refine Hd.yv (y_load1 ag3 rfl (Rd.seg1 pkk (by (first | exact hdr_last hrs | rfl)))) ?_) | (refine Hd.yv (y_loadR1 ag3 rfl (by (first | exact RdS.own pkk | exact RdS.mono (RdS.head hD (show min m (256 - r0.l.length) ≤ m by omega)) (Ent.sep enn))) (by (first | exact hdr_last hrs | rfl))) ?_)
    refine Hd.yv (y_move rfl) ?_
    refine Hd.yv (y_len Tryd.underlying35 rfl) ?_
    first | (refine Hd.yv (y_addn rfl rfl (by simp only [InK]; omega)) ?_) | (refine Hd.yv (y_add rfl rfl) ?_)
    refine Hd.yv (y_nilp rfl) ?_
    first | (refine Hd.yv (y_field' (q := 1) (ft := 3) Tryd.underlying99 rfl sz3 rfl rfl) ?_) | (refine Hd.yv (y_fieldR (q := 1) (ft := 3) Tryd.underlying99 rfl sz3 rfl rfl) ?_)
    first | (refine Hd.store1 sz3 rfl rfl rfl pkk (by first | decide | (simp; done) | (simp; omega)) ?_) | (refine Hd.storeG1 sz3 rfl rfl rfl pkk (by first | decide | (simp; done) | (simp; omega)) ?_) | (refine Hd.storeO1 sz3 rfl rfl rfl pkk (by first | omega | (simp; done) | (simp; omega)) ?_)
    try simp only [List.set_cons_zero, List.set_cons_succ]
    refine Hd.nil ?_
    refine Hd.slots [(1, _), (2, _)] ⟨rfl, rfl, trivial⟩ ?_
    refine Hd.toK hK6 ?_
    refine Hd.cutK (ι := List Row × Option Addr × Nat × Nat × List UInt8) [(2, _)] (fun j => [(1, .slice j.2.1 j.2.2.1 j.2.2.2.1)]) (fun j => pu (AddI L rs l j.1 j.2.1 j.2.2.1 j.2.2.2.1 j.2.2.2.2) :: ChL b o j.1 (((flat rs).length : Int) + (m : Int)) :: pt b2 [.pointer (some ⟨b, o, none⟩)] 143 :: L) ?_ ?_ ⟨rfl, trivial⟩
    ·
      refine Hd.seq (fun K7 hK7 => ?_)
      refine Hd.region ?_
      first | (refine Hd.yv (y_load1 ag143 rfl (Rd.pt1 pkk (by (first | exact hdr_last hrs | rfl)))) ?_) | (refine Hd.yv (y_load1 ag143 rfl (Rd.seg1 pkk (by (first | exact hdr_last hrs | rfl)))) ?_) | (refine Hd.yv (y_loadR1 ag143 rfl (by (first | exact RdS.own pkk | exact RdS.mono (RdS.head hD (show min m (256 - r0.l.length) ≤ m by omega)) (Ent.sep enn))) (by (first | exact hdr_last hrs | rfl))) ?_)
      refine Hd.yv (y_nilp rfl) ?_
      first | (refine Hd.yv (y_field' (q := 0) (ft := 97) Tryd.underlying99 rfl sz97 rfl rfl) ?_) | (refine Hd.yv (y_fieldR (q := 0) (ft := 97) Tryd.underlying99 rfl sz97 rfl rfl) ?_)
      first | (refine Hd.yv (y_load1 ag97 rfl (Rd.pt1 pkk (by (first | exact hdr_last hrs | rfl)))) ?_) | (refine Hd.yv (y_load1 ag97 rfl (Rd.seg1 pkk (by (first | exact hdr_last hrs | rfl)))) ?_) | (refine Hd.yv (y_loadR1 ag97 rfl (by (first | exact RdS.own pkk | exact RdS.mono (RdS.head hD (show min m (256 - r0.l.length) ≤ m by omega)) (Ent.sep enn))) (by (first | exact hdr_last hrs | rfl))) ?_)
      refine Hd.yv (y_len Tryd.underlying97 rfl) ?_
      refine Hd.yv (y_assign rfl) ?_
      refine Hd.nil ?_
      refine Hd.slots [(1, _), (2, _), (6, _)] ⟨rfl, rfl, rfl, trivial⟩ ?_
      refine Hd.toK hK7 ?_
      refine Hd.seq (fun K8 hK8 => ?_)
      refine Hd.region ?_
      refine Hd.yv (y_move rfl) ?_
      refine Hd.yv (y_gtr rfl rfl) ?_
      refine Hd.nil ?_
      refine Hd.slots [(1, _), (2, _), (6, _), (32, _)] ⟨rfl, rfl, rfl, rfl, trivial⟩ ?_
      refine Hd.toK hK8 ?_
      refine Hd.cond rfl (fun hc1 => ?_) (fun hc1 => ?_)
      ·
        try simp only [decide_eq_true_eq, decide_eq_false_iff_not, Bool.and_eq_true, Bool.or_eq_true, Bool.and_eq_false_iff, Bool.or_eq_false_iff, Bool.not_eq_true', Bool.not_eq_false', Bool.not_eq_true, Bool.not_eq_false, Int.not_lt, Int.not_le, Decidable.not_not, ne_eq] at hc1
        obtain ⟨rs0, r0, hrs⟩ := last_of (show 0 < rs.length by omega)
        have hr0 : r0.l.length ≤ 1048576 := Nat.le_trans (mem_le (rs := rs) (by rw [hrs]; simp)) hlen
        refine Hd.seq (fun K9 hK9 => ?_)
        skip
        refine Hd.region ?_
        first | (refine Hd.yv (y_load1 ag143 rfl (Rd.pt1 pkk (by (first | exact hdr_last hrs | rfl)))) ?_) | (refine Hd.yv (y_load1 ag143 rfl (Rd.seg1 pkk (by (first | exact hdr_last hrs | rfl)))) ?_) | (refine Hd.yv (y_loadR1 ag143 rfl (by (first | exact RdS.own pkk | exact RdS.mono (RdS.head hD (show min m (256 - r0.l.length) ≤ m by omega)) (Ent.sep enn))) (by (first | exact hdr_last hrs | rfl))) ?_)
        refine Hd.yv (y_nilp rfl) ?_
        first | (refine Hd.yv (y_field' (q := 0) (ft := 97) Tryd.underlying99 rfl sz97 rfl rfl) ?_) | (refine Hd.yv (y_fieldR (q := 0) (ft := 97) Tryd.underlying99 rfl sz97 rfl rfl) ?_)
        first | (refine Hd.yv (y_load1 ag97 rfl (Rd.pt1 pkk (by (first | exact hdr_last hrs | rfl)))) ?_) | (refine Hd.yv (y_load1 ag97 rfl (Rd.seg1 pkk (by (first | exact hdr_last hrs | rfl)))) ?_) | (refine Hd.yv (y_loadR1 ag97 rfl (by (first | exact RdS.own pkk | exact RdS.mono (RdS.head hD (show min m (256 - r0.l.length) ≤ m by omega)) (Ent.sep enn))) (by (first | exact hdr_last hrs | rfl))) ?_)
        refine Hd.yv (y_move rfl) ?_
        first | (refine Hd.yv (y_subn rfl rfl (by simp only [InK]; omega)) ?_) | (refine Hd.yv (y_sub rfl rfl) ?_)
        refine Hd.name (b := ((rs.length - 1 : Nat) : Int)) 38 rfl (by omega) ?_
        first | (refine Hd.yv (y_idxS Tryd.underlying97 sz35 rfl rfl (by first | omega | decide)) ?_) | (refine Hd.yv (y_idxR Tryd.underlying97 sz35 rfl rfl (by first | omega | decide) (by (first | exact RdS.own pkk | exact RdS.mono (RdS.head hD (show min m (256 - r0.l.length) ≤ m by omega)) (Ent.sep enn)))) ?_)
        first | (refine Hd.yv (y_load1 ag35 rfl (Rd.pt1 pkk (by (first | exact hdr_last hrs | rfl)))) ?_) | (refine Hd.yv (y_load1 ag35 rfl (Rd.seg1 pkk (by (first | exact hdr_last hrs | rfl)))) ?_) | (refine Hd.yv (y_loadR1 ag35 rfl (by (first | exact RdS.own pkk | exact RdS.mono (RdS.head hD (show min m (256 - r0.l.length) ≤ m by omega)) (Ent.sep enn))) (by (first | exact hdr_last hrs | rfl))) ?_)
        refine Hd.yv (y_assign rfl) ?_
        refine Hd.nil ?_
        refine Hd.slots [(1, _), (2, _), (6, _), (7, _)] ⟨rfl, rfl, rfl, rfl, trivial⟩ ?_
        refine Hd.toK hK9 ?_
        refine Hd.seq (fun K10 hK10 => ?_)
        refine Hd.region ?_
        refine Hd.yv (y_move rfl) ?_
        refine Hd.yv (y_len Tryd.underlying35 rfl) ?_
        refine Hd.yv (y_move rfl) ?_
        refine Hd.yv (y_len Tryd.underlying35 rfl) ?_
        first | (refine Hd.yv (y_subn rfl rfl (by simp only [InK]; omega)) ?_) | (refine Hd.yv (y_sub rfl rfl) ?_)
        refine Hd.yv (y_max rfl rfl) ?_
        refine Hd.yv (y_min rfl rfl) ?_
        refine Hd.yv (y_assign rfl) ?_
        refine Hd.nil ?_
        refine Hd.name (b := ((min m (256 - r0.l.length) : Nat) : Int)) 8 rfl (by omega) ?_
        refine Hd.slots [(1, _), (2, _), (6, _), (7, _), (8, _)] ⟨rfl, rfl, rfl, rfl, rfl, trivial⟩ ?_
        refine Hd.toK hK10 ?_
        refine Hd.seq (fun K11 hK11 => ?_)
        refine Hd.splitLast hrs pkk ?_
        refine Hd.drawsH ([pt b2 [.pointer (some ⟨b, o, none⟩)] 143, seg b o [.slice ha rs.length hcp, .int .i64 (((flat rs).length : Int) + (m : Int))], own 35 1 ha rs.length hcp (rs.map hdr)]) (fun j => !([12].contains j)) mixed ?_
        simp only [List.length, Nat.zero_add, Nat.reduceAdd]
        first | (refine Hd.takeH 0 rfl (by kernel_rfl) (by kernel_rfl) (by kernel_rfl) (by kernel_rfl) (y_load1 ag143 rfl (Rd.pt1 pkk (by (first | exact hdr_last hrs | rfl)))) (fun _ _ => rfl) (Ent.sep enn) ?_) | (refine Hd.takeH 0 rfl (by kernel_rfl) (by kernel_rfl) (by kernel_rfl) (by kernel_rfl) (y_load1 ag143 rfl (Rd.seg1 pkk (by (first | exact hdr_last hrs | rfl)))) (fun _ _ => rfl) (Ent.sep enn) ?_) | (refine Hd.takeH 0 rfl (by kernel_rfl) (by kernel_rfl) (by kernel_rfl) (by kernel_rfl) (y_loadR1 ag143 rfl (by (first | exact RdS.own pkk | exact RdS.mono (RdS.head hD (show min m (256 - r0.l.length) ≤ m by omega)) (Ent.sep enn))) (by (first | exact hdr_last hrs | rfl))) (fun _ _ => rfl) (Ent.sep enn) ?_)
        refine Hd.takeH 1 rfl (by kernel_rfl) (by kernel_rfl) (by kernel_rfl) (by kernel_rfl) (y_nilp rfl) (fun _ _ => rfl) (Ent.sep enn) ?_
        first | (refine Hd.takeH 2 rfl (by kernel_rfl) (by kernel_rfl) (by kernel_rfl) (by kernel_rfl) (y_field' (q := 0) (ft := 97) Tryd.underlying99 rfl sz97 rfl rfl) (fun _ _ => rfl) (Ent.sep enn) ?_) | (refine Hd.takeH 2 rfl (by kernel_rfl) (by kernel_rfl) (by kernel_rfl) (by kernel_rfl) (y_fieldR (q := 0) (ft := 97) Tryd.underlying99 rfl sz97 rfl rfl) (fun _ _ => rfl) (Ent.sep enn) ?_)
        first | (refine Hd.takeH 3 rfl (by kernel_rfl) (by kernel_rfl) (by kernel_rfl) (by kernel_rfl) (y_load1 ag97 rfl (Rd.pt1 pkk (by (first | exact hdr_last hrs | rfl)))) (fun _ _ => rfl) (Ent.sep enn) ?_) | (refine Hd.takeH 3 rfl (by kernel_rfl) (by kernel_rfl) (by kernel_rfl) (by kernel_rfl) (y_load1 ag97 rfl (Rd.seg1 pkk (by (first | exact hdr_last hrs | rfl)))) (fun _ _ => rfl) (Ent.sep enn) ?_) | (refine Hd.takeH 3 rfl (by kernel_rfl) (by kernel_rfl) (by kernel_rfl) (by kernel_rfl) (y_loadR1 ag97 rfl (by (first | exact RdS.own pkk | exact RdS.mono (RdS.head hD (show min m (256 - r0.l.length) ≤ m by omega)) (Ent.sep enn))) (by (first | exact hdr_last hrs | rfl))) (fun _ _ => rfl) (Ent.sep enn) ?_)
        refine Hd.takeH 4 rfl (by kernel_rfl) (by kernel_rfl) (by kernel_rfl) (by kernel_rfl) (y_move rfl) (fun _ _ => rfl) (Ent.sep enn) ?_
        first | (refine Hd.takeH 5 rfl (by kernel_rfl) (by kernel_rfl) (by kernel_rfl) (by kernel_rfl) (y_subn rfl rfl (by simp only [InK]; omega)) (fun _ _ => rfl) (Ent.sep enn) ?_) | (refine Hd.takeH 5 rfl (by kernel_rfl) (by kernel_rfl) (by kernel_rfl) (by kernel_rfl) (y_sub rfl rfl) (fun _ _ => rfl) (Ent.sep enn) ?_)
        refine Hd.takeH 6 rfl (by kernel_rfl) (by kernel_rfl) (by kernel_rfl) (by kernel_rfl) (y_move rfl) (fun _ _ => rfl) (Ent.sep enn) ?_
        refine Hd.takeH 7 rfl (by kernel_rfl) (by kernel_rfl) (by kernel_rfl) (by kernel_rfl) (y_move rfl) (fun _ _ => rfl) (Ent.sep enn) ?_
        refine Hd.takeH 8 rfl (by kernel_rfl) (by kernel_rfl) (by kernel_rfl) (by kernel_rfl) (y_move rfl) (fun _ _ => rfl) (Ent.sep enn) ?_
        first | (refine Hd.takeH 9 rfl (by kernel_rfl) (by kernel_rfl) (by kernel_rfl) (by kernel_rfl) (y_slo_xoxN Tryd.underlying35 sz5 rfl rfl (by first | omega | (simp; done) | decide)) (fun _ _ => rfl) (Ent.sep enn) ?_) | (refine Hd.takeH 9 rfl (by kernel_rfl) (by kernel_rfl) (by kernel_rfl) (by kernel_rfl) (y_slo_xox Tryd.underlying35 sz5 rfl rfl (by first | omega | (simp; done) | decide) (by first | omega | (simp; done) | decide)) (fun _ _ => rfl) (Ent.sep enn) ?_)
        refine Hd.onlyH 10 rfl (by kernel_rfl) ?_
        refine Hd.append Tryd.underlying35 ty5 rfl rfl rfl pkk (by first | exact RdS.rd (Rd.pt pkk (fun j v e => by simpa using e)) rfl | (first | exact RdS.own pkk | exact RdS.mono (RdS.head hD (show min m (256 - r0.l.length) ≤ m by omega)) (Ent.sep enn))) (by first | (simp [Value.oneCell']; done) | assumption | exact B_take) (by first | (simp only [maxLen]; omega) | assumption) (by omega) (fun ad58 cap58 => ?_)
        refine Hd.nil ?_
        refine Hd.thenN ?_
        refine Hd.heldK (J := (fun j => !([12].contains j))) (i := 10) (Ent.sep enn) ?_
        refine Hd.name (b := ((rs.length - 1 : Nat) : Int)) 53 rfl (by omega) ?_
        first | (refine Hd.takeH 11 rfl (by kernel_rfl) (by kernel_rfl) (by kernel_rfl) (by kernel_rfl) (y_idxS Tryd.underlying97 sz35 rfl rfl (by first | omega | decide)) (fun _ _ => rfl) (Ent.sep enn) ?_) | (refine Hd.takeH 11 rfl (by kernel_rfl) (by kernel_rfl) (by kernel_rfl) (by kernel_rfl) (y_idxR Tryd.underlying97 sz35 rfl rfl (by first | omega | decide) (by (first | exact RdS.own pkk | exact RdS.mono (RdS.head hD (show min m (256 - r0.l.length) ≤ m by omega)) (Ent.sep enn)))) (fun _ _ => rfl) (Ent.sep enn) ?_)
        refine Hd.onlyH 12 rfl (by kernel_rfl) ?_
        first | (refine Hd.store1 sz35 rfl rfl rfl pkk (by first | decide | (simp; done) | (simp; omega)) ?_) | (refine Hd.storeG1 sz35 rfl rfl rfl pkk (by first | decide | (simp; done) | (simp; omega)) ?_) | (refine Hd.storeO1 sz35 rfl rfl rfl pkk (by first | omega | (simp; done) | (simp; omega)) ?_)
        try simp only [List.set_cons_zero, List.set_cons_succ]
        refine Hd.nil ?_
        refine Hd.thenN ?_
        refine Hd.heldN (J := (fun j => !([12].contains j))) (i := 12) rfl ?_
        refine Hd.endH (by kernel_rfl) ?_
        refine Hd.slots [(1, _), (2, _), (8, _)] ⟨rfl, rfl, rfl, trivial⟩ ?_
        refine Hd.toK hK11 ?_
        refine Hd.region ?_
        refine Hd.yv (y_move rfl) ?_
        refine Hd.yv (y_move rfl) ?_
        first | (refine Hd.yv (y_slo_oxxN Tryd.underlying35 sz5 rfl rfl (by first | omega | (simp; done) | decide)) ?_) | (refine Hd.yv (y_slo_oxx Tryd.underlying35 sz5 rfl rfl (by first | omega | (simp; done) | decide) (by first | omega | (simp; done) | decide)) ?_)
        refine Hd.yv (y_assign rfl) ?_
        refine Hd.nil ?_
        refine Hd.slots [(1, _), (2, _)] ⟨rfl, rfl, trivial⟩ ?_
        clear hK1 hK2 hK3 hK4 hK6 hK7 hK8 hK9 hK10 hK11
        refine Hd.thenN ?_
        refine Hd.addRow (rs := rs0) (r0.l ++ l.take (min m (256 - r0.l.length))) pkk pkk (by simp [hl]) (by simp [List.map_take]) ?_
        have hk1 : min m (256 - r0.l.length) ≤ m := by omega
        refine Hd.meet (rs0 ++ [⟨ad58, cap58, r0.l ++ l.take (min m (256 - r0.l.length))⟩], cutA ad 1 (min m (256 - r0.l.length)) cap, m - min m (256 - r0.l.length), cap - min m (256 - r0.l.length), l.drop (min m (256 - r0.l.length))) (by repeat (first | exact trivial | refine ⟨rfl, ?_⟩)) (Ent.sep (.pure ⟨?_, ?_, ?_, ?_, ?_⟩ (.ex (ha, hcp) (.eq pkk (seg_eq ?_) (.eq pkk (own_eq ?_ ?_) (.pick pkk enn))))))
        · rw [hrs, flat_app, flat_app, flat_one, flat_one]; simp
        · subst hrs
          exact full_app (fun x hx => hfull x (List.mem_append_left _ hx)) (full_one (by have := hfull r0 (by simp); simp; omega))
        · exact Nat.sub_le_sub_right hmc _
        · simp [hl]
        · have := RdS.tail (mx := cap) hD hk1 hmc
          rw [Nat.mul_one, ← List.map_drop] at this
          exact this
        · subst hrs; simp
        · subst hrs; simp
        · have := hdr_set (r1 := ⟨ad58, cap58, r0.l ++ l.take (min m (256 - r0.l.length))⟩) hrs
          have e : hdr ⟨ad58, cap58, r0.l ++ l.take (min m (256 - r0.l.length))⟩ = .slice ad58 (r0.l.length + min m (256 - r0.l.length)) cap58 := by
            simp [hdr, hl]
          rw [← this, e]
      ·
        try simp only [decide_eq_true_eq, decide_eq_false_iff_not, Bool.and_eq_true, Bool.or_eq_true, Bool.and_eq_false_iff, Bool.or_eq_false_iff, Bool.not_eq_true', Bool.not_eq_false', Bool.not_eq_true, Bool.not_eq_false, Int.not_lt, Int.not_le, Decidable.not_not, ne_eq] at hc1
        refine Hd.skip ?_
        clear hK1 hK2 hK3 hK4 hK6 hK7 hK8
        refine Hd.thenN ?_
        have hrs0 : rs = [] := List.eq_nil_of_length_eq_zero (by omega)
        subst hrs0
        refine Hd.meet ([], ad, m, cap, l) (by repeat (first | exact trivial | refine ⟨rfl, ?_⟩)) (Ent.sep (.pure ⟨rfl, hfull, hmc, ⟨hl, by rw [hl]; exact Nat.le_refl _⟩, hD⟩ (.ex (ha, hcp) enn)))
    ·
      rintro ⟨rs1, ad1, m1, cap1, l1⟩
      dsimp only
      refine Hd.pure (fun hI => ?_)
      obtain ⟨hfl, hfull1, hmc1, ⟨hl1, hmm⟩, hR1⟩ := hI
      refine Hd.seq (fun K12 hK12 => ?_)
      refine Hd.seq (fun K13 hK13 => ?_)
      refine Hd.region ?_
      refine Hd.yv (y_move rfl) ?_
      refine Hd.callE rfl fk79 (chunk_ct _ (.slice ad1 m1 cap1) rfl) (Ent.sep enn) ?_
      rintro ⟨c2, c3⟩
      dsimp only
      refine Hd.nil ?_
      refine Hd.slots [(2, _), (64, _)] ⟨rfl, rfl, trivial⟩ ?_
      refine Hd.toK hK13 ?_
      refine Hd.block ?_
      refine Hd.rangeF (enc := encP ad1) (S := fun xs => xs = pcs m1 (npc m1)) (Sp := SpP m1)
        (fun pre => (RX.ex fun rs2 : List Row => [pu (flat rs2 = flat rs1 ++ l1.take (pre.length * 256) ∧ Full rs2), ChL b o rs2 (((flat rs).length : Int) + (m : Int)), pt b2 [.pointer (some ⟨b, o, none⟩)] 143]) :: L) (fun _ _ => [pu False])
        rfl (by kernel_rfl) (fun _ => rfl) rfl (chunk_it [] c2 c3 ad1 m1 cap1 hmc1 (by omega)) (Ent.sep (.ex rs1 (.pure ⟨by simp, hfull1⟩ (.pick pkk (.pick pkk .two))))) ?_ ?_ ?_
      ·
        intro E l' R pre c N hR hG
        obtain ⟨q, rfl, rfl, hq⟩ := spP_last hG
        unfold Rnd
        simp only [List.cons_append, List.nil_append, pz, encP]
        refine Hd.region ?_
        refine Hd.yv (y_assign rfl) ?_
        refine Hd.nil ?_
        refine Hd.slots [(2, _), (9, _)] ⟨rfl, rfl, trivial⟩ ?_
        refine Hd.thenN ?_
        refine Hd.begin hR pkk ?_
        refine Hd.block ?_
        refine Hd.exs pkk ?_
        rintro rs2
        simp only [List.cons_append, List.nil_append]
        refine Hd.pure (fun hrs2 => ?_)
        obtain ⟨hf2, hfull2⟩ := hrs2
        rw [pcs_len] at hf2
        have hrl2 := full_len hfull2
        have hbig : (flat rs2).length ≤ 1048576 := by
          have h1 := congrArg List.length hfl
          rw [hf2]
          simp only [List.length_append, List.length_take] at h1 ⊢
          omega
        refine Hd.exs pkk ?_
        rintro ⟨ha2, hc2⟩
        simp only [List.cons_append, List.nil_append]
        have hR2 : RdS (L ++ N) 1 (cutA ad1 1 (q * 256) (q * 256 + min 256 (m1 - q * 256))) (q * 256 + min 256 (m1 - q * 256) - q * 256) (bsl ((l1.drop (q * 256)).take (min 256 (m1 - q * 256)))) := by
          have := RdS.part (mx := q * 256 + min 256 (m1 - q * 256)) hR1 (show q * 256 ≤ q * 256 + min 256 (m1 - q * 256) by omega) (by omega) (Nat.le_refl _)
          rw [Nat.mul_one, Nat.mul_one, ← List.map_drop, ← List.map_take] at this
          rw [show q * 256 + min 256 (m1 - q * 256) - q * 256 = min 256 (m1 - q * 256) by omega] at this ⊢
          exact RdS.mono this (Ent.sep .left)
        refine Hd.drawsH ([pt b2 [.pointer (some ⟨b, o, none⟩)] 143, seg b o [.slice ha2 rs2.length hc2, .int .i64 (((flat rs).length : Int) + (m : Int))]]) (fun j => !([11].contains j)) mixed ?_
        simp only [List.length, Nat.zero_add, Nat.reduceAdd]
        first | (refine Hd.takeH 0 rfl (by kernel_rfl) (by kernel_rfl) (by kernel_rfl) (by kernel_rfl) (y_load1 ag143 rfl (Rd.pt1 pkk (by (first | exact hdr_last hrs | rfl)))) (fun _ _ => rfl) (Ent.sep enn) ?_) | (refine Hd.takeH 0 rfl (by kernel_rfl) (by kernel_rfl) (by kernel_rfl) (by kernel_rfl) (y_load1 ag143 rfl (Rd.seg1 pkk (by (first | exact hdr_last hrs | rfl)))) (fun _ _ => rfl) (Ent.sep enn) ?_) | (refine Hd.takeH 0 rfl (by kernel_rfl) (by kernel_rfl) (by kernel_rfl) (by kernel_rfl) (y_loadR1 ag143 rfl (by (first | exact RdS.own pkk | exact RdS.mono (RdS.head hD (show min m (256 - r0.l.length) ≤ m by omega)) (Ent.sep enn))) (by (first | exact hdr_last hrs | rfl))) (fun _ _ => rfl) (Ent.sep enn) ?_)
        first | (refine Hd.takeH 1 rfl (by kernel_rfl) (by kernel_rfl) (by kernel_rfl) (by kernel_rfl) (y_load1 ag143 rfl (Rd.pt1 pkk (by (first | exact hdr_last hrs | rfl)))) (fun _ _ => rfl) (Ent.sep enn) ?_) | (refine Hd.takeH 1 rfl (by kernel_rfl) (by kernel_rfl) (by kernel_rfl) (by kernel_rfl) (y_load1 ag143 rfl (Rd.seg1 pkk (by (first | exact hdr_last hrs | rfl)))) (fun _ _ => rfl) (Ent.sep enn) ?_) | (refine Hd.takeH 1 rfl (by kernel_rfl) (by kernel_rfl) (by kernel_rfl) (by kernel_rfl) (y_loadR1 ag143 rfl (by (first | exact RdS.own pkk | exact RdS.mono (RdS.head hD (show min m (256 - r0.l.length) ≤ m by omega)) (Ent.sep enn))) (by (first | exact hdr_last hrs | rfl))) (fun _ _ => rfl) (Ent.sep enn) ?_)
        refine Hd.takeH 2 rfl (by kernel_rfl) (by kernel_rfl) (by kernel_rfl) (by kernel_rfl) (y_nilp rfl) (fun _ _ => rfl) (Ent.sep enn) ?_
        first | (refine Hd.takeH 3 rfl (by kernel_rfl) (by kernel_rfl) (by kernel_rfl) (by kernel_rfl) (y_field' (q := 0) (ft := 97) Tryd.underlying99 rfl sz97 rfl rfl) (fun _ _ => rfl) (Ent.sep enn) ?_) | (refine Hd.takeH 3 rfl (by kernel_rfl) (by kernel_rfl) (by kernel_rfl) (by kernel_rfl) (y_fieldR (q := 0) (ft := 97) Tryd.underlying99 rfl sz97 rfl rfl) (fun _ _ => rfl) (Ent.sep enn) ?_)
        first | (refine Hd.takeH 4 rfl (by kernel_rfl) (by kernel_rfl) (by kernel_rfl) (by kernel_rfl) (y_load1 ag97 rfl (Rd.pt1 pkk (by (first | exact hdr_last hrs | rfl)))) (fun _ _ => rfl) (Ent.sep enn) ?_) | (refine Hd.takeH 4 rfl (by kernel_rfl) (by kernel_rfl) (by kernel_rfl) (by kernel_rfl) (y_load1 ag97 rfl (Rd.seg1 pkk (by (first | exact hdr_last hrs | rfl)))) (fun _ _ => rfl) (Ent.sep enn) ?_) | (refine Hd.takeH 4 rfl (by kernel_rfl) (by kernel_rfl) (by kernel_rfl) (by kernel_rfl) (y_loadR1 ag97 rfl (by (first | exact RdS.own pkk | exact RdS.mono (RdS.head hD (show min m (256 - r0.l.length) ≤ m by omega)) (Ent.sep enn))) (by (first | exact hdr_last hrs | rfl))) (fun _ _ => rfl) (Ent.sep enn) ?_)
        refine Hd.takeH 5 rfl (by kernel_rfl) (by kernel_rfl) (by kernel_rfl) (by kernel_rfl) (y_move rfl) (fun _ _ => rfl) (Ent.sep enn) ?_
        refine Hd.onlyH 6 rfl (by kernel_rfl) ?_
        refine Hd.call rfl fk80 (clone_ct _ _ _ _ _ (RdS.mono hR2 (Ent.sep enn)) (by omega)) ?_
        rintro ⟨ad72, cap72⟩
        dsimp only
        refine Hd.nil ?_
        refine Hd.thenN ?_
        refine Hd.heldK (J := (fun j => !([11].contains j))) (i := 6) (Ent.sep enn) ?_
        refine Hd.onlyH 7 rfl (by kernel_rfl) ?_
        refine Hd.bslice (vs := [(0, _)]) rfl (by first | exact bs51_73 .. | kernel_rfl) (fun b73 => ?_)
        refine Hd.nil ?_
        refine Hd.thenN ?_
        refine Hd.heldK (J := (fun j => !([11].contains j))) (i := 7) (Ent.sep enn) ?_
        refine Hd.onlyH 8 rfl (by kernel_rfl) ?_
        refine Hd.append Tryd.underlying97 ty35 rfl rfl rfl pkk (by first | exact RdS.rd (Rd.pt pkk (fun j v e => by simpa using e)) rfl | (first | exact RdS.own pkk | exact RdS.mono (RdS.head hD (show min m (256 - r0.l.length) ≤ m by omega)) (Ent.sep enn))) (by first | (simp [Value.oneCell']; done) | assumption | exact B_take) (by first | (simp only [maxLen]; omega) | assumption) (by omega) (fun ad74 cap74 => ?_)
        refine Hd.nil ?_
        refine Hd.thenN ?_
        refine Hd.heldK (J := (fun j => !([11].contains j))) (i := 8) (Ent.sep enn) ?_
        refine Hd.onlyH 9 rfl (by kernel_rfl) ?_
        refine Hd.yv (y_nilp rfl) ?_
        refine Hd.nil ?_
        refine Hd.thenN ?_
        refine Hd.heldK (J := (fun j => !([11].contains j))) (i := 9) (Ent.sep enn) ?_
        first | (refine Hd.takeH 10 rfl (by kernel_rfl) (by kernel_rfl) (by kernel_rfl) (by kernel_rfl) (y_field' (q := 0) (ft := 97) Tryd.underlying99 rfl sz97 rfl rfl) (fun _ _ => rfl) (Ent.sep enn) ?_) | (refine Hd.takeH 10 rfl (by kernel_rfl) (by kernel_rfl) (by kernel_rfl) (by kernel_rfl) (y_fieldR (q := 0) (ft := 97) Tryd.underlying99 rfl sz97 rfl rfl) (fun _ _ => rfl) (Ent.sep enn) ?_)
        refine Hd.onlyH 11 rfl (by kernel_rfl) ?_
        first | (refine Hd.store1 sz97 rfl rfl rfl pkk (by first | decide | (simp; done) | (simp; omega)) ?_) | (refine Hd.storeG1 sz97 rfl rfl rfl pkk (by first | decide | (simp; done) | (simp; omega)) ?_) | (refine Hd.storeO1 sz97 rfl rfl rfl pkk (by first | omega | (simp; done) | (simp; omega)) ?_)
        try simp only [List.set_cons_zero, List.set_cons_succ]
        refine Hd.nil ?_
        refine Hd.thenN ?_
        refine Hd.heldN (J := (fun j => !([11].contains j))) (i := 11) rfl ?_
        refine Hd.endH (by kernel_rfl) ?_
        refine Hd.slots [] trivial ?_
        refine Hd.inB ?_
        clear hK1 hK2 hK3 hK4 hK6 hK12 hK13
        refine Hd.reN ?_
        simp only [List.cons_append, List.nil_append]
        have hpl : ((l1.drop (q * 256)).take (min 256 (m1 - q * 256))).length = q * 256 + min 256 (m1 - q * 256) - q * 256 := by simp [hl1]
        intro k s
        have s2 := addRow_sep (rs := rs2) ((l1.drop (q * 256)).take (min 256 (m1 - q * 256))) pkk pkk hpl rfl k s
        refine Ent.sep (.pick pkk (.ex (rs2 ++ [⟨ad72, cap72, (l1.drop (q * 256)).take (min 256 (m1 - q * 256))⟩]) (.pure ⟨?_, ?_⟩ (.ex (ad74, cap74) (.eq pkk (seg_eq ?_) (.eq pkk (own_eq ?_ ?_) (.pick pkk enn))))))) k s2
        · simp
        · simp
        · simp [hl1]
        · rw [flat_app, flat_one, hf2, List.length_append, pcs_len, List.append_assoc]
          have := take_piece (l := l1) (k := q) (by omega)
          rw [hl1] at this
          rw [← this]; rfl
        · exact full_app hfull2 (full_one (by rw [hpl]; omega))
      ·
        intro r0 xs hxs
        have hxs' : xs = pcs m1 (npc m1) := hxs
        try simp only [List.cons_append, List.nil_append]
        refine Hd.inB ?_
        refine Hd.toK hK12 ?_
        refine Hd.seq (fun K14 hK14 => ?_)
        refine Hd.region ?_
        refine Hd.yv (y_assign rfl) ?_
        refine Hd.nil ?_
        refine Hd.slots [(4, _)] ⟨rfl, trivial⟩ ?_
        refine Hd.toK hK14 ?_
        refine Hd.ret ?_
        clear hK1 hK2 hK3 hK4 hK6 hK12 hK13 hK14
        refine Hd.exs pkk ?_
        rintro rs2
        simp only [List.cons_append, List.nil_append]
        refine Hd.pure (fun hrs2 => ?_)
        obtain ⟨hf2, hfull2⟩ := hrs2
        have e2 : flat rs2 = flat rs ++ l := by
          rw [hf2, hxs', pcs_len, List.take_of_length_le (by simp only [npc]; omega), hfl]
        have e3 : ((flat rs2).length : Int) = ((flat rs).length : Int) + (m : Int) := by rw [e2, List.length_append, hl]; simp
        refine Hd.exs pkk ?_
        rintro ⟨ha2, hc2⟩
        simp only [List.cons_append, List.nil_append]
        exact Hd.retM (fun a fr => Lv.mark pkk (Lv.end1 fr rfl rs2 (by simp [mayE, hyes]; rfl) (Ent.sep (.pure ⟨⟨hfull2, by rw [e2, List.length_append]; omega⟩, by rw [if_pos hyes, e2]⟩ (.ex (ha2, hc2) (.eq pkk (seg_eq (by rw [e3])) (.pick pkk (.pick pkk enn))))))))
      ·
        rintro r0_0 (_ | id0) pre0 hG0
        ·
          exact Hd.absurd (by first | exact id | simp)
        ·
          exact Hd.absurd (by first | exact id | simp)
end Bc
end Go.Proofs.YtmpemhbfgbochaaDoor
