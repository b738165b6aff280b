/-
  Worlds: numbers, open, make. Worlds: open, make, Pair. Worlds: open, make, Pair: the calls. Worlds: Pair, Close. Worlds: Close (of a wire at which none waits). Worlds: the wire of a descriptor. Kqueue: how it lies in memory; find. Lists in an order: Shuffle over integers, reports of epoll, notes. Kqueue: New, none, rises, may.
-/
import Derived.Test.YtbfddabjbkohdaaZKquNamesE
namespace Go.Proofs.Ytbfddabjbkohdaa
set_option linter.unusedSimpArgs false
set_option linter.unusedVariables false
set_option linter.unnecessarySimpa false
open Go.RX Fx
namespace Wo
set_option maxRecDepth 8000
theorem woT_at {t : Int → Option (Nat × Nat)} {w : WA} {n j o : Nat} {i : WoI} {v : Value} (ho : o = 288 + j) (hv : (woT w n i)[j]? = some v) : (fdC t ++ woT w n i)[o]? = some v := by
  subst ho
  rw [List.getElem?_append_right (by rw [fdC_len]; omega), fdC_len, Nat.add_sub_cancel_left]; exact hv
abbrev OutN (b n : Nat) (l : List Nat) : SP := RX.ex fun i : Option Addr × Nat => [pu (l.length ≤ n), pt b [.slice i.1 l.length i.2] 22, own 3 1 i.1 l.length i.2 (nats l)]
theorem frees_len (t : Int → Option (Nat × Nat)) : (frees t).length ≤ 96 := by
  have := List.length_filter_le (fun fd : Nat => (t (fd : Int)).isNone) (List.range 96)
  rwa [List.length_range] at this
set_option maxHeartbeats 2000000 in
theorem numbers_ct (L : List SP) (wb m : Nat) (t : Int → Option (Nat × Nat)) (w : WA) (i : WoI) (n : Nat) : Ct Try.prog 66 #[.pointer (some ⟨wb, 0, none⟩), .int .i64 (n : Int)] (WoH wb t w m i :: L) (fun q_ : Option Addr × Nat => .tuple #[.slice q_.1 ((frees t).take n).length q_.2, .bool (decide ((((frees t).take n).length : Int) = (n : Int)) && decide ((m : Int) < 1000))]) (fun q_ : Option Addr × Nat => own 3 1 q_.1 ((frees t).take n).length q_.2 (nats ((frees t).take n)) :: WoH wb t w m i :: L) := by
  refine Ct.ofM (vs := [.pointer (some ⟨wb, 0, none⟩), .int .i64 (n : Int)]) Try.func66 rfl rfl [(0, .pointer (some ⟨wb, 0, none⟩)), (1, .int .i64 (n : Int))] (by repeat (first | exact trivial | refine ⟨rfl, ?_⟩)) ?_
  intro E
  show Hd E 32 _ _ _ _
  refine Hd.seq (fun K1 hK1 => ?_)
  refine Hd.region ?_
  refine Hd.box rfl rfl (fun b3 => ?_)
  refine Hd.yv (y_assign rfl) ?_
  refine Hd.yv (y_assign rfl) ?_
  refine Hd.nil ?_
  refine Hd.slots [(0, _), (3, _)] ⟨rfl, rfl, trivial⟩ ?_
  refine Hd.toK hK1 ?_
  refine Hd.scope ?_
  refine Hd.seq (fun K2 hK2 => ?_)
  refine Hd.region ?_
  refine Hd.alloc zr22 (fun b6 => ?_)
  refine Hd.nil ?_
  refine Hd.slots [(0, _), (3, _), (6, _)] ⟨rfl, rfl, rfl, trivial⟩ ?_
  refine Hd.toK hK2 ?_
  refine Hd.seq (fun K3 hK3 => ?_)
  refine Hd.label ?_
  refine Hd.toK hK3 ?_
  refine Hd.seq (fun K4 hK4 => ?_)
  refine Hd.seq (fun K5 hK5 => ?_)
  refine Hd.region ?_
  refine Hd.yv (y_move rfl) ?_
  refine Hd.callE rfl fk95 (free_ct _ wb) (Ent.sep enn) ?_
  intro bx
  refine Hd.nil ?_
  refine Hd.slots [(0, _), (3, _), (6, _), (9, _)] ⟨rfl, rfl, rfl, rfl, trivial⟩ ?_
  refine Hd.toK hK5 ?_
  refine Hd.block ?_
  refine Hd.rangeF (enc := encF) (S := fun ys => ys = frees t) (Sp := fun ys => ys <+: frees t)
    (fun pre => OutN b6 n pre :: pt b3 [.int .i64 (n : Int)] 3 :: L) (fun j _ => [pu (j = some 0), OutN b6 n ((frees t).take n), pt b3 [.int .i64 (n : Int)] 3] ++ L)
    rfl (by kernel_rfl) (fun _ => rfl) rfl (free_it wb bx m t w i) (by refine Ent.sep ?_; refine Ent.ex (none, 0) ?_; refine Ent.pure (Nat.zero_le _) ?_; refine Ent.eq pkk (pt_eq (by rfl)) ?_; refine Ent.ownNil ?_; refine Ent.pick pkk ?_; exact Ent.swap (L := [_, _])) ?_ ?_ ?_
  ·
    intro E l' R pre p N hR hG
    have hfl := frees_len t
    have hpl := hG.length_le
    rw [List.length_append] at hpl
    have htk : pre.length = n → (frees t).take n = pre := fun e => by
      obtain ⟨r, hr⟩ := hG
      rw [← hr, ← e, List.append_assoc, List.take_left]
    unfold Rnd
    simp only [List.cons_append, List.nil_append, pz, encF]
    refine Hd.region ?_
    refine Hd.yv (y_assign rfl) ?_
    refine Hd.nil ?_
    refine Hd.slots [(0, _), (3, _), (6, _), (7, _)] ⟨rfl, rfl, rfl, rfl, trivial⟩ ?_
    refine Hd.thenN ?_
    refine Hd.begin hR pkk ?_
    refine Hd.block ?_
    refine Hd.seq (fun K6 hK6 => ?_)
    refine Hd.seq (fun K7 hK7 => ?_)
    refine Hd.exs pkk ?_
    rintro ⟨a3, c3⟩
    simp only [List.cons_append, List.nil_append]
    refine Hd.pure (fun hpn => ?_)
    refine Hd.region ?_
    first | (refine Hd.yv (y_load1 ag22 rfl (Rd.pt1 pkk (by (first | exact woT_at (j := 0) (by omega) rfl | rfl)))) ?_) | (refine Hd.yv (y_load1 ag22 rfl (Rd.seg1 pkk (by (first | exact woT_at (j := 0) (by omega) rfl | rfl)))) ?_) | (refine Hd.yv (y_loadR1 ag22 rfl (by (first | exact RdS.own pkk | exact RdS.own pkk)) (by (first | exact woT_at (j := 0) (by omega) rfl | rfl))) ?_)
    refine Hd.yv (y_len Try.underlying22 rfl) ?_
    first | (refine Hd.yv (y_load1 ag3 rfl (Rd.pt1 pkk (by (first | exact woT_at (j := 0) (by omega) rfl | rfl)))) ?_) | (refine Hd.yv (y_load1 ag3 rfl (Rd.seg1 pkk (by (first | exact woT_at (j := 0) (by omega) rfl | rfl)))) ?_) | (refine Hd.yv (y_loadR1 ag3 rfl (by (first | exact RdS.own pkk | exact RdS.own pkk)) (by (first | exact woT_at (j := 0) (by omega) rfl | rfl))) ?_)
    first | (refine Hd.yv (y_eqlT rfl rfl) ?_) | (refine Hd.yv (y_eql rfl rfl) ?_)
    refine Hd.nil ?_
    refine Hd.slots [(0, _), (3, _), (6, _), (7, _), (14, _)] ⟨rfl, rfl, rfl, rfl, rfl, trivial⟩ ?_
    refine Hd.toK hK7 ?_
    refine Hd.cond rfl (fun hc0 => ?_) (fun hc0 => ?_)
    ·
      try simp only [decide_eq_true_eq, decide_eq_false_iff_not, Bool.and_eq_true, Bool.or_eq_true, Bool.and_eq_false_iff, Bool.or_eq_false_iff, Bool.not_eq_true', Bool.not_eq_false', Bool.not_eq_true, Bool.not_eq_false, Int.not_lt, Int.not_le, Decidable.not_not, ne_eq] at hc0
      refine Hd.exit ?_
      refine Hd.thenExit ?_
      refine Hd.inBexit' rfl ?_
      clear hK1 hK2 hK3 hK4 hK5 hK6 hK7
      refine Hd.reX ?_
      simp only [List.cons_append, List.nil_append]
      have hc0' : pre.length = n := by omega
      rw [htk hc0']
      exact Ent.sep (.pick pkk (.pure (by first | trivial | rfl) (.ex (a3, c3) (.pure (by omega) enn))))
    ·
      try simp only [decide_eq_true_eq, decide_eq_false_iff_not, Bool.and_eq_true, Bool.or_eq_true, Bool.and_eq_false_iff, Bool.or_eq_false_iff, Bool.not_eq_true', Bool.not_eq_false', Bool.not_eq_true, Bool.not_eq_false, Int.not_lt, Int.not_le, Decidable.not_not, ne_eq] at hc0
      refine Hd.skip ?_
      refine Hd.toK hK6 ?_
      refine Hd.region ?_
      first | (refine Hd.yv (y_load1 ag22 rfl (Rd.pt1 pkk (by (first | exact woT_at (j := 0) (by omega) rfl | rfl)))) ?_) | (refine Hd.yv (y_load1 ag22 rfl (Rd.seg1 pkk (by (first | exact woT_at (j := 0) (by omega) rfl | rfl)))) ?_) | (refine Hd.yv (y_loadR1 ag22 rfl (by (first | exact RdS.own pkk | exact RdS.own pkk)) (by (first | exact woT_at (j := 0) (by omega) rfl | rfl))) ?_)
      refine Hd.yv (y_move rfl) ?_
      refine Hd.bslice (vs := [(0, _)]) rfl (by first | exact bs66_17 .. | kernel_rfl) (fun b17 => ?_)
      refine Hd.append Try.underlying22 ty3 rfl rfl rfl pkk (by first | exact RdS.rd (Rd.pt pkk (fun j v e => by simpa using e)) rfl | (first | exact RdS.own pkk | exact RdS.own pkk)) (by first | (simp [Value.oneCell']; done) | assumption) (by first | (simp only [maxLen]; omega) | assumption) (by omega) (fun ad18 cap18 => ?_)
      first | (refine Hd.store1 sz22 rfl rfl rfl pkk (by first | decide | (simp; done) | (simp; omega)) ?_) | (refine Hd.storeG1 sz22 rfl rfl rfl pkk (by first | decide | (simp; done) | (simp; omega)) ?_) | (refine Hd.storeO1 sz22 rfl rfl rfl pkk (by first | omega | (simp; done) | (simp; omega)) ?_)
      try simp only [List.set_cons_zero, List.set_cons_succ]
      refine Hd.nil ?_
      refine Hd.slots [(0, _), (3, _), (6, _)] ⟨rfl, rfl, rfl, trivial⟩ ?_
      refine Hd.inB ?_
      clear hK1 hK2 hK3 hK4 hK5 hK6 hK7
      refine Hd.reN ?_
      simp only [List.cons_append, List.nil_append]
      exact Ent.sep (.pick pkk (.ex (ad18, cap18) (.pure (by rw [List.length_append]; show pre.length + 1 ≤ n; omega) (.eq pkk (pt_eq (by simp)) (.eq pkk (own_eq (by simp) (by simp [nats])) enn)))))
  ·
    intro r0 ys hys
    obtain rfl : ys = frees t := hys
    simp only [List.cons_append, List.nil_append]
    refine Hd.exs pkk ?_
    rintro ⟨a3, c3⟩
    simp only [List.cons_append, List.nil_append]
    refine Hd.pure (fun hfn => ?_)
    have htk : (frees t).take n = frees t := List.take_of_length_le hfn
    try simp only [List.cons_append, List.nil_append]
    refine Hd.inB ?_
    refine Hd.toK hK4 ?_
    refine Hd.seq (fun K8 hK8 => ?_)
    refine Hd.quiet mixed (by kernel_rfl) ?_
    first | (refine Hq.yv (y_load1 ag22 rfl (Rd.pt1 pkk (by (first | exact woT_at (j := 0) (by omega) rfl | rfl)))) ?_) | (refine Hq.yv (y_load1 ag22 rfl (Rd.seg1 pkk (by (first | exact woT_at (j := 0) (by omega) rfl | rfl)))) ?_) | (refine Hq.yv (y_loadR1 ag22 rfl (by (first | exact RdS.own pkk | exact RdS.own pkk)) (by (first | exact woT_at (j := 0) (by omega) rfl | rfl))) ?_)
    first | (refine Hq.yv (y_load1 ag22 rfl (Rd.pt1 pkk (by (first | exact woT_at (j := 0) (by omega) rfl | rfl)))) ?_) | (refine Hq.yv (y_load1 ag22 rfl (Rd.seg1 pkk (by (first | exact woT_at (j := 0) (by omega) rfl | rfl)))) ?_) | (refine Hq.yv (y_loadR1 ag22 rfl (by (first | exact RdS.own pkk | exact RdS.own pkk)) (by (first | exact woT_at (j := 0) (by omega) rfl | rfl))) ?_)
    refine Hq.yv (y_len Try.underlying22 rfl) ?_
    first | (refine Hq.yv (y_load1 ag3 rfl (Rd.pt1 pkk (by (first | exact woT_at (j := 0) (by omega) rfl | rfl)))) ?_) | (refine Hq.yv (y_load1 ag3 rfl (Rd.seg1 pkk (by (first | exact woT_at (j := 0) (by omega) rfl | rfl)))) ?_) | (refine Hq.yv (y_loadR1 ag3 rfl (by (first | exact RdS.own pkk | exact RdS.own pkk)) (by (first | exact woT_at (j := 0) (by omega) rfl | rfl))) ?_)
    first | (refine Hq.yv (y_eqlT rfl rfl) ?_) | (refine Hq.yv (y_eql rfl rfl) ?_)
    refine Hq.yv (y_move rfl) ?_
    apply Hq.andg 7 24 31 [(19, _)] rfl ⟨rfl, trivial⟩
    · intro hg6_24
      try simp only [decide_eq_true_eq, decide_eq_false_iff_not, Bool.and_eq_true, Bool.or_eq_true, Bool.and_eq_false_iff, Bool.or_eq_false_iff, Bool.not_eq_true', Bool.not_eq_false', Bool.not_eq_true, Bool.not_eq_false, Int.not_lt, Int.not_le, Decidable.not_not, ne_eq] at hg6_24
      simp only [List.take]
      refine Hq.yg rfl rfl (y_move rfl) ?_
      refine Hq.yg rfl rfl (y_nilp rfl) ?_
      first | (refine Hq.yg rfl rfl (y_field' (q := 288) (ft := 77) Try.underlying80 rfl sz77 rfl rfl) ?_) | (refine Hq.yg rfl rfl (y_fieldR (q := 288) (ft := 77) Try.underlying80 rfl sz77 rfl rfl) ?_)
      first | (refine Hq.yg rfl rfl (y_load1 ag77 rfl (Rd.pt1 pkk (by (first | exact woT_at (j := 0) (by omega) rfl | rfl)))) ?_) | (refine Hq.yg rfl rfl (y_load1 ag77 rfl (Rd.seg1 pkk (by (first | exact woT_at (j := 0) (by omega) rfl | rfl)))) ?_) | (refine Hq.yg rfl rfl (y_loadR1 ag77 rfl (by (first | exact RdS.own pkk | exact RdS.own pkk)) (by (first | exact woT_at (j := 0) (by omega) rfl | rfl))) ?_)
      refine Hq.yg rfl rfl (y_len Try.underlying77 rfl) ?_
      refine Hq.yg rfl rfl (y_lss rfl rfl) ?_
      first | (refine Hq.yv (y_pickT rfl rfl) ?_) | (refine Hq.yv (y_pickF rfl rfl) ?_) | (refine Hq.yv (y_pickb rfl rfl rfl) ?_) | (refine Hq.yv (y_pick rfl rfl rfl) ?_)
      exact Hq.mend (by repeat (first | exact trivial | refine ⟨rfl, ?_⟩))
    · intro hg6_24
      try simp only [decide_eq_true_eq, decide_eq_false_iff_not, Bool.and_eq_true, Bool.or_eq_true, Bool.and_eq_false_iff, Bool.or_eq_false_iff, Bool.not_eq_true', Bool.not_eq_false', Bool.not_eq_true, Bool.not_eq_false, Int.not_lt, Int.not_le, Decidable.not_not, ne_eq] at hg6_24
      simp only [List.take]
      refine Hq.ng rfl rfl rfl ?_
      refine Hq.ng rfl rfl rfl ?_
      refine Hq.ng rfl rfl rfl ?_
      refine Hq.ng rfl rfl rfl ?_
      refine Hq.ng rfl rfl rfl ?_
      refine Hq.ng rfl rfl rfl ?_
      first | (refine Hq.yv (y_pickT rfl rfl) ?_) | (refine Hq.yv (y_pickF rfl rfl) ?_) | (refine Hq.yv (y_pickb rfl rfl rfl) ?_) | (refine Hq.yv (y_pick rfl rfl rfl) ?_)
      exact Hq.mend (by repeat (first | exact trivial | refine ⟨rfl, ?_⟩))
    simp only [List.drop]
    refine Hq.yv (y_assign rfl) ?_
    refine Hq.yv (y_assign rfl) ?_
    refine Hq.nil ?_
    refine Hd.slots [(4, _), (5, _)] ⟨rfl, rfl, trivial⟩ ?_
    refine Hd.toK hK8 ?_
    refine Hd.ret ?_
    refine Hd.scRet ?_
    clear hK1 hK2 hK3 hK4 hK5 hK8
    rw [htk]
    exact Hd.retM (fun a fr => Lv.mark pkk (Lv.end2 fr rfl (a3, c3) rfl rfl rfl (Ent.sep enn)))
  ·
    rintro r0_0 (_ | id0) pre0 hG0
    ·
      exact Hd.absurd (by first | exact id | simp)
    ·
      by_cases hid0 : id0 = 0
      · subst hid0
        simp only [List.cons_append, List.nil_append]
        refine Hd.pure (fun _ => ?_)
        refine Hd.exs pkk ?_
        rintro ⟨a3, c3⟩
        simp only [List.cons_append, List.nil_append]
        refine Hd.pure (fun hfn => ?_)
        try simp only [List.cons_append, List.nil_append]
        refine Hd.exit ?_
        refine Hd.inBexit ?_
        refine Hd.toK hK4 ?_
        refine Hd.seq (fun K9 hK9 => ?_)
        refine Hd.quiet mixed (by kernel_rfl) ?_
        first | (refine Hq.yv (y_load1 ag22 rfl (Rd.pt1 pkk (by (first | exact woT_at (j := 0) (by omega) rfl | rfl)))) ?_) | (refine Hq.yv (y_load1 ag22 rfl (Rd.seg1 pkk (by (first | exact woT_at (j := 0) (by omega) rfl | rfl)))) ?_) | (refine Hq.yv (y_loadR1 ag22 rfl (by (first | exact RdS.own pkk | exact RdS.own pkk)) (by (first | exact woT_at (j := 0) (by omega) rfl | rfl))) ?_)
        first | (refine Hq.yv (y_load1 ag22 rfl (Rd.pt1 pkk (by (first | exact woT_at (j := 0) (by omega) rfl | rfl)))) ?_) | (refine Hq.yv (y_load1 ag22 rfl (Rd.seg1 pkk (by (first | exact woT_at (j := 0) (by omega) rfl | rfl)))) ?_) | (refine Hq.yv (y_loadR1 ag22 rfl (by (first | exact RdS.own pkk | exact RdS.own pkk)) (by (first | exact woT_at (j := 0) (by omega) rfl | rfl))) ?_)
        refine Hq.yv (y_len Try.underlying22 rfl) ?_
        first | (refine Hq.yv (y_load1 ag3 rfl (Rd.pt1 pkk (by (first | exact woT_at (j := 0) (by omega) rfl | rfl)))) ?_) | (refine Hq.yv (y_load1 ag3 rfl (Rd.seg1 pkk (by (first | exact woT_at (j := 0) (by omega) rfl | rfl)))) ?_) | (refine Hq.yv (y_loadR1 ag3 rfl (by (first | exact RdS.own pkk | exact RdS.own pkk)) (by (first | exact woT_at (j := 0) (by omega) rfl | rfl))) ?_)
        first | (refine Hq.yv (y_eqlT rfl rfl) ?_) | (refine Hq.yv (y_eql rfl rfl) ?_)
        refine Hq.yv (y_move rfl) ?_
        apply Hq.andg 7 24 31 [(19, _)] rfl ⟨rfl, trivial⟩
        · intro hg6_24
          try simp only [decide_eq_true_eq, decide_eq_false_iff_not, Bool.and_eq_true, Bool.or_eq_true, Bool.and_eq_false_iff, Bool.or_eq_false_iff, Bool.not_eq_true', Bool.not_eq_false', Bool.not_eq_true, Bool.not_eq_false, Int.not_lt, Int.not_le, Decidable.not_not, ne_eq] at hg6_24
          simp only [List.take]
          refine Hq.yg rfl rfl (y_move rfl) ?_
          refine Hq.yg rfl rfl (y_nilp rfl) ?_
          first | (refine Hq.yg rfl rfl (y_field' (q := 288) (ft := 77) Try.underlying80 rfl sz77 rfl rfl) ?_) | (refine Hq.yg rfl rfl (y_fieldR (q := 288) (ft := 77) Try.underlying80 rfl sz77 rfl rfl) ?_)
          first | (refine Hq.yg rfl rfl (y_load1 ag77 rfl (Rd.pt1 pkk (by (first | exact woT_at (j := 0) (by omega) rfl | rfl)))) ?_) | (refine Hq.yg rfl rfl (y_load1 ag77 rfl (Rd.seg1 pkk (by (first | exact woT_at (j := 0) (by omega) rfl | rfl)))) ?_) | (refine Hq.yg rfl rfl (y_loadR1 ag77 rfl (by (first | exact RdS.own pkk | exact RdS.own pkk)) (by (first | exact woT_at (j := 0) (by omega) rfl | rfl))) ?_)
          refine Hq.yg rfl rfl (y_len Try.underlying77 rfl) ?_
          refine Hq.yg rfl rfl (y_lss rfl rfl) ?_
          first | (refine Hq.yv (y_pickT rfl rfl) ?_) | (refine Hq.yv (y_pickF rfl rfl) ?_) | (refine Hq.yv (y_pickb rfl rfl rfl) ?_) | (refine Hq.yv (y_pick rfl rfl rfl) ?_)
          exact Hq.mend (by repeat (first | exact trivial | refine ⟨rfl, ?_⟩))
        · intro hg6_24
          try simp only [decide_eq_true_eq, decide_eq_false_iff_not, Bool.and_eq_true, Bool.or_eq_true, Bool.and_eq_false_iff, Bool.or_eq_false_iff, Bool.not_eq_true', Bool.not_eq_false', Bool.not_eq_true, Bool.not_eq_false, Int.not_lt, Int.not_le, Decidable.not_not, ne_eq] at hg6_24
          simp only [List.take]
          refine Hq.ng rfl rfl rfl ?_
          refine Hq.ng rfl rfl rfl ?_
          refine Hq.ng rfl rfl rfl ?_
          refine Hq.ng rfl rfl rfl ?_
          refine Hq.ng rfl rfl rfl ?_
          refine Hq.ng rfl rfl rfl ?_
          first | (refine Hq.yv (y_pickT rfl rfl) ?_) | (refine Hq.yv (y_pickF rfl rfl) ?_) | (refine Hq.yv (y_pickb rfl rfl rfl) ?_) | (refine Hq.yv (y_pick rfl rfl rfl) ?_)
          exact Hq.mend (by repeat (first | exact trivial | refine ⟨rfl, ?_⟩))
        simp only [List.drop]
        refine Hq.yv (y_assign rfl) ?_
        refine Hq.yv (y_assign rfl) ?_
        refine Hq.nil ?_
        refine Hd.slots [(4, _), (5, _)] ⟨rfl, rfl, trivial⟩ ?_
        refine Hd.toK hK9 ?_
        refine Hd.ret ?_
        refine Hd.scRet ?_
        clear hK1 hK2 hK3 hK4 hK5 hK9
        exact Hd.retM (fun a fr => Lv.mark pkk (Lv.end2 fr rfl (a3, c3) rfl rfl rfl (Ent.sep enn)))
      · exact Hd.absurd (by first | exact hid0 | (simpa using hid0))
end Wo
end Go.Proofs.Ytbfddabjbkohdaa
namespace Go.Proofs.Ytbfddabjbkohdaa
set_option linter.unusedSimpArgs false
set_option linter.unusedVariables false
set_option linter.unnecessarySimpa false
open Go.RX Fx
namespace Wo
set_option maxRecDepth 8000
def openW (x : WireA) (fs : List Nat) (k : Nat) : WireA := { x with e := fun j => if j < k then { x.e j with what := 1, fd := ((fs.getD j 0 : Nat) : Int) } else x.e j }
def openT (t : Int → Option (Nat × Nat)) (m : Nat) (fs : List Nat) : Nat → Int → Option (Nat × Nat)
  | 0 => t
  | k + 1 => setT (openT t m fs k) ((fs.getD k 0 : Nat) : Int) (some (m, k))
def WA.addW (w : WA) (x : WireA) : WA := { w with ws := w.ws ++ [x] }
theorem atW_app (fd : Int) (x : WireA) : ∀ (ws : List WireA) (i : Nat), atW (ws ++ [x]) i fd = (atW ws i fd).or ((atE x fd).map fun k => (i + ws.length, k))
  | [], i => by
    show (match atE x fd with | some k => some (i, k) | none => none) = _
    cases h : atE x fd <;> rfl
  | y :: t, i => by
    show (match atE y fd with | some k => some (i, k) | none => atW (t ++ [x]) (i + 1) fd) = (match atE y fd with | some k => some (i, k) | none => atW t (i + 1) fd).or _
    cases h : atE y fd with
    | some k => rfl
    | none =>
      show atW (t ++ [x]) (i + 1) fd = _
      rw [atW_app fd x t (i + 1), List.length_cons, show i + 1 + t.length = i + (t.length + 1) by omega]
theorem frees_mem {t : Int → Option (Nat × Nat)} {fd : Nat} : fd ∈ frees t ↔ fd < 96 ∧ t (fd : Int) = none := by
  unfold frees
  rw [List.mem_filter, List.mem_range, Option.isNone_iff_eq_none]
theorem frees_nd (t : Int → Option (Nat × Nat)) : (frees t).Nodup := List.nodup_range.filter _
structure NewW (x : WireA) (l : Nat) : Prop where
  wf : WfW x
  no : ∀ k, k < 2 → (x.e k).what ≠ 1
  wt : x.wt = []
theorem open_e (x : WireA) (fs : List Nat) (k j : Nat) : (openW x fs k).e j = if j < k then { x.e j with what := 1, fd := ((fs.getD j 0 : Nat) : Int) } else x.e j := rfl
theorem open_wf {x : WireA} {l : Nat} (h : NewW x l) (fs : List Nat) (k : Nat) : WfW (openW x fs k) := by
  have e : ∀ j, ((openW x fs k).e j).rd = (x.e j).rd ∧ ((openW x fs k).e j).wr = (x.e j).wr ∧ ((openW x fs k).e j).b = (x.e j).b ∧ (((openW x fs k).e j).what = 1 ∨ ((openW x fs k).e j).what = (x.e j).what) := fun j => by
    rw [open_e]
    split
    · exact ⟨rfl, rfl, rfl, .inl rfl⟩
    · exact ⟨rfl, rfl, rfl, .inr rfl⟩
  refine ⟨fun j hj => by rw [(e j).2.1, (e (1 - j)).1]; exact h.wf.wr j hj, fun j hj => by rw [(e j).2.2.1]; exact h.wf.le j hj, fun j hj hr => by rw [(e j).2.2.1]; exact h.wf.nb j hj (by rw [← (e j).1]; exact hr), h.wf.cap, fun j hj => ?_, h.wf.bl, fun h1 => ?_⟩
  · rcases (e j).2.2.2 with h1 | h1
    · rw [h1]; omega
    · rw [h1]; exact h.wf.what j hj
  · rw [(e 0).1, (e 1).1]
    refine h.wf.ou ?_
    rcases (e 1).2.2.2 with h2 | h2
    · rw [h2] at h1; cases h1
    · rw [← h2]; exact h1
structure OpF (w : WA) (fs : List Nat) : Prop where
  nd : fs.Nodup
  fr : ∀ f ∈ fs, f < 96 ∧ w.at (f : Int) = none
  le : fs.length ≤ 2
theorem opF_take (w : WA) {n : Nat} (hn : n ≤ 2) : OpF w ((frees w.at).take n) :=
  ⟨(frees_nd _).sublist (List.take_sublist _ _), fun f hf => frees_mem.1 (List.mem_of_mem_take hf), by rw [List.length_take]; omega⟩
theorem open_in {x : WireA} {l : Nat} (hx : NewW x l) {fs : List Nat} {k : Nat} (hk : k < 2) : ((openW x fs fs.length).e k).what = 1 ↔ k < fs.length := by
  rw [open_e]
  split
  · simp [*]
  · rename_i h; exact ⟨fun h1 => absurd h1 (hx.no k hk), fun h1 => absurd h1 h⟩
theorem open_fd {x : WireA} {fs : List Nat} {k : Nat} (h : k < fs.length) : ((openW x fs fs.length).e k).fd = ((fs.getD k 0 : Nat) : Int) := by rw [open_e, if_pos h]
theorem getD_mem {fs : List Nat} {k : Nat} (h : k < fs.length) : fs.getD k 0 ∈ fs := by
  rw [List.getD_eq_getElem?_getD, List.getElem?_eq_getElem h]; exact List.getElem_mem h
theorem getD_inj {fs : List Nat} (hn : fs.Nodup) {k j : Nat} (h : k < fs.length) (h2 : j < fs.length) (e : fs.getD k 0 = fs.getD j 0) : k = j := by
  rw [List.getD_eq_getElem?_getD, List.getD_eq_getElem?_getD, List.getElem?_eq_getElem h, List.getElem?_eq_getElem h2] at e
  exact (List.getElem_inj hn).1 e
theorem app_at {α : Type} {l : List α} {x y : α} {n : Nat} (h : (l ++ [x])[n]? = some y) : l[n]? = some y ∨ (n = l.length ∧ y = x) := by
  rcases Nat.lt_or_ge n l.length with h1 | h1
  · rw [List.getElem?_append_left h1] at h; exact .inl h
  · rw [List.getElem?_append_right h1] at h
    have : n - l.length = 0 := by have := (List.getElem?_eq_some_iff.1 h).1; simp at this; omega
    rw [this] at h
    exact .inr ⟨by omega, (Option.some.inj h).symm⟩
theorem WOk.addW {w : WA} (h : WOk w) {x : WireA} {fs : List Nat} (hx : NewW x w.ws.length) (hf : OpF w fs) (hl : w.ws.length < 1000) : WOk (w.addW (openW x fs fs.length)) := by
  have hold : ∀ {n : Nat} {y : WireA} {k : Nat}, w.ws[n]? = some y → k < 2 → (y.e k).what = 1 → ∀ j, j < fs.length → (y.e k).fd ≠ ((fs.getD j 0 : Nat) : Int) := fun {n y k} hy hk h1 j hj e =>
    atW_no.1 (hf.fr _ (getD_mem hj)).2 y (List.mem_of_getElem? hy) k hk ⟨h1, e⟩
  refine ⟨?_, ?_, by show (w.ws ++ [_]).length ≤ 1000; rw [List.length_append]; simp; omega, h.hdl, h.ctl, ?_, ?_, ?_, ?_, fun m y hm => by
    rcases app_at hm with hm | ⟨rfl, rfl⟩
    · exact h.ns _ _ hm
    · rw [show (openW x fs fs.length).wt = [] from hx.wt]; exact List.not_mem_nil⟩
  · intro a b y z k j ha hb hk hj h1 h2 h3
    rcases app_at ha with ha | ⟨rfl, rfl⟩ <;> rcases app_at hb with hb | ⟨rfl, rfl⟩
    · exact h.uq a b y z k j ha hb hk hj h1 h2 h3
    · have := (open_in hx hj).1 h2
      rw [open_fd this] at h3
      exact absurd h3 (hold ha hk h1 j this)
    · have := (open_in hx hk).1 h1
      rw [open_fd this] at h3
      exact absurd h3.symm (hold hb hj h2 k this)
    · have a1 := (open_in hx hk).1 h1
      have a2 := (open_in hx hj).1 h2
      rw [open_fd a1, open_fd a2] at h3
      exact ⟨rfl, getD_inj hf.nd a1 a2 (by omega)⟩
  · intro y hy k hk h1
    rcases List.mem_append.1 hy with hy | hy
    · exact h.fd y hy k hk h1
    · obtain rfl : y = _ := by simpa using hy
      have a1 := (open_in hx hk).1 h1
      have := (hf.fr _ (getD_mem a1)).1
      rw [open_fd a1]; omega
  · intro y hy
    rcases List.mem_append.1 hy with hy | hy
    · exact h.wf y hy
    · obtain rfl : y = _ := by simpa using hy
      exact open_wf hx fs _
  · show ((w.ws ++ [_]).flatMap WireA.wt).Nodup
    rw [List.flatMap_append, List.flatMap_cons, List.flatMap_nil, show (openW x fs fs.length).wt = [] from hx.wt, List.append_nil, List.append_nil]
    exact h.wn
  · intro m hm
    have hm' : m ∈ w.ws.flatMap WireA.wt := by
      have h2 : m ∈ (w.ws ++ [openW x fs fs.length]).flatMap WireA.wt := hm
      rwa [List.flatMap_append, List.flatMap_cons, List.flatMap_nil, show (openW x fs fs.length).wt = [] from hx.wt, List.append_nil, List.append_nil] at h2
    obtain ⟨y, hy, h0⟩ := h.wm m hm'
    exact ⟨y, by show (w.ws ++ [_])[m]? = _; rw [List.getElem?_append_left (List.getElem?_eq_some_iff.1 hy).1]; exact hy, h0⟩
  · intro n k hn
    obtain ⟨hk, y, hy, h0⟩ := h.nt n k hn
    exact ⟨hk, y, by show (w.ws ++ [_])[n]? = _; rw [List.getElem?_append_left (List.getElem?_eq_some_iff.1 hy).1]; exact hy, h0⟩
theorem openT_eq {t : Int → Option (Nat × Nat)} {m : Nat} {fs : List Nat} (hn : fs.Nodup) (hle : fs.length ≤ 2) (fd : Int) : openT t m fs fs.length fd = if ∃ k, k < fs.length ∧ fd = ((fs.getD k 0 : Nat) : Int) then (if 0 < fs.length ∧ fd = ((fs.getD 0 0 : Nat) : Int) then some (m, 0) else some (m, 1)) else t fd := by
  match fs, hle with
  | [], _ => simp [openT]
  | [a], _ =>
    show (if fd = ((([a] : List Nat).getD 0 0 : Nat) : Int) then _ else t fd) = _
    by_cases h : fd = (a : Int)
    · rw [if_pos (by simpa using h), if_pos ⟨0, by simp, by simpa using h⟩, if_pos ⟨by simp, by simpa using h⟩]
    · rw [if_neg (by simpa using h), if_neg]
      rintro ⟨k, hk, e⟩
      have : k = 0 := by simp at hk; omega
      subst this; exact h (by simpa using e)
  | [a, b], _ =>
    have hab : a ≠ b := by simpa using (List.nodup_cons.1 hn).1
    show (if fd = ((([a, b] : List Nat).getD 1 0 : Nat) : Int) then _ else if fd = ((([a, b] : List Nat).getD 0 0 : Nat) : Int) then _ else t fd) = _
    by_cases h : fd = (b : Int)
    · rw [if_pos (by simpa using h), if_pos ⟨1, by simp, by simpa using h⟩, if_neg]
      · rfl
      · rintro ⟨_, e⟩
        have : fd = (a : Int) := by simpa using e
        omega
    · rw [if_neg (by simpa using h)]
      by_cases h2 : fd = (a : Int)
      · rw [if_pos (by simpa using h2), if_pos ⟨0, by simp, by simpa using h2⟩, if_pos ⟨by simp, by simpa using h2⟩]
      · rw [if_neg (by simpa using h2), if_neg]
        rintro ⟨k, hk, e⟩
        rcases (show k = 0 ∨ k = 1 by simp at hk; omega) with rfl | rfl
        · exact h2 (by simpa using e)
        · exact h (by simpa using e)
theorem addW_at {w : WA} {x : WireA} {fs : List Nat} (hx : NewW x w.ws.length) (hf : OpF w fs) : (w.addW (openW x fs fs.length)).at = openT w.at w.ws.length fs fs.length := by
  funext fd
  rw [openT_eq hf.nd hf.le]
  show atW (w.ws ++ [_]) 0 fd = _
  rw [atW_app, Nat.zero_add]
  by_cases h : ∃ k, k < fs.length ∧ fd = ((fs.getD k 0 : Nat) : Int)
  · rw [if_pos h]
    obtain ⟨k, hk, e⟩ := h
    have hno : atW w.ws 0 fd = none := by rw [e]; exact (hf.fr _ (getD_mem hk)).2
    rw [hno, Option.none_or]
    unfold atE
    by_cases h0 : 0 < fs.length ∧ fd = ((fs.getD 0 0 : Nat) : Int)
    · rw [if_pos h0, if_pos ⟨(open_in hx (by omega)).2 h0.1, by rw [open_fd h0.1]; exact h0.2.symm⟩]; rfl
    · have hk1 : k = 1 := by
        have hkl : k < 2 := by have := hf.le; omega
        rcases (show k = 0 ∨ k = 1 by omega) with rfl | rfl
        · exact absurd ⟨hk, e⟩ h0
        · rfl
      subst hk1
      rw [if_neg h0, if_neg, if_pos ⟨(open_in hx (by omega)).2 hk, by rw [open_fd hk]; exact e.symm⟩]
      · rfl
      · rintro ⟨h1, h2⟩
        have := (open_in hx (by omega)).1 h1
        rw [open_fd this] at h2
        exact h0 ⟨this, h2.symm⟩
  · rw [if_neg h]
    have : atE (openW x fs fs.length) fd = none := atE_no fun k hk ⟨h1, h2⟩ => by
      have := (open_in hx hk).1 h1
      rw [open_fd this] at h2
      exact h ⟨k, this, h2.symm⟩
    rw [this, Option.map_none, Option.or_none]
end Wo
end Go.Proofs.Ytbfddabjbkohdaa
namespace Go.Proofs.Ytbfddabjbkohdaa
set_option linter.unusedSimpArgs false
set_option linter.unusedVariables false
set_option linter.unnecessarySimpa false
open Go.RX Fx
namespace Wo
set_option maxRecDepth 8000
theorem enc_open {x : WireA} {fs : List Nat} {i : WI} {k : Nat} (hk : k < 2) : ((encW (openW x fs k) i).set (0 + 0 + k * 7 + 0) (.int .i64 1)).set (0 + 0 + k * 7 + 1) (.int .i64 ((fs.getD k 0 : Nat) : Int)) = encW (openW x fs (k + 1)) i := by
  rcases (show k = 0 ∨ k = 1 by omega) with rfl | rfl <;> rfl
theorem nats_at {fs : List Nat} {k : Nat} (h : k < fs.length) : (nats fs)[k * 1]? = some (.int .i64 ((fs.getD k 0 : Nat) : Int)) := by
  rw [Nat.mul_one, List.getElem?_map, List.getElem?_eq_getElem h, List.getD_eq_getElem?_getD, List.getElem?_eq_getElem h]; rfl
theorem open_same (x : WireA) (fs : List Nat) (k j : Nat) : ((openW x fs k).e j).rd = (x.e j).rd ∧ ((openW x fs k).e j).b = (x.e j).b := by
  rw [open_e]; split <;> exact ⟨rfl, rfl⟩
theorem open_close {b k : Nat} {x : WireA} {fs : List Nat} {i : WI} {L : List SP} (hi : WIOk x i) : ∀ h, sep (pt b (encW (openW x fs k) i) 88 :: WireB x i 0 L) h → sep (WireP b (openW x fs k) :: L) h := by
  intro h s
  refine wire_fold (x := openW x fs k) (i := i) (k := 0) ⟨fun j hj => by rw [(open_same x fs k j).1]; exact hi.rd j hj⟩ (by omega) h ?_
  unfold WireB at s ⊢
  rw [(open_same x fs k 0).2, (open_same x fs k (1 - 0)).2]
  exact s
set_option maxHeartbeats 2000000 in
theorem open_ct (L : List SP) (wb m b : Nat) (t : Int → Option (Nat × Nat)) (w : WA) (i : WoI) (x : WireA) (fs : List Nat) (fa : Option Addr) (fc : Nat) (hR : RdS L 1 fa fs.length (nats fs)) (hle : fs.length ≤ 2) (hf : ∀ f ∈ fs, f < 96) (hm : m < 100000) (hml : i.rs.length = m) : Ct Try.prog 67 #[.pointer (some ⟨wb, 0, none⟩), .pointer (some ⟨b, 0, none⟩), .slice fa fs.length fc] (WoH wb t w m i :: own 81 1 i.wa m i.wc (pws i.rs) :: WireP b x :: L) (fun q_ : Option Addr × Nat => .tuple #[]) (fun q_ : Option Addr × Nat => WoH wb (openT t m fs fs.length) w (m + 1) { i with wa := q_.1, wc := q_.2 } :: own 81 1 q_.1 (m + 1) q_.2 (pws i.rs ++ [ptr (some b)]) :: WireP b (openW x fs fs.length) :: L) := by
  refine Ct.of (vs := [.pointer (some ⟨wb, 0, none⟩), .pointer (some ⟨b, 0, none⟩), .slice fa fs.length fc]) Try.func67 rfl rfl [(0, .pointer (some ⟨wb, 0, none⟩)), (1, .pointer (some ⟨b, 0, none⟩)), (2, .slice fa fs.length fc)] (by repeat (first | exact trivial | refine ⟨rfl, ?_⟩)) ?_
  intro E
  show Hd E 51 _ _ _ _
  refine Hd.wire (.there (.there .here)) 0 (by omega) (fun i2 hi => ?_)
  have e0 : x = openW x fs 0 := by
    obtain ⟨e, cp, r, bl, wt⟩ := x
    unfold openW; congr 1
  refine Hd.heap (pt b (encW (openW x fs 0) i2) 88 :: WoH wb t w m i :: own 81 1 i.wa m i.wc (pws i.rs) :: WireB x i2 0 L) (Ent.sep (.eq pkk (pt_eq (congrArg (fun z => encW z i2) e0)) enn)) ?_
  refine Hd.seq (fun K1 hK1 => ?_)
  refine Hd.seq (fun K2 hK2 => ?_)
  refine Hd.region ?_
  refine Hd.yv (y_move rfl) ?_
  refine Hd.yv (y_len Try.underlying22 rfl) ?_
  refine Hd.yv (y_move rfl) ?_
  refine Hd.nil ?_
  refine Hd.slots [(0, _), (1, _), (8, _), (9, _), (10, _)] ⟨rfl, rfl, rfl, rfl, rfl, trivial⟩ ?_
  refine Hd.toK hK2 ?_
  refine Hd.block ?_
  refine Hd.loopK (ι := Nat) [(0, _), (1, _), (8, _), (9, _)] (fun k => [(10, .int .i64 (k : Int))]) (fun k => pu (k ≤ fs.length) :: pt b (encW (openW x fs k) i2) 88 :: WoH wb (openT t m fs k) w m i :: own 81 1 i.wa m i.wc (pws i.rs) :: WireB x i2 0 L) (fun k => fs.length - k) 0 (by repeat (first | exact trivial | refine ⟨rfl, ?_⟩)) (by repeat (first | exact trivial | refine ⟨rfl, ?_⟩)) (Ent.sep (.pure (by first | omega | (simp; done) | (simp; omega) | exact ⟨by simp, by simp⟩) enn)) ?_
  intro k
  try dsimp only
  refine Hd.pure (fun hp0 => ?_)
  try dsimp only at hp0
  refine Hd.seq (fun K3 hK3 => ?_)
  refine Hd.region ?_
  refine Hd.yv (y_lss rfl rfl) ?_
  refine Hd.nil ?_
  refine Hd.slots [(0, _), (1, _), (8, _), (9, _), (10, _), (11, _)] ⟨rfl, rfl, rfl, rfl, rfl, rfl, trivial⟩ ?_
  refine Hd.toK hK3 ?_
  refine Hd.seq (fun K4 hK4 => ?_)
  refine Hd.cond rfl (fun hc0 => ?_) (fun hc0 => ?_)
  ·
    try simp only [decide_eq_true_eq, decide_eq_false_iff_not, Bool.and_eq_true, Bool.or_eq_true, Bool.and_eq_false_iff, Bool.or_eq_false_iff, Bool.not_eq_true', Bool.not_eq_false', Bool.not_eq_true, Bool.not_eq_false, Int.not_lt, Int.not_le, Decidable.not_not, ne_eq] at hc0
    have hk : k < fs.length := by omega
    have hfk : fs.getD k 0 < 96 := hf _ (getD_mem hk)
    refine Hd.skip ?_
    refine Hd.toK hK4 ?_
    refine Hd.seq (fun K5 hK5 => ?_)
    refine Hd.block ?_
    refine Hd.seq (fun K6 hK6 => ?_)
    refine Hd.region ?_
    refine Hd.yv (y_move rfl) ?_
    first | (refine Hd.yv (y_idxS Try.underlying22 sz3 rfl rfl (by first | omega | decide)) ?_) | (refine Hd.yv (y_idxR Try.underlying22 sz3 rfl rfl (by first | omega | decide) (by (first | exact RdS.own pkk | exact RdS.mono hR (Ent.sep enn)))) ?_)
    first | (refine Hd.yv (y_load1 ag3 rfl (Rd.pt1 pkk (by (first | exact nats_at (by omega) | exact woT_at (j := 0) (by omega) rfl | rfl)))) ?_) | (refine Hd.yv (y_load1 ag3 rfl (Rd.seg1 pkk (by (first | exact nats_at (by omega) | exact woT_at (j := 0) (by omega) rfl | rfl)))) ?_) | (refine Hd.yv (y_loadR1 ag3 rfl (by (first | exact RdS.own pkk | exact RdS.mono hR (Ent.sep enn))) (by (first | exact nats_at (by omega) | exact woT_at (j := 0) (by omega) rfl | rfl))) ?_)
    refine Hd.yv (y_assign rfl) ?_
    refine Hd.yv (y_assign rfl) ?_
    refine Hd.nil ?_
    refine Hd.slots [(0, _), (1, _), (6, _), (7, _), (8, _), (9, _), (10, _)] ⟨rfl, rfl, rfl, rfl, rfl, rfl, rfl, trivial⟩ ?_
    refine Hd.toK hK6 ?_
    refine Hd.seq (fun K7 hK7 => ?_)
    refine Hd.drawsH ([]) (fun j => !(([1000] : List Nat).contains j)) mixed ?_
    simp only [List.length, Nat.zero_add, Nat.reduceAdd]
    refine Hd.takeH 0 rfl (by kernel_rfl) (by kernel_rfl) (by kernel_rfl) (by kernel_rfl) (y_move rfl) (fun _ _ => rfl) (Ent.sep enn) ?_
    refine Hd.takeH 1 rfl (by kernel_rfl) (by kernel_rfl) (by kernel_rfl) (by kernel_rfl) (y_move rfl) (fun _ _ => rfl) (Ent.sep enn) ?_
    refine Hd.takeH 2 rfl (by kernel_rfl) (by kernel_rfl) (by kernel_rfl) (by kernel_rfl) (y_move rfl) (fun _ _ => rfl) (Ent.sep enn) ?_
    refine Hd.takeH 3 rfl (by kernel_rfl) (by kernel_rfl) (by kernel_rfl) (by kernel_rfl) (y_move rfl) (fun _ _ => rfl) (Ent.sep enn) ?_
    refine Hd.takeH 4 rfl (by kernel_rfl) (by kernel_rfl) (by kernel_rfl) (by kernel_rfl) (y_move rfl) (fun _ _ => rfl) (Ent.sep enn) ?_
    refine Hd.takeH 5 rfl (by kernel_rfl) (by kernel_rfl) (by kernel_rfl) (by kernel_rfl) (y_nilp rfl) (fun _ _ => rfl) (Ent.sep enn) ?_
    first | (refine Hd.takeH 6 rfl (by kernel_rfl) (by kernel_rfl) (by kernel_rfl) (by kernel_rfl) (y_field' (q := 0) (ft := 86) Try.underlying88 rfl sz86 rfl rfl) (fun _ _ => rfl) (Ent.sep enn) ?_) | (refine Hd.takeH 6 rfl (by kernel_rfl) (by kernel_rfl) (by kernel_rfl) (by kernel_rfl) (y_fieldR (q := 0) (ft := 86) Try.underlying88 rfl sz86 rfl rfl) (fun _ _ => rfl) (Ent.sep enn) ?_)
    first | (refine Hd.takeH 7 rfl (by kernel_rfl) (by kernel_rfl) (by kernel_rfl) (by kernel_rfl) (y_idxA Try.underlying86 sz85 rfl rfl (by first | omega | decide)) (fun _ _ => rfl) (Ent.sep enn) ?_) | (refine Hd.takeH 7 rfl (by kernel_rfl) (by kernel_rfl) (by kernel_rfl) (by kernel_rfl) (y_idxAR Try.underlying86 sz85 rfl rfl (by first | omega | decide)) (fun _ _ => rfl) (Ent.sep enn) ?_)
    first | (refine Hd.takeH 8 rfl (by kernel_rfl) (by kernel_rfl) (by kernel_rfl) (by kernel_rfl) (y_field' (q := 0) (ft := 3) Try.underlying85 rfl sz3 rfl rfl) (fun _ _ => rfl) (Ent.sep enn) ?_) | (refine Hd.takeH 8 rfl (by kernel_rfl) (by kernel_rfl) (by kernel_rfl) (by kernel_rfl) (y_fieldR (q := 0) (ft := 3) Try.underlying85 rfl sz3 rfl rfl) (fun _ _ => rfl) (Ent.sep enn) ?_)
    refine Hd.takeH 10 rfl (by kernel_rfl) (by kernel_rfl) (by kernel_rfl) (by kernel_rfl) (y_nilp rfl) (fun _ _ => rfl) (Ent.sep enn) ?_
    first | (refine Hd.takeH 11 rfl (by kernel_rfl) (by kernel_rfl) (by kernel_rfl) (by kernel_rfl) (y_field' (q := 0) (ft := 86) Try.underlying88 rfl sz86 rfl rfl) (fun _ _ => rfl) (Ent.sep enn) ?_) | (refine Hd.takeH 11 rfl (by kernel_rfl) (by kernel_rfl) (by kernel_rfl) (by kernel_rfl) (y_fieldR (q := 0) (ft := 86) Try.underlying88 rfl sz86 rfl rfl) (fun _ _ => rfl) (Ent.sep enn) ?_)
    refine Hd.onlyH 9 rfl (by kernel_rfl) ?_
    first | (refine Hd.store1 sz3 rfl rfl rfl pkk (by first | (rw [List.length_append, fdC_len]; simp) | decide | (simp; done) | (simp; omega)) ?_) | (refine Hd.storeG1 sz3 rfl rfl rfl pkk (by first | (rw [List.length_append, fdC_len]; simp) | decide | (simp; done) | (simp; omega)) ?_) | (refine Hd.storeO1 sz3 rfl rfl rfl pkk (by first | (rw [List.length_append, fdC_len]; simp) | omega | (simp; done) | (simp; omega)) ?_)
    try simp only [List.set_cons_zero, List.set_cons_succ]
    refine Hd.nil ?_
    refine Hd.thenN ?_
    refine Hd.heldK (J := (fun j => !(([1000] : List Nat).contains j))) (i := 9) (Ent.sep enn) ?_
    first | (refine Hd.takeH 12 rfl (by kernel_rfl) (by kernel_rfl) (by kernel_rfl) (by kernel_rfl) (y_idxA Try.underlying86 sz85 rfl rfl (by first | omega | decide)) (fun _ _ => rfl) (Ent.sep enn) ?_) | (refine Hd.takeH 12 rfl (by kernel_rfl) (by kernel_rfl) (by kernel_rfl) (by kernel_rfl) (y_idxAR Try.underlying86 sz85 rfl rfl (by first | omega | decide)) (fun _ _ => rfl) (Ent.sep enn) ?_)
    first | (refine Hd.takeH 13 rfl (by kernel_rfl) (by kernel_rfl) (by kernel_rfl) (by kernel_rfl) (y_field' (q := 1) (ft := 3) Try.underlying85 rfl sz3 rfl rfl) (fun _ _ => rfl) (Ent.sep enn) ?_) | (refine Hd.takeH 13 rfl (by kernel_rfl) (by kernel_rfl) (by kernel_rfl) (by kernel_rfl) (y_fieldR (q := 1) (ft := 3) Try.underlying85 rfl sz3 rfl rfl) (fun _ _ => rfl) (Ent.sep enn) ?_)
    refine Hd.onlyH 14 rfl (by kernel_rfl) ?_
    first | (refine Hd.store1 sz3 rfl rfl rfl pkk (by first | (rw [List.length_append, fdC_len]; simp) | decide | (simp; done) | (simp; omega)) ?_) | (refine Hd.storeG1 sz3 rfl rfl rfl pkk (by first | (rw [List.length_append, fdC_len]; simp) | decide | (simp; done) | (simp; omega)) ?_) | (refine Hd.storeO1 sz3 rfl rfl rfl pkk (by first | (rw [List.length_append, fdC_len]; simp) | omega | (simp; done) | (simp; omega)) ?_)
    try simp only [List.set_cons_zero, List.set_cons_succ]
    refine Hd.nil ?_
    refine Hd.thenN ?_
    refine Hd.heldK (J := (fun j => !(([1000] : List Nat).contains j))) (i := 14) (Ent.sep enn) ?_
    refine Hd.endH (by kernel_rfl) ?_
    rw [enc_open (by omega)]
    refine Hd.slots [(0, _), (1, _), (6, _), (7, _), (8, _), (9, _), (10, _)] ⟨rfl, rfl, rfl, rfl, rfl, rfl, rfl, trivial⟩ ?_
    refine Hd.toK hK7 ?_
    refine Hd.drawsH ([WoH wb (openT t m fs k) w m i]) (fun j => !([12].contains j)) mixed ?_
    simp only [List.length, Nat.zero_add, Nat.reduceAdd]
    refine Hd.takeH 0 rfl (by kernel_rfl) (by kernel_rfl) (by kernel_rfl) (by kernel_rfl) (y_move rfl) (fun _ _ => rfl) (Ent.sep enn) ?_
    refine Hd.takeH 1 rfl (by kernel_rfl) (by kernel_rfl) (by kernel_rfl) (by kernel_rfl) (y_move rfl) (fun _ _ => rfl) (Ent.sep enn) ?_
    refine Hd.takeH 2 rfl (by kernel_rfl) (by kernel_rfl) (by kernel_rfl) (by kernel_rfl) (y_move rfl) (fun _ _ => rfl) (Ent.sep enn) ?_
    refine Hd.takeH 3 rfl (by kernel_rfl) (by kernel_rfl) (by kernel_rfl) (by kernel_rfl) (y_nilp rfl) (fun _ _ => rfl) (Ent.sep enn) ?_
    first | (refine Hd.takeH 4 rfl (by kernel_rfl) (by kernel_rfl) (by kernel_rfl) (by kernel_rfl) (y_field' (q := 288) (ft := 77) Try.underlying80 rfl sz77 rfl rfl) (fun _ _ => rfl) (Ent.sep enn) ?_) | (refine Hd.takeH 4 rfl (by kernel_rfl) (by kernel_rfl) (by kernel_rfl) (by kernel_rfl) (y_fieldR (q := 288) (ft := 77) Try.underlying80 rfl sz77 rfl rfl) (fun _ _ => rfl) (Ent.sep enn) ?_)
    first | (refine Hd.takeH 5 rfl (by kernel_rfl) (by kernel_rfl) (by kernel_rfl) (by kernel_rfl) (y_load1 ag77 rfl (Rd.pt1 pkk (by (first | exact nats_at (by omega) | exact woT_at (j := 0) (by omega) rfl | rfl)))) (fun _ _ => rfl) (Ent.sep enn) ?_) | (refine Hd.takeH 5 rfl (by kernel_rfl) (by kernel_rfl) (by kernel_rfl) (by kernel_rfl) (y_load1 ag77 rfl (Rd.seg1 pkk (by (first | exact nats_at (by omega) | exact woT_at (j := 0) (by omega) rfl | rfl)))) (fun _ _ => rfl) (Ent.sep enn) ?_) | (refine Hd.takeH 5 rfl (by kernel_rfl) (by kernel_rfl) (by kernel_rfl) (by kernel_rfl) (y_loadR1 ag77 rfl (by (first | exact RdS.own pkk | exact RdS.mono hR (Ent.sep enn))) (by (first | exact nats_at (by omega) | exact woT_at (j := 0) (by omega) rfl | rfl))) (fun _ _ => rfl) (Ent.sep enn) ?_)
    refine Hd.takeH 6 rfl (by kernel_rfl) (by kernel_rfl) (by kernel_rfl) (by kernel_rfl) (y_len Try.underlying77 rfl) (fun _ _ => rfl) (Ent.sep enn) ?_
    refine Hd.takeH 7 rfl (by kernel_rfl) (by kernel_rfl) (by kernel_rfl) (by kernel_rfl) (y_move rfl) (fun _ _ => rfl) (Ent.sep enn) ?_
    refine Hd.takeH 8 rfl (by kernel_rfl) (by kernel_rfl) (by kernel_rfl) (by kernel_rfl) (y_build (vs := [(0, _), (1, _), (2, _)]) rfl (by first | exact bd67_36 .. | kernel_rfl)) (fun _ _ => rfl) (Ent.sep enn) ?_
    refine Hd.onlyH 9 rfl (by kernel_rfl) ?_
    refine Hd.yv (y_nilp rfl) ?_
    refine Hd.nil ?_
    refine Hd.thenN ?_
    refine Hd.heldK (J := (fun j => !([12].contains j))) (i := 9) (Ent.sep enn) ?_
    refine Hd.onlyH 10 rfl (by kernel_rfl) ?_
    first | (refine Hd.yv (y_field' (q := 0) (ft := 76) Try.underlying80 rfl sz76 rfl rfl) ?_) | (refine Hd.yv (y_fieldR (q := 0) (ft := 76) Try.underlying80 rfl sz76 rfl rfl) ?_)
    refine Hd.nil ?_
    refine Hd.thenN ?_
    refine Hd.heldK (J := (fun j => !([12].contains j))) (i := 10) (Ent.sep enn) ?_
    first | (refine Hd.takeH 11 rfl (by kernel_rfl) (by kernel_rfl) (by kernel_rfl) (by kernel_rfl) (y_idxA Try.underlying76 sz75 rfl rfl (by first | omega | decide)) (fun _ _ => rfl) (Ent.sep enn) ?_) | (refine Hd.takeH 11 rfl (by kernel_rfl) (by kernel_rfl) (by kernel_rfl) (by kernel_rfl) (y_idxAR Try.underlying76 sz75 rfl rfl (by first | omega | decide)) (fun _ _ => rfl) (Ent.sep enn) ?_)
    refine Hd.onlyH 12 rfl (by kernel_rfl) ?_
    refine Hd.store (us := plc (some (m, k))) sz75 rfl rfl rfl (plc_one _) pkk (by rw [List.length_append, fdC_len, plc_len]; omega) ?_
    refine Hd.nil ?_
    refine Hd.thenN ?_
    refine Hd.heldN (J := (fun j => !([12].contains j))) (i := 12) rfl ?_
    refine Hd.endH (by kernel_rfl) ?_
    rw [show 0 + 0 + fs.getD k 0 * 3 = fs.getD k 0 * 3 by omega, show (plc (some (m, k))).length = 3 from rfl, fdC_set hfk]
    refine Hd.slots [(0, _), (1, _), (8, _), (9, _), (10, _)] ⟨rfl, rfl, rfl, rfl, rfl, trivial⟩ ?_
    refine Hd.inB ?_
    refine Hd.toK hK5 ?_
    refine Hd.region ?_
    first | (refine Hd.yv (y_addn rfl rfl (by simp only [InK]; omega)) ?_) | (refine Hd.yv (y_add rfl rfl) ?_)
    refine Hd.yv (y_move rfl) ?_
    refine Hd.nil ?_
    refine Hd.slots [(0, _), (1, _), (8, _), (9, _), (10, _)] ⟨rfl, rfl, rfl, rfl, rfl, trivial⟩ ?_
    clear hK1 hK2 hK3 hK4 hK5 hK6 hK7
    refine Hd.thenN ?_
    exact Hd.again (k + 1) (by first | omega | (simp only; omega) | (simp; omega)) (by repeat (first | exact trivial | refine ⟨rfl, ?_⟩)) (Ent.sep (.pure (by first | omega | (simp; done) | (simp; omega) | (dsimp only; omega)) enn))
  ·
    try simp only [decide_eq_true_eq, decide_eq_false_iff_not, Bool.and_eq_true, Bool.or_eq_true, Bool.and_eq_false_iff, Bool.or_eq_false_iff, Bool.not_eq_true', Bool.not_eq_false', Bool.not_eq_true, Bool.not_eq_false, Int.not_lt, Int.not_le, Decidable.not_not, ne_eq] at hc0
    obtain rfl : k = fs.length := by omega
    refine Hd.exit ?_
    refine Hd.thenExit ?_
    refine Hd.thenExit ?_
    refine Hd.inBexit ?_
    refine Hd.toK hK1 ?_
    refine Hd.region ?_
    refine Hd.yv (y_move rfl) ?_
    refine Hd.yv (y_move rfl) ?_
    refine Hd.yv (y_nilp rfl) ?_
    first | (refine Hd.yv (y_field' (q := 288) (ft := 77) Try.underlying80 rfl sz77 rfl rfl) ?_) | (refine Hd.yv (y_fieldR (q := 288) (ft := 77) Try.underlying80 rfl sz77 rfl rfl) ?_)
    first | (refine Hd.yv (y_load1 ag77 rfl (Rd.pt1 pkk (by (first | exact nats_at (by omega) | exact woT_at (j := 0) (by omega) rfl | rfl)))) ?_) | (refine Hd.yv (y_load1 ag77 rfl (Rd.seg1 pkk (by (first | exact nats_at (by omega) | exact woT_at (j := 0) (by omega) rfl | rfl)))) ?_) | (refine Hd.yv (y_loadR1 ag77 rfl (by (first | exact RdS.own pkk | exact RdS.mono hR (Ent.sep enn))) (by (first | exact nats_at (by omega) | exact woT_at (j := 0) (by omega) rfl | rfl))) ?_)
    refine Hd.yv (y_move rfl) ?_
    refine Hd.bslice (vs := [(0, _)]) rfl (by first | exact bs67_47 .. | kernel_rfl) (fun b47 => ?_)
    refine Hd.append Try.underlying77 ty81 rfl rfl rfl pkk (by first | exact RdS.rd (Rd.pt pkk (fun j v e => by simpa using e)) rfl | (first | exact RdS.own pkk | exact RdS.mono hR (Ent.sep enn))) (by first | (simp [Value.oneCell']; done) | assumption) (by first | (simp only [maxLen]; omega) | assumption) (by omega) (fun ad48 cap48 => ?_)
    refine Hd.yv (y_nilp rfl) ?_
    first | (refine Hd.yv (y_field' (q := 288) (ft := 77) Try.underlying80 rfl sz77 rfl rfl) ?_) | (refine Hd.yv (y_fieldR (q := 288) (ft := 77) Try.underlying80 rfl sz77 rfl rfl) ?_)
    first | (refine Hd.store1 sz77 rfl rfl rfl pkk (by first | (rw [List.length_append, fdC_len]; simp) | decide | (simp; done) | (simp; omega)) ?_) | (refine Hd.storeG1 sz77 rfl rfl rfl pkk (by first | (rw [List.length_append, fdC_len]; simp) | decide | (simp; done) | (simp; omega)) ?_) | (refine Hd.storeO1 sz77 rfl rfl rfl pkk (by first | (rw [List.length_append, fdC_len]; simp) | omega | (simp; done) | (simp; omega)) ?_)
    try simp only [List.set_cons_zero, List.set_cons_succ]
    refine Hd.nil ?_
    refine Hd.slots [] trivial ?_
    clear hK1 hK2 hK3 hK4
    rw [show (fdC (openT t m fs fs.length) ++ woT w m i).set (0 + 288) (.slice ad48 (m + 1) cap48) = fdC (openT t m fs fs.length) ++ woT w (m + 1) { i with wa := ad48, wc := cap48 } by rw [List.set_append_right _ _ (by rw [fdC_len]; omega), fdC_len]; rfl]
    exact Hd.end0 rfl (ad48, cap48) rfl (fun q s => Ent.sep (show Ent (WireP b (openW x fs fs.length) :: WoH wb (openT t m fs fs.length) w (m + 1) { i with wa := ad48, wc := cap48 } :: own 81 1 ad48 (m + 1) cap48 (pws i.rs ++ [ptr (some b)]) :: L) _ from enn) q (open_close hi q (Ent.sep (.pick pkk (.pick pkk (.pick pkk (.pick pkk (.pick pkk (.eq pkk (show own 81 1 ad48 (m + 1) cap48 (pws i.rs ++ [Value.pointer (some ⟨b, 0, none⟩)]) = own 81 1 ad48 (m + 1) cap48 (pws i.rs ++ [ptr (some b)]) from rfl) enn)))))) q s)))
def mkOk (w : WA) (k : Nat) : Bool := decide ((((frees w.at).take k).length : Int) = (k : Int)) && decide ((w.ws.length : Int) < 1000)
def mkF (w : WA) (k : Nat) : List Nat := if mkOk w k = true then (frees w.at).take k else []
def mkE (w : WA) (k : Nat) : Int := if mkOk w k = true then 0 else 112
def mkW (w : WA) (k : Nat) (x : WireA) : WA := if mkOk w k = true then w.addW (openW x ((frees w.at).take k) k) else w
set_option maxHeartbeats 2000000 in
theorem cap_ct (L : List SP) (n : Int) : Ct Try.prog 65 #[.int .i64 n] (L) (fun _ : Unit => .bool (decide (n ≥ 1) && decide (n ≤ 65536))) (fun _ : Unit => L) := by
  refine Ct.of (vs := [.int .i64 n]) Try.func65 rfl rfl [(0, .int .i64 n)] (by repeat (first | exact trivial | refine ⟨rfl, ?_⟩)) ?_
  intro E
  show Hd E 9 _ _ _ _
  refine Hd.seq (fun K1 hK1 => ?_)
  refine Hd.region ?_
  refine Hd.yv (y_assign rfl) ?_
  refine Hd.nil ?_
  refine Hd.slots [(0, _)] ⟨rfl, trivial⟩ ?_
  refine Hd.toK hK1 ?_
  refine Hd.seq (fun K2 hK2 => ?_)
  refine Hd.region ?_
  refine Hd.yv (y_move rfl) ?_
  refine Hd.yv (y_geq rfl rfl) ?_
  refine Hd.yv (y_move rfl) ?_
  apply Hd.andg 3 5 8 [] rfl trivial
  · intro hg1_5
    try simp only [decide_eq_true_eq, decide_eq_false_iff_not, Bool.and_eq_true, Bool.or_eq_true, Bool.and_eq_false_iff, Bool.or_eq_false_iff, Bool.not_eq_true', Bool.not_eq_false', Bool.not_eq_true, Bool.not_eq_false, Int.not_lt, Int.not_le, Decidable.not_not, ne_eq] at hg1_5
    simp only [List.take]
    refine Hd.yg rfl rfl (y_move rfl) ?_
    refine Hd.yg rfl rfl (y_leq rfl rfl) ?_
    first | (refine Hd.yv (y_pickT rfl rfl) ?_) | (refine Hd.yv (y_pickF rfl rfl) ?_) | (refine Hd.yv (y_pickb rfl rfl rfl) ?_) | (refine Hd.yv (y_pick rfl rfl rfl) ?_)
    refine Hd.nil ?_
    exact Hd.mend (by repeat (first | exact trivial | refine ⟨rfl, ?_⟩)) (Ent.sep enn)
  · intro hg1_5
    try simp only [decide_eq_true_eq, decide_eq_false_iff_not, Bool.and_eq_true, Bool.or_eq_true, Bool.and_eq_false_iff, Bool.or_eq_false_iff, Bool.not_eq_true', Bool.not_eq_false', Bool.not_eq_true, Bool.not_eq_false, Int.not_lt, Int.not_le, Decidable.not_not, ne_eq] at hg1_5
    simp only [List.take]
    refine Hd.ng rfl rfl rfl ?_
    refine Hd.ng rfl rfl rfl ?_
    first | (refine Hd.yv (y_pickT rfl rfl) ?_) | (refine Hd.yv (y_pickF rfl rfl) ?_) | (refine Hd.yv (y_pickb rfl rfl rfl) ?_) | (refine Hd.yv (y_pick rfl rfl rfl) ?_)
    refine Hd.nil ?_
    exact Hd.mend (by repeat (first | exact trivial | refine ⟨rfl, ?_⟩)) (Ent.sep enn)
  simp only [List.drop]
  refine Hd.yv (y_assign rfl) ?_
  refine Hd.nil ?_
  refine Hd.slots [(2, _)] ⟨rfl, trivial⟩ ?_
  refine Hd.toK hK2 ?_
  refine Hd.ret ?_
  clear hK1 hK2
  exact Hd.ret1 rfl () (by first | rfl | (simp only [*]; done) | (simp [*]; done)) (Ent.sep enn)
theorem pws_app (rs : List (Nat × WireA)) (b : Nat) (x : WireA) : pws rs ++ [ptr (some b)] = pws (rs ++ [(b, x)]) := by simp [pws]
theorem world_add {wb b : Nat} {w : WA} {i : WoI} {x : WireA} {ad : Option Addr} {c : Nat} {t : Int → Option (Nat × Nat)} {L : List SP} (hw : WOk (w.addW x)) (hrs : i.rs.map Prod.snd = w.ws) (ht : (w.addW x).at = t) :
    ∀ h, sep (WireP b x :: Wires i.rs :: WoH wb t w (i.rs.length + 1) { i with wa := ad, wc := c } :: own 81 1 ad (i.rs.length + 1) c (pws i.rs ++ [ptr (some b)]) :: SigP i.sb w.hd w.ct :: L) h → sep (WorldP wb (w.addW x) :: L) h := by
  intro h s
  have h1 := ws_add s
  have hl : (i.rs ++ [(b, x)]).length = i.rs.length + 1 := by simp
  refine Ent.sep (.ex { i with rs := i.rs ++ [(b, x)], wa := ad, wc := c } (.pure ⟨hw, by show (i.rs ++ [(b, x)]).map Prod.snd = w.ws ++ [x]; rw [List.map_append, hrs]; rfl⟩ ?_)) h h1
  exact .eq pkk (pt_eq (show fdC t ++ woT w (i.rs.length + 1) { i with wa := ad, wc := c } = fdC (w.addW x).at ++ woT (w.addW x) (i.rs ++ [(b, x)]).length { i with rs := i.rs ++ [(b, x)], wa := ad, wc := c } by rw [ht, hl]; rfl)) (.eq pkk (own_eq3 hl.symm rfl (pws_app ..)) enn)
set_option maxHeartbeats 2000000 in
theorem make_ct (L : List SP) (wb b : Nat) (w : WA) (n : Nat) (h1 : 1 ≤ n) (h2 : n ≤ 65536) (k : Nat) (hk : k ≤ 2) (x : WireA) (hx : NewW x w.ws.length) : Ct Try.prog 35 #[.pointer (some ⟨wb, 0, none⟩), .int .i64 (n : Int), .int .i64 (k : Int), .pointer (some ⟨b, 0, none⟩)] (WorldP wb w :: WireP b x :: L) (fun q_ : Option Addr × Nat => .tuple #[.slice q_.1 (mkF w k).length q_.2, .int .i64 (mkE w k)]) (fun q_ : Option Addr × Nat => own 3 1 q_.1 (mkF w k).length q_.2 (nats (mkF w k)) :: WorldP wb (mkW w k x) :: L) := by
  refine Ct.of (vs := [.pointer (some ⟨wb, 0, none⟩), .int .i64 (n : Int), .int .i64 (k : Int), .pointer (some ⟨b, 0, none⟩)]) Try.func35 rfl rfl [(0, .pointer (some ⟨wb, 0, none⟩)), (1, .int .i64 (n : Int)), (2, .int .i64 (k : Int)), (3, .pointer (some ⟨b, 0, none⟩))] (by repeat (first | exact trivial | refine ⟨rfl, ?_⟩)) ?_
  intro E
  show Hd E 32 _ _ _ _
  refine Hd.world .here (fun i hw hrs => ?_)
  have hrl : i.rs.length = w.ws.length := by rw [← hrs, List.length_map]
  refine Hd.seq (fun K1 hK1 => ?_)
  refine Hd.region ?_
  refine Hd.yv (y_assign rfl) ?_
  refine Hd.yv (y_assign rfl) ?_
  refine Hd.nil ?_
  refine Hd.slots [(0, _), (1, _), (2, _), (3, _)] ⟨rfl, rfl, rfl, rfl, trivial⟩ ?_
  refine Hd.toK hK1 ?_
  refine Hd.seq (fun K2 hK2 => ?_)
  refine Hd.block ?_
  refine Hd.seq (fun K3 hK3 => ?_)
  refine Hd.region ?_
  refine Hd.yv (y_move rfl) ?_
  refine Hd.callE rfl fk52 (wnone_ct _ wb w.at w i.rs.length i) (Ent.sep enn) ?_
  intro _
  refine Hd.yv (y_assign rfl) ?_
  refine Hd.nil ?_
  refine Hd.slots [(0, _), (1, _), (2, _), (3, _), (12, _)] ⟨rfl, rfl, rfl, rfl, rfl, trivial⟩ ?_
  refine Hd.toK hK3 ?_
  refine Hd.condF rfl ?_
  refine Hd.seq (fun K4 hK4 => ?_)
  refine Hd.region ?_
  refine Hd.yv (y_move rfl) ?_
  refine Hd.callE rfl fk65 (cap_ct _ (n : Int)) (Ent.sep enn) ?_
  intro _
  refine Hd.yv (y_not rfl) ?_
  refine Hd.yv (y_assign rfl) ?_
  refine Hd.nil ?_
  refine Hd.slots [(0, _), (2, _), (3, _), (15, _)] ⟨rfl, rfl, rfl, rfl, trivial⟩ ?_
  refine Hd.toK hK4 ?_
  refine Hd.cond rfl (fun hc1 => ?_) (fun hc1 => ?_)
  ·
    try simp only [decide_eq_true_eq, decide_eq_false_iff_not, Bool.and_eq_true, Bool.or_eq_true, Bool.and_eq_false_iff, Bool.or_eq_false_iff, Bool.not_eq_true', Bool.not_eq_false', Bool.not_eq_true, Bool.not_eq_false, Int.not_lt, Int.not_le, Decidable.not_not, ne_eq] at hc1
    exfalso
    omega
  ·
    try simp only [decide_eq_true_eq, decide_eq_false_iff_not, Bool.and_eq_true, Bool.or_eq_true, Bool.and_eq_false_iff, Bool.or_eq_false_iff, Bool.not_eq_true', Bool.not_eq_false', Bool.not_eq_true, Bool.not_eq_false, Int.not_lt, Int.not_le, Decidable.not_not, ne_eq] at hc1
    refine Hd.skip ?_
    refine Hd.inB ?_
    refine Hd.toK hK2 ?_
    refine Hd.seq (fun K5 hK5 => ?_)
    refine Hd.region ?_
    refine Hd.yv (y_move rfl) ?_
    refine Hd.yv (y_move rfl) ?_
    refine Hd.callE rfl fk66 (numbers_ct _ wb i.rs.length w.at w i k) (Ent.sep enn) ?_
    rintro ⟨ad, c⟩
    dsimp only
    rw [show (decide ((((frees w.at).take k).length : Int) = (k : Int)) && decide ((i.rs.length : Int) < 1000)) = mkOk w k by unfold mkOk; rw [hrl]]
    refine Hd.yv (y_move rfl) ?_
    refine Hd.yv (y_extract rfl rfl) ?_
    refine Hd.yv (y_extract rfl rfl) ?_
    refine Hd.yv (y_assign rfl) ?_
    refine Hd.yv (y_assign rfl) ?_
    refine Hd.nil ?_
    refine Hd.slots [(0, _), (3, _), (10, _), (11, _)] ⟨rfl, rfl, rfl, rfl, trivial⟩ ?_
    refine Hd.toK hK5 ?_
    refine Hd.seq (fun K6 hK6 => ?_)
    refine Hd.seq (fun K7 hK7 => ?_)
    refine Hd.region ?_
    refine Hd.yv (y_move rfl) ?_
    refine Hd.yv (y_not rfl) ?_
    refine Hd.nil ?_
    refine Hd.slots [(0, _), (3, _), (10, _), (26, _)] ⟨rfl, rfl, rfl, rfl, trivial⟩ ?_
    refine Hd.toK hK7 ?_
    refine Hd.cond rfl (fun hc2 => ?_) (fun hc2 => ?_)
    ·
      try simp only [decide_eq_true_eq, decide_eq_false_iff_not, Bool.and_eq_true, Bool.or_eq_true, Bool.and_eq_false_iff, Bool.or_eq_false_iff, Bool.not_eq_true', Bool.not_eq_false', Bool.not_eq_true, Bool.not_eq_false, Int.not_lt, Int.not_le, Decidable.not_not, ne_eq] at hc2
      refine Hd.seq (fun K8 hK8 => ?_)
      refine Hd.region ?_
      refine Hd.yv (y_assign rfl) ?_
      refine Hd.yv (y_assign rfl) ?_
      refine Hd.nil ?_
      refine Hd.slots [(8, _), (9, _)] ⟨rfl, rfl, trivial⟩ ?_
      refine Hd.toK hK8 ?_
      refine Hd.ret ?_
      refine Hd.thenRet ?_
      clear hK1 hK2 hK3 hK4 hK5 hK6 hK7 hK8
      have hno : mkOk w k = false := by simpa using hc2
      rw [show mkF w k = [] by unfold mkF; rw [if_neg (by rw [hno]; simp)], show mkE w k = 112 by unfold mkE; rw [if_neg (by rw [hno]; simp)], show mkW w k x = w by unfold mkW; rw [if_neg (by rw [hno]; simp)]]
      exact Hd.ret2 rfl (none, 0) rfl rfl rfl (Ent.sep (.ownNil (.ex i (.pure ⟨hw, hrs⟩ enn))))
    ·
      try simp only [decide_eq_true_eq, decide_eq_false_iff_not, Bool.and_eq_true, Bool.or_eq_true, Bool.and_eq_false_iff, Bool.or_eq_false_iff, Bool.not_eq_true', Bool.not_eq_false', Bool.not_eq_true, Bool.not_eq_false, Int.not_lt, Int.not_le, Decidable.not_not, ne_eq] at hc2
      have hok : mkOk w k = true := by simpa using hc2
      obtain ⟨hfl, hwl⟩ : ((frees w.at).take k).length = k ∧ w.ws.length < 1000 := by
        unfold mkOk at hok
        simp only [Bool.and_eq_true, decide_eq_true_eq] at hok
        omega
      have hof := opF_take w hk
      refine Hd.skip ?_
      refine Hd.toK hK6 ?_
      refine Hd.seq (fun K9 hK9 => ?_)
      refine Hd.region ?_
      refine Hd.yv (y_move rfl) ?_
      refine Hd.yv (y_move rfl) ?_
      refine Hd.yv (y_move rfl) ?_
      refine Hd.callE rfl fk67 (open_ct _ wb i.rs.length b w.at w i x ((frees w.at).take k) ad c ?hD hof.le (fun f hf => (hof.fr f hf).1) (by omega) rfl) (Ent.sep enn) ?_
      case hD => exact RdS.own pkk
      rintro ⟨ad2, c2⟩
      dsimp only
      refine Hd.nil ?_
      refine Hd.slots [(10, _)] ⟨rfl, trivial⟩ ?_
      refine Hd.toK hK9 ?_
      refine Hd.seq (fun K10 hK10 => ?_)
      refine Hd.region ?_
      refine Hd.yv (y_move rfl) ?_
      refine Hd.yv (y_assign rfl) ?_
      refine Hd.yv (y_assign rfl) ?_
      refine Hd.nil ?_
      refine Hd.slots [(8, _), (9, _)] ⟨rfl, rfl, trivial⟩ ?_
      refine Hd.toK hK10 ?_
      refine Hd.ret ?_
      clear hK1 hK2 hK3 hK4 hK5 hK6 hK7 hK9 hK10
      rw [show mkF w k = (frees w.at).take k by unfold mkF; rw [if_pos hok], show mkE w k = 0 by unfold mkE; rw [if_pos hok], show mkW w k x = w.addW (openW x ((frees w.at).take k) ((frees w.at).take k).length) by unfold mkW; rw [if_pos hok, hfl]]
      have hat := addW_at hx hof
      rw [← hrl] at hat
      exact Hd.ret2 rfl (ad, c) rfl rfl rfl (fun q s => Ent.sep (show Ent (WorldP wb (w.addW (openW x ((frees w.at).take k) ((frees w.at).take k).length)) :: own 3 1 ad ((frees w.at).take k).length c (nats ((frees w.at).take k)) :: L) _ from enn) q (world_add (hw.addW hx hof hwl) hrs hat q (Ent.sep enn q s)))
end Wo
end Go.Proofs.Ytbfddabjbkohdaa
namespace Go.Proofs.Ytbfddabjbkohdaa
set_option linter.unusedSimpArgs false
set_option linter.unusedVariables false
set_option linter.unnecessarySimpa false
open Go.RX Fx
namespace Wo
set_option maxRecDepth 8000
theorem mkF_len {w : WA} {k : Nat} : (mkE w k = 0 ∧ (mkF w k).length = k) ∨ (mkE w k = 112 ∧ mkF w k = []) := by
  unfold mkE mkF
  by_cases h : mkOk w k = true
  · rw [if_pos h, if_pos h]
    refine .inl ⟨rfl, ?_⟩
    unfold mkOk at h
    simp only [Bool.and_eq_true, decide_eq_true_eq] at h
    omega
  · rw [if_neg h, if_neg h]; exact .inr ⟨rfl, rfl⟩
abbrev mkI (w : WA) (k j : Nat) : Int := (((mkF w k).getD j 0 : Nat) : Int)
end Wo
end Go.Proofs.Ytbfddabjbkohdaa
namespace Go.Proofs.Ytbfddabjbkohdaa
set_option linter.unusedSimpArgs false
set_option linter.unusedVariables false
set_option linter.unnecessarySimpa false
open Go.RX Fx
namespace Wo
set_option maxRecDepth 8000
theorem close_e (x : WireA) {k j : Nat} (hk : k < 2) (hj : j < 2) : ((closeW x k).e j).what = (if j = k then 3 else (x.e j).what) ∧ ((closeW x k).e j).fd = (x.e j).fd ∧ ((closeW x k).e j).rd = (x.e j).rd ∧ ((closeW x k).e j).wr = (x.e j).wr ∧ ((closeW x k).e j).b = (x.e j).b := by
  unfold closeW
  by_cases e : j = k
  · subst e
    rw [up_at, up_ne _ _ (by omega), if_pos rfl]; exact ⟨rfl, rfl, rfl, rfl, rfl⟩
  · obtain rfl : j = 1 - k := by omega
    rw [up_ne _ _ e, up_at, if_neg e]; exact ⟨rfl, rfl, rfl, rfl, rfl⟩
theorem close_wf {x : WireA} (h : WfW x) {k : Nat} (hk : k < 2) : WfW (closeW x k) := by
  refine ⟨fun j hj => ?_, fun j hj => ?_, fun j hj hr => ?_, h.cap, fun j hj => ?_, h.bl, fun h1 => ?_⟩
  · rw [(close_e x hk hj).2.2.2.1, (close_e x hk (show 1 - j < 2 by omega)).2.2.1]; exact h.wr j hj
  · rw [(close_e x hk hj).2.2.2.2]; exact h.le j hj
  · rw [(close_e x hk hj).2.2.2.2]; exact h.nb j hj (by rw [← (close_e x hk hj).2.2.1]; exact hr)
  · rw [(close_e x hk hj).1]; split
    · decide
    · exact h.what j hj
  · rw [(close_e x hk (by omega)).2.2.1, (close_e x hk (by omega)).2.2.1]
    refine h.ou ?_
    rw [(close_e x hk (by omega)).1] at h1
    split at h1
    · cases h1
    · exact h1
theorem WOk.closeW {w : WA} (h : WOk w) {n k : Nat} {x : WireA} {fd : Int} (hn : w.at fd = some (n, k)) (hx : w.ws[n]? = some x) : WOk (w.setW n (Wo.closeW x k)) ∧ (w.setW n (Wo.closeW x k)).at = setT w.at fd none := by
  obtain ⟨_, _, hk, _, x', hx', hxw, hxf⟩ := h.at_lt hn
  rw [hx] at hx'; obtain rfl := Option.some.inj hx'
  have hlt := (List.getElem?_eq_some_iff.1 hx).1
  have hfm : (w.setW n (Wo.closeW x k)).ws.flatMap WireA.wt = w.ws.flatMap WireA.wt := flatMap_set hx rfl
  have hat : ∀ {m : Nat} {y : WireA}, (w.setW n (Wo.closeW x k)).ws[m]? = some y → ∃ z, w.ws[m]? = some z ∧ ∀ j, j < 2 → ((y.e j).what = 1 → (z.e j).what = 1 ∧ ¬ (m = n ∧ j = k)) ∧ (y.e j).fd = (z.e j).fd := fun {m} {y} hm => by
    rcases set_at hm with ⟨rfl, rfl⟩ | ⟨hne, hm⟩
    · refine ⟨x, hx, fun j hj => ⟨fun h1 => ?_, (close_e x hk hj).2.1⟩⟩
      rw [(close_e x hk hj).1] at h1
      split at h1
      · cases h1
      · rename_i h2; exact ⟨h1, fun h3 => h2 h3.2⟩
    · exact ⟨y, hm, fun j _ => ⟨fun h1 => ⟨h1, fun h3 => hne h3.1⟩, rfl⟩⟩
  have hok : WOk (w.setW n (Wo.closeW x k)) := by
    refine ⟨?_, ?_, ?_, h.hdl, h.ctl, ?_, by rw [hfm]; exact h.wn, ?_, ?_, fun m y hm => by
      rcases set_at hm with ⟨rfl, rfl⟩ | ⟨_, hm⟩
      · exact fun e => h.ns _ x hx e
      · exact h.ns _ _ hm⟩
    · intro a b y z i j ha hb hi hj h1 h2 h3
      obtain ⟨y', ha', hy⟩ := hat ha
      obtain ⟨z', hb', hz⟩ := hat hb
      exact h.uq a b y' z' i j ha' hb' hi hj ((hy i hi).1 h1).1 ((hz j hj).1 h2).1 (by rw [← (hy i hi).2, ← (hz j hj).2]; exact h3)
    · intro y hy j hj h1
      obtain ⟨m, hm, e⟩ := List.getElem_of_mem hy
      obtain ⟨z, hz, he⟩ := hat (m := m) (y := y) (by rw [List.getElem?_eq_getElem hm, e])
      have := h.fd z (List.mem_of_getElem? hz) j hj ((he j hj).1 h1).1
      rw [(he j hj).2]; exact this
    · show (w.ws.set n _).length ≤ 1000; rw [List.length_set]; exact h.len
    · intro y hy
      rcases List.mem_or_eq_of_mem_set hy with hy | rfl
      · exact h.wf y hy
      · exact close_wf (h.wf x (List.mem_of_getElem? hx)) hk
    · intro m hm
      rw [hfm] at hm
      obtain ⟨z, hz, h0⟩ := h.wm m hm
      by_cases e : m = n
      · subst e
        rw [hx] at hz; obtain rfl := Option.some.inj hz
        refine ⟨Wo.closeW x k, by show (w.ws.set m _)[m]? = _; rw [List.getElem?_set_self hlt], ?_⟩
        rw [(close_e x hk (by omega)).1, if_neg]
        · exact h0
        · intro e2; subst e2; rw [h0] at hxw; cases hxw
      · exact ⟨z, by show (w.ws.set n _)[m]? = _; rw [List.getElem?_set_ne (Ne.symm e)]; exact hz, h0⟩
    · intro m j hm
      obtain ⟨hj, z, hz, h0, h1⟩ := h.nt m j hm
      by_cases e : m = n
      · subst e
        rw [hx] at hz; obtain rfl := Option.some.inj hz
        exact ⟨hj, Wo.closeW x k, by show (w.ws.set m _)[m]? = _; rw [List.getElem?_set_self hlt], by rw [(close_e x hk (by omega)).2.2.1]; exact h0, by rw [(close_e x hk (by omega)).2.2.1]; exact h1⟩
      · exact ⟨hj, z, by show (w.ws.set n _)[m]? = _; rw [List.getElem?_set_ne (Ne.symm e)]; exact hz, h0, h1⟩
  refine ⟨hok, ?_⟩
  funext f
  show _ = if f = fd then none else w.at f
  split
  · rename_i e; subst e
    rw [show (w.setW n (Wo.closeW x k)).at f = none ↔ _ from atW_no]
    intro y hy j hj ⟨h1, h2⟩
    obtain ⟨m, hm, e⟩ := List.getElem_of_mem hy
    obtain ⟨z, hz, he⟩ := hat (m := m) (y := y) (by rw [List.getElem?_eq_getElem hm, e])
    obtain ⟨a1, a2⟩ := (he j hj).1 h1
    rw [(he j hj).2] at h2
    exact a2 (h.uq m n z x j k hz hx hj hk a1 hxw (by rw [h2, hxf]))
  · rename_i hne
    refine atW_ext hok.uq h.uq fun m j hj => ?_
    constructor
    · rintro ⟨y, hy, h1, h2⟩
      obtain ⟨z, hz, he⟩ := hat hy
      exact ⟨z, hz, ((he j hj).1 h1).1, by rw [← (he j hj).2]; exact h2⟩
    · rintro ⟨z, hz, h1, h2⟩
      by_cases e : m = n
      · subst e
        rw [hx] at hz; obtain rfl := Option.some.inj hz
        refine ⟨Wo.closeW x k, by show (w.ws.set m _)[m]? = _; rw [List.getElem?_set_self hlt], ?_, by rw [(close_e x hk hj).2.1]; exact h2⟩
        rw [(close_e x hk hj).1, if_neg]
        · exact h1
        · intro e2; subst e2; exact hne (by rw [← h2, hxf])
      · exact ⟨z, by show (w.ws.set n _)[m]? = _; rw [List.getElem?_set_ne (Ne.symm e)]; exact hz, h1, h2⟩
theorem world_put {wb n b : Nat} {w : WA} {i : WoI} {x x' : WireA} {t : Int → Option (Nat × Nat)} {L : List SP} (hrs : i.rs.map Prod.snd = w.ws) (hb : i.rs[n]? = some (b, x)) (hok : WOk (w.setW n x')) (hat : (w.setW n x').at = t) :
    ∀ h, sep (WireP b x' :: WoH wb t w i.rs.length i :: own 81 1 i.wa i.rs.length i.wc (pws i.rs) :: SigP i.sb w.hd w.ct :: Wires (i.rs.take n) :: Wires (i.rs.drop (n + 1)) :: L) h → sep (WorldP wb (w.setW n x') :: L) h := by
  intro h s
  have hn := (List.getElem?_eq_some_iff.1 hb).1
  have h1 : sep (WireP b x' :: Wires (i.rs.take n) :: Wires (i.rs.drop (n + 1)) :: WoH wb t w i.rs.length i :: own 81 1 i.wa i.rs.length i.wc (pws i.rs) :: SigP i.sb w.hd w.ct :: L) h := Ent.sep enn h s
  have h2 := ws_in hn h1
  have hl : (i.rs.set n (b, x')).length = i.rs.length := List.length_set ..
  have hp := pws_set (x' := x') hb
  refine Ent.sep (.ex { i with rs := i.rs.set n (b, x') } (.pure ⟨hok, by show (i.rs.set n (b, x')).map Prod.snd = w.ws.set n x'; rw [List.map_set, hrs]⟩ ?_)) h h2
  exact .eq pkk (pt_eq (show fdC t ++ woT w i.rs.length i = fdC (w.setW n x').at ++ woT (w.setW n x') (i.rs.set n (b, x')).length { i with rs := i.rs.set n (b, x') } by rw [hat, hl]; rfl)) (.eq pkk (own_eq3 hl.symm rfl hp.symm) enn)
end Wo
end Go.Proofs.Ytbfddabjbkohdaa
namespace Go.Proofs.Ytbfddabjbkohdaa
set_option linter.unusedSimpArgs false
set_option linter.unusedVariables false
set_option linter.unnecessarySimpa false
open Go.RX Fx
namespace Wo
set_option maxRecDepth 8000
def wireN : Option (Nat × Nat) → Int
  | none => 0
  | some (n, _) => (n : Int)
theorem plc1 (o : Option (Nat × Nat)) : (plc o)[1]? = some (.int .i64 (wireN o)) := by
  cases o with
  | none => rfl
  | some p => obtain ⟨n, k⟩ := p; rfl
set_option maxHeartbeats 2000000 in
theorem wwire_ct (L : List SP) (wb : Nat) (w : WA) (fd : Int) : Ct Try.prog 37 #[.pointer (some ⟨wb, 0, none⟩), .int .i64 fd] (WorldP wb w :: L) (fun _ : Unit => .tuple #[.int .i64 (wireN (w.at fd)), .int .i64 (fdErr (w.at fd))]) (fun _ : Unit => WorldP wb w :: L) := by
  refine Ct.of (vs := [.pointer (some ⟨wb, 0, none⟩), .int .i64 fd]) Try.func37 rfl rfl [(0, .pointer (some ⟨wb, 0, none⟩)), (1, .int .i64 fd)] (by repeat (first | exact trivial | refine ⟨rfl, ?_⟩)) ?_
  intro E
  show Hd E 19 _ _ _ _
  refine Hd.world .here (fun i hw hrs => ?_)
  refine Hd.seq (fun K1 hK1 => ?_)
  refine Hd.region ?_
  refine Hd.yv (y_assign rfl) ?_
  refine Hd.yv (y_assign rfl) ?_
  refine Hd.nil ?_
  refine Hd.slots [(0, _), (1, _)] ⟨rfl, rfl, trivial⟩ ?_
  refine Hd.toK hK1 ?_
  refine Hd.seq (fun K2 hK2 => ?_)
  refine Hd.region ?_
  refine Hd.yv (y_move rfl) ?_
  refine Hd.yv (y_move rfl) ?_
  refine Hd.callE rfl fk46 (find_ct _ wb w i hw hrs fd) (Ent.sep enn) ?_
  intro _
  refine Hd.yv (y_move rfl) ?_
  refine Hd.yv (y_extract rfl rfl) ?_
  refine Hd.yv (y_extract rfl rfl) ?_
  refine Hd.yv (y_extract rfl rfl) ?_
  refine Hd.alloc zr75 (fun b6 => ?_)
  refine Hd.storeA (us := plc (w.at fd)) (by rw [plc_len]; exact sz75) rfl rfl rfl (plc_one _) pkk (by rw [plc_len]; rfl) ?_
  refine Hd.yv (y_assign rfl) ?_
  refine Hd.yv (y_assign rfl) ?_
  refine Hd.nil ?_
  refine Hd.slots [(6, _), (8, _)] ⟨rfl, rfl, trivial⟩ ?_
  refine Hd.toK hK2 ?_
  refine Hd.seq (fun K3 hK3 => ?_)
  refine Hd.region ?_
  first | (refine Hd.yv (y_field' (q := 1) (ft := 3) Try.underlying75 rfl sz3 rfl rfl) ?_) | (refine Hd.yv (y_fieldR (q := 1) (ft := 3) Try.underlying75 rfl sz3 rfl rfl) ?_)
  first | (refine Hd.yv (y_load1 ag3 rfl (Rd.pt1 pkk (by (first | exact plc1 _ | rfl)))) ?_) | (refine Hd.yv (y_load1 ag3 rfl (Rd.seg1 pkk (by (first | exact plc1 _ | rfl)))) ?_) | (refine Hd.yv (y_loadR1 ag3 rfl (by (first | exact RdS.own pkk)) (by (first | exact plc1 _ | rfl))) ?_)
  refine Hd.yv (y_move rfl) ?_
  refine Hd.yv (y_assign rfl) ?_
  refine Hd.yv (y_assign rfl) ?_
  refine Hd.nil ?_
  refine Hd.slots [(4, _), (5, _)] ⟨rfl, rfl, trivial⟩ ?_
  refine Hd.toK hK3 ?_
  refine Hd.ret ?_
  clear hK1 hK2 hK3
  exact Hd.ret2 rfl () rfl rfl rfl (Ent.sep (.ex i (.pure ⟨hw, hrs⟩ enn)))
end Wo
end Go.Proofs.Ytbfddabjbkohdaa
namespace Go.Proofs.Ytbfddabjbkohdaa
set_option linter.unusedSimpArgs false
set_option linter.unusedVariables false
set_option linter.unnecessarySimpa false
open Go.RX Fx
namespace Kq
open Wo
set_option maxRecDepth 8000
structure KnA where
  wire : Int
  flags : Int
  armed : Bool
  seen : Int
abbrev encKn (x : KnA) : List Value := [.int .i64 x.wire, .int .i64 x.flags, .bool x.armed, .int .u64 x.seen]
abbrev zKn : KnA := ⟨0, 0, false, 0⟩
def kmap (f : Int × Int → Option KnA) : Int × Int → Option Value := fun a => (f a).map fun x => .agg (encKn x).toArray
theorem kmap_get (f : Int × Int → Option KnA) (a : Int × Int) : (kmap f a).getD (.agg (encKn zKn).toArray) = .agg (encKn ((f a).getD zKn)).toArray := by
  unfold kmap; cases f a <;> rfl
theorem kmap_some (f : Int × Int → Option KnA) (a : Int × Int) : (kmap f a).isSome = (f a).isSome := by unfold kmap; cases f a <;> rfl
abbrev KqH (qb wb mb : Nat) : SP := pt qb [.pointer (some ⟨wb, 0, none⟩), .map (some mb)] 69
def isK (f : Int × Int → Option KnA) (w : WA) (a : Int × Int) : Bool := match f a with
  | none => false
  | some x => if a.2 = 3 then true else decide ((w.at a.1).isSome = true ∧ wireN (w.at a.1) = x.wire)
theorem isK_call {f : Int × Int → Option KnA} {w : WA} {a : Int × Int} (h : (f a).isSome = true ∧ a.2 ≠ 3) : (decide (fdErr (w.at a.1) = 0) && decide (wireN (w.at a.1) = ((f a).getD zKn).wire)) = isK f w a := by
  unfold isK
  cases hf : f a with
  | none => rw [hf] at h; simp at h
  | some x =>
    simp only [if_neg h.2, Option.getD_some]
    cases ho : w.at a.1 with
    | none => simp [fdErr]
    | some p => simp [fdErr]
theorem isK_no {f : Int × Int → Option KnA} {w : WA} {a : Int × Int} (h : ¬((f a).isSome = true ∧ a.2 ≠ 3)) : (f a).isSome = isK f w a := by
  unfold isK
  cases hf : f a with
  | none => rfl
  | some x =>
    rw [hf] at h
    have : a.2 = 3 := by simpa using h
    simp [this]
set_option maxHeartbeats 2000000 in
theorem kfindG_ct (L : List SP) (qb wb mb : Nat) (f : Int × Int → Option KnA) (m : Nat) (w : WA) (fd flt : Int) (M : SP) (hM : ∀ (L0 : List SP) q, sep (M :: L0) q → sep (mpP mb .i64 (kmap f) m :: L0) q) : Ct Try.prog 87 #[.pointer (some ⟨qb, 0, none⟩), .agg #[.int .i64 fd, .int .i64 flt]] (KqH qb wb mb :: M :: WorldP wb w :: L) (fun _ : Unit => .tuple #[.agg (encKn ((f (fd, flt)).getD zKn)).toArray, .bool (isK f w (fd, flt))]) (fun _ : Unit => KqH qb wb mb :: M :: WorldP wb w :: L) := by
  refine Ct.of (vs := [.pointer (some ⟨qb, 0, none⟩), .agg #[.int .i64 fd, .int .i64 flt]]) Try.func87 rfl rfl [(0, .pointer (some ⟨qb, 0, none⟩)), (1, .agg #[.int .i64 fd, .int .i64 flt])] (by repeat (first | exact trivial | refine ⟨rfl, ?_⟩)) ?_
  intro E
  show Hd E 45 _ _ _ _
  refine Hd.seq (fun K1 hK1 => ?_)
  refine Hd.region ?_
  refine Hd.box rfl rfl (fun b3 => ?_)
  refine Hd.alloc zr123 (fun b4 => ?_)
  refine Hd.yv (y_assign rfl) ?_
  refine Hd.nil ?_
  refine Hd.slots [(0, _), (3, _), (4, _)] ⟨rfl, rfl, rfl, trivial⟩ ?_
  refine Hd.toK hK1 ?_
  refine Hd.cutK (ι := Nat) [(0, _), (3, _), (4, _)] (fun b6 => [(6, .pointer (some ⟨b6, 0, none⟩)), (7, .bool (f (fd, flt)).isSome)]) (fun b6 => pt b6 (encKn ((f (fd, flt)).getD zKn)) 123 :: pt b4 (encKn zKn) 123 :: pt b3 [.int .i64 fd, .int .i64 flt] 121 :: KqH qb wb mb :: M :: WorldP wb w :: L) ?_ ?_ ⟨rfl, rfl, rfl, trivial⟩
  ·
    refine Hd.drawsH ([KqH qb wb mb, M, pt b3 [.int .i64 fd, .int .i64 flt] 121]) (fun j => !([10].contains j)) mixed ?_
    simp only [List.length, Nat.zero_add, Nat.reduceAdd]
    refine Hd.takeH 0 rfl (by kernel_rfl) (by kernel_rfl) (by kernel_rfl) (by kernel_rfl) (y_move rfl) (fun _ _ => rfl) (Ent.sep enn) ?_
    refine Hd.takeH 1 rfl (by kernel_rfl) (by kernel_rfl) (by kernel_rfl) (by kernel_rfl) (y_nilp rfl) (fun _ _ => rfl) (Ent.sep enn) ?_
    first | (refine Hd.takeH 2 rfl (by kernel_rfl) (by kernel_rfl) (by kernel_rfl) (by kernel_rfl) (y_field' (q := 1) (ft := 67) Try.underlying69 rfl sz67 rfl rfl) (fun _ _ => rfl) (Ent.sep enn) ?_) | (refine Hd.takeH 2 rfl (by kernel_rfl) (by kernel_rfl) (by kernel_rfl) (by kernel_rfl) (y_fieldR (q := 1) (ft := 67) Try.underlying69 rfl sz67 rfl rfl) (fun _ _ => rfl) (Ent.sep enn) ?_)
    first | (refine Hd.takeH 3 rfl (by kernel_rfl) (by kernel_rfl) (by kernel_rfl) (by kernel_rfl) (y_load1 ag67 rfl (Rd.pt1 pkk (by (first | rfl)))) (fun _ _ => rfl) (Ent.sep enn) ?_) | (refine Hd.takeH 3 rfl (by kernel_rfl) (by kernel_rfl) (by kernel_rfl) (by kernel_rfl) (y_load1 ag67 rfl (Rd.seg1 pkk (by (first | rfl)))) (fun _ _ => rfl) (Ent.sep enn) ?_) | (refine Hd.takeH 3 rfl (by kernel_rfl) (by kernel_rfl) (by kernel_rfl) (by kernel_rfl) (y_loadR1 ag67 rfl (by (first | exact RdS.own pkk)) (by (first | rfl))) (fun _ _ => rfl) (Ent.sep enn) ?_)
    first | (refine Hd.takeH 4 rfl (by kernel_rfl) (by kernel_rfl) (by kernel_rfl) (by kernel_rfl) (y_loadn (us := [_, _]) ag121 rfl (Rd.pt pkk (by (first | (intro j v e; rcases j with _|_|_|_|_|_|_|_|_|_|_|_|j <;> first | exact e | exact absurd e (by simp))))) (by exact sz121)) (fun _ _ => rfl) (Ent.sep enn) ?_) | (refine Hd.takeH 4 rfl (by kernel_rfl) (by kernel_rfl) (by kernel_rfl) (by kernel_rfl) (y_loadn (us := [_, _]) ag121 rfl (Rd.seg pkk (by (first | (intro j v e; rcases j with _|_|_|_|_|_|_|_|_|_|_|_|j <;> first | exact e | exact absurd e (by simp))))) (by exact sz121)) (fun _ _ => rfl) (Ent.sep enn) ?_) | (refine Hd.takeH 4 rfl (by kernel_rfl) (by kernel_rfl) (by kernel_rfl) (by kernel_rfl) (y_loadRn ag121 rfl (by (first | exact RdS.own pkk)) (by (first | (intro j v e; rcases j with _|_|_|_|_|_|_|_|_|_|_|_|j <;> first | exact e | exact absurd e (by simp)))) (by exact sz121) (by simp)) (fun _ _ => rfl) (Ent.sep enn) ?_)
    refine Hd.takeH 5 rfl (by kernel_rfl) (by kernel_rfl) (by kernel_rfl) (by kernel_rfl) (y_lookup2G hM mapt67 rfl rfl pkk) (fun _ _ => rfl) (Ent.sep enn) ?_
    refine Hd.takeH 6 rfl (by kernel_rfl) (by kernel_rfl) (by kernel_rfl) (by kernel_rfl) (y_move rfl) (fun _ _ => rfl) (Ent.sep enn) ?_
    refine Hd.takeH 7 rfl (by kernel_rfl) (by kernel_rfl) (by kernel_rfl) (by kernel_rfl) (y_to (v' := .agg (encKn ((f (fd, flt)).getD zKn)).toArray) (y_extract rfl rfl) (by exact kmap_get f (fd, flt))) (fun _ _ => rfl) (Ent.sep enn) ?_
    refine Hd.eitherH 8 9 rfl rfl (by kernel_rfl) ?_ ?_
    ·
      refine Hd.yv (y_to (v' := .bool (f (fd, flt)).isSome) (y_extract rfl rfl) (by (rw [← kmap_some]; rfl))) ?_
      refine Hd.nil ?_
      refine Hd.thenN ?_
      refine Hd.heldK (J := (fun j => !([10].contains j))) (i := 8) (Ent.sep enn) ?_
      refine Hd.onlyH 9 rfl (by kernel_rfl) ?_
      refine Hd.alloc zr123 (fun b6 => ?_)
      refine Hd.nil ?_
      refine Hd.thenN ?_
      refine Hd.heldK (J := (fun j => !([10].contains j))) (i := 9) (Ent.sep enn) ?_
      refine Hd.onlyH 10 rfl (by kernel_rfl) ?_
      refine Hd.storeA (us := encKn ((f (fd, flt)).getD zKn)) sz123 rfl rfl rfl (by simp [Value.oneCell']) pkk (by exact rfl) ?_
      refine Hd.nil ?_
      refine Hd.thenN ?_
      refine Hd.heldN (J := (fun j => !([10].contains j))) (i := 10) rfl ?_
      refine Hd.onlyH 11 rfl (by kernel_rfl) ?_
      refine Hd.yv (y_assign rfl) ?_
      refine Hd.nil ?_
      refine Hd.thenN ?_
      refine Hd.heldK (J := (fun j => !([10].contains j))) (i := 11) (Ent.sep enn) ?_
      refine Hd.endH (by kernel_rfl) ?_
      refine Hd.slots [(0, _), (3, _), (4, _), (6, _), (7, _)] ⟨rfl, rfl, rfl, rfl, rfl, trivial⟩ ?_
      clear hK1
      refine Hd.thenN ?_
      exact Hd.meet b6 (by repeat (first | exact trivial | refine ⟨rfl, ?_⟩)) (Ent.sep enn)
    ·
      refine Hd.alloc zr123 (fun b6 => ?_)
      refine Hd.nil ?_
      refine Hd.thenN ?_
      refine Hd.heldK (J := (fun j => !([10].contains j))) (i := 9) (Ent.sep enn) ?_
      refine Hd.eitherH 8 10 rfl rfl (by kernel_rfl) ?_ ?_
      ·
        refine Hd.yv (y_to (v' := .bool (f (fd, flt)).isSome) (y_extract rfl rfl) (by (rw [← kmap_some]; rfl))) ?_
        refine Hd.nil ?_
        refine Hd.thenN ?_
        refine Hd.heldK (J := (fun j => !([10].contains j))) (i := 8) (Ent.sep enn) ?_
        refine Hd.onlyH 10 rfl (by kernel_rfl) ?_
        refine Hd.storeA (us := encKn ((f (fd, flt)).getD zKn)) sz123 rfl rfl rfl (by simp [Value.oneCell']) pkk (by exact rfl) ?_
        refine Hd.nil ?_
        refine Hd.thenN ?_
        refine Hd.heldN (J := (fun j => !([10].contains j))) (i := 10) rfl ?_
        refine Hd.onlyH 11 rfl (by kernel_rfl) ?_
        refine Hd.yv (y_assign rfl) ?_
        refine Hd.nil ?_
        refine Hd.thenN ?_
        refine Hd.heldK (J := (fun j => !([10].contains j))) (i := 11) (Ent.sep enn) ?_
        refine Hd.endH (by kernel_rfl) ?_
        refine Hd.slots [(0, _), (3, _), (4, _), (6, _), (7, _)] ⟨rfl, rfl, rfl, rfl, rfl, trivial⟩ ?_
        clear hK1
        refine Hd.thenN ?_
        exact Hd.meet b6 (by repeat (first | exact trivial | refine ⟨rfl, ?_⟩)) (Ent.sep enn)
      ·
        refine Hd.storeA (us := encKn ((f (fd, flt)).getD zKn)) sz123 rfl rfl rfl (by simp [Value.oneCell']) pkk (by exact rfl) ?_
        refine Hd.nil ?_
        refine Hd.thenN ?_
        refine Hd.heldN (J := (fun j => !([10].contains j))) (i := 10) rfl ?_
        refine Hd.onlyH 8 rfl (by kernel_rfl) ?_
        refine Hd.yv (y_to (v' := .bool (f (fd, flt)).isSome) (y_extract rfl rfl) (by (rw [← kmap_some]; rfl))) ?_
        refine Hd.nil ?_
        refine Hd.thenN ?_
        refine Hd.heldK (J := (fun j => !([10].contains j))) (i := 8) (Ent.sep enn) ?_
        refine Hd.onlyH 11 rfl (by kernel_rfl) ?_
        refine Hd.yv (y_assign rfl) ?_
        refine Hd.nil ?_
        refine Hd.thenN ?_
        refine Hd.heldK (J := (fun j => !([10].contains j))) (i := 11) (Ent.sep enn) ?_
        refine Hd.endH (by kernel_rfl) ?_
        refine Hd.slots [(0, _), (3, _), (4, _), (6, _), (7, _)] ⟨rfl, rfl, rfl, rfl, rfl, trivial⟩ ?_
        clear hK1
        refine Hd.thenN ?_
        exact Hd.meet b6 (by repeat (first | exact trivial | refine ⟨rfl, ?_⟩)) (Ent.sep enn)
  ·
    intro b6
    refine Hd.seq (fun K2 hK2 => ?_)
    refine Hd.seq (fun K3 hK3 => ?_)
    refine Hd.region ?_
    refine Hd.yv (y_move rfl) ?_
    refine Hd.yv (y_move rfl) ?_
    apply Hd.andg 4 20 24 [(0, _), (3, _), (4, _), (6, _), (7, _)] rfl ⟨rfl, rfl, rfl, rfl, rfl, trivial⟩
    · intro hg2_20
      try simp only [decide_eq_true_eq, decide_eq_false_iff_not, Bool.and_eq_true, Bool.or_eq_true, Bool.and_eq_false_iff, Bool.or_eq_false_iff, Bool.not_eq_true', Bool.not_eq_false', Bool.not_eq_true, Bool.not_eq_false, Int.not_lt, Int.not_le, Decidable.not_not, ne_eq] at hg2_20
      simp only [List.take]
      first | (refine Hd.yg rfl rfl (y_field' (q := 1) (ft := 3) Try.underlying121 rfl sz3 rfl rfl) ?_) | (refine Hd.yg rfl rfl (y_fieldR (q := 1) (ft := 3) Try.underlying121 rfl sz3 rfl rfl) ?_)
      first | (refine Hd.yg rfl rfl (y_load1 ag3 rfl (Rd.pt1 pkk (by (first | rfl)))) ?_) | (refine Hd.yg rfl rfl (y_load1 ag3 rfl (Rd.seg1 pkk (by (first | rfl)))) ?_) | (refine Hd.yg rfl rfl (y_loadR1 ag3 rfl (by (first | exact RdS.own pkk)) (by (first | rfl))) ?_)
      refine Hd.yg rfl rfl (y_neq rfl rfl) ?_
      first | (refine Hd.yv (y_pickT rfl rfl) ?_) | (refine Hd.yv (y_pickF rfl rfl) ?_) | (refine Hd.yv (y_pickb rfl rfl rfl) ?_) | (refine Hd.yv (y_pick rfl rfl rfl) ?_)
      refine Hd.nil ?_
      exact Hd.mend (by repeat (first | exact trivial | refine ⟨rfl, ?_⟩)) (Ent.sep enn)
    · intro hg2_20
      try simp only [decide_eq_true_eq, decide_eq_false_iff_not, Bool.and_eq_true, Bool.or_eq_true, Bool.and_eq_false_iff, Bool.or_eq_false_iff, Bool.not_eq_true', Bool.not_eq_false', Bool.not_eq_true, Bool.not_eq_false, Int.not_lt, Int.not_le, Decidable.not_not, ne_eq] at hg2_20
      simp only [List.take]
      refine Hd.ng rfl rfl rfl ?_
      refine Hd.ng rfl rfl rfl ?_
      refine Hd.ng rfl rfl rfl ?_
      first | (refine Hd.yv (y_pickT rfl rfl) ?_) | (refine Hd.yv (y_pickF rfl rfl) ?_) | (refine Hd.yv (y_pickb rfl rfl rfl) ?_) | (refine Hd.yv (y_pick rfl rfl rfl) ?_)
      refine Hd.nil ?_
      exact Hd.mend (by repeat (first | exact trivial | refine ⟨rfl, ?_⟩)) (Ent.sep enn)
    simp only [List.drop]
    refine Hd.nil ?_
    refine Hd.slots [(0, _), (3, _), (4, _), (6, _), (7, _), (24, _)] ⟨rfl, rfl, rfl, rfl, rfl, rfl, trivial⟩ ?_
    refine Hd.toK hK3 ?_
    refine Hd.cond rfl (fun hc0 => ?_) (fun hc0 => ?_)
    ·
      try simp only [decide_eq_true_eq, decide_eq_false_iff_not, Bool.and_eq_true, Bool.or_eq_true, Bool.and_eq_false_iff, Bool.or_eq_false_iff, Bool.not_eq_true', Bool.not_eq_false', Bool.not_eq_true, Bool.not_eq_false, Int.not_lt, Int.not_le, Decidable.not_not, ne_eq] at hc0
      refine Hd.seq (fun K4 hK4 => ?_)
      refine Hd.quiet mixed (by kernel_rfl) ?_
      refine Hq.yv (y_move rfl) ?_
      refine Hq.yv (y_nilp rfl) ?_
      first | (refine Hq.yv (y_field' (q := 0) (ft := 27) Try.underlying69 rfl sz27 rfl rfl) ?_) | (refine Hq.yv (y_fieldR (q := 0) (ft := 27) Try.underlying69 rfl sz27 rfl rfl) ?_)
      first | (refine Hq.yv (y_load1 ag27 rfl (Rd.pt1 pkk (by (first | rfl)))) ?_) | (refine Hq.yv (y_load1 ag27 rfl (Rd.seg1 pkk (by (first | rfl)))) ?_) | (refine Hq.yv (y_loadR1 ag27 rfl (by (first | exact RdS.own pkk)) (by (first | rfl))) ?_)
      first | (refine Hq.yv (y_field' (q := 0) (ft := 3) Try.underlying121 rfl sz3 rfl rfl) ?_) | (refine Hq.yv (y_fieldR (q := 0) (ft := 3) Try.underlying121 rfl sz3 rfl rfl) ?_)
      first | (refine Hq.yv (y_load1 ag3 rfl (Rd.pt1 pkk (by (first | rfl)))) ?_) | (refine Hq.yv (y_load1 ag3 rfl (Rd.seg1 pkk (by (first | rfl)))) ?_) | (refine Hq.yv (y_loadR1 ag3 rfl (by (first | exact RdS.own pkk)) (by (first | rfl))) ?_)
      refine Hq.call rfl fk37 ((wwire_ct _ wb w fd).swap (Ent.sep enn) (Ent.sep enn)) ?_
      refine Hq.yv (y_move rfl) ?_
      refine Hq.yv (y_extract rfl rfl) ?_
      refine Hq.yv (y_extract rfl rfl) ?_
      refine Hq.yv (y_assign rfl) ?_
      refine Hq.yv (y_assign rfl) ?_
      refine Hq.nil ?_
      refine Hd.slots [(4, _), (6, _), (8, _), (9, _)] ⟨rfl, rfl, rfl, rfl, trivial⟩ ?_
      refine Hd.toK hK4 ?_
      refine Hd.region ?_
      refine Hd.yv (y_move rfl) ?_
      first | (refine Hd.yv (y_eqlT rfl rfl) ?_) | (refine Hd.yv (y_eql rfl rfl) ?_)
      refine Hd.yv (y_move rfl) ?_
      apply Hd.andg 5 37 42 [(4, _), (6, _)] rfl ⟨rfl, rfl, trivial⟩
      · intro hg4_37
        try simp only [decide_eq_true_eq, decide_eq_false_iff_not, Bool.and_eq_true, Bool.or_eq_true, Bool.and_eq_false_iff, Bool.or_eq_false_iff, Bool.not_eq_true', Bool.not_eq_false', Bool.not_eq_true, Bool.not_eq_false, Int.not_lt, Int.not_le, Decidable.not_not, ne_eq] at hg4_37
        simp only [List.take]
        refine Hd.yg rfl rfl (y_move rfl) ?_
        first | (refine Hd.yg rfl rfl (y_field' (q := 0) (ft := 3) Try.underlying123 rfl sz3 rfl rfl) ?_) | (refine Hd.yg rfl rfl (y_fieldR (q := 0) (ft := 3) Try.underlying123 rfl sz3 rfl rfl) ?_)
        first | (refine Hd.yg rfl rfl (y_load1 ag3 rfl (Rd.pt1 pkk (by (first | rfl)))) ?_) | (refine Hd.yg rfl rfl (y_load1 ag3 rfl (Rd.seg1 pkk (by (first | rfl)))) ?_) | (refine Hd.yg rfl rfl (y_loadR1 ag3 rfl (by (first | exact RdS.own pkk)) (by (first | rfl))) ?_)
        first | (refine Hd.yg rfl rfl (y_eqlT rfl rfl) ?_) | (refine Hd.yg rfl rfl (y_eql rfl rfl) ?_)
        first | (refine Hd.yv (y_pickT rfl rfl) ?_) | (refine Hd.yv (y_pickF rfl rfl) ?_) | (refine Hd.yv (y_pickb rfl rfl rfl) ?_) | (refine Hd.yv (y_pick rfl rfl rfl) ?_)
        refine Hd.nil ?_
        exact Hd.mend (by repeat (first | exact trivial | refine ⟨rfl, ?_⟩)) (Ent.sep enn)
      · intro hg4_37
        try simp only [decide_eq_true_eq, decide_eq_false_iff_not, Bool.and_eq_true, Bool.or_eq_true, Bool.and_eq_false_iff, Bool.or_eq_false_iff, Bool.not_eq_true', Bool.not_eq_false', Bool.not_eq_true, Bool.not_eq_false, Int.not_lt, Int.not_le, Decidable.not_not, ne_eq] at hg4_37
        simp only [List.take]
        refine Hd.ng rfl rfl rfl ?_
        refine Hd.ng rfl rfl rfl ?_
        refine Hd.ng rfl rfl rfl ?_
        refine Hd.ng rfl rfl rfl ?_
        first | (refine Hd.yv (y_pickT rfl rfl) ?_) | (refine Hd.yv (y_pickF rfl rfl) ?_) | (refine Hd.yv (y_pickb rfl rfl rfl) ?_) | (refine Hd.yv (y_pick rfl rfl rfl) ?_)
        refine Hd.nil ?_
        exact Hd.mend (by repeat (first | exact trivial | refine ⟨rfl, ?_⟩)) (Ent.sep enn)
      simp only [List.drop]
      refine Hd.yv (y_assign rfl) ?_
      refine Hd.nil ?_
      refine Hd.slots [(4, _), (6, _), (7, _)] ⟨rfl, rfl, rfl, trivial⟩ ?_
      refine Hd.toK hK2 ?_
      refine Hd.seq (fun K5 hK5 => ?_)
      refine Hd.region ?_
      first | (refine Hd.yv (y_loadn (us := [_, _, _, _]) ag123 rfl (Rd.pt pkk (by (first | (intro j v e; rcases j with _|_|_|_|_|_|_|_|_|_|_|_|j <;> first | exact e | exact absurd e (by simp))))) (by exact sz123)) ?_) | (refine Hd.yv (y_loadn (us := [_, _, _, _]) ag123 rfl (Rd.seg pkk (by (first | (intro j v e; rcases j with _|_|_|_|_|_|_|_|_|_|_|_|j <;> first | exact e | exact absurd e (by simp))))) (by exact sz123)) ?_) | (refine Hd.yv (y_loadRn ag123 rfl (by (first | exact RdS.own pkk)) (by (first | (intro j v e; rcases j with _|_|_|_|_|_|_|_|_|_|_|_|j <;> first | exact e | exact absurd e (by simp)))) (by exact sz123) (by simp)) ?_)
      refine Hd.yv (y_move rfl) ?_
      refine Hd.storeA (us := encKn ((f (fd, flt)).getD zKn)) sz123 rfl rfl rfl (by simp [Value.oneCell']) pkk (by exact rfl) ?_
      refine Hd.yv (y_assign rfl) ?_
      refine Hd.nil ?_
      refine Hd.slots [(4, _), (5, _)] ⟨rfl, rfl, trivial⟩ ?_
      refine Hd.toK hK5 ?_
      refine Hd.ret ?_
      clear hK1 hK2 hK3 hK4 hK5
      rw [← isK_call (w := w) (a := (fd, flt)) hc0]
      exact Hd.retCT rfl () ag123 rfl rfl (Rd.pt (b := b4) (us := encKn ((f (fd, flt)).getD zKn)) pkk (fun j v e => by rw [Nat.zero_add]; exact e)) (by exact sz123) rfl (Ent.sep enn)
    ·
      try simp only [decide_eq_true_eq, decide_eq_false_iff_not, Bool.and_eq_true, Bool.or_eq_true, Bool.and_eq_false_iff, Bool.or_eq_false_iff, Bool.not_eq_true', Bool.not_eq_false', Bool.not_eq_true, Bool.not_eq_false, Int.not_lt, Int.not_le, Decidable.not_not, ne_eq] at hc0
      refine Hd.skip ?_
      refine Hd.toK hK2 ?_
      refine Hd.seq (fun K6 hK6 => ?_)
      refine Hd.region ?_
      first | (refine Hd.yv (y_loadn (us := [_, _, _, _]) ag123 rfl (Rd.pt pkk (by (first | (intro j v e; rcases j with _|_|_|_|_|_|_|_|_|_|_|_|j <;> first | exact e | exact absurd e (by simp))))) (by exact sz123)) ?_) | (refine Hd.yv (y_loadn (us := [_, _, _, _]) ag123 rfl (Rd.seg pkk (by (first | (intro j v e; rcases j with _|_|_|_|_|_|_|_|_|_|_|_|j <;> first | exact e | exact absurd e (by simp))))) (by exact sz123)) ?_) | (refine Hd.yv (y_loadRn ag123 rfl (by (first | exact RdS.own pkk)) (by (first | (intro j v e; rcases j with _|_|_|_|_|_|_|_|_|_|_|_|j <;> first | exact e | exact absurd e (by simp)))) (by exact sz123) (by simp)) ?_)
      refine Hd.yv (y_move rfl) ?_
      refine Hd.storeA (us := encKn ((f (fd, flt)).getD zKn)) sz123 rfl rfl rfl (by simp [Value.oneCell']) pkk (by exact rfl) ?_
      refine Hd.yv (y_assign rfl) ?_
      refine Hd.nil ?_
      refine Hd.slots [(4, _), (5, _)] ⟨rfl, rfl, trivial⟩ ?_
      refine Hd.toK hK6 ?_
      refine Hd.ret ?_
      clear hK1 hK2 hK3 hK6
      rw [← isK_no (w := w) (a := (fd, flt)) (fun hh => by simp [hh.1] at hc0; exact hh.2 hc0)]
      exact Hd.retCT rfl () ag123 rfl rfl (Rd.pt (b := b4) (us := encKn ((f (fd, flt)).getD zKn)) pkk (fun j v e => by rw [Nat.zero_add]; exact e)) (by exact sz123) rfl (Ent.sep enn)
theorem kfind_ct (L : List SP) (qb wb mb : Nat) (f : Int × Int → Option KnA) (m : Nat) (w : WA) (fd flt : Int) : Ct Try.prog 87 #[.pointer (some ⟨qb, 0, none⟩), .agg #[.int .i64 fd, .int .i64 flt]] (KqH qb wb mb :: mpP mb .i64 (kmap f) m :: WorldP wb w :: L) (fun _ : Unit => .tuple #[.agg (encKn ((f (fd, flt)).getD zKn)).toArray, .bool (isK f w (fd, flt))]) (fun _ => KqH qb wb mb :: mpP mb .i64 (kmap f) m :: WorldP wb w :: L) :=
  kfindG_ct L qb wb mb f m w fd flt (mpP mb .i64 (kmap f) m) (fun _ _ h => h)
end Kq
end Go.Proofs.Ytbfddabjbkohdaa
namespace Go.Proofs.Ytbfddabjbkohdaa
set_option linter.unusedSimpArgs false
set_option linter.unusedVariables false
set_option linter.unnecessarySimpa false
open Go.RX Fx
namespace Sh
set_option maxRecDepth 8000
def swp {α : Type} (xs : List α) (i k : Nat) : List α :=
  match xs[i]?, xs[k]? with
  | some a, some b => (xs.set i b).set k a
  | _, _ => xs
theorem swp_len {α : Type} (xs : List α) (i k : Nat) : (swp xs i k).length = xs.length := by
  unfold swp; split <;> simp
def place (ord : List Int) (n i : Nat) : Nat := i + ((max 0 (ord.getD (i % ord.length) 0)) % ((n : Int) - i)).toNat
def shufTo {α : Type} (ord : List Int) (xs : List α) : Nat → List α
  | 0 => xs
  | i + 1 => if ord = [] then shufTo ord xs i else swp (shufTo ord xs i) i (place ord xs.length i)
theorem shuf_len {α : Type} (ord : List Int) (xs : List α) : ∀ i, (shufTo ord xs i).length = xs.length
  | 0 => rfl
  | i + 1 => by simp only [shufTo]; split <;> simp [swp_len, shuf_len ord xs i]
theorem shuf_nil {α : Type} {ord : List Int} (h : ord = []) (xs : List α) : ∀ i, shufTo ord xs i = xs
  | 0 => rfl
  | i + 1 => by simp only [shufTo, if_pos h]; exact shuf_nil h xs i
abbrev V (a : Int) : Value := .int .i64 a
theorem place_lt {ord : List Int} {n i : Nat} (h : i < n) : place ord n i < n := by
  unfold place
  have h1 := Int.emod_lt_of_pos (max 0 (ord.getD (i % ord.length) 0)) (b := (n : Int) - i) (by omega)
  have h2 := Int.emod_nonneg (max 0 (ord.getD (i % ord.length) 0)) (b := (n : Int) - i) (by omega)
  omega
theorem place_eq {ord : List Int} {n i : Nat} (h : i < n) {o : Int} (ho : ord[i % ord.length]? = some o) : (i : Int) + (max 0 o) % ((n : Int) - i) = (place ord n i : Int) := by
  unfold place
  have h2 := Int.emod_nonneg (max 0 o) (b := (n : Int) - i) (by omega)
  simp only [List.getD_eq_getElem?_getD, ho, Option.getD_some]
  omega
theorem swp_eq {α : Type} {xs : List α} {i k : Nat} (hi : i < xs.length) (hk : k < xs.length) : swp xs i k = (xs.set i xs[k]).set k xs[i] := by
  unfold swp; rw [List.getElem?_eq_getElem hi, List.getElem?_eq_getElem hk]
abbrev encNo (p : Int × Int × Int × Int) : List Value := [.int .i64 p.1, .int .i64 p.2.1, .int .i64 p.2.2.1, .int .i64 p.2.2.2]
theorem encNo_one (p : Int × Int × Int × Int) : ∀ u ∈ encNo p, u.oneCell' = true := by simp [Value.oneCell']
theorem cloneN_ct (L : List SP) (ad : Option Addr) (c : Nat) (xs : List (Int × Int × Int × Int)) (h : RdS L 4 ad xs.length (xs.flatMap encNo)) (hb : xs.length ≤ 10000000) :
    Ct Try.prog 92 #[.slice ad xs.length c] L (fun i : Option Addr × Nat => .slice i.1 xs.length i.2) (fun i => own 57 4 i.1 xs.length i.2 (xs.flatMap encNo) :: L) := by
  refine Ct.of (vs := [.slice ad xs.length c]) Try.func92 rfl rfl [(0, .slice ad xs.length c)] ⟨rfl, trivial⟩ ?_
  intro E
  show Hd E 8 _ _ _ _
  refine Hd.rdsF h (fun _ hnil => ?_)
  have h1 : ∀ u ∈ xs.flatMap encNo, u.oneCell' = true := fun u hu => by
    obtain ⟨y, _, hy⟩ := List.mem_flatMap.1 hu
    exact encNo_one y u hy
  refine Hd.seq (fun K1 hK1 => ?_)
  refine Hd.region ?_
  refine Hd.yv (y_assign rfl) ?_
  refine Hd.nil ?_
  refine Hd.slots [(0, _)] ⟨rfl, trivial⟩ ?_
  refine Hd.toK hK1 ?_
  refine Hd.seq (fun K2 hK2 => ?_)
  refine Hd.seq (fun K3 hK3 => ?_)
  refine Hd.region ?_
  refine Hd.yv (y_move rfl) ?_
  refine Hd.yv (y_eql_slice Try.underlying59 rfl rfl) ?_
  refine Hd.nil ?_
  refine Hd.slots [(0, _), (4, _)] ⟨rfl, rfl, trivial⟩ ?_
  refine Hd.toK hK3 ?_
  refine Hd.cond rfl (fun hc0 => ?_) (fun hc0 => ?_)
  ·
    try simp only [decide_eq_true_eq, decide_eq_false_iff_not, Bool.and_eq_true, Bool.or_eq_true, Bool.and_eq_false_iff, Bool.or_eq_false_iff, Bool.not_eq_true', Bool.not_eq_false', Bool.not_eq_true, Bool.not_eq_false, Int.not_lt, Int.not_le, Decidable.not_not, ne_eq] at hc0
    refine Hd.seq (fun K4 hK4 => ?_)
    refine Hd.region ?_
    refine Hd.yv (y_assign rfl) ?_
    refine Hd.nil ?_
    refine Hd.slots [(2, _)] ⟨rfl, trivial⟩ ?_
    refine Hd.toK hK4 ?_
    refine Hd.ret ?_
    refine Hd.thenRet ?_
    clear hK1 hK2 hK3 hK4
    have h0 : xs = [] := by
      have h2 := hnil (by simpa using hc0)
      have h3 := rows_len (enc := encNo) (k := 4) (fun _ => rfl) xs
      rw [h2] at h3
      exact List.eq_nil_of_length_eq_zero (by simp at h3; omega)
    subst h0
    exact Hd.ret1 rfl (none, 0) rfl (Ent.sep (.ownNil .same))
  ·
    try simp only [decide_eq_true_eq, decide_eq_false_iff_not, Bool.and_eq_true, Bool.or_eq_true, Bool.and_eq_false_iff, Bool.or_eq_false_iff, Bool.not_eq_true', Bool.not_eq_false', Bool.not_eq_true, Bool.not_eq_false, Int.not_lt, Int.not_le, Decidable.not_not, ne_eq] at hc0
    refine Hd.skip ?_
    refine Hd.toK hK2 ?_
    refine Hd.seq (fun K5 hK5 => ?_)
    refine Hd.region ?_
    refine Hd.bslice (vs := []) rfl (by first | exact bs92_5 .. | kernel_rfl) (fun b5 => ?_)
    refine Hd.ownNil 57 4 (some ⟨b5, 0, none⟩) ?_
    refine Hd.yv (y_move rfl) ?_
    refine Hd.append Try.underlying59 ty57 rfl rfl rfl pkk (by first | exact RdS.rd (Rd.pt pkk (fun j v e => by simpa using e)) rfl | (first | exact RdS.own pkk | exact RdS.mono h (Ent.sep enn))) (by first | (simp [Value.oneCell']; done) | assumption) (by first | (simp only [maxLen]; omega) | assumption) (by omega) (fun ad7 cap7 => ?_)
    refine Hd.yv (y_assign rfl) ?_
    refine Hd.nil ?_
    refine Hd.slots [(2, _)] ⟨rfl, trivial⟩ ?_
    refine Hd.toK hK5 ?_
    refine Hd.ret ?_
    clear hK1 hK2 hK3 hK5
    refine Hd.ret1 rfl (ad7, cap7) (by simp; rfl) (Ent.sep (.eq pkk (own_eq (by omega) (by simp)) enn))
theorem shuffleN_ct (L : List SP) (ad ao : Option Addr) (c co : Nat) (xs : List (Int × Int × Int × Int)) (ord : List Int) (h : RdS L 4 ad xs.length (xs.flatMap encNo)) (ho : RdS L 1 ao ord.length (ord.map V)) (hb : xs.length ≤ 1000000) (hob : ord.length ≤ 1000000) :
    Ct Try.prog 60 #[.slice ad xs.length c, .slice ao ord.length co] L (fun i : Option Addr × Nat => .slice i.1 xs.length i.2) (fun i => own 57 4 i.1 xs.length i.2 ((shufTo ord xs xs.length).flatMap encNo) :: L) := by
  refine Ct.of (vs := [.slice ad xs.length c, .slice ao ord.length co]) Try.func60 rfl rfl [(0, .slice ad xs.length c), (1, .slice ao ord.length co)] ⟨rfl, rfl, trivial⟩ ?_
  intro E
  show Hd E 49 _ _ _ _
  refine Hd.seq (fun K1 hK1 => ?_)
  refine Hd.region ?_
  refine Hd.yv (y_assign rfl) ?_
  refine Hd.nil ?_
  refine Hd.slots [(0, _), (1, _)] ⟨rfl, rfl, trivial⟩ ?_
  refine Hd.toK hK1 ?_
  refine Hd.seq (fun K2 hK2 => ?_)
  refine Hd.region ?_
  refine Hd.yv (y_move rfl) ?_
  refine Hd.callE rfl fk92 (cloneN_ct L ad c xs h (by omega)) (Ent.sep enn) ?_
  rintro ⟨a1, c1⟩
  refine Hd.yv (y_assign rfl) ?_
  refine Hd.nil ?_
  refine Hd.slots [(1, _), (5, _)] ⟨rfl, rfl, trivial⟩ ?_
  refine Hd.toK hK2 ?_
  refine Hd.seq (fun K3 hK3 => ?_)
  refine Hd.seq (fun K4 hK4 => ?_)
  refine Hd.region ?_
  refine Hd.yv (y_move rfl) ?_
  refine Hd.yv (y_len Try.underlying59 rfl) ?_
  refine Hd.yv (y_move rfl) ?_
  refine Hd.nil ?_
  refine Hd.slots [(1, _), (5, _), (11, _), (12, _)] ⟨rfl, rfl, rfl, rfl, trivial⟩ ?_
  refine Hd.toK hK4 ?_
  refine Hd.block ?_
  refine Hd.loop (ι := Nat) (fun i => [(1, .slice ao ord.length co), (5, .slice a1 xs.length c1), (11, .int .i64 (xs.length : Int)), (12, .int .i64 (i : Int))])
    (fun i => pu (i ≤ xs.length) :: own 57 4 a1 xs.length c1 ((shufTo ord xs i).flatMap encNo) :: L) (fun i => xs.length - i) 0 ⟨rfl, rfl, rfl, rfl, trivial⟩ (Ent.sep (.pure (by omega) enn)) ?_
  intro i
  refine Hd.pure (fun hi => ?_)
  have hl := shuf_len ord xs i
  refine Hd.seq (fun K5 hK5 => ?_)
  refine Hd.region ?_
  refine Hd.yv (y_lss rfl rfl) ?_
  refine Hd.nil ?_
  refine Hd.slots [(1, _), (5, _), (11, _), (12, _), (13, _)] ⟨rfl, rfl, rfl, rfl, rfl, trivial⟩ ?_
  refine Hd.toK hK5 ?_
  refine Hd.seq (fun K6 hK6 => ?_)
  refine Hd.cond rfl (fun hc0 => ?_) (fun hc0 => ?_)
  ·
    try simp only [decide_eq_true_eq, decide_eq_false_iff_not, Bool.and_eq_true, Bool.or_eq_true, Bool.and_eq_false_iff, Bool.or_eq_false_iff, Bool.not_eq_true', Bool.not_eq_false', Bool.not_eq_true, Bool.not_eq_false, Int.not_lt, Int.not_le, Decidable.not_not, ne_eq] at hc0
    have hi' : i < xs.length := by omega
    refine Hd.skip ?_
    refine Hd.toK hK6 ?_
    refine Hd.seq (fun K7 hK7 => ?_)
    refine Hd.block ?_
    refine Hd.seq (fun K8 hK8 => ?_)
    refine Hd.region ?_
    refine Hd.yv (y_move rfl) ?_
    refine Hd.yv (y_assign rfl) ?_
    refine Hd.nil ?_
    refine Hd.slots [(1, _), (5, _), (6, _), (11, _), (12, _)] ⟨rfl, rfl, rfl, rfl, rfl, trivial⟩ ?_
    refine Hd.toK hK8 ?_
    refine Hd.seq (fun K9 hK9 => ?_)
    refine Hd.region ?_
    refine Hd.yv (y_move rfl) ?_
    refine Hd.yv (y_len Try.underlying22 rfl) ?_
    refine Hd.yv (y_gtr rfl rfl) ?_
    refine Hd.nil ?_
    refine Hd.slots [(1, _), (5, _), (6, _), (11, _), (12, _), (17, _)] ⟨rfl, rfl, rfl, rfl, rfl, rfl, trivial⟩ ?_
    refine Hd.toK hK9 ?_
    refine Hd.cond rfl (fun hc1 => ?_) (fun hc1 => ?_)
    ·
      try simp only [decide_eq_true_eq, decide_eq_false_iff_not, Bool.and_eq_true, Bool.or_eq_true, Bool.and_eq_false_iff, Bool.or_eq_false_iff, Bool.not_eq_true', Bool.not_eq_false', Bool.not_eq_true, Bool.not_eq_false, Int.not_lt, Int.not_le, Decidable.not_not, ne_eq] at hc1
      obtain ⟨o, hoi⟩ : ∃ o, ord[i % ord.length]? = some o := ⟨_, List.getElem?_eq_getElem (Nat.mod_lt _ (by omega))⟩
      refine Hd.seq (fun K10 hK10 => ?_)
      refine Hd.region ?_
      refine Hd.yv (y_move rfl) ?_
      refine Hd.yv (y_move rfl) ?_
      refine Hd.yv (y_move rfl) ?_
      refine Hd.yv (y_move rfl) ?_
      refine Hd.yv (y_len Try.underlying22 rfl) ?_
      first | (refine Hd.yv (y_remN rfl rfl (by omega)) ?_) | (refine Hd.yv (y_remn rfl rfl (by omega) (by omega)) ?_) | (refine Hd.yv (y_rem rfl rfl (by omega)) ?_)
      have hml : i % ord.length < ord.length := Nat.mod_lt _ (by omega)
      first | (refine Hd.yv (y_idxS Try.underlying22 sz3 rfl rfl (by first | omega | decide)) ?_) | (refine Hd.yv (y_idxR Try.underlying22 sz3 rfl rfl (by first | omega | decide) (by (first | exact RdS.own pkk | exact RdS.mono ho (Ent.sep enn)))) ?_)
      first | (refine Hd.yv (y_load1 ag3 rfl (Rd.pt1 pkk (by (first | (simp [hoi]; rfl) | rfl)))) ?_) | (refine Hd.yv (y_load1 ag3 rfl (Rd.seg1 pkk (by (first | (simp [hoi]; rfl) | rfl)))) ?_) | (refine Hd.yv (y_loadR1 ag3 rfl (by (first | exact RdS.own pkk | exact RdS.mono ho (Ent.sep enn))) (by (first | (simp [hoi]; rfl) | rfl))) ?_)
      refine Hd.yv (y_max rfl rfl) ?_
      refine Hd.yv (y_move rfl) ?_
      refine Hd.yv (y_len Try.underlying59 rfl) ?_
      refine Hd.yv (y_move rfl) ?_
      first | (refine Hd.yv (y_subn rfl rfl (by simp only [InK]; omega)) ?_) | (refine Hd.yv (y_sub rfl rfl) ?_)
      first | (refine Hd.yv (y_remN rfl rfl (by omega)) ?_) | (refine Hd.yv (y_remn rfl rfl (by omega) (by omega)) ?_) | (refine Hd.yv (y_rem rfl rfl (by omega)) ?_)
      first | (refine Hd.yv (y_addn rfl rfl (by simp only [InK]; omega)) ?_) | (refine Hd.yv (y_add rfl rfl) ?_)
      rw [wrapIn (by rw [place_eq hi' hoi]; have hp := place_lt (ord := ord) hi'; simp only [InK]; omega)]
      refine Hd.name (b := (place ord xs.length i : Int)) 32 rfl (place_eq hi' hoi) ?_
      have hp := place_lt (ord := ord) hi'
      have hgp : (shufTo ord xs i)[place ord xs.length i]? = some (shufTo ord xs i)[place ord xs.length i] := List.getElem?_eq_getElem (by omega)
      have hgi : (shufTo ord xs i)[i]? = some (shufTo ord xs i)[i] := List.getElem?_eq_getElem (by omega)
      have hrl := rows_len (enc := encNo) (k := 4) (fun _ => rfl) (shufTo ord xs i)
      refine Hd.yv (y_assign rfl) ?_
      refine Hd.nil ?_
      refine Hd.slots [(1, _), (5, _), (6, _), (7, _), (11, _), (12, _)] ⟨rfl, rfl, rfl, rfl, rfl, rfl, trivial⟩ ?_
      refine Hd.toK hK10 ?_
      refine Hd.draws mixed ?_
      simp only [List.length, Nat.zero_add, Nat.reduceAdd]
      refine Hd.take 0 rfl (by kernel_rfl) (by kernel_rfl) (by kernel_rfl) (fun _ => y_move rfl) (fun _ _ => rfl) ?_
      refine Hd.take 1 rfl (by kernel_rfl) (by kernel_rfl) (by kernel_rfl) (fun _ => y_move rfl) (fun _ _ => rfl) ?_
      refine Hd.take 2 rfl (by kernel_rfl) (by kernel_rfl) (by kernel_rfl) (fun _ => y_move rfl) (fun _ _ => rfl) ?_
      refine Hd.take 3 rfl (by kernel_rfl) (by kernel_rfl) (by kernel_rfl) (fun _ => y_move rfl) (fun _ _ => rfl) ?_
      refine Hd.take 4 rfl (by kernel_rfl) (by kernel_rfl) (by kernel_rfl) (fun _ => y_move rfl) (fun _ _ => rfl) ?_
      refine Hd.take 5 rfl (by kernel_rfl) (by kernel_rfl) (by kernel_rfl) (fun _ => y_move rfl) (fun _ _ => rfl) ?_
      refine Hd.take 8 rfl (by kernel_rfl) (by kernel_rfl) (by kernel_rfl) (fun _ => y_move rfl) (fun _ _ => rfl) ?_
      refine Hd.take 9 rfl (by kernel_rfl) (by kernel_rfl) (by kernel_rfl) (fun _ => y_move rfl) (fun _ _ => rfl) ?_
      refine Hd.tailAt 13 [6, 7, 10, 11, 12] [13, 14, 15] rfl rfl rfl (by kernel_rfl) ?_
      simp only [pk, List.getElem?_cons_zero, List.getElem?_cons_succ]
      first | (refine Ht.yv (y_idxS Try.underlying59 sz57 rfl rfl (by first | omega | decide)) ?_) | (refine Ht.yv (y_idxR Try.underlying59 sz57 rfl rfl (by first | omega | decide) (by (first | exact RdS.own pkk | exact RdS.mono ho (Ent.sep enn)))) ?_)
      refine Ht.yv (y_loadRn (vs := encNo (shufTo ord xs i)[place ord xs.length i]) ag57 rfl (RdS.own pkk) (flat_cells encNo 4 (fun _ => rfl) hgp) (by exact sz57) (by simp)) ?_
      first | (refine Ht.yv (y_idxS Try.underlying59 sz57 rfl rfl (by first | omega | decide)) ?_) | (refine Ht.yv (y_idxR Try.underlying59 sz57 rfl rfl (by first | omega | decide) (by (first | exact RdS.own pkk | exact RdS.mono ho (Ent.sep enn)))) ?_)
      refine Ht.yv (y_loadRn (vs := encNo (shufTo ord xs i)[i]) ag57 rfl (RdS.own pkk) (flat_cells encNo 4 (fun _ => rfl) hgi) (by exact sz57) (by simp)) ?_
      first | (refine Ht.yv (y_idxS Try.underlying59 sz57 rfl rfl (by first | omega | decide)) ?_) | (refine Ht.yv (y_idxR Try.underlying59 sz57 rfl rfl (by first | omega | decide) (by (first | exact RdS.own pkk | exact RdS.mono ho (Ent.sep enn)))) ?_)
      refine Ht.nil ?_
      refine Hd.storeO (vs := encNo (shufTo ord xs i)[place ord xs.length i]) (by exact sz57) rfl rfl rfl (by simp [Value.oneCell']) pkk (by rw [hrl]; simp only [List.length_cons, List.length_nil]; omega) (by exact Nat.zero_lt_succ _) ?_
      rw [rows_set2 (enc := encNo) (k := 4) (m := 4) (fun _ => rfl) (x := (shufTo ord xs i)[i]) (x' := (shufTo ord xs i)[place ord xs.length i]) (us := encNo (shufTo ord xs i)[place ord xs.length i]) (j := 0) (o := i * 4) (o2 := i * 4 + (encNo (shufTo ord xs i)[place ord xs.length i]).length) rfl (by decide) rfl hgi (by omega) rfl]
      have hrl2 := rows_len (enc := encNo) (k := 4) (fun _ => rfl) ((shufTo ord xs i).set i (shufTo ord xs i)[place ord xs.length i])
      rw [List.length_set] at hrl2
      first | (refine Hd.yv (y_idxS Try.underlying59 sz57 rfl rfl (by first | omega | decide)) ?_) | (refine Hd.yv (y_idxR Try.underlying59 sz57 rfl rfl (by first | omega | decide) (by (first | exact RdS.own pkk | exact RdS.mono ho (Ent.sep enn)))) ?_)
      refine Hd.storeO (vs := encNo (shufTo ord xs i)[i]) (by exact sz57) rfl rfl rfl (by simp [Value.oneCell']) pkk (by rw [hrl2]; simp only [List.length_cons, List.length_nil]; omega) (by exact Nat.zero_lt_succ _) ?_
      have hgp2 : ((shufTo ord xs i).set i (shufTo ord xs i)[place ord xs.length i])[place ord xs.length i]? = some (((shufTo ord xs i).set i (shufTo ord xs i)[place ord xs.length i])[place ord xs.length i]'(by rw [List.length_set]; omega)) := List.getElem?_eq_getElem _
      rw [rows_set2 (enc := encNo) (k := 4) (m := 4) (fun _ => rfl) (x' := (shufTo ord xs i)[i]) (us := encNo (shufTo ord xs i)[i]) (j := 0) (o := place ord xs.length i * 4) (o2 := place ord xs.length i * 4 + (encNo (shufTo ord xs i)[i]).length) rfl (by decide) rfl hgp2 (by omega) rfl]
      refine Hd.nil ?_
      refine Hd.noPn ?_
      refine Hd.slots [(1, _), (5, _), (11, _), (12, _)] ⟨rfl, rfl, rfl, rfl, trivial⟩ ?_
      refine Hd.inB ?_
      refine Hd.toK hK7 ?_
      refine Hd.region ?_
      first | (refine Hd.yv (y_addn rfl rfl (by simp only [InK]; omega)) ?_) | (refine Hd.yv (y_add rfl rfl) ?_)
      refine Hd.yv (y_move rfl) ?_
      refine Hd.nil ?_
      refine Hd.slots [(1, _), (5, _), (11, _), (12, _)] ⟨rfl, rfl, rfl, rfl, trivial⟩ ?_
      clear hK1 hK2 hK3 hK4 hK5 hK6 hK7 hK8 hK9 hK10
      refine Hd.thenN ?_
      refine Hd.again (i + 1) (by omega) ⟨rfl, rfl, rfl, rfl, trivial⟩ (Ent.sep (.pure (by omega) (.eq pkk (own_eq rfl ?_) enn)))
      simp only [shufTo]; rw [if_neg (by intro e; simp [e] at hc1), swp_eq (by omega) (by omega)]
    ·
      try simp only [decide_eq_true_eq, decide_eq_false_iff_not, Bool.and_eq_true, Bool.or_eq_true, Bool.and_eq_false_iff, Bool.or_eq_false_iff, Bool.not_eq_true', Bool.not_eq_false', Bool.not_eq_true, Bool.not_eq_false, Int.not_lt, Int.not_le, Decidable.not_not, ne_eq] at hc1
      refine Hd.skip ?_
      refine Hd.inB ?_
      refine Hd.toK hK7 ?_
      refine Hd.region ?_
      first | (refine Hd.yv (y_addn rfl rfl (by simp only [InK]; omega)) ?_) | (refine Hd.yv (y_add rfl rfl) ?_)
      refine Hd.yv (y_move rfl) ?_
      refine Hd.nil ?_
      refine Hd.slots [(1, _), (5, _), (11, _), (12, _)] ⟨rfl, rfl, rfl, rfl, trivial⟩ ?_
      clear hK1 hK2 hK3 hK4 hK5 hK6 hK7 hK8 hK9
      refine Hd.thenN ?_
      refine Hd.again (i + 1) (by omega) ⟨rfl, rfl, rfl, rfl, trivial⟩ (Ent.sep (.pure (by omega) (.eq pkk (own_eq rfl ?_) enn)))
      simp only [shufTo]; rw [if_pos (List.eq_nil_of_length_eq_zero (by omega))]
  ·
    try simp only [decide_eq_true_eq, decide_eq_false_iff_not, Bool.and_eq_true, Bool.or_eq_true, Bool.and_eq_false_iff, Bool.or_eq_false_iff, Bool.not_eq_true', Bool.not_eq_false', Bool.not_eq_true, Bool.not_eq_false, Int.not_lt, Int.not_le, Decidable.not_not, ne_eq] at hc0
    refine Hd.exit ?_
    refine Hd.thenExit ?_
    refine Hd.thenExit ?_
    refine Hd.inBexit ?_
    refine Hd.toK hK3 ?_
    refine Hd.seq (fun K11 hK11 => ?_)
    refine Hd.region ?_
    refine Hd.yv (y_move rfl) ?_
    refine Hd.yv (y_assign rfl) ?_
    refine Hd.nil ?_
    refine Hd.slots [(4, _)] ⟨rfl, trivial⟩ ?_
    refine Hd.toK hK11 ?_
    refine Hd.ret ?_
    clear hK1 hK2 hK3 hK4 hK5 hK6 hK11
    obtain rfl : i = xs.length := by omega
    exact Hd.ret1 rfl (a1, c1) rfl (Ent.sep enn)
end Sh
end Go.Proofs.Ytbfddabjbkohdaa
namespace Go.Proofs.Ytbfddabjbkohdaa
set_option linter.unusedSimpArgs false
set_option linter.unusedVariables false
set_option linter.unnecessarySimpa false
open Go.RX Fx
namespace Kq
open Wo
set_option maxRecDepth 8000
abbrev NoA := Int × Int × Int × Int
abbrev encNo := Sh.encNo
abbrev KqB (qb wb mb : Nat) (f : Int × Int → Option KnA) (m : Nat) (w : WA) (L : List SP) : List SP := KqH qb wb mb :: mpP mb .i64 (kmap f) m :: WorldP wb w :: L
abbrev hasF (p : NoA) (g : Int) : Prop := bits .and .i64 p.2.2.1 g ≠ 0
def badN (p : NoA) : Prop := p.2.2.2 ≠ 0 ∨ bits .andNot .i64 p.2.2.1 127 ≠ 0 ∨ p.2.1 < 1 ∨ 3 < p.2.1
instance (p : NoA) : Decidable (badN p) := by unfold badN; infer_instance
def mayK (p : NoA) : Bool :=
  if badN p then false
  else if hasF p 1 then !decide (hasF p 6)
  else if hasF p 2 then !decide (hasF p 60)
  else (decide (hasF p 4) != decide (hasF p 8)) && !decide (hasF p 48)
set_option maxHeartbeats 2000000 in
theorem kmay1_ct (L : List SP) (b : Nat) (p : NoA) (g : Int) : Ct Try.prog 110 #[.int .i64 g, .pointer (some ⟨b, 0, none⟩)] (pt b (encNo p) 57 :: L) (fun _ : Unit => .bool (decide (hasF p g))) (fun _ : Unit => pt b (encNo p) 57 :: L) := by
  refine Ct.of (vs := [.int .i64 g, .pointer (some ⟨b, 0, none⟩)]) Try.func110 rfl rfl [(0, .int .i64 g), (1, .pointer (some ⟨b, 0, none⟩))] (by repeat (first | exact trivial | refine ⟨rfl, ?_⟩)) ?_
  intro E
  show Hd E 9 _ _ _ _
  refine Hd.seq (fun K1 hK1 => ?_)
  refine Hd.region ?_
  refine Hd.yv (y_assign rfl) ?_
  refine Hd.nil ?_
  refine Hd.slots [(0, _), (1, _)] ⟨rfl, rfl, trivial⟩ ?_
  refine Hd.toK hK1 ?_
  refine Hd.seq (fun K2 hK2 => ?_)
  refine Hd.region ?_
  first | (refine Hd.yv (y_field' (q := 2) (ft := 3) Try.underlying57 rfl sz3 rfl rfl) ?_) | (refine Hd.yv (y_fieldR (q := 2) (ft := 3) Try.underlying57 rfl sz3 rfl rfl) ?_)
  first | (refine Hd.yv (y_load1 ag3 rfl (Rd.pt1 pkk (by (first | rfl)))) ?_) | (refine Hd.yv (y_load1 ag3 rfl (Rd.seg1 pkk (by (first | rfl)))) ?_) | (refine Hd.yv (y_loadR1 ag3 rfl (by (first | exact RdS.own pkk)) (by (first | rfl))) ?_)
  refine Hd.yv (y_move rfl) ?_
  refine Hd.yv (y_and rfl rfl) ?_
  refine Hd.yv (y_neq rfl rfl) ?_
  refine Hd.yv (y_assign rfl) ?_
  refine Hd.nil ?_
  refine Hd.slots [(3, _)] ⟨rfl, trivial⟩ ?_
  refine Hd.toK hK2 ?_
  refine Hd.ret ?_
  clear hK1 hK2
  exact Hd.ret1 rfl () (by first | rfl | (simp only [*]; done) | (simp [*]; done)) (Ent.sep enn)
set_option maxHeartbeats 2000000 in
theorem kmay_ct (L : List SP) (p : NoA) : Ct Try.prog 94 #[.agg (encNo p).toArray] (L) (fun _ : Unit => .bool (mayK p)) (fun _ : Unit => L) := by
  refine Ct.of (vs := [.agg (encNo p).toArray]) Try.func94 rfl rfl [(0, .agg (encNo p).toArray)] (by repeat (first | exact trivial | refine ⟨rfl, ?_⟩)) ?_
  intro E
  show Hd E 41 _ _ _ _
  refine Hd.seq (fun K1 hK1 => ?_)
  refine Hd.region ?_
  refine Hd.box rfl rfl (fun b1 => ?_)
  refine Hd.yv (y_assign rfl) ?_
  refine Hd.nil ?_
  refine Hd.slots [(1, _)] ⟨rfl, trivial⟩ ?_
  refine Hd.toK hK1 ?_
  refine Hd.seq (fun K2 hK2 => ?_)
  refine Hd.region ?_
  refine Hd.yv (y_mkf (fv := []) (cv := [_]) rfl rfl) ?_
  refine Hd.yv (y_assign rfl) ?_
  refine Hd.nil ?_
  refine Hd.slots [(1, _), (3, _)] ⟨rfl, rfl, trivial⟩ ?_
  refine Hd.toK hK2 ?_
  refine Hd.seq (fun K3 hK3 => ?_)
  refine Hd.block ?_
  refine Hd.seq (fun K4 hK4 => ?_)
  refine Hd.seq (fun K5 hK5 => ?_)
  refine Hd.region ?_
  first | (refine Hd.yv (y_field' (q := 3) (ft := 3) Try.underlying57 rfl sz3 rfl rfl) ?_) | (refine Hd.yv (y_fieldR (q := 3) (ft := 3) Try.underlying57 rfl sz3 rfl rfl) ?_)
  first | (refine Hd.yv (y_load1 ag3 rfl (Rd.pt1 pkk (by (first | rfl)))) ?_) | (refine Hd.yv (y_load1 ag3 rfl (Rd.seg1 pkk (by (first | rfl)))) ?_) | (refine Hd.yv (y_loadR1 ag3 rfl (by (first | exact RdS.own pkk)) (by (first | rfl))) ?_)
  refine Hd.yv (y_neq rfl rfl) ?_
  refine Hd.yv (y_assign rfl) ?_
  refine Hd.nil ?_
  refine Hd.slots [(1, _), (3, _), (5, _)] ⟨rfl, rfl, rfl, trivial⟩ ?_
  refine Hd.toK hK5 ?_
  refine Hd.cond rfl (fun hc0 => ?_) (fun hc0 => ?_)
  ·
    try simp only [decide_eq_true_eq, decide_eq_false_iff_not, Bool.and_eq_true, Bool.or_eq_true, Bool.and_eq_false_iff, Bool.or_eq_false_iff, Bool.not_eq_true', Bool.not_eq_false', Bool.not_eq_true, Bool.not_eq_false, Int.not_lt, Int.not_le, Decidable.not_not, ne_eq] at hc0
    have hb : badN p := .inl hc0
    refine Hd.skip ?_
    refine Hd.toK hK4 ?_
    refine Hd.cond rfl (fun hc3 => ?_) (fun hc3 => ?_)
    ·
      try simp only [decide_eq_true_eq, decide_eq_false_iff_not, Bool.and_eq_true, Bool.or_eq_true, Bool.and_eq_false_iff, Bool.or_eq_false_iff, Bool.not_eq_true', Bool.not_eq_false', Bool.not_eq_true, Bool.not_eq_false, Int.not_lt, Int.not_le, Decidable.not_not, ne_eq] at hc3
      refine Hd.seq (fun K6 hK6 => ?_)
      refine Hd.region ?_
      refine Hd.yv (y_assign rfl) ?_
      refine Hd.nil ?_
      refine Hd.slots [(2, _)] ⟨rfl, trivial⟩ ?_
      refine Hd.toK hK6 ?_
      refine Hd.ret ?_
      refine Hd.inBret ?_
      refine Hd.thenRet ?_
      clear hK1 hK2 hK3 hK4 hK5 hK6
      rw [show mayK p = false from if_pos hb]
      exact Hd.ret1 rfl () rfl (Ent.sep enn)
    ·
      try simp only [decide_eq_true_eq, decide_eq_false_iff_not, Bool.and_eq_true, Bool.or_eq_true, Bool.and_eq_false_iff, Bool.or_eq_false_iff, Bool.not_eq_true', Bool.not_eq_false', Bool.not_eq_true, Bool.not_eq_false, Int.not_lt, Int.not_le, Decidable.not_not, ne_eq] at hc3
      exact absurd hc3 hc0
  ·
    try simp only [decide_eq_true_eq, decide_eq_false_iff_not, Bool.and_eq_true, Bool.or_eq_true, Bool.and_eq_false_iff, Bool.or_eq_false_iff, Bool.not_eq_true', Bool.not_eq_false', Bool.not_eq_true, Bool.not_eq_false, Int.not_lt, Int.not_le, Decidable.not_not, ne_eq] at hc0
    refine Hd.seq (fun K7 hK7 => ?_)
    refine Hd.region ?_
    first | (refine Hd.yv (y_field' (q := 2) (ft := 3) Try.underlying57 rfl sz3 rfl rfl) ?_) | (refine Hd.yv (y_fieldR (q := 2) (ft := 3) Try.underlying57 rfl sz3 rfl rfl) ?_)
    first | (refine Hd.yv (y_load1 ag3 rfl (Rd.pt1 pkk (by (first | rfl)))) ?_) | (refine Hd.yv (y_load1 ag3 rfl (Rd.seg1 pkk (by (first | rfl)))) ?_) | (refine Hd.yv (y_loadR1 ag3 rfl (by (first | exact RdS.own pkk)) (by (first | rfl))) ?_)
    refine Hd.yv (y_andNot rfl rfl) ?_
    refine Hd.yv (y_neq rfl rfl) ?_
    refine Hd.yv (y_assign rfl) ?_
    refine Hd.nil ?_
    refine Hd.slots [(1, _), (3, _), (5, _)] ⟨rfl, rfl, rfl, trivial⟩ ?_
    refine Hd.toK hK7 ?_
    refine Hd.cond rfl (fun hc1 => ?_) (fun hc1 => ?_)
    ·
      try simp only [decide_eq_true_eq, decide_eq_false_iff_not, Bool.and_eq_true, Bool.or_eq_true, Bool.and_eq_false_iff, Bool.or_eq_false_iff, Bool.not_eq_true', Bool.not_eq_false', Bool.not_eq_true, Bool.not_eq_false, Int.not_lt, Int.not_le, Decidable.not_not, ne_eq] at hc1
      have hb : badN p := .inr (.inl hc1)
      refine Hd.skip ?_
      refine Hd.toK hK4 ?_
      refine Hd.cond rfl (fun hc3 => ?_) (fun hc3 => ?_)
      ·
        try simp only [decide_eq_true_eq, decide_eq_false_iff_not, Bool.and_eq_true, Bool.or_eq_true, Bool.and_eq_false_iff, Bool.or_eq_false_iff, Bool.not_eq_true', Bool.not_eq_false', Bool.not_eq_true, Bool.not_eq_false, Int.not_lt, Int.not_le, Decidable.not_not, ne_eq] at hc3
        refine Hd.seq (fun K8 hK8 => ?_)
        refine Hd.region ?_
        refine Hd.yv (y_assign rfl) ?_
        refine Hd.nil ?_
        refine Hd.slots [(2, _)] ⟨rfl, trivial⟩ ?_
        refine Hd.toK hK8 ?_
        refine Hd.ret ?_
        refine Hd.inBret ?_
        refine Hd.thenRet ?_
        clear hK1 hK2 hK3 hK4 hK5 hK7 hK8
        rw [show mayK p = false from if_pos hb]
        exact Hd.ret1 rfl () rfl (Ent.sep enn)
      ·
        try simp only [decide_eq_true_eq, decide_eq_false_iff_not, Bool.and_eq_true, Bool.or_eq_true, Bool.and_eq_false_iff, Bool.or_eq_false_iff, Bool.not_eq_true', Bool.not_eq_false', Bool.not_eq_true, Bool.not_eq_false, Int.not_lt, Int.not_le, Decidable.not_not, ne_eq] at hc3
        exact absurd hc3 hc1
    ·
      try simp only [decide_eq_true_eq, decide_eq_false_iff_not, Bool.and_eq_true, Bool.or_eq_true, Bool.and_eq_false_iff, Bool.or_eq_false_iff, Bool.not_eq_true', Bool.not_eq_false', Bool.not_eq_true, Bool.not_eq_false, Int.not_lt, Int.not_le, Decidable.not_not, ne_eq] at hc1
      refine Hd.seq (fun K9 hK9 => ?_)
      refine Hd.region ?_
      first | (refine Hd.yv (y_field' (q := 1) (ft := 3) Try.underlying57 rfl sz3 rfl rfl) ?_) | (refine Hd.yv (y_fieldR (q := 1) (ft := 3) Try.underlying57 rfl sz3 rfl rfl) ?_)
      first | (refine Hd.yv (y_load1 ag3 rfl (Rd.pt1 pkk (by (first | rfl)))) ?_) | (refine Hd.yv (y_load1 ag3 rfl (Rd.seg1 pkk (by (first | rfl)))) ?_) | (refine Hd.yv (y_loadR1 ag3 rfl (by (first | exact RdS.own pkk)) (by (first | rfl))) ?_)
      refine Hd.yv (y_lss rfl rfl) ?_
      refine Hd.yv (y_assign rfl) ?_
      refine Hd.nil ?_
      refine Hd.slots [(1, _), (3, _), (5, _)] ⟨rfl, rfl, rfl, trivial⟩ ?_
      refine Hd.toK hK9 ?_
      refine Hd.cond rfl (fun hc2 => ?_) (fun hc2 => ?_)
      ·
        try simp only [decide_eq_true_eq, decide_eq_false_iff_not, Bool.and_eq_true, Bool.or_eq_true, Bool.and_eq_false_iff, Bool.or_eq_false_iff, Bool.not_eq_true', Bool.not_eq_false', Bool.not_eq_true, Bool.not_eq_false, Int.not_lt, Int.not_le, Decidable.not_not, ne_eq] at hc2
        have hb : badN p := .inr (.inr (.inl hc2))
        refine Hd.skip ?_
        refine Hd.toK hK4 ?_
        refine Hd.cond rfl (fun hc3 => ?_) (fun hc3 => ?_)
        ·
          try simp only [decide_eq_true_eq, decide_eq_false_iff_not, Bool.and_eq_true, Bool.or_eq_true, Bool.and_eq_false_iff, Bool.or_eq_false_iff, Bool.not_eq_true', Bool.not_eq_false', Bool.not_eq_true, Bool.not_eq_false, Int.not_lt, Int.not_le, Decidable.not_not, ne_eq] at hc3
          refine Hd.seq (fun K10 hK10 => ?_)
          refine Hd.region ?_
          refine Hd.yv (y_assign rfl) ?_
          refine Hd.nil ?_
          refine Hd.slots [(2, _)] ⟨rfl, trivial⟩ ?_
          refine Hd.toK hK10 ?_
          refine Hd.ret ?_
          refine Hd.inBret ?_
          refine Hd.thenRet ?_
          clear hK1 hK2 hK3 hK4 hK5 hK7 hK9 hK10
          rw [show mayK p = false from if_pos hb]
          exact Hd.ret1 rfl () rfl (Ent.sep enn)
        ·
          try simp only [decide_eq_true_eq, decide_eq_false_iff_not, Bool.and_eq_true, Bool.or_eq_true, Bool.and_eq_false_iff, Bool.or_eq_false_iff, Bool.not_eq_true', Bool.not_eq_false', Bool.not_eq_true, Bool.not_eq_false, Int.not_lt, Int.not_le, Decidable.not_not, ne_eq] at hc3
          omega
      ·
        try simp only [decide_eq_true_eq, decide_eq_false_iff_not, Bool.and_eq_true, Bool.or_eq_true, Bool.and_eq_false_iff, Bool.or_eq_false_iff, Bool.not_eq_true', Bool.not_eq_false', Bool.not_eq_true, Bool.not_eq_false, Int.not_lt, Int.not_le, Decidable.not_not, ne_eq] at hc2
        refine Hd.region ?_
        first | (refine Hd.yv (y_field' (q := 1) (ft := 3) Try.underlying57 rfl sz3 rfl rfl) ?_) | (refine Hd.yv (y_fieldR (q := 1) (ft := 3) Try.underlying57 rfl sz3 rfl rfl) ?_)
        first | (refine Hd.yv (y_load1 ag3 rfl (Rd.pt1 pkk (by (first | rfl)))) ?_) | (refine Hd.yv (y_load1 ag3 rfl (Rd.seg1 pkk (by (first | rfl)))) ?_) | (refine Hd.yv (y_loadR1 ag3 rfl (by (first | exact RdS.own pkk)) (by (first | rfl))) ?_)
        refine Hd.yv (y_gtr rfl rfl) ?_
        refine Hd.yv (y_assign rfl) ?_
        refine Hd.nil ?_
        refine Hd.slots [(3, _), (5, _)] ⟨rfl, rfl, trivial⟩ ?_
        refine Hd.toK hK4 ?_
        refine Hd.cond rfl (fun hc3 => ?_) (fun hc3 => ?_)
        ·
          try simp only [decide_eq_true_eq, decide_eq_false_iff_not, Bool.and_eq_true, Bool.or_eq_true, Bool.and_eq_false_iff, Bool.or_eq_false_iff, Bool.not_eq_true', Bool.not_eq_false', Bool.not_eq_true, Bool.not_eq_false, Int.not_lt, Int.not_le, Decidable.not_not, ne_eq] at hc3
          have hb : badN p := .inr (.inr (.inr hc3))
          refine Hd.seq (fun K11 hK11 => ?_)
          refine Hd.region ?_
          refine Hd.yv (y_assign rfl) ?_
          refine Hd.nil ?_
          refine Hd.slots [(2, _)] ⟨rfl, trivial⟩ ?_
          refine Hd.toK hK11 ?_
          refine Hd.ret ?_
          refine Hd.inBret ?_
          refine Hd.thenRet ?_
          clear hK1 hK2 hK3 hK4 hK5 hK7 hK9 hK11
          rw [show mayK p = false from if_pos hb]
          exact Hd.ret1 rfl () rfl (Ent.sep enn)
        ·
          try simp only [decide_eq_true_eq, decide_eq_false_iff_not, Bool.and_eq_true, Bool.or_eq_true, Bool.and_eq_false_iff, Bool.or_eq_false_iff, Bool.not_eq_true', Bool.not_eq_false', Bool.not_eq_true, Bool.not_eq_false, Int.not_lt, Int.not_le, Decidable.not_not, ne_eq] at hc3
          have hb : ¬ badN p := by
            rintro (h | h | h | h)
            · exact h hc0
            · exact h hc1
            · omega
            · omega
          refine Hd.seq (fun K12 hK12 => ?_)
          refine Hd.region ?_
          refine Hd.yv (y_move rfl) ?_
          refine Hd.callvE (vs := [_]) (cap := [_]) rfl rfl (by kernel_rfl) (kmay1_ct _ b1 p 1) (Ent.sep enn) ?_
          intro _
          refine Hd.yv (y_assign rfl) ?_
          refine Hd.nil ?_
          refine Hd.slots [(3, _), (19, _)] ⟨rfl, rfl, trivial⟩ ?_
          refine Hd.toK hK12 ?_
          refine Hd.cond rfl (fun hc4 => ?_) (fun hc4 => ?_)
          ·
            try simp only [decide_eq_true_eq, decide_eq_false_iff_not, Bool.and_eq_true, Bool.or_eq_true, Bool.and_eq_false_iff, Bool.or_eq_false_iff, Bool.not_eq_true', Bool.not_eq_false', Bool.not_eq_true, Bool.not_eq_false, Int.not_lt, Int.not_le, Decidable.not_not, ne_eq] at hc4
            refine Hd.seq (fun K13 hK13 => ?_)
            refine Hd.region ?_
            refine Hd.yv (y_move rfl) ?_
            refine Hd.callvE (vs := [_]) (cap := [_]) rfl rfl (by kernel_rfl) (kmay1_ct _ b1 p 6) (Ent.sep enn) ?_
            intro _
            refine Hd.yv (y_not rfl) ?_
            refine Hd.yv (y_assign rfl) ?_
            refine Hd.nil ?_
            refine Hd.slots [(2, _)] ⟨rfl, trivial⟩ ?_
            refine Hd.toK hK13 ?_
            refine Hd.ret ?_
            refine Hd.inBret ?_
            refine Hd.thenRet ?_
            clear hK1 hK2 hK3 hK4 hK5 hK7 hK9 hK12 hK13
            rw [show mayK p = !decide (hasF p 6) by unfold mayK; rw [if_neg hb, if_pos hc4]]
            exact Hd.ret1 rfl () rfl (Ent.sep enn)
          ·
            try simp only [decide_eq_true_eq, decide_eq_false_iff_not, Bool.and_eq_true, Bool.or_eq_true, Bool.and_eq_false_iff, Bool.or_eq_false_iff, Bool.not_eq_true', Bool.not_eq_false', Bool.not_eq_true, Bool.not_eq_false, Int.not_lt, Int.not_le, Decidable.not_not, ne_eq] at hc4
            refine Hd.seq (fun K14 hK14 => ?_)
            refine Hd.region ?_
            refine Hd.yv (y_move rfl) ?_
            refine Hd.callvE (vs := [_]) (cap := [_]) rfl rfl (by kernel_rfl) (kmay1_ct _ b1 p 2) (Ent.sep enn) ?_
            intro _
            refine Hd.yv (y_assign rfl) ?_
            refine Hd.nil ?_
            refine Hd.slots [(3, _), (25, _)] ⟨rfl, rfl, trivial⟩ ?_
            refine Hd.toK hK14 ?_
            refine Hd.cond rfl (fun hc5 => ?_) (fun hc5 => ?_)
            ·
              try simp only [decide_eq_true_eq, decide_eq_false_iff_not, Bool.and_eq_true, Bool.or_eq_true, Bool.and_eq_false_iff, Bool.or_eq_false_iff, Bool.not_eq_true', Bool.not_eq_false', Bool.not_eq_true, Bool.not_eq_false, Int.not_lt, Int.not_le, Decidable.not_not, ne_eq] at hc5
              refine Hd.seq (fun K15 hK15 => ?_)
              refine Hd.region ?_
              refine Hd.yv (y_move rfl) ?_
              refine Hd.callvE (vs := [_]) (cap := [_]) rfl rfl (by kernel_rfl) (kmay1_ct _ b1 p 60) (Ent.sep enn) ?_
              intro _
              refine Hd.yv (y_not rfl) ?_
              refine Hd.yv (y_assign rfl) ?_
              refine Hd.nil ?_
              refine Hd.slots [(2, _)] ⟨rfl, trivial⟩ ?_
              refine Hd.toK hK15 ?_
              refine Hd.ret ?_
              refine Hd.inBret ?_
              refine Hd.thenRet ?_
              clear hK1 hK2 hK3 hK4 hK5 hK7 hK9 hK12 hK14 hK15
              rw [show mayK p = !decide (hasF p 60) by unfold mayK; rw [if_neg hb, if_neg (fun h => h hc4), if_pos hc5]]
              exact Hd.ret1 rfl () rfl (Ent.sep enn)
            ·
              try simp only [decide_eq_true_eq, decide_eq_false_iff_not, Bool.and_eq_true, Bool.or_eq_true, Bool.and_eq_false_iff, Bool.or_eq_false_iff, Bool.not_eq_true', Bool.not_eq_false', Bool.not_eq_true, Bool.not_eq_false, Int.not_lt, Int.not_le, Decidable.not_not, ne_eq] at hc5
              refine Hd.skip ?_
              refine Hd.inB ?_
              refine Hd.toK hK3 ?_
              refine Hd.seq (fun K16 hK16 => ?_)
              refine Hd.region ?_
              refine Hd.yv (y_move rfl) ?_
              refine Hd.callvE (vs := [_]) (cap := [_]) rfl rfl (by kernel_rfl) (kmay1_ct _ b1 p 4) (Ent.sep enn) ?_
              intro _
              refine Hd.yv (y_move rfl) ?_
              refine Hd.callvE (vs := [_]) (cap := [_]) rfl rfl (by kernel_rfl) (kmay1_ct _ b1 p 8) (Ent.sep enn) ?_
              intro _
              refine Hd.yv (y_neqb Try.underlying4 rfl rfl) ?_
              refine Hd.yv (y_move rfl) ?_
              apply Hd.andg 4 36 40 [] rfl trivial
              · intro hg11_36
                try simp only [decide_eq_true_eq, decide_eq_false_iff_not, Bool.and_eq_true, Bool.or_eq_true, Bool.and_eq_false_iff, Bool.or_eq_false_iff, Bool.not_eq_true', Bool.not_eq_false', Bool.not_eq_true, Bool.not_eq_false, Int.not_lt, Int.not_le, Decidable.not_not, ne_eq] at hg11_36
                simp only [List.take]
                refine Hd.yg rfl rfl (y_move rfl) ?_
                refine Hd.unguard rfl rfl ?_
                refine Hd.callvE (vs := [_]) (cap := [_]) rfl rfl (by kernel_rfl) (kmay1_ct _ b1 p 48) (Ent.sep enn) ?_
                intro _
                refine Hd.yg rfl rfl (y_not rfl) ?_
                first | (refine Hd.yv (y_pickT rfl rfl) ?_) | (refine Hd.yv (y_pickF rfl rfl) ?_) | (refine Hd.yv (y_pickb rfl rfl rfl) ?_) | (refine Hd.yv (y_pick rfl rfl rfl) ?_)
                refine Hd.nil ?_
                exact Hd.mend (by repeat (first | exact trivial | refine ⟨rfl, ?_⟩)) (Ent.sep enn)
              · intro hg11_36
                try simp only [decide_eq_true_eq, decide_eq_false_iff_not, Bool.and_eq_true, Bool.or_eq_true, Bool.and_eq_false_iff, Bool.or_eq_false_iff, Bool.not_eq_true', Bool.not_eq_false', Bool.not_eq_true, Bool.not_eq_false, Int.not_lt, Int.not_le, Decidable.not_not, ne_eq] at hg11_36
                simp only [List.take]
                refine Hd.ng rfl rfl rfl ?_
                refine Hd.ng rfl rfl rfl ?_
                refine Hd.ng rfl rfl rfl ?_
                first | (refine Hd.yv (y_pickT rfl rfl) ?_) | (refine Hd.yv (y_pickF rfl rfl) ?_) | (refine Hd.yv (y_pickb rfl rfl rfl) ?_) | (refine Hd.yv (y_pick rfl rfl rfl) ?_)
                refine Hd.nil ?_
                exact Hd.mend (by repeat (first | exact trivial | refine ⟨rfl, ?_⟩)) (Ent.sep enn)
              simp only [List.drop]
              refine Hd.yv (y_assign rfl) ?_
              refine Hd.nil ?_
              refine Hd.slots [(2, _)] ⟨rfl, trivial⟩ ?_
              refine Hd.toK hK16 ?_
              refine Hd.ret ?_
              clear hK1 hK2 hK3 hK4 hK5 hK7 hK9 hK12 hK14 hK16
              rw [show mayK p = ((decide (hasF p 4) != decide (hasF p 8)) && !decide (hasF p 48)) by unfold mayK; rw [if_neg hb, if_neg (fun h => h hc4), if_neg (fun h => h hc5)]]
              exact Hd.ret1 rfl () rfl (Ent.sep enn)
def riseK (flt : Int) (r : RdyA) : Int := if flt = 1 then r.r else r.w
set_option maxHeartbeats 2000000 in
theorem krises_ct (L : List SP) (flt : Int) (r : RdyA) : Ct Try.prog 62 #[.int .i64 flt, .agg (encR r).toArray] (L) (fun _ : Unit => .int .u64 (riseK flt r)) (fun _ : Unit => L) := by
  refine Ct.of (vs := [.int .i64 flt, .agg (encR r).toArray]) Try.func62 rfl rfl [(0, .int .i64 flt), (1, .agg (encR r).toArray)] (by repeat (first | exact trivial | refine ⟨rfl, ?_⟩)) ?_
  intro E
  show Hd E 11 _ _ _ _
  refine Hd.seq (fun K1 hK1 => ?_)
  refine Hd.region ?_
  refine Hd.box rfl rfl (fun b3 => ?_)
  refine Hd.yv (y_assign rfl) ?_
  refine Hd.nil ?_
  refine Hd.slots [(0, _), (3, _)] ⟨rfl, rfl, trivial⟩ ?_
  refine Hd.toK hK1 ?_
  refine Hd.seq (fun K2 hK2 => ?_)
  refine Hd.seq (fun K3 hK3 => ?_)
  refine Hd.region ?_
  refine Hd.yv (y_move rfl) ?_
  first | (refine Hd.yv (y_eqlT rfl rfl) ?_) | (refine Hd.yv (y_eql rfl rfl) ?_)
  refine Hd.nil ?_
  refine Hd.slots [(3, _), (6, _)] ⟨rfl, rfl, trivial⟩ ?_
  refine Hd.toK hK3 ?_
  refine Hd.cond rfl (fun hc0 => ?_) (fun hc0 => ?_)
  ·
    try simp only [decide_eq_true_eq, decide_eq_false_iff_not, Bool.and_eq_true, Bool.or_eq_true, Bool.and_eq_false_iff, Bool.or_eq_false_iff, Bool.not_eq_true', Bool.not_eq_false', Bool.not_eq_true, Bool.not_eq_false, Int.not_lt, Int.not_le, Decidable.not_not, ne_eq] at hc0
    refine Hd.seq (fun K4 hK4 => ?_)
    refine Hd.region ?_
    first | (refine Hd.yv (y_field' (q := 5) (ft := 78) Try.underlying97 rfl sz78 rfl rfl) ?_) | (refine Hd.yv (y_fieldR (q := 5) (ft := 78) Try.underlying97 rfl sz78 rfl rfl) ?_)
    first | (refine Hd.yv (y_load1 ag78 rfl (Rd.pt1 pkk (by (first | rfl)))) ?_) | (refine Hd.yv (y_load1 ag78 rfl (Rd.seg1 pkk (by (first | rfl)))) ?_) | (refine Hd.yv (y_loadR1 ag78 rfl (by (first | exact RdS.own pkk)) (by (first | rfl))) ?_)
    refine Hd.yv (y_assign rfl) ?_
    refine Hd.nil ?_
    refine Hd.slots [(4, _)] ⟨rfl, trivial⟩ ?_
    refine Hd.toK hK4 ?_
    refine Hd.ret ?_
    refine Hd.thenRet ?_
    clear hK1 hK2 hK3 hK4
    unfold riseK
    rw [if_pos hc0]
    exact Hd.ret1 rfl () rfl (Ent.sep enn)
  ·
    try simp only [decide_eq_true_eq, decide_eq_false_iff_not, Bool.and_eq_true, Bool.or_eq_true, Bool.and_eq_false_iff, Bool.or_eq_false_iff, Bool.not_eq_true', Bool.not_eq_false', Bool.not_eq_true, Bool.not_eq_false, Int.not_lt, Int.not_le, Decidable.not_not, ne_eq] at hc0
    refine Hd.skip ?_
    refine Hd.toK hK2 ?_
    refine Hd.seq (fun K5 hK5 => ?_)
    refine Hd.region ?_
    first | (refine Hd.yv (y_field' (q := 6) (ft := 78) Try.underlying97 rfl sz78 rfl rfl) ?_) | (refine Hd.yv (y_fieldR (q := 6) (ft := 78) Try.underlying97 rfl sz78 rfl rfl) ?_)
    first | (refine Hd.yv (y_load1 ag78 rfl (Rd.pt1 pkk (by (first | rfl)))) ?_) | (refine Hd.yv (y_load1 ag78 rfl (Rd.seg1 pkk (by (first | rfl)))) ?_) | (refine Hd.yv (y_loadR1 ag78 rfl (by (first | exact RdS.own pkk)) (by (first | rfl))) ?_)
    refine Hd.yv (y_assign rfl) ?_
    refine Hd.nil ?_
    refine Hd.slots [(4, _)] ⟨rfl, trivial⟩ ?_
    refine Hd.toK hK5 ?_
    refine Hd.ret ?_
    clear hK1 hK2 hK3 hK5
    unfold riseK
    rw [if_neg hc0]
    exact Hd.ret1 rfl () rfl (Ent.sep enn)
set_option maxHeartbeats 2000000 in
theorem knone_ct (L : List SP) (qb wb mb : Nat) : Ct Try.prog 57 #[.pointer (some ⟨qb, 0, none⟩)] (KqH qb wb mb :: L) (fun _ : Unit => .bool false) (fun _ : Unit => KqH qb wb mb :: L) := by
  refine Ct.of (vs := [.pointer (some ⟨qb, 0, none⟩)]) Try.func57 rfl rfl [(0, .pointer (some ⟨qb, 0, none⟩))] (by repeat (first | exact trivial | refine ⟨rfl, ?_⟩)) ?_
  intro E
  show Hd E 12 _ _ _ _
  refine Hd.seq (fun K1 hK1 => ?_)
  refine Hd.region ?_
  refine Hd.yv (y_assign rfl) ?_
  refine Hd.nil ?_
  refine Hd.slots [(0, _)] ⟨rfl, trivial⟩ ?_
  refine Hd.toK hK1 ?_
  refine Hd.seq (fun K2 hK2 => ?_)
  refine Hd.region ?_
  refine Hd.yv (y_move rfl) ?_
  first | (refine Hd.yv (y_eql_pointer Try.underlying52 rfl rfl) ?_) | (refine Hd.yv (y_eql_one Try.underlying52 sz69 rfl rfl rfl) ?_)
  refine Hd.yv (y_move rfl) ?_
  refine Hd.yg rfl rfl (y_move rfl) ?_
  refine Hd.yg rfl rfl (y_nilp rfl) ?_
  first | (refine Hd.yg rfl rfl (y_field' (q := 0) (ft := 27) Try.underlying69 rfl sz27 rfl rfl) ?_) | (refine Hd.yg rfl rfl (y_fieldR (q := 0) (ft := 27) Try.underlying69 rfl sz27 rfl rfl) ?_)
  first | (refine Hd.yg rfl rfl (y_load1 ag27 rfl (Rd.pt1 pkk (by (first | rfl)))) ?_) | (refine Hd.yg rfl rfl (y_load1 ag27 rfl (Rd.seg1 pkk (by (first | rfl)))) ?_) | (refine Hd.yg rfl rfl (y_loadR1 ag27 rfl (by (first | exact RdS.own pkk)) (by (first | rfl))) ?_)
  first | (refine Hd.yg rfl rfl (y_eql_pointer Try.underlying27 rfl rfl) ?_) | (refine Hd.yg rfl rfl (y_eql_one Try.underlying27 sz80 rfl rfl rfl) ?_)
  first | (refine Hd.yv (y_pickT rfl rfl) ?_) | (refine Hd.yv (y_pickF rfl rfl) ?_) | (refine Hd.yv (y_pickb rfl rfl rfl) ?_) | (refine Hd.yv (y_pick rfl rfl rfl) ?_)
  refine Hd.yv (y_assign rfl) ?_
  refine Hd.nil ?_
  refine Hd.slots [(2, _)] ⟨rfl, trivial⟩ ?_
  refine Hd.toK hK2 ?_
  refine Hd.ret ?_
  clear hK1 hK2
  exact Hd.ret1 rfl () (by first | rfl | (simp only [*]; done) | (simp [*]; done)) (Ent.sep enn)
set_option maxHeartbeats 2000000 in
theorem knone0_ct (L : List SP) : Ct Try.prog 57 #[.pointer none] (L) (fun _ : Unit => .bool true) (fun _ : Unit => L) := by
  refine Ct.of (vs := [.pointer none]) Try.func57 rfl rfl [(0, .pointer none)] (by repeat (first | exact trivial | refine ⟨rfl, ?_⟩)) ?_
  intro E
  show Hd E 12 _ _ _ _
  refine Hd.seq (fun K1 hK1 => ?_)
  refine Hd.region ?_
  refine Hd.yv (y_assign rfl) ?_
  refine Hd.nil ?_
  refine Hd.slots [(0, _)] ⟨rfl, trivial⟩ ?_
  refine Hd.toK hK1 ?_
  refine Hd.seq (fun K2 hK2 => ?_)
  refine Hd.region ?_
  refine Hd.yv (y_move rfl) ?_
  first | (refine Hd.yv (y_eql_pointer Try.underlying52 rfl rfl) ?_) | (refine Hd.yv (y_eql_one Try.underlying52 sz69 rfl rfl rfl) ?_)
  refine Hd.yv (y_move rfl) ?_
  refine Hd.ng rfl rfl rfl ?_
  refine Hd.ng rfl rfl rfl ?_
  refine Hd.ng rfl rfl rfl ?_
  refine Hd.ng rfl rfl rfl ?_
  refine Hd.ng rfl rfl rfl ?_
  first | (refine Hd.yv (y_pickT rfl rfl) ?_) | (refine Hd.yv (y_pickF rfl rfl) ?_) | (refine Hd.yv (y_pickb rfl rfl rfl) ?_) | (refine Hd.yv (y_pick rfl rfl rfl) ?_)
  refine Hd.yv (y_assign rfl) ?_
  refine Hd.nil ?_
  refine Hd.slots [(2, _)] ⟨rfl, trivial⟩ ?_
  refine Hd.toK hK2 ?_
  refine Hd.ret ?_
  clear hK1 hK2
  exact Hd.ret1 rfl () (by first | rfl | (simp only [*]; done) | (simp [*]; done)) (Ent.sep enn)
abbrev k0 : Int × Int → Option KnA := fun _ => none
set_option maxHeartbeats 2000000 in
theorem knew_ct (L : List SP) (wb : Nat) : Ct Try.prog 19 #[.pointer (some ⟨wb, 0, none⟩)] (L) (fun q_ : Nat × Nat => .tuple #[.pointer (some ⟨q_.1, 0, none⟩), .int .i64 0]) (fun q_ : Nat × Nat => KqH q_.1 wb q_.2 :: mpP q_.2 .i64 (kmap k0) 0 :: L) := by
  refine Ct.of (vs := [.pointer (some ⟨wb, 0, none⟩)]) Try.func19 rfl rfl [(0, .pointer (some ⟨wb, 0, none⟩))] (by repeat (first | exact trivial | refine ⟨rfl, ?_⟩)) ?_
  intro E
  show Hd E 10 _ _ _ _
  refine Hd.seq (fun K1 hK1 => ?_)
  refine Hd.region ?_
  refine Hd.yv (y_assign rfl) ?_
  refine Hd.yv (y_assign rfl) ?_
  refine Hd.nil ?_
  refine Hd.slots [(0, _)] ⟨rfl, trivial⟩ ?_
  refine Hd.toK hK1 ?_
  refine Hd.seq (fun K2 hK2 => ?_)
  refine Hd.seq (fun K3 hK3 => ?_)
  refine Hd.region ?_
  refine Hd.yv (y_move rfl) ?_
  first | (refine Hd.yv (y_eql_pointer Try.underlying27 rfl rfl) ?_) | (refine Hd.yv (y_eql_one Try.underlying27 sz80 rfl rfl rfl) ?_)
  refine Hd.nil ?_
  refine Hd.slots [(0, _), (5, _)] ⟨rfl, rfl, trivial⟩ ?_
  refine Hd.toK hK3 ?_
  refine Hd.condF rfl ?_
  refine Hd.skip ?_
  refine Hd.toK hK2 ?_
  refine Hd.seq (fun K4 hK4 => ?_)
  refine Hd.region ?_
  refine Hd.yv (y_move rfl) ?_
  refine Hd.makeMapP .i64 (fun b7 => ?_)
  refine Hd.yv (y_build (vs := [(0, _), (1, _)]) rfl (by first | exact bd19_8 .. | kernel_rfl)) ?_
  refine Hd.box rfl rfl (fun b9 => ?_)
  refine Hd.yv (y_assign rfl) ?_
  refine Hd.yv (y_assign rfl) ?_
  refine Hd.nil ?_
  refine Hd.slots [(2, _), (3, _)] ⟨rfl, rfl, trivial⟩ ?_
  refine Hd.toK hK4 ?_
  refine Hd.ret ?_
  clear hK1 hK2 hK3 hK4
  exact Hd.ret2 rfl (b9, b7) rfl rfl rfl (Ent.sep (.eq pkk (pt_eq (by rfl)) enn))
end Kq
end Go.Proofs.Ytbfddabjbkohdaa
