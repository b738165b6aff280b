/-
  Worlds: numbers, open, make. Worlds: open, make, Pair. Worlds: open, make, Pair: the calls. Worlds: Pair, Close. Worlds: Close (of a wire at which none waits). Ranges over maps whose keys are integers. No program is named here. Epoll: the keys of a map, in some order. Epoll: the keys of a map, collected. The library's sort of integers over a slice that is owned. No program is named here. The library's sort laid at this seat (written by the shelf's own tool). Epoll: the keys of a map, rising. Worlds: the wire of a descriptor. Epoll: how it lies in memory; find. Epoll: the descriptors of interests that are not gone. Epoll: DeleteFunc over all's closure. Epoll: all.
-/
import Derived.Maps.RangeRun
import Derived.Shelf.SortM.Plain
import Derived.Shelf.SortM.SortNone
import Derived.Shelf.SlGeneric
import Derived.Ground.SlgmProg
import Derived.Test.YtbfddabjbkohdaaProg
import Derived.Test.YtbfddabjbkohdaaZEplNamesD
namespace Go.Proofs.Ytbfddabjbkohdaa
set_option linter.unusedSimpArgs false
set_option linter.unusedVariables false
set_option linter.unnecessarySimpa false
open Go.RX Fx
namespace Wo
set_option maxRecDepth 8000
theorem woT_at {t : Int → Option (Nat × Nat)} {w : WA} {n j o : Nat} {i : WoI} {v : Value} (ho : o = 288 + j) (hv : (woT w n i)[j]? = some v) : (fdC t ++ woT w n i)[o]? = some v := by
  subst ho
  rw [List.getElem?_append_right (by rw [fdC_len]; omega), fdC_len, Nat.add_sub_cancel_left]; exact hv
abbrev OutN (b n : Nat) (l : List Nat) : SP := RX.ex fun i : Option Addr × Nat => [pu (l.length ≤ n), pt b [.slice i.1 l.length i.2] 22, own 3 1 i.1 l.length i.2 (nats l)]
theorem frees_len (t : Int → Option (Nat × Nat)) : (frees t).length ≤ 96 := by
  have := List.length_filter_le (fun fd : Nat => (t (fd : Int)).isNone) (List.range 96)
  rwa [List.length_range] at this
set_option maxHeartbeats 2000000 in
theorem numbers_ct (L : List SP) (wb m : Nat) (t : Int → Option (Nat × Nat)) (w : WA) (i : WoI) (n : Nat) : Ct Try.prog 66 #[.pointer (some ⟨wb, 0, none⟩), .int .i64 (n : Int)] (WoH wb t w m i :: L) (fun q_ : Option Addr × Nat => .tuple #[.slice q_.1 ((frees t).take n).length q_.2, .bool (decide ((((frees t).take n).length : Int) = (n : Int)) && decide ((m : Int) < 1000))]) (fun q_ : Option Addr × Nat => own 3 1 q_.1 ((frees t).take n).length q_.2 (nats ((frees t).take n)) :: WoH wb t w m i :: L) := by
  refine Ct.ofM (vs := [.pointer (some ⟨wb, 0, none⟩), .int .i64 (n : Int)]) Try.func66 rfl rfl [(0, .pointer (some ⟨wb, 0, none⟩)), (1, .int .i64 (n : Int))] (by repeat (first | exact trivial | refine ⟨rfl, ?_⟩)) ?_
  intro E
  show Hd E 32 _ _ _ _
  refine Hd.seq (fun K1 hK1 => ?_)
  refine Hd.region ?_
  refine Hd.box rfl rfl (fun b3 => ?_)
  refine Hd.yv (y_assign rfl) ?_
  refine Hd.yv (y_assign rfl) ?_
  refine Hd.nil ?_
  refine Hd.slots [(0, _), (3, _)] ⟨rfl, rfl, trivial⟩ ?_
  refine Hd.toK hK1 ?_
  refine Hd.scope ?_
  refine Hd.seq (fun K2 hK2 => ?_)
  refine Hd.region ?_
  refine Hd.alloc zr22 (fun b6 => ?_)
  refine Hd.nil ?_
  refine Hd.slots [(0, _), (3, _), (6, _)] ⟨rfl, rfl, rfl, trivial⟩ ?_
  refine Hd.toK hK2 ?_
  refine Hd.seq (fun K3 hK3 => ?_)
  refine Hd.label ?_
  refine Hd.toK hK3 ?_
  refine Hd.seq (fun K4 hK4 => ?_)
  refine Hd.seq (fun K5 hK5 => ?_)
  refine Hd.region ?_
  refine Hd.yv (y_move rfl) ?_
  refine Hd.callE rfl fk95 (free_ct _ wb) (Ent.sep enn) ?_
  intro bx
  refine Hd.nil ?_
  refine Hd.slots [(0, _), (3, _), (6, _), (9, _)] ⟨rfl, rfl, rfl, rfl, trivial⟩ ?_
  refine Hd.toK hK5 ?_
  refine Hd.block ?_
  refine Hd.rangeF (enc := encF) (S := fun ys => ys = frees t) (Sp := fun ys => ys <+: frees t)
    (fun pre => OutN b6 n pre :: pt b3 [.int .i64 (n : Int)] 3 :: L) (fun j _ => [pu (j = some 0), OutN b6 n ((frees t).take n), pt b3 [.int .i64 (n : Int)] 3] ++ L)
    rfl (by kernel_rfl) (fun _ => rfl) rfl (free_it wb bx m t w i) (by refine Ent.sep ?_; refine Ent.ex (none, 0) ?_; refine Ent.pure (Nat.zero_le _) ?_; refine Ent.eq pkk (pt_eq (by rfl)) ?_; refine Ent.ownNil ?_; refine Ent.pick pkk ?_; exact Ent.swap (L := [_, _])) ?_ ?_ ?_
  ·
    intro E l' R pre p N hR hG
    have hfl := frees_len t
    have hpl := hG.length_le
    rw [List.length_append] at hpl
    have htk : pre.length = n → (frees t).take n = pre := fun e => by
      obtain ⟨r, hr⟩ := hG
      rw [← hr, ← e, List.append_assoc, List.take_left]
    unfold Rnd
    simp only [List.cons_append, List.nil_append, pz, encF]
    refine Hd.region ?_
    refine Hd.yv (y_assign rfl) ?_
    refine Hd.nil ?_
    refine Hd.slots [(0, _), (3, _), (6, _), (7, _)] ⟨rfl, rfl, rfl, rfl, trivial⟩ ?_
    refine Hd.thenN ?_
    refine Hd.begin hR pkk ?_
    refine Hd.block ?_
    refine Hd.seq (fun K6 hK6 => ?_)
    refine Hd.seq (fun K7 hK7 => ?_)
    refine Hd.exs pkk ?_
    rintro ⟨a3, c3⟩
    simp only [List.cons_append, List.nil_append]
    refine Hd.pure (fun hpn => ?_)
    refine Hd.region ?_
    first | (refine Hd.yv (y_load1 ag22 rfl (Rd.pt1 pkk (by (first | exact woT_at (j := 0) (by omega) rfl | rfl)))) ?_) | (refine Hd.yv (y_load1 ag22 rfl (Rd.seg1 pkk (by (first | exact woT_at (j := 0) (by omega) rfl | rfl)))) ?_) | (refine Hd.yv (y_loadR1 ag22 rfl (by (first | exact RdS.own pkk | exact RdS.own pkk)) (by (first | exact woT_at (j := 0) (by omega) rfl | rfl))) ?_)
    refine Hd.yv (y_len Try.underlying22 rfl) ?_
    first | (refine Hd.yv (y_load1 ag3 rfl (Rd.pt1 pkk (by (first | exact woT_at (j := 0) (by omega) rfl | rfl)))) ?_) | (refine Hd.yv (y_load1 ag3 rfl (Rd.seg1 pkk (by (first | exact woT_at (j := 0) (by omega) rfl | rfl)))) ?_) | (refine Hd.yv (y_loadR1 ag3 rfl (by (first | exact RdS.own pkk | exact RdS.own pkk)) (by (first | exact woT_at (j := 0) (by omega) rfl | rfl))) ?_)
    first | (refine Hd.yv (y_eqlT rfl rfl) ?_) | (refine Hd.yv (y_eql rfl rfl) ?_)
    refine Hd.nil ?_
    refine Hd.slots [(0, _), (3, _), (6, _), (7, _), (14, _)] ⟨rfl, rfl, rfl, rfl, rfl, trivial⟩ ?_
    refine Hd.toK hK7 ?_
    refine Hd.cond rfl (fun hc0 => ?_) (fun hc0 => ?_)
    ·
      try simp only [decide_eq_true_eq, decide_eq_false_iff_not, Bool.and_eq_true, Bool.or_eq_true, Bool.and_eq_false_iff, Bool.or_eq_false_iff, Bool.not_eq_true', Bool.not_eq_false', Bool.not_eq_true, Bool.not_eq_false, Int.not_lt, Int.not_le, Decidable.not_not, ne_eq] at hc0
      refine Hd.exit ?_
      refine Hd.thenExit ?_
      refine Hd.inBexit' rfl ?_
      clear hK1 hK2 hK3 hK4 hK5 hK6 hK7
      refine Hd.reX ?_
      simp only [List.cons_append, List.nil_append]
      have hc0' : pre.length = n := by omega
      rw [htk hc0']
      exact Ent.sep (.pick pkk (.pure (by first | trivial | rfl) (.ex (a3, c3) (.pure (by omega) enn))))
    ·
      try simp only [decide_eq_true_eq, decide_eq_false_iff_not, Bool.and_eq_true, Bool.or_eq_true, Bool.and_eq_false_iff, Bool.or_eq_false_iff, Bool.not_eq_true', Bool.not_eq_false', Bool.not_eq_true, Bool.not_eq_false, Int.not_lt, Int.not_le, Decidable.not_not, ne_eq] at hc0
      refine Hd.skip ?_
      refine Hd.toK hK6 ?_
      refine Hd.region ?_
      first | (refine Hd.yv (y_load1 ag22 rfl (Rd.pt1 pkk (by (first | exact woT_at (j := 0) (by omega) rfl | rfl)))) ?_) | (refine Hd.yv (y_load1 ag22 rfl (Rd.seg1 pkk (by (first | exact woT_at (j := 0) (by omega) rfl | rfl)))) ?_) | (refine Hd.yv (y_loadR1 ag22 rfl (by (first | exact RdS.own pkk | exact RdS.own pkk)) (by (first | exact woT_at (j := 0) (by omega) rfl | rfl))) ?_)
      refine Hd.yv (y_move rfl) ?_
      refine Hd.bslice (vs := [(0, _)]) rfl (by first | exact bs66_17 .. | kernel_rfl) (fun b17 => ?_)
      refine Hd.append Try.underlying22 ty3 rfl rfl rfl pkk (by first | exact RdS.rd (Rd.pt pkk (fun j v e => by simpa using e)) rfl | (first | exact RdS.own pkk | exact RdS.own pkk)) (by first | (simp [Value.oneCell']; done) | assumption) (by first | (simp only [maxLen]; omega) | assumption) (by omega) (fun ad18 cap18 => ?_)
      first | (refine Hd.store1 sz22 rfl rfl rfl pkk (by first | decide | (simp; done) | (simp; omega)) ?_) | (refine Hd.storeG1 sz22 rfl rfl rfl pkk (by first | decide | (simp; done) | (simp; omega)) ?_) | (refine Hd.storeO1 sz22 rfl rfl rfl pkk (by first | omega | (simp; done) | (simp; omega)) ?_)
      try simp only [List.set_cons_zero, List.set_cons_succ]
      refine Hd.nil ?_
      refine Hd.slots [(0, _), (3, _), (6, _)] ⟨rfl, rfl, rfl, trivial⟩ ?_
      refine Hd.inB ?_
      clear hK1 hK2 hK3 hK4 hK5 hK6 hK7
      refine Hd.reN ?_
      simp only [List.cons_append, List.nil_append]
      exact Ent.sep (.pick pkk (.ex (ad18, cap18) (.pure (by rw [List.length_append]; show pre.length + 1 ≤ n; omega) (.eq pkk (pt_eq (by simp)) (.eq pkk (own_eq (by simp) (by simp [nats])) enn)))))
  ·
    intro r0 ys hys
    obtain rfl : ys = frees t := hys
    simp only [List.cons_append, List.nil_append]
    refine Hd.exs pkk ?_
    rintro ⟨a3, c3⟩
    simp only [List.cons_append, List.nil_append]
    refine Hd.pure (fun hfn => ?_)
    have htk : (frees t).take n = frees t := List.take_of_length_le hfn
    try simp only [List.cons_append, List.nil_append]
    refine Hd.inB ?_
    refine Hd.toK hK4 ?_
    refine Hd.seq (fun K8 hK8 => ?_)
    refine Hd.quiet mixed (by kernel_rfl) ?_
    first | (refine Hq.yv (y_load1 ag22 rfl (Rd.pt1 pkk (by (first | exact woT_at (j := 0) (by omega) rfl | rfl)))) ?_) | (refine Hq.yv (y_load1 ag22 rfl (Rd.seg1 pkk (by (first | exact woT_at (j := 0) (by omega) rfl | rfl)))) ?_) | (refine Hq.yv (y_loadR1 ag22 rfl (by (first | exact RdS.own pkk | exact RdS.own pkk)) (by (first | exact woT_at (j := 0) (by omega) rfl | rfl))) ?_)
    first | (refine Hq.yv (y_load1 ag22 rfl (Rd.pt1 pkk (by (first | exact woT_at (j := 0) (by omega) rfl | rfl)))) ?_) | (refine Hq.yv (y_load1 ag22 rfl (Rd.seg1 pkk (by (first | exact woT_at (j := 0) (by omega) rfl | rfl)))) ?_) | (refine Hq.yv (y_loadR1 ag22 rfl (by (first | exact RdS.own pkk | exact RdS.own pkk)) (by (first | exact woT_at (j := 0) (by omega) rfl | rfl))) ?_)
    refine Hq.yv (y_len Try.underlying22 rfl) ?_
    first | (refine Hq.yv (y_load1 ag3 rfl (Rd.pt1 pkk (by (first | exact woT_at (j := 0) (by omega) rfl | rfl)))) ?_) | (refine Hq.yv (y_load1 ag3 rfl (Rd.seg1 pkk (by (first | exact woT_at (j := 0) (by omega) rfl | rfl)))) ?_) | (refine Hq.yv (y_loadR1 ag3 rfl (by (first | exact RdS.own pkk | exact RdS.own pkk)) (by (first | exact woT_at (j := 0) (by omega) rfl | rfl))) ?_)
    first | (refine Hq.yv (y_eqlT rfl rfl) ?_) | (refine Hq.yv (y_eql rfl rfl) ?_)
    refine Hq.yv (y_move rfl) ?_
    apply Hq.andg 7 24 31 [(19, _)] rfl ⟨rfl, trivial⟩
    · intro hg6_24
      try simp only [decide_eq_true_eq, decide_eq_false_iff_not, Bool.and_eq_true, Bool.or_eq_true, Bool.and_eq_false_iff, Bool.or_eq_false_iff, Bool.not_eq_true', Bool.not_eq_false', Bool.not_eq_true, Bool.not_eq_false, Int.not_lt, Int.not_le, Decidable.not_not, ne_eq] at hg6_24
      simp only [List.take]
      refine Hq.yg rfl rfl (y_move rfl) ?_
      refine Hq.yg rfl rfl (y_nilp rfl) ?_
      first | (refine Hq.yg rfl rfl (y_field' (q := 288) (ft := 77) Try.underlying80 rfl sz77 rfl rfl) ?_) | (refine Hq.yg rfl rfl (y_fieldR (q := 288) (ft := 77) Try.underlying80 rfl sz77 rfl rfl) ?_)
      first | (refine Hq.yg rfl rfl (y_load1 ag77 rfl (Rd.pt1 pkk (by (first | exact woT_at (j := 0) (by omega) rfl | rfl)))) ?_) | (refine Hq.yg rfl rfl (y_load1 ag77 rfl (Rd.seg1 pkk (by (first | exact woT_at (j := 0) (by omega) rfl | rfl)))) ?_) | (refine Hq.yg rfl rfl (y_loadR1 ag77 rfl (by (first | exact RdS.own pkk | exact RdS.own pkk)) (by (first | exact woT_at (j := 0) (by omega) rfl | rfl))) ?_)
      refine Hq.yg rfl rfl (y_len Try.underlying77 rfl) ?_
      refine Hq.yg rfl rfl (y_lss rfl rfl) ?_
      first | (refine Hq.yv (y_pickT rfl rfl) ?_) | (refine Hq.yv (y_pickF rfl rfl) ?_) | (refine Hq.yv (y_pickb rfl rfl rfl) ?_) | (refine Hq.yv (y_pick rfl rfl rfl) ?_)
      exact Hq.mend (by repeat (first | exact trivial | refine ⟨rfl, ?_⟩))
    · intro hg6_24
      try simp only [decide_eq_true_eq, decide_eq_false_iff_not, Bool.and_eq_true, Bool.or_eq_true, Bool.and_eq_false_iff, Bool.or_eq_false_iff, Bool.not_eq_true', Bool.not_eq_false', Bool.not_eq_true, Bool.not_eq_false, Int.not_lt, Int.not_le, Decidable.not_not, ne_eq] at hg6_24
      simp only [List.take]
      refine Hq.ng rfl rfl rfl ?_
      refine Hq.ng rfl rfl rfl ?_
      refine Hq.ng rfl rfl rfl ?_
      refine Hq.ng rfl rfl rfl ?_
      refine Hq.ng rfl rfl rfl ?_
      refine Hq.ng rfl rfl rfl ?_
      first | (refine Hq.yv (y_pickT rfl rfl) ?_) | (refine Hq.yv (y_pickF rfl rfl) ?_) | (refine Hq.yv (y_pickb rfl rfl rfl) ?_) | (refine Hq.yv (y_pick rfl rfl rfl) ?_)
      exact Hq.mend (by repeat (first | exact trivial | refine ⟨rfl, ?_⟩))
    simp only [List.drop]
    refine Hq.yv (y_assign rfl) ?_
    refine Hq.yv (y_assign rfl) ?_
    refine Hq.nil ?_
    refine Hd.slots [(4, _), (5, _)] ⟨rfl, rfl, trivial⟩ ?_
    refine Hd.toK hK8 ?_
    refine Hd.ret ?_
    refine Hd.scRet ?_
    clear hK1 hK2 hK3 hK4 hK5 hK8
    rw [htk]
    exact Hd.retM (fun a fr => Lv.mark pkk (Lv.end2 fr rfl (a3, c3) rfl rfl rfl (Ent.sep enn)))
  ·
    rintro r0_0 (_ | id0) pre0 hG0
    ·
      exact Hd.absurd (by first | exact id | simp)
    ·
      by_cases hid0 : id0 = 0
      · subst hid0
        simp only [List.cons_append, List.nil_append]
        refine Hd.pure (fun _ => ?_)
        refine Hd.exs pkk ?_
        rintro ⟨a3, c3⟩
        simp only [List.cons_append, List.nil_append]
        refine Hd.pure (fun hfn => ?_)
        try simp only [List.cons_append, List.nil_append]
        refine Hd.exit ?_
        refine Hd.inBexit ?_
        refine Hd.toK hK4 ?_
        refine Hd.seq (fun K9 hK9 => ?_)
        refine Hd.quiet mixed (by kernel_rfl) ?_
        first | (refine Hq.yv (y_load1 ag22 rfl (Rd.pt1 pkk (by (first | exact woT_at (j := 0) (by omega) rfl | rfl)))) ?_) | (refine Hq.yv (y_load1 ag22 rfl (Rd.seg1 pkk (by (first | exact woT_at (j := 0) (by omega) rfl | rfl)))) ?_) | (refine Hq.yv (y_loadR1 ag22 rfl (by (first | exact RdS.own pkk | exact RdS.own pkk)) (by (first | exact woT_at (j := 0) (by omega) rfl | rfl))) ?_)
        first | (refine Hq.yv (y_load1 ag22 rfl (Rd.pt1 pkk (by (first | exact woT_at (j := 0) (by omega) rfl | rfl)))) ?_) | (refine Hq.yv (y_load1 ag22 rfl (Rd.seg1 pkk (by (first | exact woT_at (j := 0) (by omega) rfl | rfl)))) ?_) | (refine Hq.yv (y_loadR1 ag22 rfl (by (first | exact RdS.own pkk | exact RdS.own pkk)) (by (first | exact woT_at (j := 0) (by omega) rfl | rfl))) ?_)
        refine Hq.yv (y_len Try.underlying22 rfl) ?_
        first | (refine Hq.yv (y_load1 ag3 rfl (Rd.pt1 pkk (by (first | exact woT_at (j := 0) (by omega) rfl | rfl)))) ?_) | (refine Hq.yv (y_load1 ag3 rfl (Rd.seg1 pkk (by (first | exact woT_at (j := 0) (by omega) rfl | rfl)))) ?_) | (refine Hq.yv (y_loadR1 ag3 rfl (by (first | exact RdS.own pkk | exact RdS.own pkk)) (by (first | exact woT_at (j := 0) (by omega) rfl | rfl))) ?_)
        first | (refine Hq.yv (y_eqlT rfl rfl) ?_) | (refine Hq.yv (y_eql rfl rfl) ?_)
        refine Hq.yv (y_move rfl) ?_
        apply Hq.andg 7 24 31 [(19, _)] rfl ⟨rfl, trivial⟩
        · intro hg6_24
          try simp only [decide_eq_true_eq, decide_eq_false_iff_not, Bool.and_eq_true, Bool.or_eq_true, Bool.and_eq_false_iff, Bool.or_eq_false_iff, Bool.not_eq_true', Bool.not_eq_false', Bool.not_eq_true, Bool.not_eq_false, Int.not_lt, Int.not_le, Decidable.not_not, ne_eq] at hg6_24
          simp only [List.take]
          refine Hq.yg rfl rfl (y_move rfl) ?_
          refine Hq.yg rfl rfl (y_nilp rfl) ?_
          first | (refine Hq.yg rfl rfl (y_field' (q := 288) (ft := 77) Try.underlying80 rfl sz77 rfl rfl) ?_) | (refine Hq.yg rfl rfl (y_fieldR (q := 288) (ft := 77) Try.underlying80 rfl sz77 rfl rfl) ?_)
          first | (refine Hq.yg rfl rfl (y_load1 ag77 rfl (Rd.pt1 pkk (by (first | exact woT_at (j := 0) (by omega) rfl | rfl)))) ?_) | (refine Hq.yg rfl rfl (y_load1 ag77 rfl (Rd.seg1 pkk (by (first | exact woT_at (j := 0) (by omega) rfl | rfl)))) ?_) | (refine Hq.yg rfl rfl (y_loadR1 ag77 rfl (by (first | exact RdS.own pkk | exact RdS.own pkk)) (by (first | exact woT_at (j := 0) (by omega) rfl | rfl))) ?_)
          refine Hq.yg rfl rfl (y_len Try.underlying77 rfl) ?_
          refine Hq.yg rfl rfl (y_lss rfl rfl) ?_
          first | (refine Hq.yv (y_pickT rfl rfl) ?_) | (refine Hq.yv (y_pickF rfl rfl) ?_) | (refine Hq.yv (y_pickb rfl rfl rfl) ?_) | (refine Hq.yv (y_pick rfl rfl rfl) ?_)
          exact Hq.mend (by repeat (first | exact trivial | refine ⟨rfl, ?_⟩))
        · intro hg6_24
          try simp only [decide_eq_true_eq, decide_eq_false_iff_not, Bool.and_eq_true, Bool.or_eq_true, Bool.and_eq_false_iff, Bool.or_eq_false_iff, Bool.not_eq_true', Bool.not_eq_false', Bool.not_eq_true, Bool.not_eq_false, Int.not_lt, Int.not_le, Decidable.not_not, ne_eq] at hg6_24
          simp only [List.take]
          refine Hq.ng rfl rfl rfl ?_
          refine Hq.ng rfl rfl rfl ?_
          refine Hq.ng rfl rfl rfl ?_
          refine Hq.ng rfl rfl rfl ?_
          refine Hq.ng rfl rfl rfl ?_
          refine Hq.ng rfl rfl rfl ?_
          first | (refine Hq.yv (y_pickT rfl rfl) ?_) | (refine Hq.yv (y_pickF rfl rfl) ?_) | (refine Hq.yv (y_pickb rfl rfl rfl) ?_) | (refine Hq.yv (y_pick rfl rfl rfl) ?_)
          exact Hq.mend (by repeat (first | exact trivial | refine ⟨rfl, ?_⟩))
        simp only [List.drop]
        refine Hq.yv (y_assign rfl) ?_
        refine Hq.yv (y_assign rfl) ?_
        refine Hq.nil ?_
        refine Hd.slots [(4, _), (5, _)] ⟨rfl, rfl, trivial⟩ ?_
        refine Hd.toK hK9 ?_
        refine Hd.ret ?_
        refine Hd.scRet ?_
        clear hK1 hK2 hK3 hK4 hK5 hK9
        exact Hd.retM (fun a fr => Lv.mark pkk (Lv.end2 fr rfl (a3, c3) rfl rfl rfl (Ent.sep enn)))
      · exact Hd.absurd (by first | exact hid0 | (simpa using hid0))
end Wo
end Go.Proofs.Ytbfddabjbkohdaa
namespace Go.Proofs.Ytbfddabjbkohdaa
set_option linter.unusedSimpArgs false
set_option linter.unusedVariables false
set_option linter.unnecessarySimpa false
open Go.RX Fx
namespace Wo
set_option maxRecDepth 8000
def openW (x : WireA) (fs : List Nat) (k : Nat) : WireA := { x with e := fun j => if j < k then { x.e j with what := 1, fd := ((fs.getD j 0 : Nat) : Int) } else x.e j }
def openT (t : Int → Option (Nat × Nat)) (m : Nat) (fs : List Nat) : Nat → Int → Option (Nat × Nat)
  | 0 => t
  | k + 1 => setT (openT t m fs k) ((fs.getD k 0 : Nat) : Int) (some (m, k))
def WA.addW (w : WA) (x : WireA) : WA := { w with ws := w.ws ++ [x] }
theorem atW_app (fd : Int) (x : WireA) : ∀ (ws : List WireA) (i : Nat), atW (ws ++ [x]) i fd = (atW ws i fd).or ((atE x fd).map fun k => (i + ws.length, k))
  | [], i => by
    show (match atE x fd with | some k => some (i, k) | none => none) = _
    cases h : atE x fd <;> rfl
  | y :: t, i => by
    show (match atE y fd with | some k => some (i, k) | none => atW (t ++ [x]) (i + 1) fd) = (match atE y fd with | some k => some (i, k) | none => atW t (i + 1) fd).or _
    cases h : atE y fd with
    | some k => rfl
    | none =>
      show atW (t ++ [x]) (i + 1) fd = _
      rw [atW_app fd x t (i + 1), List.length_cons, show i + 1 + t.length = i + (t.length + 1) by omega]
theorem frees_mem {t : Int → Option (Nat × Nat)} {fd : Nat} : fd ∈ frees t ↔ fd < 96 ∧ t (fd : Int) = none := by
  unfold frees
  rw [List.mem_filter, List.mem_range, Option.isNone_iff_eq_none]
theorem frees_nd (t : Int → Option (Nat × Nat)) : (frees t).Nodup := List.nodup_range.filter _
structure NewW (x : WireA) (l : Nat) : Prop where
  wf : WfW x
  no : ∀ k, k < 2 → (x.e k).what ≠ 1
  wt : x.wt = []
theorem open_e (x : WireA) (fs : List Nat) (k j : Nat) : (openW x fs k).e j = if j < k then { x.e j with what := 1, fd := ((fs.getD j 0 : Nat) : Int) } else x.e j := rfl
theorem open_wf {x : WireA} {l : Nat} (h : NewW x l) (fs : List Nat) (k : Nat) : WfW (openW x fs k) := by
  have e : ∀ j, ((openW x fs k).e j).rd = (x.e j).rd ∧ ((openW x fs k).e j).wr = (x.e j).wr ∧ ((openW x fs k).e j).b = (x.e j).b ∧ (((openW x fs k).e j).what = 1 ∨ ((openW x fs k).e j).what = (x.e j).what) := fun j => by
    rw [open_e]
    split
    · exact ⟨rfl, rfl, rfl, .inl rfl⟩
    · exact ⟨rfl, rfl, rfl, .inr rfl⟩
  refine ⟨fun j hj => by rw [(e j).2.1, (e (1 - j)).1]; exact h.wf.wr j hj, fun j hj => by rw [(e j).2.2.1]; exact h.wf.le j hj, fun j hj hr => by rw [(e j).2.2.1]; exact h.wf.nb j hj (by rw [← (e j).1]; exact hr), h.wf.cap, fun j hj => ?_, h.wf.bl, fun h1 => ?_⟩
  · rcases (e j).2.2.2 with h1 | h1
    · rw [h1]; omega
    · rw [h1]; exact h.wf.what j hj
  · rw [(e 0).1, (e 1).1]
    refine h.wf.ou ?_
    rcases (e 1).2.2.2 with h2 | h2
    · rw [h2] at h1; cases h1
    · rw [← h2]; exact h1
structure OpF (w : WA) (fs : List Nat) : Prop where
  nd : fs.Nodup
  fr : ∀ f ∈ fs, f < 96 ∧ w.at (f : Int) = none
  le : fs.length ≤ 2
theorem opF_take (w : WA) {n : Nat} (hn : n ≤ 2) : OpF w ((frees w.at).take n) :=
  ⟨(frees_nd _).sublist (List.take_sublist _ _), fun f hf => frees_mem.1 (List.mem_of_mem_take hf), by rw [List.length_take]; omega⟩
theorem open_in {x : WireA} {l : Nat} (hx : NewW x l) {fs : List Nat} {k : Nat} (hk : k < 2) : ((openW x fs fs.length).e k).what = 1 ↔ k < fs.length := by
  rw [open_e]
  split
  · simp [*]
  · rename_i h; exact ⟨fun h1 => absurd h1 (hx.no k hk), fun h1 => absurd h1 h⟩
theorem open_fd {x : WireA} {fs : List Nat} {k : Nat} (h : k < fs.length) : ((openW x fs fs.length).e k).fd = ((fs.getD k 0 : Nat) : Int) := by rw [open_e, if_pos h]
theorem getD_mem {fs : List Nat} {k : Nat} (h : k < fs.length) : fs.getD k 0 ∈ fs := by
  rw [List.getD_eq_getElem?_getD, List.getElem?_eq_getElem h]; exact List.getElem_mem h
theorem getD_inj {fs : List Nat} (hn : fs.Nodup) {k j : Nat} (h : k < fs.length) (h2 : j < fs.length) (e : fs.getD k 0 = fs.getD j 0) : k = j := by
  rw [List.getD_eq_getElem?_getD, List.getD_eq_getElem?_getD, List.getElem?_eq_getElem h, List.getElem?_eq_getElem h2] at e
  exact (List.getElem_inj hn).1 e
theorem app_at {α : Type} {l : List α} {x y : α} {n : Nat} (h : (l ++ [x])[n]? = some y) : l[n]? = some y ∨ (n = l.length ∧ y = x) := by
  rcases Nat.lt_or_ge n l.length with h1 | h1
  · rw [List.getElem?_append_left h1] at h; exact .inl h
  · rw [List.getElem?_append_right h1] at h
    have : n - l.length = 0 := by have := (List.getElem?_eq_some_iff.1 h).1; simp at this; omega
    rw [this] at h
    exact .inr ⟨by omega, (Option.some.inj h).symm⟩
theorem WOk.addW {w : WA} (h : WOk w) {x : WireA} {fs : List Nat} (hx : NewW x w.ws.length) (hf : OpF w fs) (hl : w.ws.length < 1000) : WOk (w.addW (openW x fs fs.length)) := by
  have hold : ∀ {n : Nat} {y : WireA} {k : Nat}, w.ws[n]? = some y → k < 2 → (y.e k).what = 1 → ∀ j, j < fs.length → (y.e k).fd ≠ ((fs.getD j 0 : Nat) : Int) := fun {n y k} hy hk h1 j hj e =>
    atW_no.1 (hf.fr _ (getD_mem hj)).2 y (List.mem_of_getElem? hy) k hk ⟨h1, e⟩
  refine ⟨?_, ?_, by show (w.ws ++ [_]).length ≤ 1000; rw [List.length_append]; simp; omega, h.hdl, h.ctl, ?_, ?_, ?_, ?_, fun m y hm => by
    rcases app_at hm with hm | ⟨rfl, rfl⟩
    · exact h.ns _ _ hm
    · rw [show (openW x fs fs.length).wt = [] from hx.wt]; exact List.not_mem_nil⟩
  · intro a b y z k j ha hb hk hj h1 h2 h3
    rcases app_at ha with ha | ⟨rfl, rfl⟩ <;> rcases app_at hb with hb | ⟨rfl, rfl⟩
    · exact h.uq a b y z k j ha hb hk hj h1 h2 h3
    · have := (open_in hx hj).1 h2
      rw [open_fd this] at h3
      exact absurd h3 (hold ha hk h1 j this)
    · have := (open_in hx hk).1 h1
      rw [open_fd this] at h3
      exact absurd h3.symm (hold hb hj h2 k this)
    · have a1 := (open_in hx hk).1 h1
      have a2 := (open_in hx hj).1 h2
      rw [open_fd a1, open_fd a2] at h3
      exact ⟨rfl, getD_inj hf.nd a1 a2 (by omega)⟩
  · intro y hy k hk h1
    rcases List.mem_append.1 hy with hy | hy
    · exact h.fd y hy k hk h1
    · obtain rfl : y = _ := by simpa using hy
      have a1 := (open_in hx hk).1 h1
      have := (hf.fr _ (getD_mem a1)).1
      rw [open_fd a1]; omega
  · intro y hy
    rcases List.mem_append.1 hy with hy | hy
    · exact h.wf y hy
    · obtain rfl : y = _ := by simpa using hy
      exact open_wf hx fs _
  · show ((w.ws ++ [_]).flatMap WireA.wt).Nodup
    rw [List.flatMap_append, List.flatMap_cons, List.flatMap_nil, show (openW x fs fs.length).wt = [] from hx.wt, List.append_nil, List.append_nil]
    exact h.wn
  · intro m hm
    have hm' : m ∈ w.ws.flatMap WireA.wt := by
      have h2 : m ∈ (w.ws ++ [openW x fs fs.length]).flatMap WireA.wt := hm
      rwa [List.flatMap_append, List.flatMap_cons, List.flatMap_nil, show (openW x fs fs.length).wt = [] from hx.wt, List.append_nil, List.append_nil] at h2
    obtain ⟨y, hy, h0⟩ := h.wm m hm'
    exact ⟨y, by show (w.ws ++ [_])[m]? = _; rw [List.getElem?_append_left (List.getElem?_eq_some_iff.1 hy).1]; exact hy, h0⟩
  · intro n k hn
    obtain ⟨hk, y, hy, h0⟩ := h.nt n k hn
    exact ⟨hk, y, by show (w.ws ++ [_])[n]? = _; rw [List.getElem?_append_left (List.getElem?_eq_some_iff.1 hy).1]; exact hy, h0⟩
theorem openT_eq {t : Int → Option (Nat × Nat)} {m : Nat} {fs : List Nat} (hn : fs.Nodup) (hle : fs.length ≤ 2) (fd : Int) : openT t m fs fs.length fd = if ∃ k, k < fs.length ∧ fd = ((fs.getD k 0 : Nat) : Int) then (if 0 < fs.length ∧ fd = ((fs.getD 0 0 : Nat) : Int) then some (m, 0) else some (m, 1)) else t fd := by
  match fs, hle with
  | [], _ => simp [openT]
  | [a], _ =>
    show (if fd = ((([a] : List Nat).getD 0 0 : Nat) : Int) then _ else t fd) = _
    by_cases h : fd = (a : Int)
    · rw [if_pos (by simpa using h), if_pos ⟨0, by simp, by simpa using h⟩, if_pos ⟨by simp, by simpa using h⟩]
    · rw [if_neg (by simpa using h), if_neg]
      rintro ⟨k, hk, e⟩
      have : k = 0 := by simp at hk; omega
      subst this; exact h (by simpa using e)
  | [a, b], _ =>
    have hab : a ≠ b := by simpa using (List.nodup_cons.1 hn).1
    show (if fd = ((([a, b] : List Nat).getD 1 0 : Nat) : Int) then _ else if fd = ((([a, b] : List Nat).getD 0 0 : Nat) : Int) then _ else t fd) = _
    by_cases h : fd = (b : Int)
    · rw [if_pos (by simpa using h), if_pos ⟨1, by simp, by simpa using h⟩, if_neg]
      · rfl
      · rintro ⟨_, e⟩
        have : fd = (a : Int) := by simpa using e
        omega
    · rw [if_neg (by simpa using h)]
      by_cases h2 : fd = (a : Int)
      · rw [if_pos (by simpa using h2), if_pos ⟨0, by simp, by simpa using h2⟩, if_pos ⟨by simp, by simpa using h2⟩]
      · rw [if_neg (by simpa using h2), if_neg]
        rintro ⟨k, hk, e⟩
        rcases (show k = 0 ∨ k = 1 by simp at hk; omega) with rfl | rfl
        · exact h2 (by simpa using e)
        · exact h (by simpa using e)
theorem addW_at {w : WA} {x : WireA} {fs : List Nat} (hx : NewW x w.ws.length) (hf : OpF w fs) : (w.addW (openW x fs fs.length)).at = openT w.at w.ws.length fs fs.length := by
  funext fd
  rw [openT_eq hf.nd hf.le]
  show atW (w.ws ++ [_]) 0 fd = _
  rw [atW_app, Nat.zero_add]
  by_cases h : ∃ k, k < fs.length ∧ fd = ((fs.getD k 0 : Nat) : Int)
  · rw [if_pos h]
    obtain ⟨k, hk, e⟩ := h
    have hno : atW w.ws 0 fd = none := by rw [e]; exact (hf.fr _ (getD_mem hk)).2
    rw [hno, Option.none_or]
    unfold atE
    by_cases h0 : 0 < fs.length ∧ fd = ((fs.getD 0 0 : Nat) : Int)
    · rw [if_pos h0, if_pos ⟨(open_in hx (by omega)).2 h0.1, by rw [open_fd h0.1]; exact h0.2.symm⟩]; rfl
    · have hk1 : k = 1 := by
        have hkl : k < 2 := by have := hf.le; omega
        rcases (show k = 0 ∨ k = 1 by omega) with rfl | rfl
        · exact absurd ⟨hk, e⟩ h0
        · rfl
      subst hk1
      rw [if_neg h0, if_neg, if_pos ⟨(open_in hx (by omega)).2 hk, by rw [open_fd hk]; exact e.symm⟩]
      · rfl
      · rintro ⟨h1, h2⟩
        have := (open_in hx (by omega)).1 h1
        rw [open_fd this] at h2
        exact h0 ⟨this, h2.symm⟩
  · rw [if_neg h]
    have : atE (openW x fs fs.length) fd = none := atE_no fun k hk ⟨h1, h2⟩ => by
      have := (open_in hx hk).1 h1
      rw [open_fd this] at h2
      exact h ⟨k, this, h2.symm⟩
    rw [this, Option.map_none, Option.or_none]
end Wo
end Go.Proofs.Ytbfddabjbkohdaa
namespace Go.Proofs.Ytbfddabjbkohdaa
set_option linter.unusedSimpArgs false
set_option linter.unusedVariables false
set_option linter.unnecessarySimpa false
open Go.RX Fx
namespace Wo
set_option maxRecDepth 8000
theorem enc_open {x : WireA} {fs : List Nat} {i : WI} {k : Nat} (hk : k < 2) : ((encW (openW x fs k) i).set (0 + 0 + k * 7 + 0) (.int .i64 1)).set (0 + 0 + k * 7 + 1) (.int .i64 ((fs.getD k 0 : Nat) : Int)) = encW (openW x fs (k + 1)) i := by
  rcases (show k = 0 ∨ k = 1 by omega) with rfl | rfl <;> rfl
theorem nats_at {fs : List Nat} {k : Nat} (h : k < fs.length) : (nats fs)[k * 1]? = some (.int .i64 ((fs.getD k 0 : Nat) : Int)) := by
  rw [Nat.mul_one, List.getElem?_map, List.getElem?_eq_getElem h, List.getD_eq_getElem?_getD, List.getElem?_eq_getElem h]; rfl
theorem open_same (x : WireA) (fs : List Nat) (k j : Nat) : ((openW x fs k).e j).rd = (x.e j).rd ∧ ((openW x fs k).e j).b = (x.e j).b := by
  rw [open_e]; split <;> exact ⟨rfl, rfl⟩
theorem open_close {b k : Nat} {x : WireA} {fs : List Nat} {i : WI} {L : List SP} (hi : WIOk x i) : ∀ h, sep (pt b (encW (openW x fs k) i) 88 :: WireB x i 0 L) h → sep (WireP b (openW x fs k) :: L) h := by
  intro h s
  refine wire_fold (x := openW x fs k) (i := i) (k := 0) ⟨fun j hj => by rw [(open_same x fs k j).1]; exact hi.rd j hj⟩ (by omega) h ?_
  unfold WireB at s ⊢
  rw [(open_same x fs k 0).2, (open_same x fs k (1 - 0)).2]
  exact s
set_option maxHeartbeats 2000000 in
theorem open_ct (L : List SP) (wb m b : Nat) (t : Int → Option (Nat × Nat)) (w : WA) (i : WoI) (x : WireA) (fs : List Nat) (fa : Option Addr) (fc : Nat) (hR : RdS L 1 fa fs.length (nats fs)) (hle : fs.length ≤ 2) (hf : ∀ f ∈ fs, f < 96) (hm : m < 100000) (hml : i.rs.length = m) : Ct Try.prog 67 #[.pointer (some ⟨wb, 0, none⟩), .pointer (some ⟨b, 0, none⟩), .slice fa fs.length fc] (WoH wb t w m i :: own 81 1 i.wa m i.wc (pws i.rs) :: WireP b x :: L) (fun q_ : Option Addr × Nat => .tuple #[]) (fun q_ : Option Addr × Nat => WoH wb (openT t m fs fs.length) w (m + 1) { i with wa := q_.1, wc := q_.2 } :: own 81 1 q_.1 (m + 1) q_.2 (pws i.rs ++ [ptr (some b)]) :: WireP b (openW x fs fs.length) :: L) := by
  refine Ct.of (vs := [.pointer (some ⟨wb, 0, none⟩), .pointer (some ⟨b, 0, none⟩), .slice fa fs.length fc]) Try.func67 rfl rfl [(0, .pointer (some ⟨wb, 0, none⟩)), (1, .pointer (some ⟨b, 0, none⟩)), (2, .slice fa fs.length fc)] (by repeat (first | exact trivial | refine ⟨rfl, ?_⟩)) ?_
  intro E
  show Hd E 51 _ _ _ _
  refine Hd.wire (.there (.there .here)) 0 (by omega) (fun i2 hi => ?_)
  have e0 : x = openW x fs 0 := by
    obtain ⟨e, cp, r, bl, wt⟩ := x
    unfold openW; congr 1
  refine Hd.heap (pt b (encW (openW x fs 0) i2) 88 :: WoH wb t w m i :: own 81 1 i.wa m i.wc (pws i.rs) :: WireB x i2 0 L) (Ent.sep (.eq pkk (pt_eq (congrArg (fun z => encW z i2) e0)) enn)) ?_
  refine Hd.seq (fun K1 hK1 => ?_)
  refine Hd.seq (fun K2 hK2 => ?_)
  refine Hd.region ?_
  refine Hd.yv (y_move rfl) ?_
  refine Hd.yv (y_len Try.underlying22 rfl) ?_
  refine Hd.yv (y_move rfl) ?_
  refine Hd.nil ?_
  refine Hd.slots [(0, _), (1, _), (8, _), (9, _), (10, _)] ⟨rfl, rfl, rfl, rfl, rfl, trivial⟩ ?_
  refine Hd.toK hK2 ?_
  refine Hd.block ?_
  refine Hd.loopK (ι := Nat) [(0, _), (1, _), (8, _), (9, _)] (fun k => [(10, .int .i64 (k : Int))]) (fun k => pu (k ≤ fs.length) :: pt b (encW (openW x fs k) i2) 88 :: WoH wb (openT t m fs k) w m i :: own 81 1 i.wa m i.wc (pws i.rs) :: WireB x i2 0 L) (fun k => fs.length - k) 0 (by repeat (first | exact trivial | refine ⟨rfl, ?_⟩)) (by repeat (first | exact trivial | refine ⟨rfl, ?_⟩)) (Ent.sep (.pure (by first | omega | (simp; done) | (simp; omega) | exact ⟨by simp, by simp⟩) enn)) ?_
  intro k
  try dsimp only
  refine Hd.pure (fun hp0 => ?_)
  try dsimp only at hp0
  refine Hd.seq (fun K3 hK3 => ?_)
  refine Hd.region ?_
  refine Hd.yv (y_lss rfl rfl) ?_
  refine Hd.nil ?_
  refine Hd.slots [(0, _), (1, _), (8, _), (9, _), (10, _), (11, _)] ⟨rfl, rfl, rfl, rfl, rfl, rfl, trivial⟩ ?_
  refine Hd.toK hK3 ?_
  refine Hd.seq (fun K4 hK4 => ?_)
  refine Hd.cond rfl (fun hc0 => ?_) (fun hc0 => ?_)
  ·
    try simp only [decide_eq_true_eq, decide_eq_false_iff_not, Bool.and_eq_true, Bool.or_eq_true, Bool.and_eq_false_iff, Bool.or_eq_false_iff, Bool.not_eq_true', Bool.not_eq_false', Bool.not_eq_true, Bool.not_eq_false, Int.not_lt, Int.not_le, Decidable.not_not, ne_eq] at hc0
    have hk : k < fs.length := by omega
    have hfk : fs.getD k 0 < 96 := hf _ (getD_mem hk)
    refine Hd.skip ?_
    refine Hd.toK hK4 ?_
    refine Hd.seq (fun K5 hK5 => ?_)
    refine Hd.block ?_
    refine Hd.seq (fun K6 hK6 => ?_)
    refine Hd.region ?_
    refine Hd.yv (y_move rfl) ?_
    first | (refine Hd.yv (y_idxS Try.underlying22 sz3 rfl rfl (by first | omega | decide)) ?_) | (refine Hd.yv (y_idxR Try.underlying22 sz3 rfl rfl (by first | omega | decide) (by (first | exact RdS.own pkk | exact RdS.mono hR (Ent.sep enn)))) ?_)
    first | (refine Hd.yv (y_load1 ag3 rfl (Rd.pt1 pkk (by (first | exact nats_at (by omega) | exact woT_at (j := 0) (by omega) rfl | rfl)))) ?_) | (refine Hd.yv (y_load1 ag3 rfl (Rd.seg1 pkk (by (first | exact nats_at (by omega) | exact woT_at (j := 0) (by omega) rfl | rfl)))) ?_) | (refine Hd.yv (y_loadR1 ag3 rfl (by (first | exact RdS.own pkk | exact RdS.mono hR (Ent.sep enn))) (by (first | exact nats_at (by omega) | exact woT_at (j := 0) (by omega) rfl | rfl))) ?_)
    refine Hd.yv (y_assign rfl) ?_
    refine Hd.yv (y_assign rfl) ?_
    refine Hd.nil ?_
    refine Hd.slots [(0, _), (1, _), (6, _), (7, _), (8, _), (9, _), (10, _)] ⟨rfl, rfl, rfl, rfl, rfl, rfl, rfl, trivial⟩ ?_
    refine Hd.toK hK6 ?_
    refine Hd.seq (fun K7 hK7 => ?_)
    refine Hd.drawsH ([]) (fun j => !(([1000] : List Nat).contains j)) mixed ?_
    simp only [List.length, Nat.zero_add, Nat.reduceAdd]
    refine Hd.takeH 0 rfl (by kernel_rfl) (by kernel_rfl) (by kernel_rfl) (by kernel_rfl) (y_move rfl) (fun _ _ => rfl) (Ent.sep enn) ?_
    refine Hd.takeH 1 rfl (by kernel_rfl) (by kernel_rfl) (by kernel_rfl) (by kernel_rfl) (y_move rfl) (fun _ _ => rfl) (Ent.sep enn) ?_
    refine Hd.takeH 2 rfl (by kernel_rfl) (by kernel_rfl) (by kernel_rfl) (by kernel_rfl) (y_move rfl) (fun _ _ => rfl) (Ent.sep enn) ?_
    refine Hd.takeH 3 rfl (by kernel_rfl) (by kernel_rfl) (by kernel_rfl) (by kernel_rfl) (y_move rfl) (fun _ _ => rfl) (Ent.sep enn) ?_
    refine Hd.takeH 4 rfl (by kernel_rfl) (by kernel_rfl) (by kernel_rfl) (by kernel_rfl) (y_move rfl) (fun _ _ => rfl) (Ent.sep enn) ?_
    refine Hd.takeH 5 rfl (by kernel_rfl) (by kernel_rfl) (by kernel_rfl) (by kernel_rfl) (y_nilp rfl) (fun _ _ => rfl) (Ent.sep enn) ?_
    first | (refine Hd.takeH 6 rfl (by kernel_rfl) (by kernel_rfl) (by kernel_rfl) (by kernel_rfl) (y_field' (q := 0) (ft := 86) Try.underlying88 rfl sz86 rfl rfl) (fun _ _ => rfl) (Ent.sep enn) ?_) | (refine Hd.takeH 6 rfl (by kernel_rfl) (by kernel_rfl) (by kernel_rfl) (by kernel_rfl) (y_fieldR (q := 0) (ft := 86) Try.underlying88 rfl sz86 rfl rfl) (fun _ _ => rfl) (Ent.sep enn) ?_)
    first | (refine Hd.takeH 7 rfl (by kernel_rfl) (by kernel_rfl) (by kernel_rfl) (by kernel_rfl) (y_idxA Try.underlying86 sz85 rfl rfl (by first | omega | decide)) (fun _ _ => rfl) (Ent.sep enn) ?_) | (refine Hd.takeH 7 rfl (by kernel_rfl) (by kernel_rfl) (by kernel_rfl) (by kernel_rfl) (y_idxAR Try.underlying86 sz85 rfl rfl (by first | omega | decide)) (fun _ _ => rfl) (Ent.sep enn) ?_)
    first | (refine Hd.takeH 8 rfl (by kernel_rfl) (by kernel_rfl) (by kernel_rfl) (by kernel_rfl) (y_field' (q := 0) (ft := 3) Try.underlying85 rfl sz3 rfl rfl) (fun _ _ => rfl) (Ent.sep enn) ?_) | (refine Hd.takeH 8 rfl (by kernel_rfl) (by kernel_rfl) (by kernel_rfl) (by kernel_rfl) (y_fieldR (q := 0) (ft := 3) Try.underlying85 rfl sz3 rfl rfl) (fun _ _ => rfl) (Ent.sep enn) ?_)
    refine Hd.takeH 10 rfl (by kernel_rfl) (by kernel_rfl) (by kernel_rfl) (by kernel_rfl) (y_nilp rfl) (fun _ _ => rfl) (Ent.sep enn) ?_
    first | (refine Hd.takeH 11 rfl (by kernel_rfl) (by kernel_rfl) (by kernel_rfl) (by kernel_rfl) (y_field' (q := 0) (ft := 86) Try.underlying88 rfl sz86 rfl rfl) (fun _ _ => rfl) (Ent.sep enn) ?_) | (refine Hd.takeH 11 rfl (by kernel_rfl) (by kernel_rfl) (by kernel_rfl) (by kernel_rfl) (y_fieldR (q := 0) (ft := 86) Try.underlying88 rfl sz86 rfl rfl) (fun _ _ => rfl) (Ent.sep enn) ?_)
    refine Hd.onlyH 9 rfl (by kernel_rfl) ?_
    first | (refine Hd.store1 sz3 rfl rfl rfl pkk (by first | (rw [List.length_append, fdC_len]; simp) | decide | (simp; done) | (simp; omega)) ?_) | (refine Hd.storeG1 sz3 rfl rfl rfl pkk (by first | (rw [List.length_append, fdC_len]; simp) | decide | (simp; done) | (simp; omega)) ?_) | (refine Hd.storeO1 sz3 rfl rfl rfl pkk (by first | (rw [List.length_append, fdC_len]; simp) | omega | (simp; done) | (simp; omega)) ?_)
    try simp only [List.set_cons_zero, List.set_cons_succ]
    refine Hd.nil ?_
    refine Hd.thenN ?_
    refine Hd.heldK (J := (fun j => !(([1000] : List Nat).contains j))) (i := 9) (Ent.sep enn) ?_
    first | (refine Hd.takeH 12 rfl (by kernel_rfl) (by kernel_rfl) (by kernel_rfl) (by kernel_rfl) (y_idxA Try.underlying86 sz85 rfl rfl (by first | omega | decide)) (fun _ _ => rfl) (Ent.sep enn) ?_) | (refine Hd.takeH 12 rfl (by kernel_rfl) (by kernel_rfl) (by kernel_rfl) (by kernel_rfl) (y_idxAR Try.underlying86 sz85 rfl rfl (by first | omega | decide)) (fun _ _ => rfl) (Ent.sep enn) ?_)
    first | (refine Hd.takeH 13 rfl (by kernel_rfl) (by kernel_rfl) (by kernel_rfl) (by kernel_rfl) (y_field' (q := 1) (ft := 3) Try.underlying85 rfl sz3 rfl rfl) (fun _ _ => rfl) (Ent.sep enn) ?_) | (refine Hd.takeH 13 rfl (by kernel_rfl) (by kernel_rfl) (by kernel_rfl) (by kernel_rfl) (y_fieldR (q := 1) (ft := 3) Try.underlying85 rfl sz3 rfl rfl) (fun _ _ => rfl) (Ent.sep enn) ?_)
    refine Hd.onlyH 14 rfl (by kernel_rfl) ?_
    first | (refine Hd.store1 sz3 rfl rfl rfl pkk (by first | (rw [List.length_append, fdC_len]; simp) | decide | (simp; done) | (simp; omega)) ?_) | (refine Hd.storeG1 sz3 rfl rfl rfl pkk (by first | (rw [List.length_append, fdC_len]; simp) | decide | (simp; done) | (simp; omega)) ?_) | (refine Hd.storeO1 sz3 rfl rfl rfl pkk (by first | (rw [List.length_append, fdC_len]; simp) | omega | (simp; done) | (simp; omega)) ?_)
    try simp only [List.set_cons_zero, List.set_cons_succ]
    refine Hd.nil ?_
    refine Hd.thenN ?_
    refine Hd.heldK (J := (fun j => !(([1000] : List Nat).contains j))) (i := 14) (Ent.sep enn) ?_
    refine Hd.endH (by kernel_rfl) ?_
    rw [enc_open (by omega)]
    refine Hd.slots [(0, _), (1, _), (6, _), (7, _), (8, _), (9, _), (10, _)] ⟨rfl, rfl, rfl, rfl, rfl, rfl, rfl, trivial⟩ ?_
    refine Hd.toK hK7 ?_
    refine Hd.drawsH ([WoH wb (openT t m fs k) w m i]) (fun j => !([12].contains j)) mixed ?_
    simp only [List.length, Nat.zero_add, Nat.reduceAdd]
    refine Hd.takeH 0 rfl (by kernel_rfl) (by kernel_rfl) (by kernel_rfl) (by kernel_rfl) (y_move rfl) (fun _ _ => rfl) (Ent.sep enn) ?_
    refine Hd.takeH 1 rfl (by kernel_rfl) (by kernel_rfl) (by kernel_rfl) (by kernel_rfl) (y_move rfl) (fun _ _ => rfl) (Ent.sep enn) ?_
    refine Hd.takeH 2 rfl (by kernel_rfl) (by kernel_rfl) (by kernel_rfl) (by kernel_rfl) (y_move rfl) (fun _ _ => rfl) (Ent.sep enn) ?_
    refine Hd.takeH 3 rfl (by kernel_rfl) (by kernel_rfl) (by kernel_rfl) (by kernel_rfl) (y_nilp rfl) (fun _ _ => rfl) (Ent.sep enn) ?_
    first | (refine Hd.takeH 4 rfl (by kernel_rfl) (by kernel_rfl) (by kernel_rfl) (by kernel_rfl) (y_field' (q := 288) (ft := 77) Try.underlying80 rfl sz77 rfl rfl) (fun _ _ => rfl) (Ent.sep enn) ?_) | (refine Hd.takeH 4 rfl (by kernel_rfl) (by kernel_rfl) (by kernel_rfl) (by kernel_rfl) (y_fieldR (q := 288) (ft := 77) Try.underlying80 rfl sz77 rfl rfl) (fun _ _ => rfl) (Ent.sep enn) ?_)
    first | (refine Hd.takeH 5 rfl (by kernel_rfl) (by kernel_rfl) (by kernel_rfl) (by kernel_rfl) (y_load1 ag77 rfl (Rd.pt1 pkk (by (first | exact nats_at (by omega) | exact woT_at (j := 0) (by omega) rfl | rfl)))) (fun _ _ => rfl) (Ent.sep enn) ?_) | (refine Hd.takeH 5 rfl (by kernel_rfl) (by kernel_rfl) (by kernel_rfl) (by kernel_rfl) (y_load1 ag77 rfl (Rd.seg1 pkk (by (first | exact nats_at (by omega) | exact woT_at (j := 0) (by omega) rfl | rfl)))) (fun _ _ => rfl) (Ent.sep enn) ?_) | (refine Hd.takeH 5 rfl (by kernel_rfl) (by kernel_rfl) (by kernel_rfl) (by kernel_rfl) (y_loadR1 ag77 rfl (by (first | exact RdS.own pkk | exact RdS.mono hR (Ent.sep enn))) (by (first | exact nats_at (by omega) | exact woT_at (j := 0) (by omega) rfl | rfl))) (fun _ _ => rfl) (Ent.sep enn) ?_)
    refine Hd.takeH 6 rfl (by kernel_rfl) (by kernel_rfl) (by kernel_rfl) (by kernel_rfl) (y_len Try.underlying77 rfl) (fun _ _ => rfl) (Ent.sep enn) ?_
    refine Hd.takeH 7 rfl (by kernel_rfl) (by kernel_rfl) (by kernel_rfl) (by kernel_rfl) (y_move rfl) (fun _ _ => rfl) (Ent.sep enn) ?_
    refine Hd.takeH 8 rfl (by kernel_rfl) (by kernel_rfl) (by kernel_rfl) (by kernel_rfl) (y_build (vs := [(0, _), (1, _), (2, _)]) rfl (by first | exact bd67_36 .. | kernel_rfl)) (fun _ _ => rfl) (Ent.sep enn) ?_
    refine Hd.onlyH 9 rfl (by kernel_rfl) ?_
    refine Hd.yv (y_nilp rfl) ?_
    refine Hd.nil ?_
    refine Hd.thenN ?_
    refine Hd.heldK (J := (fun j => !([12].contains j))) (i := 9) (Ent.sep enn) ?_
    refine Hd.onlyH 10 rfl (by kernel_rfl) ?_
    first | (refine Hd.yv (y_field' (q := 0) (ft := 76) Try.underlying80 rfl sz76 rfl rfl) ?_) | (refine Hd.yv (y_fieldR (q := 0) (ft := 76) Try.underlying80 rfl sz76 rfl rfl) ?_)
    refine Hd.nil ?_
    refine Hd.thenN ?_
    refine Hd.heldK (J := (fun j => !([12].contains j))) (i := 10) (Ent.sep enn) ?_
    first | (refine Hd.takeH 11 rfl (by kernel_rfl) (by kernel_rfl) (by kernel_rfl) (by kernel_rfl) (y_idxA Try.underlying76 sz75 rfl rfl (by first | omega | decide)) (fun _ _ => rfl) (Ent.sep enn) ?_) | (refine Hd.takeH 11 rfl (by kernel_rfl) (by kernel_rfl) (by kernel_rfl) (by kernel_rfl) (y_idxAR Try.underlying76 sz75 rfl rfl (by first | omega | decide)) (fun _ _ => rfl) (Ent.sep enn) ?_)
    refine Hd.onlyH 12 rfl (by kernel_rfl) ?_
    refine Hd.store (us := plc (some (m, k))) sz75 rfl rfl rfl (plc_one _) pkk (by rw [List.length_append, fdC_len, plc_len]; omega) ?_
    refine Hd.nil ?_
    refine Hd.thenN ?_
    refine Hd.heldN (J := (fun j => !([12].contains j))) (i := 12) rfl ?_
    refine Hd.endH (by kernel_rfl) ?_
    rw [show 0 + 0 + fs.getD k 0 * 3 = fs.getD k 0 * 3 by omega, show (plc (some (m, k))).length = 3 from rfl, fdC_set hfk]
    refine Hd.slots [(0, _), (1, _), (8, _), (9, _), (10, _)] ⟨rfl, rfl, rfl, rfl, rfl, trivial⟩ ?_
    refine Hd.inB ?_
    refine Hd.toK hK5 ?_
    refine Hd.region ?_
    first | (refine Hd.yv (y_addn rfl rfl (by simp only [InK]; omega)) ?_) | (refine Hd.yv (y_add rfl rfl) ?_)
    refine Hd.yv (y_move rfl) ?_
    refine Hd.nil ?_
    refine Hd.slots [(0, _), (1, _), (8, _), (9, _), (10, _)] ⟨rfl, rfl, rfl, rfl, rfl, trivial⟩ ?_
    clear hK1 hK2 hK3 hK4 hK5 hK6 hK7
    refine Hd.thenN ?_
    exact Hd.again (k + 1) (by first | omega | (simp only; omega) | (simp; omega)) (by repeat (first | exact trivial | refine ⟨rfl, ?_⟩)) (Ent.sep (.pure (by first | omega | (simp; done) | (simp; omega) | (dsimp only; omega)) enn))
  ·
    try simp only [decide_eq_true_eq, decide_eq_false_iff_not, Bool.and_eq_true, Bool.or_eq_true, Bool.and_eq_false_iff, Bool.or_eq_false_iff, Bool.not_eq_true', Bool.not_eq_false', Bool.not_eq_true, Bool.not_eq_false, Int.not_lt, Int.not_le, Decidable.not_not, ne_eq] at hc0
    obtain rfl : k = fs.length := by omega
    refine Hd.exit ?_
    refine Hd.thenExit ?_
    refine Hd.thenExit ?_
    refine Hd.inBexit ?_
    refine Hd.toK hK1 ?_
    refine Hd.region ?_
    refine Hd.yv (y_move rfl) ?_
    refine Hd.yv (y_move rfl) ?_
    refine Hd.yv (y_nilp rfl) ?_
    first | (refine Hd.yv (y_field' (q := 288) (ft := 77) Try.underlying80 rfl sz77 rfl rfl) ?_) | (refine Hd.yv (y_fieldR (q := 288) (ft := 77) Try.underlying80 rfl sz77 rfl rfl) ?_)
    first | (refine Hd.yv (y_load1 ag77 rfl (Rd.pt1 pkk (by (first | exact nats_at (by omega) | exact woT_at (j := 0) (by omega) rfl | rfl)))) ?_) | (refine Hd.yv (y_load1 ag77 rfl (Rd.seg1 pkk (by (first | exact nats_at (by omega) | exact woT_at (j := 0) (by omega) rfl | rfl)))) ?_) | (refine Hd.yv (y_loadR1 ag77 rfl (by (first | exact RdS.own pkk | exact RdS.mono hR (Ent.sep enn))) (by (first | exact nats_at (by omega) | exact woT_at (j := 0) (by omega) rfl | rfl))) ?_)
    refine Hd.yv (y_move rfl) ?_
    refine Hd.bslice (vs := [(0, _)]) rfl (by first | exact bs67_47 .. | kernel_rfl) (fun b47 => ?_)
    refine Hd.append Try.underlying77 ty81 rfl rfl rfl pkk (by first | exact RdS.rd (Rd.pt pkk (fun j v e => by simpa using e)) rfl | (first | exact RdS.own pkk | exact RdS.mono hR (Ent.sep enn))) (by first | (simp [Value.oneCell']; done) | assumption) (by first | (simp only [maxLen]; omega) | assumption) (by omega) (fun ad48 cap48 => ?_)
    refine Hd.yv (y_nilp rfl) ?_
    first | (refine Hd.yv (y_field' (q := 288) (ft := 77) Try.underlying80 rfl sz77 rfl rfl) ?_) | (refine Hd.yv (y_fieldR (q := 288) (ft := 77) Try.underlying80 rfl sz77 rfl rfl) ?_)
    first | (refine Hd.store1 sz77 rfl rfl rfl pkk (by first | (rw [List.length_append, fdC_len]; simp) | decide | (simp; done) | (simp; omega)) ?_) | (refine Hd.storeG1 sz77 rfl rfl rfl pkk (by first | (rw [List.length_append, fdC_len]; simp) | decide | (simp; done) | (simp; omega)) ?_) | (refine Hd.storeO1 sz77 rfl rfl rfl pkk (by first | (rw [List.length_append, fdC_len]; simp) | omega | (simp; done) | (simp; omega)) ?_)
    try simp only [List.set_cons_zero, List.set_cons_succ]
    refine Hd.nil ?_
    refine Hd.slots [] trivial ?_
    clear hK1 hK2 hK3 hK4
    rw [show (fdC (openT t m fs fs.length) ++ woT w m i).set (0 + 288) (.slice ad48 (m + 1) cap48) = fdC (openT t m fs fs.length) ++ woT w (m + 1) { i with wa := ad48, wc := cap48 } by rw [List.set_append_right _ _ (by rw [fdC_len]; omega), fdC_len]; rfl]
    exact Hd.end0 rfl (ad48, cap48) rfl (fun q s => Ent.sep (show Ent (WireP b (openW x fs fs.length) :: WoH wb (openT t m fs fs.length) w (m + 1) { i with wa := ad48, wc := cap48 } :: own 81 1 ad48 (m + 1) cap48 (pws i.rs ++ [ptr (some b)]) :: L) _ from enn) q (open_close hi q (Ent.sep (.pick pkk (.pick pkk (.pick pkk (.pick pkk (.pick pkk (.eq pkk (show own 81 1 ad48 (m + 1) cap48 (pws i.rs ++ [Value.pointer (some ⟨b, 0, none⟩)]) = own 81 1 ad48 (m + 1) cap48 (pws i.rs ++ [ptr (some b)]) from rfl) enn)))))) q s)))
def mkOk (w : WA) (k : Nat) : Bool := decide ((((frees w.at).take k).length : Int) = (k : Int)) && decide ((w.ws.length : Int) < 1000)
def mkF (w : WA) (k : Nat) : List Nat := if mkOk w k = true then (frees w.at).take k else []
def mkE (w : WA) (k : Nat) : Int := if mkOk w k = true then 0 else 112
def mkW (w : WA) (k : Nat) (x : WireA) : WA := if mkOk w k = true then w.addW (openW x ((frees w.at).take k) k) else w
set_option maxHeartbeats 2000000 in
theorem cap_ct (L : List SP) (n : Int) : Ct Try.prog 65 #[.int .i64 n] (L) (fun _ : Unit => .bool (decide (n ≥ 1) && decide (n ≤ 65536))) (fun _ : Unit => L) := by
  refine Ct.of (vs := [.int .i64 n]) Try.func65 rfl rfl [(0, .int .i64 n)] (by repeat (first | exact trivial | refine ⟨rfl, ?_⟩)) ?_
  intro E
  show Hd E 9 _ _ _ _
  refine Hd.seq (fun K1 hK1 => ?_)
  refine Hd.region ?_
  refine Hd.yv (y_assign rfl) ?_
  refine Hd.nil ?_
  refine Hd.slots [(0, _)] ⟨rfl, trivial⟩ ?_
  refine Hd.toK hK1 ?_
  refine Hd.seq (fun K2 hK2 => ?_)
  refine Hd.region ?_
  refine Hd.yv (y_move rfl) ?_
  refine Hd.yv (y_geq rfl rfl) ?_
  refine Hd.yv (y_move rfl) ?_
  apply Hd.andg 3 5 8 [] rfl trivial
  · intro hg1_5
    try simp only [decide_eq_true_eq, decide_eq_false_iff_not, Bool.and_eq_true, Bool.or_eq_true, Bool.and_eq_false_iff, Bool.or_eq_false_iff, Bool.not_eq_true', Bool.not_eq_false', Bool.not_eq_true, Bool.not_eq_false, Int.not_lt, Int.not_le, Decidable.not_not, ne_eq] at hg1_5
    simp only [List.take]
    refine Hd.yg rfl rfl (y_move rfl) ?_
    refine Hd.yg rfl rfl (y_leq rfl rfl) ?_
    first | (refine Hd.yv (y_pickT rfl rfl) ?_) | (refine Hd.yv (y_pickF rfl rfl) ?_) | (refine Hd.yv (y_pickb rfl rfl rfl) ?_) | (refine Hd.yv (y_pick rfl rfl rfl) ?_)
    refine Hd.nil ?_
    exact Hd.mend (by repeat (first | exact trivial | refine ⟨rfl, ?_⟩)) (Ent.sep enn)
  · intro hg1_5
    try simp only [decide_eq_true_eq, decide_eq_false_iff_not, Bool.and_eq_true, Bool.or_eq_true, Bool.and_eq_false_iff, Bool.or_eq_false_iff, Bool.not_eq_true', Bool.not_eq_false', Bool.not_eq_true, Bool.not_eq_false, Int.not_lt, Int.not_le, Decidable.not_not, ne_eq] at hg1_5
    simp only [List.take]
    refine Hd.ng rfl rfl rfl ?_
    refine Hd.ng rfl rfl rfl ?_
    first | (refine Hd.yv (y_pickT rfl rfl) ?_) | (refine Hd.yv (y_pickF rfl rfl) ?_) | (refine Hd.yv (y_pickb rfl rfl rfl) ?_) | (refine Hd.yv (y_pick rfl rfl rfl) ?_)
    refine Hd.nil ?_
    exact Hd.mend (by repeat (first | exact trivial | refine ⟨rfl, ?_⟩)) (Ent.sep enn)
  simp only [List.drop]
  refine Hd.yv (y_assign rfl) ?_
  refine Hd.nil ?_
  refine Hd.slots [(2, _)] ⟨rfl, trivial⟩ ?_
  refine Hd.toK hK2 ?_
  refine Hd.ret ?_
  clear hK1 hK2
  exact Hd.ret1 rfl () (by first | rfl | (simp only [*]; done) | (simp [*]; done)) (Ent.sep enn)
theorem pws_app (rs : List (Nat × WireA)) (b : Nat) (x : WireA) : pws rs ++ [ptr (some b)] = pws (rs ++ [(b, x)]) := by simp [pws]
theorem world_add {wb b : Nat} {w : WA} {i : WoI} {x : WireA} {ad : Option Addr} {c : Nat} {t : Int → Option (Nat × Nat)} {L : List SP} (hw : WOk (w.addW x)) (hrs : i.rs.map Prod.snd = w.ws) (ht : (w.addW x).at = t) :
    ∀ h, sep (WireP b x :: Wires i.rs :: WoH wb t w (i.rs.length + 1) { i with wa := ad, wc := c } :: own 81 1 ad (i.rs.length + 1) c (pws i.rs ++ [ptr (some b)]) :: SigP i.sb w.hd w.ct :: L) h → sep (WorldP wb (w.addW x) :: L) h := by
  intro h s
  have h1 := ws_add s
  have hl : (i.rs ++ [(b, x)]).length = i.rs.length + 1 := by simp
  refine Ent.sep (.ex { i with rs := i.rs ++ [(b, x)], wa := ad, wc := c } (.pure ⟨hw, by show (i.rs ++ [(b, x)]).map Prod.snd = w.ws ++ [x]; rw [List.map_append, hrs]; rfl⟩ ?_)) h h1
  exact .eq pkk (pt_eq (show fdC t ++ woT w (i.rs.length + 1) { i with wa := ad, wc := c } = fdC (w.addW x).at ++ woT (w.addW x) (i.rs ++ [(b, x)]).length { i with rs := i.rs ++ [(b, x)], wa := ad, wc := c } by rw [ht, hl]; rfl)) (.eq pkk (own_eq3 hl.symm rfl (pws_app ..)) enn)
set_option maxHeartbeats 2000000 in
theorem make_ct (L : List SP) (wb b : Nat) (w : WA) (n : Nat) (h1 : 1 ≤ n) (h2 : n ≤ 65536) (k : Nat) (hk : k ≤ 2) (x : WireA) (hx : NewW x w.ws.length) : Ct Try.prog 35 #[.pointer (some ⟨wb, 0, none⟩), .int .i64 (n : Int), .int .i64 (k : Int), .pointer (some ⟨b, 0, none⟩)] (WorldP wb w :: WireP b x :: L) (fun q_ : Option Addr × Nat => .tuple #[.slice q_.1 (mkF w k).length q_.2, .int .i64 (mkE w k)]) (fun q_ : Option Addr × Nat => own 3 1 q_.1 (mkF w k).length q_.2 (nats (mkF w k)) :: WorldP wb (mkW w k x) :: L) := by
  refine Ct.of (vs := [.pointer (some ⟨wb, 0, none⟩), .int .i64 (n : Int), .int .i64 (k : Int), .pointer (some ⟨b, 0, none⟩)]) Try.func35 rfl rfl [(0, .pointer (some ⟨wb, 0, none⟩)), (1, .int .i64 (n : Int)), (2, .int .i64 (k : Int)), (3, .pointer (some ⟨b, 0, none⟩))] (by repeat (first | exact trivial | refine ⟨rfl, ?_⟩)) ?_
  intro E
  show Hd E 32 _ _ _ _
  refine Hd.world .here (fun i hw hrs => ?_)
  have hrl : i.rs.length = w.ws.length := by rw [← hrs, List.length_map]
  refine Hd.seq (fun K1 hK1 => ?_)
  refine Hd.region ?_
  refine Hd.yv (y_assign rfl) ?_
  refine Hd.yv (y_assign rfl) ?_
  refine Hd.nil ?_
  refine Hd.slots [(0, _), (1, _), (2, _), (3, _)] ⟨rfl, rfl, rfl, rfl, trivial⟩ ?_
  refine Hd.toK hK1 ?_
  refine Hd.seq (fun K2 hK2 => ?_)
  refine Hd.block ?_
  refine Hd.seq (fun K3 hK3 => ?_)
  refine Hd.region ?_
  refine Hd.yv (y_move rfl) ?_
  refine Hd.callE rfl fk52 (wnone_ct _ wb w.at w i.rs.length i) (Ent.sep enn) ?_
  intro _
  refine Hd.yv (y_assign rfl) ?_
  refine Hd.nil ?_
  refine Hd.slots [(0, _), (1, _), (2, _), (3, _), (12, _)] ⟨rfl, rfl, rfl, rfl, rfl, trivial⟩ ?_
  refine Hd.toK hK3 ?_
  refine Hd.condF rfl ?_
  refine Hd.seq (fun K4 hK4 => ?_)
  refine Hd.region ?_
  refine Hd.yv (y_move rfl) ?_
  refine Hd.callE rfl fk65 (cap_ct _ (n : Int)) (Ent.sep enn) ?_
  intro _
  refine Hd.yv (y_not rfl) ?_
  refine Hd.yv (y_assign rfl) ?_
  refine Hd.nil ?_
  refine Hd.slots [(0, _), (2, _), (3, _), (15, _)] ⟨rfl, rfl, rfl, rfl, trivial⟩ ?_
  refine Hd.toK hK4 ?_
  refine Hd.cond rfl (fun hc1 => ?_) (fun hc1 => ?_)
  ·
    try simp only [decide_eq_true_eq, decide_eq_false_iff_not, Bool.and_eq_true, Bool.or_eq_true, Bool.and_eq_false_iff, Bool.or_eq_false_iff, Bool.not_eq_true', Bool.not_eq_false', Bool.not_eq_true, Bool.not_eq_false, Int.not_lt, Int.not_le, Decidable.not_not, ne_eq] at hc1
    exfalso
    omega
  ·
    try simp only [decide_eq_true_eq, decide_eq_false_iff_not, Bool.and_eq_true, Bool.or_eq_true, Bool.and_eq_false_iff, Bool.or_eq_false_iff, Bool.not_eq_true', Bool.not_eq_false', Bool.not_eq_true, Bool.not_eq_false, Int.not_lt, Int.not_le, Decidable.not_not, ne_eq] at hc1
    refine Hd.skip ?_
    refine Hd.inB ?_
    refine Hd.toK hK2 ?_
    refine Hd.seq (fun K5 hK5 => ?_)
    refine Hd.region ?_
    refine Hd.yv (y_move rfl) ?_
    refine Hd.yv (y_move rfl) ?_
    refine Hd.callE rfl fk66 (numbers_ct _ wb i.rs.length w.at w i k) (Ent.sep enn) ?_
    rintro ⟨ad, c⟩
    dsimp only
    rw [show (decide ((((frees w.at).take k).length : Int) = (k : Int)) && decide ((i.rs.length : Int) < 1000)) = mkOk w k by unfold mkOk; rw [hrl]]
    refine Hd.yv (y_move rfl) ?_
    refine Hd.yv (y_extract rfl rfl) ?_
    refine Hd.yv (y_extract rfl rfl) ?_
    refine Hd.yv (y_assign rfl) ?_
    refine Hd.yv (y_assign rfl) ?_
    refine Hd.nil ?_
    refine Hd.slots [(0, _), (3, _), (10, _), (11, _)] ⟨rfl, rfl, rfl, rfl, trivial⟩ ?_
    refine Hd.toK hK5 ?_
    refine Hd.seq (fun K6 hK6 => ?_)
    refine Hd.seq (fun K7 hK7 => ?_)
    refine Hd.region ?_
    refine Hd.yv (y_move rfl) ?_
    refine Hd.yv (y_not rfl) ?_
    refine Hd.nil ?_
    refine Hd.slots [(0, _), (3, _), (10, _), (26, _)] ⟨rfl, rfl, rfl, rfl, trivial⟩ ?_
    refine Hd.toK hK7 ?_
    refine Hd.cond rfl (fun hc2 => ?_) (fun hc2 => ?_)
    ·
      try simp only [decide_eq_true_eq, decide_eq_false_iff_not, Bool.and_eq_true, Bool.or_eq_true, Bool.and_eq_false_iff, Bool.or_eq_false_iff, Bool.not_eq_true', Bool.not_eq_false', Bool.not_eq_true, Bool.not_eq_false, Int.not_lt, Int.not_le, Decidable.not_not, ne_eq] at hc2
      refine Hd.seq (fun K8 hK8 => ?_)
      refine Hd.region ?_
      refine Hd.yv (y_assign rfl) ?_
      refine Hd.yv (y_assign rfl) ?_
      refine Hd.nil ?_
      refine Hd.slots [(8, _), (9, _)] ⟨rfl, rfl, trivial⟩ ?_
      refine Hd.toK hK8 ?_
      refine Hd.ret ?_
      refine Hd.thenRet ?_
      clear hK1 hK2 hK3 hK4 hK5 hK6 hK7 hK8
      have hno : mkOk w k = false := by simpa using hc2
      rw [show mkF w k = [] by unfold mkF; rw [if_neg (by rw [hno]; simp)], show mkE w k = 112 by unfold mkE; rw [if_neg (by rw [hno]; simp)], show mkW w k x = w by unfold mkW; rw [if_neg (by rw [hno]; simp)]]
      exact Hd.ret2 rfl (none, 0) rfl rfl rfl (Ent.sep (.ownNil (.ex i (.pure ⟨hw, hrs⟩ enn))))
    ·
      try simp only [decide_eq_true_eq, decide_eq_false_iff_not, Bool.and_eq_true, Bool.or_eq_true, Bool.and_eq_false_iff, Bool.or_eq_false_iff, Bool.not_eq_true', Bool.not_eq_false', Bool.not_eq_true, Bool.not_eq_false, Int.not_lt, Int.not_le, Decidable.not_not, ne_eq] at hc2
      have hok : mkOk w k = true := by simpa using hc2
      obtain ⟨hfl, hwl⟩ : ((frees w.at).take k).length = k ∧ w.ws.length < 1000 := by
        unfold mkOk at hok
        simp only [Bool.and_eq_true, decide_eq_true_eq] at hok
        omega
      have hof := opF_take w hk
      refine Hd.skip ?_
      refine Hd.toK hK6 ?_
      refine Hd.seq (fun K9 hK9 => ?_)
      refine Hd.region ?_
      refine Hd.yv (y_move rfl) ?_
      refine Hd.yv (y_move rfl) ?_
      refine Hd.yv (y_move rfl) ?_
      refine Hd.callE rfl fk67 (open_ct _ wb i.rs.length b w.at w i x ((frees w.at).take k) ad c ?hD hof.le (fun f hf => (hof.fr f hf).1) (by omega) rfl) (Ent.sep enn) ?_
      case hD => exact RdS.own pkk
      rintro ⟨ad2, c2⟩
      dsimp only
      refine Hd.nil ?_
      refine Hd.slots [(10, _)] ⟨rfl, trivial⟩ ?_
      refine Hd.toK hK9 ?_
      refine Hd.seq (fun K10 hK10 => ?_)
      refine Hd.region ?_
      refine Hd.yv (y_move rfl) ?_
      refine Hd.yv (y_assign rfl) ?_
      refine Hd.yv (y_assign rfl) ?_
      refine Hd.nil ?_
      refine Hd.slots [(8, _), (9, _)] ⟨rfl, rfl, trivial⟩ ?_
      refine Hd.toK hK10 ?_
      refine Hd.ret ?_
      clear hK1 hK2 hK3 hK4 hK5 hK6 hK7 hK9 hK10
      rw [show mkF w k = (frees w.at).take k by unfold mkF; rw [if_pos hok], show mkE w k = 0 by unfold mkE; rw [if_pos hok], show mkW w k x = w.addW (openW x ((frees w.at).take k) ((frees w.at).take k).length) by unfold mkW; rw [if_pos hok, hfl]]
      have hat := addW_at hx hof
      rw [← hrl] at hat
      exact Hd.ret2 rfl (ad, c) rfl rfl rfl (fun q s => Ent.sep (show Ent (WorldP wb (w.addW (openW x ((frees w.at).take k) ((frees w.at).take k).length)) :: own 3 1 ad ((frees w.at).take k).length c (nats ((frees w.at).take k)) :: L) _ from enn) q (world_add (hw.addW hx hof hwl) hrs hat q (Ent.sep enn q s)))
end Wo
end Go.Proofs.Ytbfddabjbkohdaa
namespace Go.Proofs.Ytbfddabjbkohdaa
set_option linter.unusedSimpArgs false
set_option linter.unusedVariables false
set_option linter.unnecessarySimpa false
open Go.RX Fx
namespace Wo
set_option maxRecDepth 8000
theorem mkF_len {w : WA} {k : Nat} : (mkE w k = 0 ∧ (mkF w k).length = k) ∨ (mkE w k = 112 ∧ mkF w k = []) := by
  unfold mkE mkF
  by_cases h : mkOk w k = true
  · rw [if_pos h, if_pos h]
    refine .inl ⟨rfl, ?_⟩
    unfold mkOk at h
    simp only [Bool.and_eq_true, decide_eq_true_eq] at h
    omega
  · rw [if_neg h, if_neg h]; exact .inr ⟨rfl, rfl⟩
abbrev mkI (w : WA) (k j : Nat) : Int := (((mkF w k).getD j 0 : Nat) : Int)
end Wo
end Go.Proofs.Ytbfddabjbkohdaa
namespace Go.Proofs.Ytbfddabjbkohdaa
set_option linter.unusedSimpArgs false
set_option linter.unusedVariables false
set_option linter.unnecessarySimpa false
open Go.RX Fx
namespace Wo
set_option maxRecDepth 8000
theorem close_e (x : WireA) {k j : Nat} (hk : k < 2) (hj : j < 2) : ((closeW x k).e j).what = (if j = k then 3 else (x.e j).what) ∧ ((closeW x k).e j).fd = (x.e j).fd ∧ ((closeW x k).e j).rd = (x.e j).rd ∧ ((closeW x k).e j).wr = (x.e j).wr ∧ ((closeW x k).e j).b = (x.e j).b := by
  unfold closeW
  by_cases e : j = k
  · subst e
    rw [up_at, up_ne _ _ (by omega), if_pos rfl]; exact ⟨rfl, rfl, rfl, rfl, rfl⟩
  · obtain rfl : j = 1 - k := by omega
    rw [up_ne _ _ e, up_at, if_neg e]; exact ⟨rfl, rfl, rfl, rfl, rfl⟩
theorem close_wf {x : WireA} (h : WfW x) {k : Nat} (hk : k < 2) : WfW (closeW x k) := by
  refine ⟨fun j hj => ?_, fun j hj => ?_, fun j hj hr => ?_, h.cap, fun j hj => ?_, h.bl, fun h1 => ?_⟩
  · rw [(close_e x hk hj).2.2.2.1, (close_e x hk (show 1 - j < 2 by omega)).2.2.1]; exact h.wr j hj
  · rw [(close_e x hk hj).2.2.2.2]; exact h.le j hj
  · rw [(close_e x hk hj).2.2.2.2]; exact h.nb j hj (by rw [← (close_e x hk hj).2.2.1]; exact hr)
  · rw [(close_e x hk hj).1]; split
    · decide
    · exact h.what j hj
  · rw [(close_e x hk (by omega)).2.2.1, (close_e x hk (by omega)).2.2.1]
    refine h.ou ?_
    rw [(close_e x hk (by omega)).1] at h1
    split at h1
    · cases h1
    · exact h1
theorem WOk.closeW {w : WA} (h : WOk w) {n k : Nat} {x : WireA} {fd : Int} (hn : w.at fd = some (n, k)) (hx : w.ws[n]? = some x) : WOk (w.setW n (Wo.closeW x k)) ∧ (w.setW n (Wo.closeW x k)).at = setT w.at fd none := by
  obtain ⟨_, _, hk, _, x', hx', hxw, hxf⟩ := h.at_lt hn
  rw [hx] at hx'; obtain rfl := Option.some.inj hx'
  have hlt := (List.getElem?_eq_some_iff.1 hx).1
  have hfm : (w.setW n (Wo.closeW x k)).ws.flatMap WireA.wt = w.ws.flatMap WireA.wt := flatMap_set hx rfl
  have hat : ∀ {m : Nat} {y : WireA}, (w.setW n (Wo.closeW x k)).ws[m]? = some y → ∃ z, w.ws[m]? = some z ∧ ∀ j, j < 2 → ((y.e j).what = 1 → (z.e j).what = 1 ∧ ¬ (m = n ∧ j = k)) ∧ (y.e j).fd = (z.e j).fd := fun {m} {y} hm => by
    rcases set_at hm with ⟨rfl, rfl⟩ | ⟨hne, hm⟩
    · refine ⟨x, hx, fun j hj => ⟨fun h1 => ?_, (close_e x hk hj).2.1⟩⟩
      rw [(close_e x hk hj).1] at h1
      split at h1
      · cases h1
      · rename_i h2; exact ⟨h1, fun h3 => h2 h3.2⟩
    · exact ⟨y, hm, fun j _ => ⟨fun h1 => ⟨h1, fun h3 => hne h3.1⟩, rfl⟩⟩
  have hok : WOk (w.setW n (Wo.closeW x k)) := by
    refine ⟨?_, ?_, ?_, h.hdl, h.ctl, ?_, by rw [hfm]; exact h.wn, ?_, ?_, fun m y hm => by
      rcases set_at hm with ⟨rfl, rfl⟩ | ⟨_, hm⟩
      · exact fun e => h.ns _ x hx e
      · exact h.ns _ _ hm⟩
    · intro a b y z i j ha hb hi hj h1 h2 h3
      obtain ⟨y', ha', hy⟩ := hat ha
      obtain ⟨z', hb', hz⟩ := hat hb
      exact h.uq a b y' z' i j ha' hb' hi hj ((hy i hi).1 h1).1 ((hz j hj).1 h2).1 (by rw [← (hy i hi).2, ← (hz j hj).2]; exact h3)
    · intro y hy j hj h1
      obtain ⟨m, hm, e⟩ := List.getElem_of_mem hy
      obtain ⟨z, hz, he⟩ := hat (m := m) (y := y) (by rw [List.getElem?_eq_getElem hm, e])
      have := h.fd z (List.mem_of_getElem? hz) j hj ((he j hj).1 h1).1
      rw [(he j hj).2]; exact this
    · show (w.ws.set n _).length ≤ 1000; rw [List.length_set]; exact h.len
    · intro y hy
      rcases List.mem_or_eq_of_mem_set hy with hy | rfl
      · exact h.wf y hy
      · exact close_wf (h.wf x (List.mem_of_getElem? hx)) hk
    · intro m hm
      rw [hfm] at hm
      obtain ⟨z, hz, h0⟩ := h.wm m hm
      by_cases e : m = n
      · subst e
        rw [hx] at hz; obtain rfl := Option.some.inj hz
        refine ⟨Wo.closeW x k, by show (w.ws.set m _)[m]? = _; rw [List.getElem?_set_self hlt], ?_⟩
        rw [(close_e x hk (by omega)).1, if_neg]
        · exact h0
        · intro e2; subst e2; rw [h0] at hxw; cases hxw
      · exact ⟨z, by show (w.ws.set n _)[m]? = _; rw [List.getElem?_set_ne (Ne.symm e)]; exact hz, h0⟩
    · intro m j hm
      obtain ⟨hj, z, hz, h0, h1⟩ := h.nt m j hm
      by_cases e : m = n
      · subst e
        rw [hx] at hz; obtain rfl := Option.some.inj hz
        exact ⟨hj, Wo.closeW x k, by show (w.ws.set m _)[m]? = _; rw [List.getElem?_set_self hlt], by rw [(close_e x hk (by omega)).2.2.1]; exact h0, by rw [(close_e x hk (by omega)).2.2.1]; exact h1⟩
      · exact ⟨hj, z, by show (w.ws.set n _)[m]? = _; rw [List.getElem?_set_ne (Ne.symm e)]; exact hz, h0, h1⟩
  refine ⟨hok, ?_⟩
  funext f
  show _ = if f = fd then none else w.at f
  split
  · rename_i e; subst e
    rw [show (w.setW n (Wo.closeW x k)).at f = none ↔ _ from atW_no]
    intro y hy j hj ⟨h1, h2⟩
    obtain ⟨m, hm, e⟩ := List.getElem_of_mem hy
    obtain ⟨z, hz, he⟩ := hat (m := m) (y := y) (by rw [List.getElem?_eq_getElem hm, e])
    obtain ⟨a1, a2⟩ := (he j hj).1 h1
    rw [(he j hj).2] at h2
    exact a2 (h.uq m n z x j k hz hx hj hk a1 hxw (by rw [h2, hxf]))
  · rename_i hne
    refine atW_ext hok.uq h.uq fun m j hj => ?_
    constructor
    · rintro ⟨y, hy, h1, h2⟩
      obtain ⟨z, hz, he⟩ := hat hy
      exact ⟨z, hz, ((he j hj).1 h1).1, by rw [← (he j hj).2]; exact h2⟩
    · rintro ⟨z, hz, h1, h2⟩
      by_cases e : m = n
      · subst e
        rw [hx] at hz; obtain rfl := Option.some.inj hz
        refine ⟨Wo.closeW x k, by show (w.ws.set m _)[m]? = _; rw [List.getElem?_set_self hlt], ?_, by rw [(close_e x hk hj).2.1]; exact h2⟩
        rw [(close_e x hk hj).1, if_neg]
        · exact h1
        · intro e2; subst e2; exact hne (by rw [← h2, hxf])
      · exact ⟨z, by show (w.ws.set n _)[m]? = _; rw [List.getElem?_set_ne (Ne.symm e)]; exact hz, h1, h2⟩
end Wo
end Go.Proofs.Ytbfddabjbkohdaa
namespace Go.RX
set_option linter.unusedSimpArgs false
set_option linter.unusedVariables false
set_option linter.unnecessarySimpa false
open Go.MapKept
section
variable {E : World} {n : Nat} {ds : List Deferred} {st st' : List (Nat × Value)} {L L' L'' : List SP} {r : Option Nat} {P : Program} {Q : Exit → Act → World → Prop} {ops : Array Oper} {rest : List Oper}
variable {d : Nat} {ty t t2 : TypeId} {pos : String} {af : Array Edge} {g : Option (Nat × Bool)} {x y z : Operand} {v u : Value} {k : IntKind} {p q : Bool}
structure MpI (f : Int → Option Value) (m : Nat) (l : List KV) (c : Nat) : Prop where
  keys : (l.map (·.1)).Nodup
  len : l.length = m
  get : ∀ a, f a = getKV l a
  nd : (l.map (·.2.2)).Nodup
  lt : ∀ e ∈ l, e.2.2 < c
abbrev mo (b : Nat) (k : IntKind) (l : List KV) (c : Nat) : SP := ob b (.map (l.map (ent k)).toArray c)
abbrev io (rb b c : Nat) (seen : List Nat) : SP := ob rb (.mapIter (some b) c seen.toArray c)
theorem mp_in {f : Int → Option Value} {b m c : Nat} {l : List KV} (h : MpI f m l c) : ∀ q, sep (mo b k l c :: L) q → sep (mp b k f m :: L) q := fun _ s => sep_head s fun _ x => ⟨⟨l, c, x.kind, h.keys, h.len, h.get, h.nd, h.lt⟩⟩
theorem Hd.mpOut {f : Int → Option Value} {b m : Nat} {K : Act → World → Prop} (p : Pick L (mp b k f m) L') (h : ∀ l c, MpI f m l c → Hd E n ds st (mo b k l c :: L') K) : Hd E n ds st L K := fun a w fr s => by
  obtain ⟨h1, h2, d, aa, bb, ⟨⟨l, c, hb, x1, x2, x3, x4, x5⟩⟩, y⟩ := p.sep s.2.2.2
  exact h l c ⟨x1, x2, x3, x4, x5⟩ a w fr ⟨s.1, s.2.1, s.2.2.1, h1, h2, d, aa, bb, ⟨hb⟩, y⟩
theorem Hd.rangeMap {b c : Nat} {l : List KV} {kt vt : TypeId} (hu : P.underlying t = some (.map kt vt)) (hx : evo st x = some (.map (some b))) (p : Pick L (mo b k l c) L')
    (K : ∀ rb, Hd E n ds ((d, .pointer (some ⟨rb, 0, none⟩)) :: st) (io rb b c [] :: L) (LW r P ops Q rest)) (hd : d < n := by decide) :
    Hd E n ds st L (LW r P ops Q (⟨some d, .range t x, ty, pos, af, none⟩ :: rest)) :=
  Hd.op rfl (by simp) fun a w f s => by
    have hb := s.ob_at p
    refine ⟨.pointer (some ⟨w.heap.size, 0, none⟩), { w with heap := w.heap.push (.mapIter (some b) c #[] c) }, ?_, K w.heap.size _ _ (f.put hd _) (s.new (.mapIter (some b) c #[] c))⟩
    simp only [execOp, f.ev hx]
    simp [Instr.range, run_underlying hu, getObj, newObj, Sem.run, hb, go_sem]
def tupO (k : IntKind) : Option KV → Value
  | none => .tuple #[.bool false]
  | some e => .tuple #[.bool true, .int k e.1, e.2.1]
def seenO (seen : List Nat) : Option KV → List Nat
  | none => seen
  | some e => seen ++ [e.2.2]
def NxO (l : List KV) (seen : List Nat) : Option KV → Prop
  | none => ∀ e ∈ l, e.2.2 ∈ seen
  | some e => e ∈ l ∧ e.2.2 ∉ seen
theorem Hd.nextMap {rb b c : Nat} {l : List KV} {seen : List Nat} (hx : evo st x = some (.pointer (some ⟨rb, 0, none⟩))) (p : Pick L (io rb b c seen) L') (p2 : Pick L (mo b k l c) L'') (hlt : ∀ e ∈ l, e.2.2 < c)
    (K : ∀ o : Option KV, NxO l seen o → Hd E n ds ((d, tupO k o) :: st) (io rb b c (seenO seen o) :: L') (LW r P ops Q rest)) (hd : d < n := by decide) :
    Hd E n ds st L (LW r P ops Q (⟨some d, .next x false, ty, pos, af, none⟩ :: rest)) :=
  Hd.op rfl (by simp) fun a w f s => by
    have hr := s.ob_at p
    have hb := s.ob_at p2
    rcases run_next_at (P := P) w ty rb b c c seen.toArray (l.map (ent k)).toArray c hr hb (fun e he => by
      obtain ⟨e0, h0, rfl⟩ := List.mem_map.1 (show e ∈ l.map (ent k) from he)
      exact hlt e0 h0) (Nat.le_refl c) with ⟨h0, hrun⟩ | ⟨e, he, w1, hw, hrun⟩
    · refine ⟨_, w, by simp only [execOp, f.ev hx, Sem.run_bind, hrun]; rfl, K none (fun e he => ?_) _ _ (f.put hd _) (s.mp fun _ q => p.sep q)⟩
      have := all_seen (l.map (ent k)).toArray seen.toArray h0 (ent k e) (show ent k e ∈ l.map (ent k) from List.mem_map.2 ⟨e, he, rfl⟩)
      simpa [ent] using this
    · obtain ⟨hem, hes⟩ := mem_left he
      obtain ⟨e0, h0, rfl⟩ := List.mem_map.1 (show e ∈ l.map (ent k) from hem)
      have s1 : Sat E L w1 := by
        rcases hw with rfl | rfl
        · exact s
        · exact s.draw
      have hr1 := s1.ob_at p
      refine ⟨_, _, by simp only [execOp, f.ev hx, Sem.run_bind, hrun]; rfl, K (some e0) ⟨h0, by simpa [ent] using hes⟩ _ _ (f.put hd _) ?_⟩
      have hlt := (Array.getElem?_eq_some_iff.1 hr1).1
      refine Sat.put s1 p rfl rfl rfl (fun x hx => ?_) ?_
      · simp [ChangeMaps.setBlock, Array.getElem?_setIfInBounds_ne (Ne.symm hx)]
      · simp [ChangeMaps.setBlock, hlt, seenO, ent]
theorem y_entry {rb b c : Nat} {l : List KV} {seen : List Nat} {e : KV} (hx : evo st x = some (.pointer (some ⟨rb, 0, none⟩))) (p : Pick L (io rb b c (seen ++ [e.2.2])) L') (p2 : Pick L (mo b k l c) L'') (he : e ∈ l) (hn : (l.map (·.2.2)).Nodup) :
    Yv E n ds st L P ⟨some d, .entry x, ty, pos, af, g⟩ (.tuple #[.int k e.1, e.2.1]) := fun a w f s => by
  have hr := s.ob_at p
  have hb := s.ob_at p2
  have h := run_entry_at (P := P) w rb b c seen.toArray (l.map (ent k)).toArray c (ent k e) (by rw [hr]; simp [ent]) hb (show ent k e ∈ l.map (ent k) from List.mem_map.2 ⟨e, he, rfl⟩) (show ((l.map (ent k)).map (·.born)).Nodup by
    rw [List.map_map]
    exact hn)
  simp only [execOp, f.ev hx, Sem.run_bind, h]
  rfl
structure EsI (l es : List KV) : Prop where
  nd : es.Nodup
  mem : ∀ e ∈ es, e ∈ l
theorem EsI.nil (l : List KV) : EsI l [] := ⟨.nil, fun e h => by cases h⟩
theorem EsI.step {l es : List KV} (h : EsI l es) {e : KV} (he : e ∈ l) (hn : e.2.2 ∉ es.map (·.2.2)) : EsI l (es ++ [e]) :=
  ⟨by rw [List.nodup_append]; exact ⟨h.nd, by simp, fun a ha b hb hab => by
      obtain rfl : b = e := by simpa using hb
      subst hab
      exact hn (List.mem_map.2 ⟨a, ha, rfl⟩)⟩, fun a ha => by
    rcases List.mem_append.1 ha with ha | ha
    · exact h.mem a ha
    · obtain rfl : a = e := by simpa using ha
      exact he⟩
theorem inj_of_map {α β : Type} (f : α → β) : ∀ {l : List α}, (l.map f).Nodup → ∀ a ∈ l, ∀ b ∈ l, f a = f b → a = b
  | [], _, a, ha, _, _, _ => by cases ha
  | x :: l, h, a, ha, b, hb, e => by
    rw [List.map_cons, List.nodup_cons] at h
    rcases List.mem_cons.1 ha with h1 | h1
    · rcases List.mem_cons.1 hb with h2 | h2
      · rw [h1, h2]
      · exact (h.1 (List.mem_map.2 ⟨b, h2, by rw [← e, h1]⟩)).elim
    · rcases List.mem_cons.1 hb with h2 | h2
      · exact (h.1 (List.mem_map.2 ⟨a, h1, by rw [e, h2]⟩)).elim
      · exact inj_of_map f h.2 a h1 b h2 e
structure KeysOf (f : Int → Option Value) (ks : List Int) : Prop where
  nd : ks.Nodup
  mem : ∀ a, a ∈ ks ↔ (f a).isSome = true
theorem getKV_some {l : List KV} {a : Int} : (getKV l a).isSome = true ↔ a ∈ l.map (·.1) := by
  unfold getKV
  rw [Option.isSome_map, List.find?_isSome, List.mem_map]
  constructor
  · rintro ⟨e, he, h⟩; exact ⟨e, he, by simpa using h⟩
  · rintro ⟨e, he, h⟩; exact ⟨e, he, by simpa using h⟩
theorem es_keys {f : Int → Option Value} {m c : Nat} {l es : List KV} (h : MpI f m l c) (hE : EsI l es) (hall : ∀ e ∈ l, e.2.2 ∈ es.map (·.2.2)) : KeysOf f (es.map (·.1)) where
  nd := by
    have hk := h.keys
    have hi := inj_of_map (fun e : KV => e.1) hk
    refine List.pairwise_map.2 (hE.nd.imp_of_mem fun {a b} ha hb hab e => hab (hi a (hE.mem a ha) b (hE.mem b hb) e))
  mem a := by
    rw [h.get a, getKV_some]
    constructor
    · intro ha
      obtain ⟨e, he, rfl⟩ := List.mem_map.1 ha
      exact List.mem_map.2 ⟨e, hE.mem e he, rfl⟩
    · intro ha
      obtain ⟨e, he, rfl⟩ := List.mem_map.1 ha
      obtain ⟨e2, he2, hb⟩ := List.mem_map.1 (hall e he)
      obtain rfl := inj_of_map (fun e : KV => e.2.2) h.nd e2 (hE.mem e2 he2) e he hb
      exact List.mem_map.2 ⟨e2, he2, rfl⟩
theorem es_pre {f : Int → Option Value} {m c : Nat} {l es : List KV} (h : MpI f m l c) (hE : EsI l es) : (es.map (·.1)).Nodup ∧ ∀ a ∈ es.map (·.1), (f a).isSome = true :=
  ⟨List.pairwise_map.2 (hE.nd.imp_of_mem fun {a b} ha hb hab e => hab (inj_of_map (fun e : KV => e.1) h.keys a (hE.mem a ha) b (hE.mem b hb) e)), fun a ha => by
    obtain ⟨e, he, rfl⟩ := List.mem_map.1 ha
    rw [h.get, getKV_some]
    exact List.mem_map.2 ⟨e, hE.mem e he, rfl⟩⟩
end
end Go.RX
namespace Go.Proofs.Ytbfddabjbkohdaa
set_option linter.unusedSimpArgs false
set_option linter.unusedVariables false
set_option linter.unnecessarySimpa false
open Go.RX Fx
namespace Ep
set_option maxRecDepth 8000
theorem nodup_le : ∀ {a b : List Nat}, a.Nodup → (∀ x ∈ a, x ∈ b) → a.length ≤ b.length
  | [], _, _, _ => Nat.zero_le _
  | x :: a, b, hn, hs => by
    rw [List.nodup_cons] at hn
    have hx := hs x List.mem_cons_self
    have h1 := nodup_le (b := b.erase x) hn.2 (fun y hy => (List.mem_erase_of_ne (fun e => hn.1 (by rw [← e]; exact hy))).2 (hs y (List.mem_cons_of_mem _ hy)))
    rw [List.length_erase_of_mem hx] at h1
    have := List.length_pos_of_mem hx
    simp only [List.length_cons]; omega
theorem es_len {f : Int → Option Value} {m c : Nat} {l es : List KV} (h : MpI f m l c) (hE : EsI l es) : es.length ≤ m := by
  have h1 := nodup_le (a := es.map (·.2.2)) (b := l.map (·.2.2)) (List.pairwise_map.2 (hE.nd.imp_of_mem fun {a b} ha hb hab e => hab (inj_of_map (fun e : KV => e.2.2) h.nd a (hE.mem a ha) b (hE.mem b hb) e))) (fun x hx => by
    obtain ⟨e, he, rfl⟩ := List.mem_map.1 hx
    exact List.mem_map.2 ⟨e, hE.mem e he, rfl⟩)
  rw [List.length_map, List.length_map, h.len] at h1
  exact h1
abbrev encK (a : Int) : List Value := [.int .i64 a]
structure PreK (f : Int → Option Value) (m : Nat) (ks : List Int) : Prop where
  nd : ks.Nodup
  mem : ∀ a ∈ ks, (f a).isSome = true
  len : ks.length ≤ m
abbrev KmP (b mb : Nat) : SP := pt b [.map (some mb)] 49
theorem pre_k {f : Int → Option Value} {m c : Nat} {l es : List KV} (h : MpI f m l c) (hE : EsI l es) : PreK f m (es.map (·.1)) := ⟨(es_pre h hE).1, (es_pre h hE).2, by rw [List.length_map]; exact es_len h hE⟩
theorem y_extO {E : World} {n : Nat} {ds : List Deferred} {st : List (Nat × Value)} {L : List SP} {P : Program} {d : Nat} {ty : TypeId} {pos : String} {af : Array Edge} {g : Option (Nat × Bool)} {x : Operand} {k : IntKind} (o : Option KV) (hx : evo st x = some (tupO k o)) : Yv E n ds st L P ⟨some d, .extract x 0, ty, pos, af, g⟩ (.bool o.isSome) := by
  cases o with
  | none => exact y_extract hx rfl
  | some e => exact y_extract hx rfl
set_option maxHeartbeats 2000000 in
theorem keys_ct (L : List SP) (mb : Nat) : Ct Try.prog 73 #[.map (some mb)] (L) (fun b : Nat => .func (.func 100) #[] #[.pointer (some ⟨b, 0, none⟩)]) (fun b : Nat => KmP b mb :: L) := by
  refine Ct.of (vs := [.map (some mb)]) Try.func73 rfl rfl [(0, .map (some mb))] (by repeat (first | exact trivial | refine ⟨rfl, ?_⟩)) ?_
  intro E
  show Hd E 4 _ _ _ _
  refine Hd.seq (fun K1 hK1 => ?_)
  refine Hd.region ?_
  refine Hd.box rfl rfl (fun b1 => ?_)
  refine Hd.yv (y_assign rfl) ?_
  refine Hd.nil ?_
  refine Hd.slots [(1, _)] ⟨rfl, trivial⟩ ?_
  refine Hd.toK hK1 ?_
  refine Hd.seq (fun K2 hK2 => ?_)
  refine Hd.region ?_
  refine Hd.yv (y_mkf (fv := []) (cv := [_]) rfl rfl) ?_
  refine Hd.yv (y_assign rfl) ?_
  refine Hd.nil ?_
  refine Hd.slots [(2, _)] ⟨rfl, trivial⟩ ?_
  refine Hd.toK hK2 ?_
  refine Hd.ret ?_
  clear hK1 hK2
  exact Hd.ret1 rfl b1 rfl (Ent.sep enn)
theorem keys_it (b mb : Nat) (f : Int → Option Value) (m : Nat) : RX.It Try.prog 100 [.pointer (some ⟨b, 0, none⟩)] encK (fun ys => KeysOf f ys ∧ ys.length ≤ m) (PreK f m)
    [KmP b mb, mp mb .i64 f m] [KmP b mb, mp mb .i64 f m] := by
  intro l J X hy
  refine Ct.of (vs := [.func (.yield l) #[] #[], .pointer (some ⟨b, 0, none⟩)]) Try.func100 rfl rfl [(0, .func (.yield l) #[] #[]), (1, .pointer (some ⟨b, 0, none⟩))] ⟨rfl, rfl, trivial⟩ ?_
  intro E
  show Hd E 14 _ _ _ _
  refine Hd.heap (KmP b mb :: mp mb .i64 f m :: J []) (fun k h => by have := sep_app h; exact this) ?_
  refine Hd.mpOut (.there .here) (fun ml c hM => ?_)
  refine Hd.seq (fun K1 hK1 => ?_)
  refine Hd.region ?_
  first | (refine Hd.yv (y_load1 ag49 rfl (Rd.pt1 pkk (by (first | rfl)))) ?_) | (refine Hd.yv (y_load1 ag49 rfl (Rd.seg1 pkk (by (first | rfl)))) ?_) | (refine Hd.yv (y_loadR1 ag49 rfl (by (first | exact RdS.own pkk)) (by (first | rfl))) ?_)
  refine Hd.rangeMap Try.underlying49 rfl pkk (fun rb => ?_)
  refine Hd.nil ?_
  refine Hd.slots [(0, _), (5, _)] ⟨rfl, rfl, trivial⟩ ?_
  refine Hd.toK hK1 ?_
  refine Hd.block ?_
  refine Hd.loopK (ι := List KV) [(0, _)] (fun es => [(5, .pointer (some ⟨rb, 0, none⟩))]) (fun es => pu (EsI ml es) :: io rb mb c (es.map (·.2.2)) :: mo mb .i64 ml c :: KmP b mb :: J (es.map (·.1))) (fun es => ml.length + 1 - es.length) ([]) (by repeat (first | exact trivial | refine ⟨rfl, ?_⟩)) (by repeat (first | exact trivial | refine ⟨rfl, ?_⟩)) (Ent.sep (.pure (EsI.nil ml) enn)) ?_
  intro es
  try dsimp only
  refine Hd.pure (fun hp0 => ?_)
  try dsimp only at hp0
  refine Hd.seq (fun K2 hK2 => ?_)
  refine Hd.region ?_
  refine Hd.nextMap (seen := es.map (·.2.2)) rfl pkk pkk hM.lt (fun o ho => ?_)
  refine Hd.yv (y_extO (k := .i64) o rfl) ?_
  refine Hd.nil ?_
  refine Hd.slots [(0, _), (5, _), (7, _)] ⟨rfl, rfl, rfl, trivial⟩ ?_
  refine Hd.toK hK2 ?_
  refine Hd.seq (fun K3 hK3 => ?_)
  refine Hd.cond rfl (fun hc0 => ?_) (fun hc0 => ?_)
  ·
    try simp only [decide_eq_true_eq, decide_eq_false_iff_not, Bool.and_eq_true, Bool.or_eq_true, Bool.and_eq_false_iff, Bool.or_eq_false_iff, Bool.not_eq_true', Bool.not_eq_false', Bool.not_eq_true, Bool.not_eq_false, Int.not_lt, Int.not_le, Decidable.not_not, ne_eq] at hc0
    obtain ⟨e, rfl⟩ : ∃ e, o = some e := Option.isSome_iff_exists.1 hc0
    have hE2 := hp0.step ho.1 ho.2
    have hpr := pre_k hM hE2
    rw [List.map_append, List.map_singleton] at hpr
    have hlen := es_len hM hE2
    rw [List.length_append, List.length_singleton, ← hM.len] at hlen
    simp only [seenO]
    refine Hd.skip ?_
    refine Hd.toK hK3 ?_
    refine Hd.block ?_
    refine Hd.seq (fun K4 hK4 => ?_)
    refine Hd.region ?_
    refine Hd.yv (y_entry (k := .i64) (e := e) (seen := es.map (·.2.2)) rfl pkk pkk ho.1 hM.nd) ?_
    refine Hd.yv (y_extract rfl rfl) ?_
    refine Hd.yv (y_assign rfl) ?_
    refine Hd.nil ?_
    refine Hd.slots [(0, _), (3, _), (5, _)] ⟨rfl, rfl, rfl, trivial⟩ ?_
    refine Hd.toK hK4 ?_
    refine Hd.seq (fun K5 hK5 => ?_)
    refine Hd.region ?_
    refine Hd.yv (y_move rfl) ?_
    refine Hd.yv (y_move rfl) ?_
    refine Hd.yield (pre := es.map (·.1)) (c := e.1) (M := [io rb mb c (es.map (·.2.2) ++ [e.2.2]), mo mb .i64 ml c, KmP b mb]) hy rfl rfl hpr (fun k' h => sep_app (show sep ([io rb mb c (es.map (·.2.2) ++ [e.2.2]), mo mb .i64 ml c, KmP b mb] ++ J (es.map (·.1))) k' from Ent.sep enn k' h)) ?_
    intro yb
    refine Hd.yv (y_not rfl) ?_
    refine Hd.nil ?_
    refine Hd.slots [(0, _), (5, _), (13, _)] ⟨rfl, rfl, rfl, trivial⟩ ?_
    refine Hd.toK hK5 ?_
    refine Hd.cond rfl (fun hc1 => ?_) (fun hc1 => ?_)
    ·
      try simp only [decide_eq_true_eq, decide_eq_false_iff_not, Bool.and_eq_true, Bool.or_eq_true, Bool.and_eq_false_iff, Bool.or_eq_false_iff, Bool.not_eq_true', Bool.not_eq_false', Bool.not_eq_true, Bool.not_eq_false, Int.not_lt, Int.not_le, Decidable.not_not, ne_eq] at hc1
      subst hc1
      simp only [cond_false]
      refine Hd.ret ?_
      refine Hd.inBret ?_
      refine Hd.thenRet ?_
      refine Hd.inBret ?_
      clear hK1 hK2 hK3 hK4 hK5
      exact Hd.ret0 rfl (es.map (·.1) ++ [e.1], false) rfl (fun k' h => Ent.sep (.pure hpr .same) k' (sep_right (fun k s => Ent.sep (.pick (.there .here) (.pick .here .same)) k (mp_in hM k (Ent.sep (show Ent [io rb mb c (es.map (·.2.2) ++ [e.2.2]), mo mb .i64 ml c, KmP b mb] [mo mb .i64 ml c, KmP b mb] from .skip .same) k s))) h))
    ·
      try simp only [decide_eq_true_eq, decide_eq_false_iff_not, Bool.and_eq_true, Bool.or_eq_true, Bool.and_eq_false_iff, Bool.or_eq_false_iff, Bool.not_eq_true', Bool.not_eq_false', Bool.not_eq_true, Bool.not_eq_false, Int.not_lt, Int.not_le, Decidable.not_not, ne_eq] at hc1
      subst hc1
      simp only [cond_true]
      refine Hd.heap (io rb mb c (es.map (·.2.2) ++ [e.2.2]) :: mo mb .i64 ml c :: KmP b mb :: J (es.map (·.1) ++ [e.1])) (fun k' h => sep_app h) ?_
      refine Hd.skip ?_
      refine Hd.inB ?_
      clear hK1 hK2 hK3 hK4 hK5
      refine Hd.thenN ?_
      refine Hd.again (es ++ [e]) (by simp only [List.length_append, List.length_singleton]; omega) (by repeat (first | exact trivial | refine ⟨rfl, ?_⟩)) (fun q t => ?_)
      simp only [List.map_append, List.map_singleton]
      exact Ent.sep (.pure hE2 enn) q t
  ·
    try simp only [decide_eq_true_eq, decide_eq_false_iff_not, Bool.and_eq_true, Bool.or_eq_true, Bool.and_eq_false_iff, Bool.or_eq_false_iff, Bool.not_eq_true', Bool.not_eq_false', Bool.not_eq_true, Bool.not_eq_false, Int.not_lt, Int.not_le, Decidable.not_not, ne_eq] at hc0
    obtain rfl : o = none := by cases o with | none => rfl | some e => simp at hc0
    simp only [seenO]
    have hK := es_keys hM hp0 ho
    have hl := (pre_k hM hp0).len
    refine Hd.exit ?_
    refine Hd.thenExit ?_
    refine Hd.thenExit ?_
    refine Hd.inBexit ?_
    clear hK1 hK2 hK3
    refine Hd.end0 rfl (es.map (·.1), true) rfl (fun k' h => Ent.sep (.pure ⟨hK, hl⟩ .same) k' ?_)
    have h2 : sep ([mo mb .i64 ml c, KmP b mb] ++ J (es.map (·.1))) k' := Ent.sep enn k' h
    exact sep_right (fun k s => Ent.sep (.pick (.there .here) (.pick .here .same)) k (mp_in hM k s)) (sep_app h2)
end Ep
end Go.Proofs.Ytbfddabjbkohdaa
namespace Go.Proofs.Ytbfddabjbkohdaa
set_option linter.unusedSimpArgs false
set_option linter.unusedVariables false
set_option linter.unnecessarySimpa false
open Go.RX Fx
namespace Ep
set_option maxRecDepth 8000
abbrev vi (l : List Int) : List Value := l.map (Value.int .i64)
abbrev OutK (b : Nat) (l : List Int) : SP := RX.ex fun i : Option Addr × Nat => [pt b [.slice i.1 l.length i.2] 22, own 3 1 i.1 l.length i.2 (vi l)]
abbrev seqK (b : Nat) : Value := .func (.func 100) #[] #[.pointer (some ⟨b, 0, none⟩)]
set_option maxHeartbeats 2000000 in
theorem appk_ct (L : List SP) (b mb : Nat) (f : Int → Option Value) (m : Nat) (hm : m ≤ 1000000) : Ct Try.prog 112 #[.slice none 0 0, seqK b] (KmP b mb :: mp mb .i64 f m :: L) (fun q_ : Option Addr × Nat × List Int => .slice q_.1 q_.2.2.length q_.2.1) (fun q_ : Option Addr × Nat × List Int => pu (KeysOf f q_.2.2 ∧ q_.2.2.length ≤ m) :: own 3 1 q_.1 q_.2.2.length q_.2.1 (vi q_.2.2) :: KmP b mb :: mp mb .i64 f m :: L) := by
  refine Ct.ofM (vs := [.slice none 0 0, seqK b]) Try.func112 rfl rfl [(0, .slice none 0 0), (1, seqK b)] (by repeat (first | exact trivial | refine ⟨rfl, ?_⟩)) ?_
  intro E
  show Hd E 13 _ _ _ _
  refine Hd.seq (fun K1 hK1 => ?_)
  refine Hd.region ?_
  refine Hd.box rfl rfl (fun b2 => ?_)
  refine Hd.yv (y_assign rfl) ?_
  refine Hd.nil ?_
  refine Hd.slots [(1, _), (2, _)] ⟨rfl, rfl, trivial⟩ ?_
  refine Hd.toK hK1 ?_
  refine Hd.seq (fun K2 hK2 => ?_)
  refine Hd.seq (fun K3 hK3 => ?_)
  refine Hd.region ?_
  refine Hd.yv (y_move rfl) ?_
  refine Hd.nil ?_
  refine Hd.slots [(2, _), (6, _)] ⟨rfl, rfl, trivial⟩ ?_
  refine Hd.toK hK3 ?_
  refine Hd.block ?_
  refine Hd.rangeF (enc := encK) (S := fun ys => KeysOf f ys ∧ ys.length ≤ m) (Sp := PreK f m)
    (fun pre => OutK b2 pre :: L) (fun _ _ => [pu False])
    rfl (by kernel_rfl) (fun _ => rfl) rfl (keys_it b mb f m) (Ent.sep (.ex (none, 0) (.eq pkk (pt_eq (by rfl)) (.ownNil Ent.two)))) ?_ ?_ ?_
  ·
    intro E l' R pre c N hR hG
    have hpl : pre.length + 1 ≤ 1000000 := by have h1 := hG.len; simp at h1; omega
    unfold Rnd
    simp only [List.cons_append, List.nil_append, pz, encK]
    refine Hd.region ?_
    refine Hd.yv (y_assign rfl) ?_
    refine Hd.nil ?_
    refine Hd.slots [(2, _), (5, _)] ⟨rfl, rfl, trivial⟩ ?_
    refine Hd.thenN ?_
    refine Hd.begin hR pkk ?_
    refine Hd.block ?_
    refine Hd.exs pkk ?_
    rintro ⟨a3, c3⟩
    simp only [List.cons_append, List.nil_append]
    refine Hd.region ?_
    first | (refine Hd.yv (y_load1 ag22 rfl (Rd.pt1 pkk (by (first | rfl)))) ?_) | (refine Hd.yv (y_load1 ag22 rfl (Rd.seg1 pkk (by (first | rfl)))) ?_) | (refine Hd.yv (y_loadR1 ag22 rfl (by (first | exact RdS.own pkk)) (by (first | rfl))) ?_)
    refine Hd.yv (y_move rfl) ?_
    refine Hd.bslice (vs := [(0, _)]) rfl (by first | exact bs112_10 .. | kernel_rfl) (fun b10 => ?_)
    refine Hd.append Try.underlying22 ty3 rfl rfl rfl pkk (by first | exact RdS.rd (Rd.pt pkk (fun j v e => by simpa using e)) rfl | (first | exact RdS.own pkk)) (by first | (simp [Value.oneCell']; done) | assumption) (by first | (simp only [maxLen]; omega) | assumption) (by omega) (fun ad11 cap11 => ?_)
    first | (refine Hd.store1 sz22 rfl rfl rfl pkk (by first | decide | (simp; done) | (simp; omega)) ?_) | (refine Hd.storeG1 sz22 rfl rfl rfl pkk (by first | decide | (simp; done) | (simp; omega)) ?_) | (refine Hd.storeO1 sz22 rfl rfl rfl pkk (by first | omega | (simp; done) | (simp; omega)) ?_)
    try simp only [List.set_cons_zero, List.set_cons_succ]
    refine Hd.nil ?_
    refine Hd.slots [(2, _)] ⟨rfl, trivial⟩ ?_
    refine Hd.inB ?_
    clear hK1 hK2 hK3
    refine Hd.reN ?_
    simp only [List.cons_append, List.nil_append]
    exact Ent.sep (.pick pkk (.ex (ad11, cap11) (.eq pkk (pt_eq (by simp)) (.eq pkk (own_eq (by simp) (by simp)) enn))))
  ·
    intro r0 ys hys
    try simp only [List.cons_append, List.nil_append]
    refine Hd.inB ?_
    refine Hd.toK hK2 ?_
    refine Hd.seq (fun K4 hK4 => ?_)
    refine Hd.exs pkk ?_
    rintro ⟨a3, c3⟩
    simp only [List.cons_append, List.nil_append]
    refine Hd.region ?_
    first | (refine Hd.yv (y_load1 ag22 rfl (Rd.pt1 pkk (by (first | rfl)))) ?_) | (refine Hd.yv (y_load1 ag22 rfl (Rd.seg1 pkk (by (first | rfl)))) ?_) | (refine Hd.yv (y_loadR1 ag22 rfl (by (first | exact RdS.own pkk)) (by (first | rfl))) ?_)
    refine Hd.yv (y_assign rfl) ?_
    refine Hd.nil ?_
    refine Hd.slots [(4, _)] ⟨rfl, trivial⟩ ?_
    refine Hd.toK hK4 ?_
    refine Hd.ret ?_
    clear hK1 hK2 hK3 hK4
    exact Hd.retM (fun a fr => Lv.mark pkk (Lv.end1 fr rfl (a3, c3, ys) rfl (Ent.sep (.pure hys enn))))
  ·
    rintro r0_0 (_ | id0) pre0 hG0
    ·
      exact Hd.absurd (by first | exact id | simp)
    ·
      exact Hd.absurd (by first | exact id | simp)
set_option maxHeartbeats 2000000 in
theorem collk_ct (L : List SP) (b mb : Nat) (f : Int → Option Value) (m : Nat) (hm : m ≤ 1000000) : Ct Try.prog 98 #[seqK b] (KmP b mb :: mp mb .i64 f m :: L) (fun q_ : Option Addr × Nat × List Int => .slice q_.1 q_.2.2.length q_.2.1) (fun q_ : Option Addr × Nat × List Int => pu (KeysOf f q_.2.2 ∧ q_.2.2.length ≤ m) :: own 3 1 q_.1 q_.2.2.length q_.2.1 (vi q_.2.2) :: KmP b mb :: mp mb .i64 f m :: L) := by
  refine Ct.of (vs := [seqK b]) Try.func98 rfl rfl [(0, seqK b)] (by repeat (first | exact trivial | refine ⟨rfl, ?_⟩)) ?_
  intro E
  show Hd E 5 _ _ _ _
  refine Hd.seq (fun K1 hK1 => ?_)
  refine Hd.region ?_
  refine Hd.yv (y_assign rfl) ?_
  refine Hd.nil ?_
  refine Hd.slots [(0, _)] ⟨rfl, trivial⟩ ?_
  refine Hd.toK hK1 ?_
  refine Hd.seq (fun K2 hK2 => ?_)
  refine Hd.region ?_
  refine Hd.yv (y_move rfl) ?_
  refine Hd.callE rfl fk112 (appk_ct L b mb f m hm) (Ent.sep enn) ?_
  rintro ⟨ad, c, ks⟩
  dsimp only
  refine Hd.yv (y_assign rfl) ?_
  refine Hd.nil ?_
  refine Hd.slots [(2, _)] ⟨rfl, trivial⟩ ?_
  refine Hd.toK hK2 ?_
  refine Hd.ret ?_
  clear hK1 hK2
  exact Hd.ret1 rfl (ad, c, ks) rfl (Ent.sep enn)
end Ep
end Go.Proofs.Ytbfddabjbkohdaa
namespace Go.RX
set_option linter.unusedSimpArgs false
set_option linter.unusedVariables false
set_option linter.unnecessarySimpa false
open Go.Sort Go.Proofs Go.Shelf
section
theorem hp_growO {w : World} {os : Array Obj} : Sub (hp w) (hp (grow w os)) := fun k c e => by
  unfold hp at e ⊢
  have hb : k.1 < w.heap.size := Decidable.byContradiction fun h => by
    rw [Array.getElem?_eq_none (by omega)] at e
    cases k.2 <;> simp [hpo] at e
  show hpo (w.heap ++ os)[k.1]? k.2 = _
  rw [Array.getElem?_append_left hb]; exact e
theorem Sat.growO {E w : World} {L : List SP} (s : Sat E L w) (os : Array Obj) : Sat E L (grow w os) := ⟨s.1, s.2.1, s.2.2.1, s.2.2.2.up hp_growO⟩
theorem Sat.aheadO {E w : World} {L : List SP} (s : Sat E L w) (n : Nat) : Sat E L (Go.Sort.ahead w n) := ⟨⟨s.1.1, Nat.le_trans s.1.2 (Nat.le_add_right _ _)⟩, s.2⟩
theorem Sat.holds1 {k : IntKind} {E w : World} {L : List SP} {b o : Nat} {xs : List Int} (h0 : 0 < xs.length) (s : Sat E (seg b o (xs.map (Value.int k)) :: L) w) : Holds (Value.int k) w b o xs.toArray ∧ b < w.heap.size := by
  obtain ⟨h1, hs, x⟩ := sep.one Pick.here s.2.2.2
  obtain ⟨cs, e, fz, hb, hc⟩ := seg_at hs x (by rw [List.length_map]; exact h0)
  refine ⟨fun j hj => ?_, (Array.getElem?_eq_some_iff.1 hb).1⟩
  have hj' : j < xs.length := by simpa using hj
  have hcj := hc j (.int k xs[j]) (by rw [List.getElem?_map, List.getElem?_eq_getElem hj']; rfl)
  have e1 : xs.toArray[j]! = xs[j] := by rw [getElem!_pos _ j hj]; rfl
  refine ⟨?_, ?_⟩
  · unfold World.cell?
    simp only [hb, Option.isSome_none, Bool.false_eq_true, if_false]
    rw [hcj.1, e1]
  · unfold World.frozen?
    simp only [hb]
    first | exact hcj.2 | (simpa using hcj.2)
theorem Sat.sort1 {k : IntKind} {E w : World} {L : List SP} {b o : Nat} {xs ys : List Int} (hl : ys.length = xs.length) (h0 : 0 < xs.length) (s : Sat E (seg b o (xs.map (Value.int k)) :: L) w) (n : Nat) (os : Array Obj) :
    Sat E (seg b o (ys.map (Value.int k)) :: L) (grow (putRow (Value.int k) (Go.Sort.ahead w n) b o ys.toArray) os) := by
  unfold putRow
  refine Sat.growO ?_ os
  have s1 := s.aheadO n
  obtain ⟨h1, hs, x⟩ := sep.one Pick.here s1.2.2.2
  obtain ⟨cs, e, fz, hb, hc⟩ := seg_at hs x (by rw [List.length_map]; exact h0)
  have hsz : ∀ i, i < xs.length → o + i < cs.size := fun i hi => by
    have := (hc i (.int k xs[i]) (by rw [List.getElem?_map, List.getElem?_eq_getElem hi]; rfl)).1
    exact (Array.getElem?_eq_some_iff.1 this).1
  refine Sat.putSeg (cs := cs) (cs' := putCells (Value.int k) o ys.toArray cs) (e := e) (fz := fz) s1 .here (by rw [List.length_map, List.length_map, hl]) rfl rfl rfl (fun z hz => ?_) hb ?_ (by simp [putCells]) (fun i hi => ?_) (fun i v hi => ?_)
  · show (mapBlock _ _ _).heap[z]? = _
    unfold mapBlock
    simp [Array.getElem?_modify, Ne.symm hz]
  · show (mapBlock _ _ _).heap[b]? = _
    unfold mapBlock
    simp only [Array.getElem?_modify, if_true]
    rw [hb]; rfl
  · unfold putCells
    rw [Array.getElem?_mapIdx]
    cases hcs : cs[i]? with
    | none => rfl
    | some c =>
      simp only [Option.map_some]
      rw [if_neg]
      rw [List.length_map, ← hl] at hi
      simp only [List.size_toArray]
      omega
  · have hi' : i < ys.length := by have := (List.getElem?_eq_some_iff.1 hi).1; rwa [List.length_map] at this
    have hoi : o + i < cs.size := hsz i (by rw [← hl]; exact hi')
    unfold putCells
    rw [Array.getElem?_mapIdx, Array.getElem?_eq_getElem hoi]
    simp only [Option.map_some]
    rw [if_pos ⟨by omega, by simp only [List.size_toArray]; omega⟩, show o + i - o = i by omega]
    rw [List.getElem?_map, List.getElem?_eq_getElem hi'] at hi
    rw [getElem!_pos _ i (by simpa using hi')]
    exact hi
end
end Go.RX
namespace Go.Proofs
open Go.Shelf
def Try.sortA_ren : Go.Shelf.Ren := ⟨fun | 5 => 99 | 8 => 108 | 7 => 113 | 19 => 124 | 20 => 125 | 10 => 126 | 11 => 127 | 12 => 128 | 13 => 129 | 14 => 130 | 15 => 131 | 16 => 132 | 17 => 133 | 18 => 134 | 30 => 140 | 31 => 136 | 32 => 137 | 33 => 141 | 34 => 142 | 35 => 109 | 40 => 144 | n => n, fun | 23 => 22 | 25 => 3 | 3 => 3 | 32 => 178 | 22 => 22 | 0 => 0 | 44 => 191 | 46 => 78 | 4 => 4 | 36 => 184 | 35 => 183 | 41 => 188 | 5 => 5 | 9 => 9 | 53 => 199 | 57 => 203 | 63 => 207 | 64 => 208 | n => n, fun | n => n⟩
theorem Try.sortA : Go.Proofs.SlLaysM.n5 Try.prog Try.sortA_ren := {
  mixed := by kernel_rfl
  f5 := ⟨Try.f99.name, by decide, Try.func99.trans (congrArg some (by kernel_rfl))⟩
  f7 := ⟨Try.f113.name, by decide, Try.func113.trans (congrArg some (by kernel_rfl))⟩
  f8 := Try.func108.trans (congrArg some (by kernel_rfl))
  f10 := ⟨Try.f126.name, by decide, Try.func126.trans (congrArg some (by kernel_rfl))⟩
  f11 := ⟨Try.f127.name, by decide, Try.func127.trans (congrArg some (by kernel_rfl))⟩
  f12 := ⟨Try.f128.name, by decide, Try.func128.trans (congrArg some (by kernel_rfl))⟩
  f13 := ⟨Try.f129.name, by decide, Try.func129.trans (congrArg some (by kernel_rfl))⟩
  f14 := ⟨Try.f130.name, by decide, Try.func130.trans (congrArg some (by kernel_rfl))⟩
  f15 := ⟨Try.f131.name, by decide, Try.func131.trans (congrArg some (by kernel_rfl))⟩
  f16 := ⟨Try.f132.name, by decide, Try.func132.trans (congrArg some (by kernel_rfl))⟩
  f17 := ⟨Try.f133.name, by decide, Try.func133.trans (congrArg some (by kernel_rfl))⟩
  f18 := ⟨Try.f134.name, by decide, Try.func134.trans (congrArg some (by kernel_rfl))⟩
  f19 := Try.func124.trans (congrArg some (by kernel_rfl))
  f20 := Try.func125.trans (congrArg some (by kernel_rfl))
  f30 := ⟨Try.f140.name, by decide, Try.func140.trans (congrArg some (by kernel_rfl))⟩
  f31 := Try.func136.trans (congrArg some (by kernel_rfl))
  f32 := Try.func137.trans (congrArg some (by kernel_rfl))
  f33 := ⟨Try.f141.name, by decide, Try.func141.trans (congrArg some (by kernel_rfl))⟩
  f34 := ⟨Try.f142.name, by decide, Try.func142.trans (congrArg some (by kernel_rfl))⟩
  f35 := ⟨Try.f109.name, by decide, Try.func109.trans (congrArg some (by kernel_rfl))⟩
  f40 := ⟨Try.f144.name, by decide, Try.func144.trans (congrArg some (by kernel_rfl))⟩
  t0 := Try.underlying0
  a0 := Try.isAgg0
  z0 := Try.sizeOf0
  v0 := Try.zeroValue0
  t3 := Try.underlying3
  a3 := Try.isAgg3
  z3 := Try.sizeOf3
  v3 := Try.zeroValue3
  t4 := Try.underlying4
  a4 := Try.isAgg4
  z4 := Try.sizeOf4
  v4 := Try.zeroValue4
  t5 := Try.underlying5
  a5 := Try.isAgg5
  z5 := Try.sizeOf5
  v5 := Try.zeroValue5
  t9 := Try.underlying9
  a9 := Try.isAgg9
  z9 := Try.sizeOf9
  v9 := Try.zeroValue9
  t22 := Try.underlying22
  a22 := Try.isAgg22
  z22 := Try.sizeOf22
  v22 := Try.zeroValue22
  t23 := Try.underlying22
  a23 := Try.isAgg22
  z23 := Try.sizeOf22
  v23 := Try.zeroValue22
  t25 := Try.underlying3
  a25 := Try.isAgg3
  z25 := Try.sizeOf3
  v25 := Try.zeroValue3
  t32 := Try.underlying178
  a32 := Try.isAgg178
  z32 := Try.sizeOf178
  v32 := Try.zeroValue178
  t35 := Try.underlying183
  a35 := Try.isAgg183
  z35 := Try.sizeOf183
  v35 := Try.zeroValue183
  t36 := Try.underlying184
  a36 := Try.isAgg184
  z36 := Try.sizeOf184
  v36 := Try.zeroValue184
  t41 := Try.underlying188
  a41 := Try.isAgg188
  z41 := Try.sizeOf188
  v41 := Try.zeroValue188
  t44 := Try.underlying191
  a44 := Try.isAgg191
  z44 := Try.sizeOf191
  v44 := Try.zeroValue191
  t46 := Try.underlying78
  a46 := Try.isAgg78
  z46 := Try.sizeOf78
  v46 := Try.zeroValue78
  t53 := Try.underlying199
  a53 := Try.isAgg199
  z53 := Try.sizeOf199
  v53 := Try.zeroValue199
  t57 := Try.underlying203
  a57 := Try.isAgg203
  z57 := Try.sizeOf203
  v57 := Try.zeroValue203
  t63 := Try.underlying207
  a63 := Try.isAgg207
  z63 := Try.sizeOf207
  v63 := Try.zeroValue207
  t64 := Try.underlying208
  a64 := Try.isAgg208
  z64 := Try.sizeOf208
  v64 := Try.zeroValue208 }
end Go.Proofs
namespace Go.Proofs.Ytbfddabjbkohdaa
set_option linter.unusedSimpArgs false
set_option linter.unusedVariables false
set_option linter.unnecessarySimpa false
open Go.RX Fx Go.Sort Go.Shelf
namespace Ep
set_option maxRecDepth 8000
def srt (l : List Int) : List Int := l.mergeSort fun x y => decide (x ≤ y)
theorem srt_len (l : List Int) : (srt l).length = l.length := List.length_mergeSort l
theorem srt_perm (l : List Int) : (srt l).Perm l := List.mergeSort_perm l _
theorem srt_le (l : List Int) : (srt l).Pairwise (· ≤ ·) := (List.pairwise_mergeSort (le := fun x y : Int => decide (x ≤ y)) (fun a b c h1 h2 => by simp only [decide_eq_true_eq] at *; omega) (fun a b => by simp only [Bool.or_eq_true, decide_eq_true_eq]; omega) l).imp fun h => by simpa using h
theorem sorti_ct (L : List SP) (ad : Option Addr) (cap : Nat) (xs : List Int) (hlen : xs.length ≤ 1000000) :
    Ct Try.prog 99 #[.slice ad xs.length cap] (own 3 1 ad xs.length cap (vi xs) :: L) (fun _ : Unit => .tuple #[]) (fun _ => own 3 1 ad xs.length cap (vi (srt xs)) :: L) := by
  intro E w hsat
  have hls := srt_len xs
  obtain ⟨hos, htp, hou, h1, h2, dd, s1, s2, ⟨hul, hv⟩, hL⟩ := hsat
  by_cases hn0 : xs = []
  · subst hn0
    refine (AnyM.slices_Sort_int_none Try.sortA ad cap w).mono ?_
    rintro e w' ⟨rfl, rfl⟩
    refine ⟨(), rfl, ?_⟩
    rw [show srt ([] : List Int) = [] from List.eq_nil_of_length_eq_zero (srt_len [])]
    exact ⟨hos, htp, hou, h1, h2, dd, s1, s2, ⟨hul, hv⟩, hL⟩
  · have h0 : 0 < xs.length := List.length_pos_iff.2 hn0
    rcases hv with ⟨h00, hc0⟩ | ⟨b, o, sp, rfl, hmc, hcm, hsp, hpt⟩
    · omega
    have s0 : Sat E (seg b o (vi xs ++ sp) :: L) w := ⟨hos, htp, hou, h1, h2, dd, s1, s2, hpt, hL⟩
    have s3 : Sat E (seg b o (vi xs) :: seg b (o + (vi xs).length) sp :: L) w := s0.mp fun k h => seg_split h
    have hH := Sat.holds1 h0 s3
    refine Calls.mono (AnyM.slices_Sort_int Try.sortA b o cap xs w hH.1 hH.2 (by omega)) ?_
    rintro e w' ⟨rfl, m, os, rfl⟩
    refine ⟨(), rfl, ?_⟩
    have s4 := s3.sort1 (ys := srt xs) hls h0 m os
    have hfl : (vi xs).length = (vi (srt xs)).length := by rw [List.length_map, List.length_map, hls]
    rw [hfl] at s4
    have s5 := s4.mp fun k h => seg_join h
    exact s5.mp fun k h => sep_head h fun k2 x => ⟨by rw [List.length_map, hls]; simpa using hul, .inr ⟨b, o, sp, rfl, hmc, hcm, hsp, x⟩⟩
set_option maxHeartbeats 2000000 in
theorem sortedk_ct (L : List SP) (b mb : Nat) (f : Int → Option Value) (m : Nat) (hm : m ≤ 1000000) : Ct Try.prog 72 #[seqK b] (KmP b mb :: mp mb .i64 f m :: L) (fun q_ : Option Addr × Nat × List Int => .slice q_.1 q_.2.2.length q_.2.1) (fun q_ : Option Addr × Nat × List Int => pu (KeysOf f q_.2.2 ∧ q_.2.2.length ≤ m ∧ q_.2.2.Pairwise (· ≤ ·)) :: own 3 1 q_.1 q_.2.2.length q_.2.1 (vi q_.2.2) :: KmP b mb :: mp mb .i64 f m :: L) := by
  refine Ct.of (vs := [seqK b]) Try.func72 rfl rfl [(0, seqK b)] (by repeat (first | exact trivial | refine ⟨rfl, ?_⟩)) ?_
  intro E
  show Hd E 9 _ _ _ _
  refine Hd.seq (fun K1 hK1 => ?_)
  refine Hd.region ?_
  refine Hd.yv (y_assign rfl) ?_
  refine Hd.nil ?_
  refine Hd.slots [(0, _)] ⟨rfl, trivial⟩ ?_
  refine Hd.toK hK1 ?_
  refine Hd.seq (fun K2 hK2 => ?_)
  refine Hd.region ?_
  refine Hd.yv (y_move rfl) ?_
  refine Hd.callE rfl fk98 (collk_ct L b mb f m hm) (Ent.sep enn) ?_
  rintro ⟨ad, c, ks⟩
  dsimp only
  refine Hd.yv (y_assign rfl) ?_
  refine Hd.nil ?_
  refine Hd.slots [(3, _)] ⟨rfl, trivial⟩ ?_
  refine Hd.toK hK2 ?_
  refine Hd.seq (fun K3 hK3 => ?_)
  refine Hd.pure (fun hks => ?_)
  refine Hd.region ?_
  refine Hd.yv (y_move rfl) ?_
  refine Hd.callE rfl fk99 (sorti_ct _ ad c ks (by omega)) (Ent.sep enn) ?_
  intro _
  refine Hd.nil ?_
  refine Hd.slots [(3, _)] ⟨rfl, trivial⟩ ?_
  refine Hd.toK hK3 ?_
  refine Hd.seq (fun K4 hK4 => ?_)
  refine Hd.region ?_
  refine Hd.yv (y_move rfl) ?_
  refine Hd.yv (y_assign rfl) ?_
  refine Hd.nil ?_
  refine Hd.slots [(2, _)] ⟨rfl, trivial⟩ ?_
  refine Hd.toK hK4 ?_
  refine Hd.ret ?_
  clear hK1 hK2 hK3 hK4
  have hK : KeysOf f (srt ks) := ⟨(srt_perm ks).nodup_iff.2 hks.1.nd, fun a => by rw [(srt_perm ks).mem_iff]; exact hks.1.mem a⟩
  exact Hd.ret1 rfl (ad, c, srt ks) (by dsimp only; rw [srt_len]; rfl) (Ent.sep (.pure ⟨hK, by rw [srt_len]; exact hks.2, srt_le ks⟩ (.eq pkk (own_eq3 (srt_len ks).symm rfl rfl) enn)))
end Ep
end Go.Proofs.Ytbfddabjbkohdaa
namespace Go.Proofs.Ytbfddabjbkohdaa
set_option linter.unusedSimpArgs false
set_option linter.unusedVariables false
set_option linter.unnecessarySimpa false
open Go.RX Fx
namespace Wo
set_option maxRecDepth 8000
def wireN : Option (Nat × Nat) → Int
  | none => 0
  | some (n, _) => (n : Int)
theorem plc1 (o : Option (Nat × Nat)) : (plc o)[1]? = some (.int .i64 (wireN o)) := by
  cases o with
  | none => rfl
  | some p => obtain ⟨n, k⟩ := p; rfl
set_option maxHeartbeats 2000000 in
theorem wwire_ct (L : List SP) (wb : Nat) (w : WA) (fd : Int) : Ct Try.prog 37 #[.pointer (some ⟨wb, 0, none⟩), .int .i64 fd] (WorldP wb w :: L) (fun _ : Unit => .tuple #[.int .i64 (wireN (w.at fd)), .int .i64 (fdErr (w.at fd))]) (fun _ : Unit => WorldP wb w :: L) := by
  refine Ct.of (vs := [.pointer (some ⟨wb, 0, none⟩), .int .i64 fd]) Try.func37 rfl rfl [(0, .pointer (some ⟨wb, 0, none⟩)), (1, .int .i64 fd)] (by repeat (first | exact trivial | refine ⟨rfl, ?_⟩)) ?_
  intro E
  show Hd E 19 _ _ _ _
  refine Hd.world .here (fun i hw hrs => ?_)
  refine Hd.seq (fun K1 hK1 => ?_)
  refine Hd.region ?_
  refine Hd.yv (y_assign rfl) ?_
  refine Hd.yv (y_assign rfl) ?_
  refine Hd.nil ?_
  refine Hd.slots [(0, _), (1, _)] ⟨rfl, rfl, trivial⟩ ?_
  refine Hd.toK hK1 ?_
  refine Hd.seq (fun K2 hK2 => ?_)
  refine Hd.region ?_
  refine Hd.yv (y_move rfl) ?_
  refine Hd.yv (y_move rfl) ?_
  refine Hd.callE rfl fk46 (find_ct _ wb w i hw hrs fd) (Ent.sep enn) ?_
  intro _
  refine Hd.yv (y_move rfl) ?_
  refine Hd.yv (y_extract rfl rfl) ?_
  refine Hd.yv (y_extract rfl rfl) ?_
  refine Hd.yv (y_extract rfl rfl) ?_
  refine Hd.alloc zr75 (fun b6 => ?_)
  refine Hd.storeA (us := plc (w.at fd)) (by rw [plc_len]; exact sz75) rfl rfl rfl (plc_one _) pkk (by rw [plc_len]; rfl) ?_
  refine Hd.yv (y_assign rfl) ?_
  refine Hd.yv (y_assign rfl) ?_
  refine Hd.nil ?_
  refine Hd.slots [(6, _), (8, _)] ⟨rfl, rfl, trivial⟩ ?_
  refine Hd.toK hK2 ?_
  refine Hd.seq (fun K3 hK3 => ?_)
  refine Hd.region ?_
  first | (refine Hd.yv (y_field' (q := 1) (ft := 3) Try.underlying75 rfl sz3 rfl rfl) ?_) | (refine Hd.yv (y_fieldR (q := 1) (ft := 3) Try.underlying75 rfl sz3 rfl rfl) ?_)
  first | (refine Hd.yv (y_load1 ag3 rfl (Rd.pt1 pkk (by (first | exact plc1 _ | rfl)))) ?_) | (refine Hd.yv (y_load1 ag3 rfl (Rd.seg1 pkk (by (first | exact plc1 _ | rfl)))) ?_) | (refine Hd.yv (y_loadR1 ag3 rfl (by (first | exact RdS.own pkk)) (by (first | exact plc1 _ | rfl))) ?_)
  refine Hd.yv (y_move rfl) ?_
  refine Hd.yv (y_assign rfl) ?_
  refine Hd.yv (y_assign rfl) ?_
  refine Hd.nil ?_
  refine Hd.slots [(4, _), (5, _)] ⟨rfl, rfl, trivial⟩ ?_
  refine Hd.toK hK3 ?_
  refine Hd.ret ?_
  clear hK1 hK2 hK3
  exact Hd.ret2 rfl () rfl rfl rfl (Ent.sep (.ex i (.pure ⟨hw, hrs⟩ enn)))
end Wo
end Go.Proofs.Ytbfddabjbkohdaa
namespace Go.Proofs.Ytbfddabjbkohdaa
set_option linter.unusedSimpArgs false
set_option linter.unusedVariables false
set_option linter.unnecessarySimpa false
open Go.RX Fx
namespace Ep
open Wo
set_option maxRecDepth 8000
structure IxA where
  wire : Int
  events : Int
  armed : Int
  reads : Int
  writes : Int
abbrev encIx (x : IxA) : List Value := [.int .i64 x.wire, .int .i64 x.events, .int .i64 x.armed, .int .u64 x.reads, .int .u64 x.writes]
abbrev zIx : IxA := ⟨0, 0, 0, 0, 0⟩
def fmap (f : Int → Option IxA) : Int → Option Value := fun a => (f a).map fun x => .agg (encIx x).toArray
theorem fmap_get (f : Int → Option IxA) (a : Int) : (fmap f a).getD (.agg (encIx zIx).toArray) = .agg (encIx ((f a).getD zIx)).toArray := by
  unfold fmap; cases f a <;> rfl
theorem fmap_some (f : Int → Option IxA) (a : Int) : (fmap f a).isSome = (f a).isSome := by unfold fmap; cases f a <;> rfl
abbrev EpH (pb wb mb : Nat) (limit : Int) : SP := pt pb [.pointer (some ⟨wb, 0, none⟩), .int .i64 limit, .map (some mb)] 51
def findE (f : Int → Option IxA) (w : WA) (fd : Int) : Option IxA := match f fd with
  | none => none
  | some x => if (w.at fd).isSome = true ∧ wireN (w.at fd) = x.wire then some x else none
set_option maxHeartbeats 2000000 in
theorem efind_ct (L : List SP) (pb wb mb : Nat) (limit : Int) (f : Int → Option IxA) (m : Nat) (w : WA) (fd : Int) : Ct Try.prog 38 #[.pointer (some ⟨pb, 0, none⟩), .int .i64 fd] (EpH pb wb mb limit :: mp mb .i64 (fmap f) m :: WorldP wb w :: L) (fun _ : Unit => .tuple #[.agg (encIx ((findE f w fd).getD zIx)).toArray, .bool (findE f w fd).isSome]) (fun _ : Unit => EpH pb wb mb limit :: mp mb .i64 (fmap f) m :: WorldP wb w :: L) := by
  refine Ct.of (vs := [.pointer (some ⟨pb, 0, none⟩), .int .i64 fd]) Try.func38 rfl rfl [(0, .pointer (some ⟨pb, 0, none⟩)), (1, .int .i64 fd)] (by repeat (first | exact trivial | refine ⟨rfl, ?_⟩)) ?_
  intro E
  show Hd E 42 _ _ _ _
  refine Hd.seq (fun K1 hK1 => ?_)
  refine Hd.region ?_
  refine Hd.alloc zr93 (fun b4 => ?_)
  refine Hd.yv (y_assign rfl) ?_
  refine Hd.nil ?_
  refine Hd.slots [(0, _), (1, _), (4, _)] ⟨rfl, rfl, rfl, trivial⟩ ?_
  refine Hd.toK hK1 ?_
  refine Hd.seq (fun K2 hK2 => ?_)
  refine Hd.region ?_
  refine Hd.yv (y_move rfl) ?_
  refine Hd.yv (y_nilp rfl) ?_
  first | (refine Hd.yv (y_field' (q := 2) (ft := 49) Try.underlying51 rfl sz49 rfl rfl) ?_) | (refine Hd.yv (y_fieldR (q := 2) (ft := 49) Try.underlying51 rfl sz49 rfl rfl) ?_)
  first | (refine Hd.yv (y_load1 ag49 rfl (Rd.pt1 pkk (by (first | rfl)))) ?_) | (refine Hd.yv (y_load1 ag49 rfl (Rd.seg1 pkk (by (first | rfl)))) ?_) | (refine Hd.yv (y_loadR1 ag49 rfl (by (first | exact RdS.own pkk)) (by (first | rfl))) ?_)
  refine Hd.yv (y_move rfl) ?_
  refine Hd.yv (y_lookup2 mapt49 rfl rfl pkk) ?_
  refine Hd.yv (y_move rfl) ?_
  refine Hd.yv (y_to (v' := .agg (encIx ((f fd).getD zIx)).toArray) (y_extract rfl rfl) (by exact fmap_get f fd)) ?_
  refine Hd.yv (y_to (v' := .bool (f fd).isSome) (y_extract rfl rfl) (by (rw [← fmap_some]; rfl))) ?_
  refine Hd.alloc zr93 (fun b6 => ?_)
  refine Hd.storeA (us := encIx ((f fd).getD zIx)) sz93 rfl rfl rfl (by simp [Value.oneCell']) pkk (by exact rfl) ?_
  refine Hd.yv (y_assign rfl) ?_
  refine Hd.nil ?_
  refine Hd.slots [(0, _), (1, _), (4, _), (6, _), (7, _)] ⟨rfl, rfl, rfl, rfl, rfl, trivial⟩ ?_
  refine Hd.toK hK2 ?_
  refine Hd.seq (fun K3 hK3 => ?_)
  refine Hd.region ?_
  refine Hd.yv (y_move rfl) ?_
  refine Hd.yv (y_nilp rfl) ?_
  first | (refine Hd.yv (y_field' (q := 0) (ft := 27) Try.underlying51 rfl sz27 rfl rfl) ?_) | (refine Hd.yv (y_fieldR (q := 0) (ft := 27) Try.underlying51 rfl sz27 rfl rfl) ?_)
  first | (refine Hd.yv (y_load1 ag27 rfl (Rd.pt1 pkk (by (first | rfl)))) ?_) | (refine Hd.yv (y_load1 ag27 rfl (Rd.seg1 pkk (by (first | rfl)))) ?_) | (refine Hd.yv (y_loadR1 ag27 rfl (by (first | exact RdS.own pkk)) (by (first | rfl))) ?_)
  refine Hd.yv (y_move rfl) ?_
  refine Hd.callE rfl fk37 (wwire_ct _ wb w fd) (Ent.sep enn) ?_
  intro _
  refine Hd.yv (y_move rfl) ?_
  refine Hd.yv (y_extract rfl rfl) ?_
  refine Hd.yv (y_extract rfl rfl) ?_
  refine Hd.yv (y_assign rfl) ?_
  refine Hd.yv (y_assign rfl) ?_
  refine Hd.nil ?_
  refine Hd.slots [(4, _), (6, _), (7, _), (8, _), (9, _)] ⟨rfl, rfl, rfl, rfl, rfl, trivial⟩ ?_
  refine Hd.toK hK3 ?_
  refine Hd.seq (fun K4 hK4 => ?_)
  refine Hd.seq (fun K5 hK5 => ?_)
  refine Hd.region ?_
  refine Hd.yv (y_move rfl) ?_
  refine Hd.yv (y_not rfl) ?_
  refine Hd.yv (y_move rfl) ?_
  apply Hd.org 3 30 33 [(4, _), (6, _), (8, _)] rfl ⟨rfl, rfl, rfl, trivial⟩
  · intro hg3_30
    try simp only [decide_eq_true_eq, decide_eq_false_iff_not, Bool.and_eq_true, Bool.or_eq_true, Bool.and_eq_false_iff, Bool.or_eq_false_iff, Bool.not_eq_true', Bool.not_eq_false', Bool.not_eq_true, Bool.not_eq_false, Int.not_lt, Int.not_le, Decidable.not_not, ne_eq] at hg3_30
    simp only [List.take]
    refine Hd.ng rfl rfl rfl ?_
    refine Hd.ng rfl rfl rfl ?_
    first | (refine Hd.yv (y_pickT rfl rfl) ?_) | (refine Hd.yv (y_pickF rfl rfl) ?_) | (refine Hd.yv (y_pickb rfl rfl rfl) ?_) | (refine Hd.yv (y_pick rfl rfl rfl) ?_)
    refine Hd.nil ?_
    exact Hd.mend (by repeat (first | exact trivial | refine ⟨rfl, ?_⟩)) (Ent.sep enn)
  · intro hg3_30
    try simp only [decide_eq_true_eq, decide_eq_false_iff_not, Bool.and_eq_true, Bool.or_eq_true, Bool.and_eq_false_iff, Bool.or_eq_false_iff, Bool.not_eq_true', Bool.not_eq_false', Bool.not_eq_true, Bool.not_eq_false, Int.not_lt, Int.not_le, Decidable.not_not, ne_eq] at hg3_30
    simp only [List.take]
    refine Hd.yg rfl rfl (y_move rfl) ?_
    refine Hd.yg rfl rfl (y_neq rfl rfl) ?_
    first | (refine Hd.yv (y_pickT rfl rfl) ?_) | (refine Hd.yv (y_pickF rfl rfl) ?_) | (refine Hd.yv (y_pickb rfl rfl rfl) ?_) | (refine Hd.yv (y_pick rfl rfl rfl) ?_)
    refine Hd.nil ?_
    exact Hd.mend (by repeat (first | exact trivial | refine ⟨rfl, ?_⟩)) (Ent.sep enn)
  simp only [List.drop]
  refine Hd.yv (y_move rfl) ?_
  apply Hd.org 5 34 39 [(4, _), (6, _)] rfl ⟨rfl, rfl, trivial⟩
  · intro hg3_34
    try simp only [decide_eq_true_eq, decide_eq_false_iff_not, Bool.and_eq_true, Bool.or_eq_true, Bool.and_eq_false_iff, Bool.or_eq_false_iff, Bool.not_eq_true', Bool.not_eq_false', Bool.not_eq_true, Bool.not_eq_false, Int.not_lt, Int.not_le, Decidable.not_not, ne_eq] at hg3_34
    simp only [List.take]
    refine Hd.ng rfl rfl rfl ?_
    refine Hd.ng rfl rfl rfl ?_
    refine Hd.ng rfl rfl rfl ?_
    refine Hd.ng rfl rfl rfl ?_
    first | (refine Hd.yv (y_pickT rfl rfl) ?_) | (refine Hd.yv (y_pickF rfl rfl) ?_) | (refine Hd.yv (y_pickb rfl rfl rfl) ?_) | (refine Hd.yv (y_pick rfl rfl rfl) ?_)
    refine Hd.nil ?_
    exact Hd.mend (by repeat (first | exact trivial | refine ⟨rfl, ?_⟩)) (Ent.sep enn)
  · intro hg3_34
    try simp only [decide_eq_true_eq, decide_eq_false_iff_not, Bool.and_eq_true, Bool.or_eq_true, Bool.and_eq_false_iff, Bool.or_eq_false_iff, Bool.not_eq_true', Bool.not_eq_false', Bool.not_eq_true, Bool.not_eq_false, Int.not_lt, Int.not_le, Decidable.not_not, ne_eq] at hg3_34
    simp only [List.take]
    refine Hd.yg rfl rfl (y_move rfl) ?_
    first | (refine Hd.yg rfl rfl (y_field' (q := 0) (ft := 3) Try.underlying93 rfl sz3 rfl rfl) ?_) | (refine Hd.yg rfl rfl (y_fieldR (q := 0) (ft := 3) Try.underlying93 rfl sz3 rfl rfl) ?_)
    first | (refine Hd.yg rfl rfl (y_load1 ag3 rfl (Rd.pt1 pkk (by (first | rfl)))) ?_) | (refine Hd.yg rfl rfl (y_load1 ag3 rfl (Rd.seg1 pkk (by (first | rfl)))) ?_) | (refine Hd.yg rfl rfl (y_loadR1 ag3 rfl (by (first | exact RdS.own pkk)) (by (first | rfl))) ?_)
    refine Hd.yg rfl rfl (y_neq rfl rfl) ?_
    first | (refine Hd.yv (y_pickT rfl rfl) ?_) | (refine Hd.yv (y_pickF rfl rfl) ?_) | (refine Hd.yv (y_pickb rfl rfl rfl) ?_) | (refine Hd.yv (y_pick rfl rfl rfl) ?_)
    refine Hd.nil ?_
    exact Hd.mend (by repeat (first | exact trivial | refine ⟨rfl, ?_⟩)) (Ent.sep enn)
  simp only [List.drop]
  refine Hd.nil ?_
  refine Hd.slots [(4, _), (6, _), (39, _)] ⟨rfl, rfl, rfl, trivial⟩ ?_
  refine Hd.toK hK5 ?_
  refine Hd.cond rfl (fun hc0 => ?_) (fun hc0 => ?_)
  ·
    try simp only [decide_eq_true_eq, decide_eq_false_iff_not, Bool.and_eq_true, Bool.or_eq_true, Bool.and_eq_false_iff, Bool.or_eq_false_iff, Bool.not_eq_true', Bool.not_eq_false', Bool.not_eq_true, Bool.not_eq_false, Int.not_lt, Int.not_le, Decidable.not_not, ne_eq] at hc0
    refine Hd.seq (fun K6 hK6 => ?_)
    refine Hd.region ?_
    refine Hd.yv (y_build (vs := []) rfl (by first | exact bd38_40 .. | kernel_rfl)) ?_
    first | (refine Hd.storeA (us := [_, _, _, _, _]) sz93 rfl rfl rfl (by simp [Value.oneCell']) pkk rfl ?_) | (refine Hd.store (us := [_, _, _, _, _]) sz93 rfl rfl rfl (by simp [Value.oneCell']) pkk (by simp) ?_)
    try simp only [List.set_cons_zero, List.set_cons_succ]
    refine Hd.yv (y_assign rfl) ?_
    refine Hd.nil ?_
    refine Hd.slots [(4, _), (5, _)] ⟨rfl, rfl, trivial⟩ ?_
    refine Hd.toK hK6 ?_
    refine Hd.ret ?_
    refine Hd.thenRet ?_
    clear hK1 hK2 hK3 hK4 hK5 hK6
    have hno : findE f w fd = none := by
      unfold findE
      cases hf : f fd with
      | none => rfl
      | some x =>
        refine if_neg (fun h => ?_)
        rw [hf] at hc0
        unfold fdErr at hc0
        rw [h.1] at hc0
        simp [h.2] at hc0
    rw [hno]
    exact Hd.retCT rfl () ag93 rfl rfl (Rd.pt (b := b4) (us := encIx zIx) pkk (fun j v e => by rw [Nat.zero_add]; exact e)) (by exact sz93) rfl (Ent.sep enn)
  ·
    try simp only [decide_eq_true_eq, decide_eq_false_iff_not, Bool.and_eq_true, Bool.or_eq_true, Bool.and_eq_false_iff, Bool.or_eq_false_iff, Bool.not_eq_true', Bool.not_eq_false', Bool.not_eq_true, Bool.not_eq_false, Int.not_lt, Int.not_le, Decidable.not_not, ne_eq] at hc0
    refine Hd.skip ?_
    refine Hd.toK hK4 ?_
    refine Hd.seq (fun K7 hK7 => ?_)
    refine Hd.region ?_
    first | (refine Hd.yv (y_loadn (us := [_, _, _, _, _]) ag93 rfl (Rd.pt pkk (by (first | (intro j v e; rcases j with _|_|_|_|_|_|_|_|_|_|_|_|j <;> first | exact e | exact absurd e (by simp))))) (by exact sz93)) ?_) | (refine Hd.yv (y_loadn (us := [_, _, _, _, _]) ag93 rfl (Rd.seg pkk (by (first | (intro j v e; rcases j with _|_|_|_|_|_|_|_|_|_|_|_|j <;> first | exact e | exact absurd e (by simp))))) (by exact sz93)) ?_) | (refine Hd.yv (y_loadRn ag93 rfl (by (first | exact RdS.own pkk)) (by (first | (intro j v e; rcases j with _|_|_|_|_|_|_|_|_|_|_|_|j <;> first | exact e | exact absurd e (by simp)))) (by exact sz93) (by simp)) ?_)
    refine Hd.storeA (us := encIx ((f fd).getD zIx)) sz93 rfl rfl rfl (by simp [Value.oneCell']) pkk (by exact rfl) ?_
    refine Hd.yv (y_assign rfl) ?_
    refine Hd.nil ?_
    refine Hd.slots [(4, _), (5, _)] ⟨rfl, rfl, trivial⟩ ?_
    refine Hd.toK hK7 ?_
    refine Hd.ret ?_
    clear hK1 hK2 hK3 hK4 hK5 hK7
    have hyes : findE f w fd = f fd ∧ (f fd).isSome = true := by
      unfold findE
      cases hf : f fd with
      | none => rw [hf] at hc0; simp at hc0
      | some x =>
        rw [hf] at hc0
        cases ho : w.at fd with
        | none => rw [ho] at hc0; simp [fdErr] at hc0
        | some p =>
          rw [ho] at hc0
          simp [fdErr] at hc0
          exact ⟨if_pos ⟨rfl, hc0⟩, rfl⟩
    rw [hyes.1, hyes.2]
    exact Hd.retCT rfl () ag93 rfl rfl (Rd.pt (b := b4) (us := encIx ((f fd).getD zIx)) pkk (fun j v e => by rw [Nat.zero_add]; exact e)) (by exact sz93) rfl (Ent.sep enn)
end Ep
end Go.Proofs.Ytbfddabjbkohdaa
namespace Go.Proofs.Ytbfddabjbkohdaa
set_option linter.unusedSimpArgs false
set_option linter.unusedVariables false
set_option linter.unnecessarySimpa false
open Go.RX Fx
namespace Ep
open Wo
set_option maxRecDepth 8000
abbrev EpM (px pb wb mb : Nat) (limit : Int) (f : Int → Option IxA) (m : Nat) (w : WA) (L : List SP) : List SP := pt px [.pointer (some ⟨pb, 0, none⟩)] 32 :: EpH pb wb mb limit :: mp mb .i64 (fmap f) m :: WorldP wb w :: L
set_option maxHeartbeats 2000000 in
theorem all1_ct (L : List SP) (px pb wb mb : Nat) (limit : Int) (f : Int → Option IxA) (m : Nat) (w : WA) (fd : Int) : Ct Try.prog 74 #[.int .i64 fd, .pointer (some ⟨px, 0, none⟩)] (EpM px pb wb mb limit f m w L) (fun _ : Unit => .bool (!(findE f w fd).isSome)) (fun _ : Unit => EpM px pb wb mb limit f m w L) := by
  refine Ct.of (vs := [.int .i64 fd, .pointer (some ⟨px, 0, none⟩)]) Try.func74 rfl rfl [(0, .int .i64 fd), (1, .pointer (some ⟨px, 0, none⟩))] (by repeat (first | exact trivial | refine ⟨rfl, ?_⟩)) ?_
  intro E
  show Hd E 14 _ _ _ _
  refine Hd.seq (fun K1 hK1 => ?_)
  refine Hd.region ?_
  refine Hd.yv (y_assign rfl) ?_
  refine Hd.nil ?_
  refine Hd.slots [(0, _), (1, _)] ⟨rfl, rfl, trivial⟩ ?_
  refine Hd.toK hK1 ?_
  refine Hd.seq (fun K2 hK2 => ?_)
  refine Hd.region ?_
  first | (refine Hd.yv (y_load1 ag32 rfl (Rd.pt1 pkk (by (first | rfl)))) ?_) | (refine Hd.yv (y_load1 ag32 rfl (Rd.seg1 pkk (by (first | rfl)))) ?_) | (refine Hd.yv (y_loadR1 ag32 rfl (by (first | exact RdS.own pkk)) (by (first | rfl))) ?_)
  refine Hd.yv (y_move rfl) ?_
  refine Hd.callE rfl fk38 (efind_ct _ pb wb mb limit f m w fd) (Ent.sep enn) ?_
  intro _
  refine Hd.yv (y_move rfl) ?_
  refine Hd.yv (y_extract rfl rfl) ?_
  refine Hd.yv (y_extract rfl rfl) ?_
  refine Hd.alloc zr93 (fun b4 => ?_)
  refine Hd.storeA (us := encIx ((findE f w fd).getD zIx)) sz93 rfl rfl rfl (by simp [Value.oneCell']) pkk (by exact rfl) ?_
  refine Hd.yv (y_assign rfl) ?_
  refine Hd.nil ?_
  refine Hd.slots [(5, _)] ⟨rfl, trivial⟩ ?_
  refine Hd.toK hK2 ?_
  refine Hd.seq (fun K3 hK3 => ?_)
  refine Hd.region ?_
  refine Hd.yv (y_move rfl) ?_
  refine Hd.yv (y_not rfl) ?_
  refine Hd.yv (y_assign rfl) ?_
  refine Hd.nil ?_
  refine Hd.slots [(3, _)] ⟨rfl, trivial⟩ ?_
  refine Hd.toK hK3 ?_
  refine Hd.ret ?_
  clear hK1 hK2 hK3
  exact Hd.ret1 rfl () (by first | rfl | (simp only [*]; done) | (simp [*]; done)) (Ent.sep enn)
abbrev qE (f : Int → Option IxA) (w : WA) (fd : Int) : Bool := (findE f w fd).isSome
abbrev allK (px : Nat) : Value := .func (.func 74) #[] #[.pointer (some ⟨px, 0, none⟩)]
theorem vi_at {xs : List Int} {i : Nat} (h : i < xs.length) : (vi xs)[i * 1]? = some (.int .i64 xs[i]) := by rw [Nat.mul_one, List.getElem?_map, List.getElem?_eq_getElem h]; rfl
set_option maxHeartbeats 2000000 in
theorem idxn_ct (L : List SP) (px pb wb mb : Nat) (limit : Int) (f : Int → Option IxA) (m : Nat) (w : WA) (ad : Option Addr) (cap : Nat) (xs : List Int) (hb : xs.length ≤ 1000000) (hq : ∀ y ∈ xs, qE f w y = true) : Ct Try.prog 97 #[.slice ad xs.length cap, allK px] (own 3 1 ad xs.length cap (vi xs) :: EpM px pb wb mb limit f m w L) (fun _ : Unit => .int .i64 (-1)) (fun _ : Unit => own 3 1 ad xs.length cap (vi xs) :: EpM px pb wb mb limit f m w L) := by
  refine Ct.of (vs := [.slice ad xs.length cap, allK px]) Try.func97 rfl rfl [(0, .slice ad xs.length cap), (1, allK px)] (by repeat (first | exact trivial | refine ⟨rfl, ?_⟩)) ?_
  intro E
  show Hd E 19 _ _ _ _
  refine Hd.seq (fun K1 hK1 => ?_)
  refine Hd.region ?_
  refine Hd.yv (y_assign rfl) ?_
  refine Hd.nil ?_
  refine Hd.slots [(0, _), (1, _)] ⟨rfl, rfl, trivial⟩ ?_
  refine Hd.toK hK1 ?_
  refine Hd.seq (fun K2 hK2 => ?_)
  refine Hd.seq (fun K3 hK3 => ?_)
  refine Hd.region ?_
  refine Hd.yv (y_move rfl) ?_
  refine Hd.yv (y_len Try.underlying22 rfl) ?_
  refine Hd.yv (y_move rfl) ?_
  refine Hd.nil ?_
  refine Hd.slots [(0, _), (1, _), (7, _), (8, _)] ⟨rfl, rfl, rfl, rfl, trivial⟩ ?_
  refine Hd.toK hK3 ?_
  refine Hd.block ?_
  refine Hd.loopK (ι := Nat) [(0, _), (1, _), (7, _)] (fun i => [(8, .int .i64 (i : Int))]) (fun i => pu (i ≤ xs.length) :: own 3 1 ad xs.length cap (vi xs) :: EpM px pb wb mb limit f m w L) (fun i => xs.length - i) 0 (by repeat (first | exact trivial | refine ⟨rfl, ?_⟩)) (by repeat (first | exact trivial | refine ⟨rfl, ?_⟩)) (Ent.sep (.pure (by first | omega | (simp; done) | (simp; omega) | exact ⟨by simp, by simp⟩) enn)) ?_
  intro i
  try dsimp only
  refine Hd.pure (fun hp0 => ?_)
  try dsimp only at hp0
  refine Hd.seq (fun K4 hK4 => ?_)
  refine Hd.region ?_
  refine Hd.yv (y_lss rfl rfl) ?_
  refine Hd.nil ?_
  refine Hd.slots [(0, _), (1, _), (7, _), (8, _), (9, _)] ⟨rfl, rfl, rfl, rfl, rfl, trivial⟩ ?_
  refine Hd.toK hK4 ?_
  refine Hd.seq (fun K5 hK5 => ?_)
  refine Hd.cond rfl (fun hc0 => ?_) (fun hc0 => ?_)
  ·
    try simp only [decide_eq_true_eq, decide_eq_false_iff_not, Bool.and_eq_true, Bool.or_eq_true, Bool.and_eq_false_iff, Bool.or_eq_false_iff, Bool.not_eq_true', Bool.not_eq_false', Bool.not_eq_true, Bool.not_eq_false, Int.not_lt, Int.not_le, Decidable.not_not, ne_eq] at hc0
    have hi : i < xs.length := by omega
    have hgi := vi_at hi
    have hqi := hq xs[i] (List.getElem_mem hi)
    refine Hd.skip ?_
    refine Hd.toK hK5 ?_
    refine Hd.seq (fun K6 hK6 => ?_)
    refine Hd.block ?_
    refine Hd.seq (fun K7 hK7 => ?_)
    refine Hd.region ?_
    refine Hd.yv (y_move rfl) ?_
    refine Hd.yv (y_assign rfl) ?_
    refine Hd.nil ?_
    refine Hd.slots [(0, _), (1, _), (5, _), (7, _), (8, _)] ⟨rfl, rfl, rfl, rfl, rfl, trivial⟩ ?_
    refine Hd.toK hK7 ?_
    refine Hd.seq (fun K8 hK8 => ?_)
    refine Hd.region ?_
    refine Hd.yv (y_move rfl) ?_
    refine Hd.yv (y_move rfl) ?_
    refine Hd.yv (y_move rfl) ?_
    first | (refine Hd.yv (y_idxS Try.underlying22 sz3 rfl rfl (by first | omega | decide)) ?_) | (refine Hd.yv (y_idxR Try.underlying22 sz3 rfl rfl (by first | omega | decide) (by (first | exact RdS.own pkk))) ?_)
    refine Hd.yv (y_loadR1 ag3 rfl (RdS.own (ad := ad) (us := vi xs) pkk) hgi) ?_
    refine Hd.callvE (vs := [_]) (cap := [_]) rfl rfl (by kernel_rfl) (all1_ct _ px pb wb mb limit f m w xs[i]) (Ent.sep enn) ?_
    intro _
    rw [show (!(findE f w xs[i]).isSome) = false by rw [show (findE f w xs[i]).isSome = true from hqi]; rfl]
    refine Hd.nil ?_
    refine Hd.slots [(0, _), (1, _), (5, _), (7, _), (8, _), (16, _)] ⟨rfl, rfl, rfl, rfl, rfl, rfl, trivial⟩ ?_
    refine Hd.toK hK8 ?_
    refine Hd.condF rfl ?_
    refine Hd.skip ?_
    refine Hd.inB ?_
    refine Hd.toK hK6 ?_
    refine Hd.region ?_
    first | (refine Hd.yv (y_addn rfl rfl (by simp only [InK]; omega)) ?_) | (refine Hd.yv (y_add rfl rfl) ?_)
    refine Hd.yv (y_move rfl) ?_
    refine Hd.nil ?_
    refine Hd.slots [(0, _), (1, _), (7, _), (8, _)] ⟨rfl, rfl, rfl, rfl, trivial⟩ ?_
    clear hK1 hK2 hK3 hK4 hK5 hK6 hK7 hK8
    refine Hd.thenN ?_
    exact Hd.again (i + 1) (by first | omega | (simp only; omega) | (simp; omega)) (by repeat (first | exact trivial | refine ⟨rfl, ?_⟩)) (Ent.sep (.pure (by first | omega | (simp; done) | (simp; omega) | (dsimp only; omega)) enn))
  ·
    try simp only [decide_eq_true_eq, decide_eq_false_iff_not, Bool.and_eq_true, Bool.or_eq_true, Bool.and_eq_false_iff, Bool.or_eq_false_iff, Bool.not_eq_true', Bool.not_eq_false', Bool.not_eq_true, Bool.not_eq_false, Int.not_lt, Int.not_le, Decidable.not_not, ne_eq] at hc0
    refine Hd.exit ?_
    refine Hd.thenExit ?_
    refine Hd.thenExit ?_
    refine Hd.inBexit ?_
    refine Hd.toK hK2 ?_
    refine Hd.seq (fun K9 hK9 => ?_)
    refine Hd.region ?_
    refine Hd.yv (y_assign rfl) ?_
    refine Hd.nil ?_
    refine Hd.slots [(4, _)] ⟨rfl, trivial⟩ ?_
    refine Hd.toK hK9 ?_
    refine Hd.ret ?_
    clear hK1 hK2 hK3 hK4 hK5 hK9
    exact Hd.ret1 rfl () (by first | rfl | (simp only [*]; done) | (simp [*]; done)) (Ent.sep enn)
set_option maxHeartbeats 2000000 in
theorem idxf_ct (L : List SP) (px pb wb mb : Nat) (limit : Int) (f : Int → Option IxA) (m : Nat) (w : WA) (ad : Option Addr) (cap : Nat) (xs : List Int) (hb : xs.length ≤ 1000000) (n : Nat) (hn : n < xs.length) (hq : ∀ j (h : j < xs.length), j < n → qE f w xs[j] = true) (hx : qE f w xs[n] = false) : Ct Try.prog 97 #[.slice ad xs.length cap, allK px] (own 3 1 ad xs.length cap (vi xs) :: EpM px pb wb mb limit f m w L) (fun _ : Unit => .int .i64 (n : Int)) (fun _ : Unit => own 3 1 ad xs.length cap (vi xs) :: EpM px pb wb mb limit f m w L) := by
  refine Ct.of (vs := [.slice ad xs.length cap, allK px]) Try.func97 rfl rfl [(0, .slice ad xs.length cap), (1, allK px)] (by repeat (first | exact trivial | refine ⟨rfl, ?_⟩)) ?_
  intro E
  show Hd E 19 _ _ _ _
  refine Hd.seq (fun K1 hK1 => ?_)
  refine Hd.region ?_
  refine Hd.yv (y_assign rfl) ?_
  refine Hd.nil ?_
  refine Hd.slots [(0, _), (1, _)] ⟨rfl, rfl, trivial⟩ ?_
  refine Hd.toK hK1 ?_
  refine Hd.seq (fun K2 hK2 => ?_)
  refine Hd.seq (fun K3 hK3 => ?_)
  refine Hd.region ?_
  refine Hd.yv (y_move rfl) ?_
  refine Hd.yv (y_len Try.underlying22 rfl) ?_
  refine Hd.yv (y_move rfl) ?_
  refine Hd.nil ?_
  refine Hd.slots [(0, _), (1, _), (7, _), (8, _)] ⟨rfl, rfl, rfl, rfl, trivial⟩ ?_
  refine Hd.toK hK3 ?_
  refine Hd.block ?_
  refine Hd.loopK (ι := Nat) [(0, _), (1, _), (7, _)] (fun i => [(8, .int .i64 (i : Int))]) (fun i => pu (i ≤ n) :: own 3 1 ad xs.length cap (vi xs) :: EpM px pb wb mb limit f m w L) (fun i => xs.length - i) 0 (by repeat (first | exact trivial | refine ⟨rfl, ?_⟩)) (by repeat (first | exact trivial | refine ⟨rfl, ?_⟩)) (Ent.sep (.pure (by first | omega | (simp; done) | (simp; omega) | exact ⟨by simp, by simp⟩) enn)) ?_
  intro i
  try dsimp only
  refine Hd.pure (fun hp0 => ?_)
  try dsimp only at hp0
  refine Hd.seq (fun K4 hK4 => ?_)
  refine Hd.region ?_
  refine Hd.yv (y_lss rfl rfl) ?_
  refine Hd.nil ?_
  refine Hd.slots [(0, _), (1, _), (7, _), (8, _), (9, _)] ⟨rfl, rfl, rfl, rfl, rfl, trivial⟩ ?_
  refine Hd.toK hK4 ?_
  refine Hd.seq (fun K5 hK5 => ?_)
  refine Hd.cond rfl (fun hc0 => ?_) (fun hc0 => ?_)
  ·
    try simp only [decide_eq_true_eq, decide_eq_false_iff_not, Bool.and_eq_true, Bool.or_eq_true, Bool.and_eq_false_iff, Bool.or_eq_false_iff, Bool.not_eq_true', Bool.not_eq_false', Bool.not_eq_true, Bool.not_eq_false, Int.not_lt, Int.not_le, Decidable.not_not, ne_eq] at hc0
    have hi : i < xs.length := by omega
    have hgi := vi_at hi
    refine Hd.skip ?_
    refine Hd.toK hK5 ?_
    refine Hd.seq (fun K6 hK6 => ?_)
    refine Hd.block ?_
    refine Hd.seq (fun K7 hK7 => ?_)
    refine Hd.region ?_
    refine Hd.yv (y_move rfl) ?_
    refine Hd.yv (y_assign rfl) ?_
    refine Hd.nil ?_
    refine Hd.slots [(0, _), (1, _), (5, _), (7, _), (8, _)] ⟨rfl, rfl, rfl, rfl, rfl, trivial⟩ ?_
    refine Hd.toK hK7 ?_
    refine Hd.seq (fun K8 hK8 => ?_)
    refine Hd.region ?_
    refine Hd.yv (y_move rfl) ?_
    refine Hd.yv (y_move rfl) ?_
    refine Hd.yv (y_move rfl) ?_
    first | (refine Hd.yv (y_idxS Try.underlying22 sz3 rfl rfl (by first | omega | decide)) ?_) | (refine Hd.yv (y_idxR Try.underlying22 sz3 rfl rfl (by first | omega | decide) (by (first | exact RdS.own pkk))) ?_)
    refine Hd.yv (y_loadR1 ag3 rfl (RdS.own (ad := ad) (us := vi xs) pkk) hgi) ?_
    refine Hd.callvE (vs := [_]) (cap := [_]) rfl rfl (by kernel_rfl) (all1_ct _ px pb wb mb limit f m w xs[i]) (Ent.sep enn) ?_
    intro _
    refine Hd.nil ?_
    refine Hd.slots [(0, _), (1, _), (5, _), (7, _), (8, _), (16, _)] ⟨rfl, rfl, rfl, rfl, rfl, rfl, trivial⟩ ?_
    refine Hd.toK hK8 ?_
    refine Hd.cond rfl (fun hc1 => ?_) (fun hc1 => ?_)
    ·
      try simp only [decide_eq_true_eq, decide_eq_false_iff_not, Bool.and_eq_true, Bool.or_eq_true, Bool.and_eq_false_iff, Bool.or_eq_false_iff, Bool.not_eq_true', Bool.not_eq_false', Bool.not_eq_true, Bool.not_eq_false, Int.not_lt, Int.not_le, Decidable.not_not, ne_eq] at hc1
      refine Hd.seq (fun K9 hK9 => ?_)
      refine Hd.region ?_
      refine Hd.yv (y_move rfl) ?_
      refine Hd.yv (y_assign rfl) ?_
      refine Hd.nil ?_
      refine Hd.slots [(4, _)] ⟨rfl, trivial⟩ ?_
      refine Hd.toK hK9 ?_
      refine Hd.ret ?_
      refine Hd.inBret ?_
      refine Hd.thenRet ?_
      refine Hd.thenRet ?_
      refine Hd.inBret ?_
      refine Hd.thenRet ?_
      clear hK1 hK2 hK3 hK4 hK5 hK6 hK7 hK8 hK9
      have hin : i = n := by
        refine Decidable.byContradiction fun hne => ?_
        have := hq i hi (by omega)
        rw [show (findE f w xs[i]).isSome = true from this] at hc1
        simp at hc1
      exact Hd.ret1 rfl () (by rw [← hin]; rfl) (Ent.sep enn)
    ·
      try simp only [decide_eq_true_eq, decide_eq_false_iff_not, Bool.and_eq_true, Bool.or_eq_true, Bool.and_eq_false_iff, Bool.or_eq_false_iff, Bool.not_eq_true', Bool.not_eq_false', Bool.not_eq_true, Bool.not_eq_false, Int.not_lt, Int.not_le, Decidable.not_not, ne_eq] at hc1
      refine Hd.skip ?_
      refine Hd.inB ?_
      refine Hd.toK hK6 ?_
      refine Hd.region ?_
      first | (refine Hd.yv (y_addn rfl rfl (by simp only [InK]; omega)) ?_) | (refine Hd.yv (y_add rfl rfl) ?_)
      refine Hd.yv (y_move rfl) ?_
      refine Hd.nil ?_
      refine Hd.slots [(0, _), (1, _), (7, _), (8, _)] ⟨rfl, rfl, rfl, rfl, trivial⟩ ?_
      clear hK1 hK2 hK3 hK4 hK5 hK6 hK7 hK8
      refine Hd.thenN ?_
      have hin : i ≠ n := by
        rintro rfl
        rw [show (findE f w xs[i]).isSome = false from hx] at hc1
        simp at hc1
      exact Hd.again (i + 1) (by first | omega | (simp only; omega) | (simp; omega)) (by repeat (first | exact trivial | refine ⟨rfl, ?_⟩)) (Ent.sep (.pure (by first | omega | (simp; done) | (simp; omega) | (dsimp only; omega)) enn))
  ·
    try simp only [decide_eq_true_eq, decide_eq_false_iff_not, Bool.and_eq_true, Bool.or_eq_true, Bool.and_eq_false_iff, Bool.or_eq_false_iff, Bool.not_eq_true', Bool.not_eq_false', Bool.not_eq_true, Bool.not_eq_false, Int.not_lt, Int.not_le, Decidable.not_not, ne_eq] at hc0
    omega
end Ep
end Go.Proofs.Ytbfddabjbkohdaa
namespace Go.Proofs.Ytbfddabjbkohdaa
set_option linter.unusedSimpArgs false
set_option linter.unusedVariables false
set_option linter.unnecessarySimpa false
open Go.RX Fx
namespace Ep
open Wo
set_option maxRecDepth 8000
structure DlI (q : Int → Bool) (xs cs : List Int) (i j : Nat) : Prop where
  len : cs.length = xs.length
  lt : i < j
  le : j ≤ xs.length
  tk : cs.take i = (xs.take j).filter q
  dr : cs.drop j = xs.drop j
theorem DlI.init {q : Int → Bool} {xs : List Int} {n : Nat} (hn : n < xs.length) (hq : ∀ j (h : j < xs.length), j < n → q xs[j] = true) (hx : q xs[n] = false) : DlI q xs xs n (n + 1) := by
  refine ⟨rfl, Nat.lt_succ_self n, hn, ?_, rfl⟩
  rw [List.take_add_one, List.getElem?_eq_getElem hn, List.filter_append]
  show _ = _ ++ [xs[n]].filter q
  rw [List.filter_cons_of_neg (by rw [hx]; simp), List.filter_nil, List.append_nil]
  refine (List.filter_eq_self.2 fun a ha => ?_).symm
  obtain ⟨j, hj, rfl⟩ := List.getElem_of_mem ha
  rw [List.length_take] at hj
  rw [List.getElem_take]
  exact hq j (by omega) (by omega)
theorem DlI.at_ {q : Int → Bool} {xs cs : List Int} {i j : Nat} (h : DlI q xs cs i j) (hj : j < xs.length) : cs[j]? = some xs[j] := by
  have h1 := congrArg (fun l : List Int => l[0]?) h.dr
  simpa [List.getElem?_drop, hj] using h1
theorem DlI.keep {q : Int → Bool} {xs cs : List Int} {i j : Nat} (h : DlI q xs cs i j) (hj : j < xs.length) (hq : q xs[j] = true) : DlI q xs (cs.set i xs[j]) (i + 1) (j + 1) := by
  have hl := h.len
  have hlt := h.lt
  refine ⟨by rw [List.length_set]; exact hl, by omega, hj, ?_, ?_⟩
  · rw [List.take_add_one, List.getElem?_set_self (by omega), List.take_set_of_le (Nat.le_refl i), h.tk, List.take_add_one, List.getElem?_eq_getElem hj, List.filter_append]
    show _ = _ ++ [xs[j]].filter q
    rw [List.filter_cons_of_pos hq]; rfl
  · rw [List.drop_set_of_lt (by omega)]
    have := congrArg (fun l : List Int => l.drop 1) h.dr
    simpa [List.drop_drop, Nat.add_comm] using this
theorem DlI.drop {q : Int → Bool} {xs cs : List Int} {i j : Nat} (h : DlI q xs cs i j) (hj : j < xs.length) (hq : q xs[j] = false) : DlI q xs cs i (j + 1) := by
  refine ⟨h.len, by have := h.lt; omega, hj, ?_, ?_⟩
  · rw [h.tk, List.take_add_one, List.getElem?_eq_getElem hj, List.filter_append]
    show _ = _ ++ [xs[j]].filter q
    rw [List.filter_cons_of_neg (by rw [hq]; simp), List.filter_nil, List.append_nil]
  · have := congrArg (fun l : List Int => l.drop 1) h.dr
    simpa [List.drop_drop, Nat.add_comm] using this
theorem DlI.done {q : Int → Bool} {xs cs : List Int} {i j : Nat} (h : DlI q xs cs i j) (hj : j = xs.length) : cs.take i = xs.filter q := by rw [h.tk, hj, List.take_length]
set_option maxHeartbeats 2000000 in
theorem deln_ct (L : List SP) (px pb wb mb : Nat) (limit : Int) (f : Int → Option IxA) (m : Nat) (w : WA) (ad : Option Addr) (cap : Nat) (xs : List Int) (hb : xs.length ≤ 1000000) (hq : ∀ y ∈ xs, qE f w y = true) : Ct Try.prog 71 #[.slice ad xs.length cap, allK px] (own 3 1 ad xs.length cap (vi xs) :: EpM px pb wb mb limit f m w L) (fun _ : Unit => .slice ad xs.length cap) (fun _ : Unit => own 3 1 ad xs.length cap (vi xs) :: EpM px pb wb mb limit f m w L) := by
  refine Ct.of (vs := [.slice ad xs.length cap, allK px]) Try.func71 rfl rfl [(0, .slice ad xs.length cap), (1, allK px)] (by repeat (first | exact trivial | refine ⟨rfl, ?_⟩)) ?_
  intro E
  show Hd E 42 _ _ _ _
  refine Hd.seq (fun K1 hK1 => ?_)
  refine Hd.region ?_
  refine Hd.yv (y_assign rfl) ?_
  refine Hd.nil ?_
  refine Hd.slots [(0, _), (1, _)] ⟨rfl, rfl, trivial⟩ ?_
  refine Hd.toK hK1 ?_
  refine Hd.seq (fun K2 hK2 => ?_)
  refine Hd.region ?_
  refine Hd.yv (y_move rfl) ?_
  refine Hd.yv (y_move rfl) ?_
  refine Hd.callE rfl fk97 (idxn_ct _ px pb wb mb limit f m w ad cap xs hb hq) (Ent.sep enn) ?_
  intro _
  refine Hd.yv (y_assign rfl) ?_
  refine Hd.nil ?_
  refine Hd.slots [(0, _), (1, _), (5, _)] ⟨rfl, rfl, rfl, trivial⟩ ?_
  refine Hd.toK hK2 ?_
  refine Hd.seq (fun K3 hK3 => ?_)
  refine Hd.seq (fun K4 hK4 => ?_)
  refine Hd.region ?_
  refine Hd.yv (y_move rfl) ?_
  first | (refine Hd.yv (y_eqlT rfl rfl) ?_) | (refine Hd.yv (y_eql rfl rfl) ?_)
  refine Hd.nil ?_
  refine Hd.slots [(0, _), (1, _), (5, _), (12, _)] ⟨rfl, rfl, rfl, rfl, trivial⟩ ?_
  refine Hd.toK hK4 ?_
  refine Hd.condT rfl ?_
  refine Hd.seq (fun K5 hK5 => ?_)
  refine Hd.region ?_
  refine Hd.yv (y_move rfl) ?_
  refine Hd.yv (y_assign rfl) ?_
  refine Hd.nil ?_
  refine Hd.slots [(4, _)] ⟨rfl, trivial⟩ ?_
  refine Hd.toK hK5 ?_
  refine Hd.ret ?_
  refine Hd.thenRet ?_
  clear hK1 hK2 hK3 hK4 hK5
  exact Hd.ret1 rfl () (by first | rfl | (simp only [*]; done) | (simp [*]; done)) (Ent.sep enn)
set_option maxHeartbeats 2000000 in
theorem delf_ct (L : List SP) (px pb wb mb : Nat) (limit : Int) (f : Int → Option IxA) (m : Nat) (w : WA) (ad : Option Addr) (cap : Nat) (xs : List Int) (hb : xs.length ≤ 1000000) (n : Nat) (hn : n < xs.length) (hq : ∀ j (h : j < xs.length), j < n → qE f w xs[j] = true) (hx : qE f w xs[n] = false) : Ct Try.prog 71 #[.slice ad xs.length cap, allK px] (own 3 1 ad xs.length cap (vi xs) :: EpM px pb wb mb limit f m w L) (fun _ : Unit => .slice ad (xs.filter (qE f w)).length cap) (fun _ : Unit => own 3 1 ad (xs.filter (qE f w)).length cap (vi (xs.filter (qE f w))) :: EpM px pb wb mb limit f m w L) := by
  refine Ct.of (vs := [.slice ad xs.length cap, allK px]) Try.func71 rfl rfl [(0, .slice ad xs.length cap), (1, allK px)] (by repeat (first | exact trivial | refine ⟨rfl, ?_⟩)) ?_
  intro E
  show Hd E 42 _ _ _ _
  refine Hd.ownCap (e := 3) (ad := ad) (m := xs.length) (cap := cap) pkk (fun hcap => ?_)
  refine Hd.seq (fun K1 hK1 => ?_)
  refine Hd.region ?_
  refine Hd.yv (y_assign rfl) ?_
  refine Hd.nil ?_
  refine Hd.slots [(0, _), (1, _)] ⟨rfl, rfl, trivial⟩ ?_
  refine Hd.toK hK1 ?_
  refine Hd.seq (fun K2 hK2 => ?_)
  refine Hd.region ?_
  refine Hd.yv (y_move rfl) ?_
  refine Hd.yv (y_move rfl) ?_
  refine Hd.callE rfl fk97 (idxf_ct _ px pb wb mb limit f m w ad cap xs hb n hn hq hx) (Ent.sep enn) ?_
  intro _
  refine Hd.yv (y_assign rfl) ?_
  refine Hd.nil ?_
  refine Hd.slots [(0, _), (1, _), (5, _)] ⟨rfl, rfl, rfl, trivial⟩ ?_
  refine Hd.toK hK2 ?_
  refine Hd.seq (fun K3 hK3 => ?_)
  refine Hd.seq (fun K4 hK4 => ?_)
  refine Hd.region ?_
  refine Hd.yv (y_move rfl) ?_
  first | (refine Hd.yv (y_eqlT rfl rfl) ?_) | (refine Hd.yv (y_eql rfl rfl) ?_)
  refine Hd.nil ?_
  refine Hd.slots [(0, _), (1, _), (5, _), (12, _)] ⟨rfl, rfl, rfl, rfl, trivial⟩ ?_
  refine Hd.toK hK4 ?_
  refine Hd.cond rfl (fun hc0 => ?_) (fun hc0 => ?_)
  ·
    try simp only [decide_eq_true_eq, decide_eq_false_iff_not, Bool.and_eq_true, Bool.or_eq_true, Bool.and_eq_false_iff, Bool.or_eq_false_iff, Bool.not_eq_true', Bool.not_eq_false', Bool.not_eq_true, Bool.not_eq_false, Int.not_lt, Int.not_le, Decidable.not_not, ne_eq] at hc0
    omega
  ·
    try simp only [decide_eq_true_eq, decide_eq_false_iff_not, Bool.and_eq_true, Bool.or_eq_true, Bool.and_eq_false_iff, Bool.or_eq_false_iff, Bool.not_eq_true', Bool.not_eq_false', Bool.not_eq_true, Bool.not_eq_false, Int.not_lt, Int.not_le, Decidable.not_not, ne_eq] at hc0
    refine Hd.skip ?_
    refine Hd.toK hK3 ?_
    refine Hd.seq (fun K5 hK5 => ?_)
    refine Hd.seq (fun K6 hK6 => ?_)
    refine Hd.region ?_
    refine Hd.yv (y_move rfl) ?_
    first | (refine Hd.yv (y_addn rfl rfl (by simp only [InK]; omega)) ?_) | (refine Hd.yv (y_add rfl rfl) ?_)
    refine Hd.yv (y_assign rfl) ?_
    refine Hd.nil ?_
    refine Hd.slots [(0, _), (1, _), (5, _), (6, _)] ⟨rfl, rfl, rfl, rfl, trivial⟩ ?_
    refine Hd.toK hK6 ?_
    refine Hd.block ?_
    refine Hd.loopK (ι := Nat × Nat × List Int) [(0, _), (1, _)] (fun q_ => [(5, .int .i64 (q_.1 : Int)), (6, .int .i64 (q_.2.1 : Int))]) (fun q_ => pu (DlI (qE f w) xs q_.2.2 q_.1 q_.2.1) :: own 3 1 ad xs.length cap (vi q_.2.2) :: EpM px pb wb mb limit f m w L) (fun q_ => xs.length - q_.2.1) (n, n + 1, xs) (by repeat (first | exact trivial | refine ⟨rfl, ?_⟩)) (by repeat (first | exact trivial | refine ⟨rfl, ?_⟩)) (Ent.sep (.pure (DlI.init hn hq hx) enn)) ?_
    rintro ⟨i, j, cs⟩
    try dsimp only
    refine Hd.pure (fun hp0 => ?_)
    try dsimp only at hp0
    refine Hd.seq (fun K7 hK7 => ?_)
    refine Hd.seq (fun K8 hK8 => ?_)
    refine Hd.region ?_
    refine Hd.yv (y_move rfl) ?_
    refine Hd.yv (y_move rfl) ?_
    refine Hd.yv (y_len Try.underlying22 rfl) ?_
    refine Hd.yv (y_lss rfl rfl) ?_
    refine Hd.nil ?_
    refine Hd.slots [(0, _), (1, _), (5, _), (6, _), (19, _)] ⟨rfl, rfl, rfl, rfl, rfl, trivial⟩ ?_
    refine Hd.toK hK8 ?_
    refine Hd.cond rfl (fun hc1 => ?_) (fun hc1 => ?_)
    ·
      try simp only [decide_eq_true_eq, decide_eq_false_iff_not, Bool.and_eq_true, Bool.or_eq_true, Bool.and_eq_false_iff, Bool.or_eq_false_iff, Bool.not_eq_true', Bool.not_eq_false', Bool.not_eq_true, Bool.not_eq_false, Int.not_lt, Int.not_le, Decidable.not_not, ne_eq] at hc1
      have hj : j < xs.length := by omega
      have hil : i < j := hp0.lt
      have hvl : (vi cs).length = xs.length := by rw [List.length_map]; exact hp0.len
      have hgj : (vi cs)[j * 1]? = some (.int .i64 xs[j]) := by rw [Nat.mul_one, List.getElem?_map, hp0.at_ hj]; rfl
      refine Hd.skip ?_
      refine Hd.toK hK7 ?_
      refine Hd.seq (fun K9 hK9 => ?_)
      refine Hd.block ?_
      refine Hd.seq (fun K10 hK10 => ?_)
      refine Hd.region ?_
      refine Hd.yv (y_move rfl) ?_
      refine Hd.yv (y_move rfl) ?_
      first | (refine Hd.yv (y_idxS Try.underlying22 sz3 rfl rfl (by first | omega | decide)) ?_) | (refine Hd.yv (y_idxR Try.underlying22 sz3 rfl rfl (by first | omega | decide) (by (first | exact RdS.own pkk))) ?_)
      refine Hd.yv (y_loadR1 ag3 rfl (RdS.own (ad := ad) (us := vi cs) pkk) hgj) ?_
      refine Hd.yv (y_assign rfl) ?_
      refine Hd.nil ?_
      refine Hd.slots [(0, _), (1, _), (5, _), (6, _), (7, _)] ⟨rfl, rfl, rfl, rfl, rfl, trivial⟩ ?_
      refine Hd.toK hK10 ?_
      refine Hd.seq (fun K11 hK11 => ?_)
      refine Hd.region ?_
      refine Hd.yv (y_move rfl) ?_
      refine Hd.yv (y_move rfl) ?_
      refine Hd.callvE (vs := [_]) (cap := [_]) rfl rfl (by kernel_rfl) (all1_ct _ px pb wb mb limit f m w xs[j]) (Ent.sep enn) ?_
      intro _
      refine Hd.yv (y_not rfl) ?_
      refine Hd.nil ?_
      refine Hd.slots [(0, _), (1, _), (5, _), (6, _), (7, _), (29, _)] ⟨rfl, rfl, rfl, rfl, rfl, rfl, trivial⟩ ?_
      refine Hd.toK hK11 ?_
      refine Hd.cond rfl (fun hc2 => ?_) (fun hc2 => ?_)
      ·
        try simp only [decide_eq_true_eq, decide_eq_false_iff_not, Bool.and_eq_true, Bool.or_eq_true, Bool.and_eq_false_iff, Bool.or_eq_false_iff, Bool.not_eq_true', Bool.not_eq_false', Bool.not_eq_true, Bool.not_eq_false, Int.not_lt, Int.not_le, Decidable.not_not, ne_eq] at hc2
        refine Hd.seq (fun K12 hK12 => ?_)
        refine Hd.region ?_
        refine Hd.yv (y_move rfl) ?_
        refine Hd.yv (y_move rfl) ?_
        refine Hd.yv (y_move rfl) ?_
        first | (refine Hd.yv (y_idxS Try.underlying22 sz3 rfl rfl (by first | omega | decide)) ?_) | (refine Hd.yv (y_idxR Try.underlying22 sz3 rfl rfl (by first | omega | decide) (by (first | exact RdS.own pkk))) ?_)
        first | (refine Hd.store1 sz3 rfl rfl rfl pkk (by first | (rw [hvl]; omega) | decide | (simp; done) | (simp; omega)) ?_) | (refine Hd.storeG1 sz3 rfl rfl rfl pkk (by first | (rw [hvl]; omega) | decide | (simp; done) | (simp; omega)) ?_) | (refine Hd.storeO1 sz3 rfl rfl rfl pkk (by first | (rw [hvl]; omega) | omega | (simp; done) | (simp; omega)) ?_)
        try simp only [List.set_cons_zero, List.set_cons_succ]
        refine Hd.nil ?_
        refine Hd.slots [(0, _), (1, _), (5, _), (6, _)] ⟨rfl, rfl, rfl, rfl, trivial⟩ ?_
        refine Hd.toK hK12 ?_
        refine Hd.region ?_
        refine Hd.yv (y_move rfl) ?_
        first | (refine Hd.yv (y_addn rfl rfl (by simp only [InK]; omega)) ?_) | (refine Hd.yv (y_add rfl rfl) ?_)
        refine Hd.yv (y_assign rfl) ?_
        refine Hd.nil ?_
        refine Hd.slots [(0, _), (1, _), (5, _), (6, _)] ⟨rfl, rfl, rfl, rfl, trivial⟩ ?_
        refine Hd.inB ?_
        refine Hd.toK hK9 ?_
        refine Hd.region ?_
        refine Hd.yv (y_move rfl) ?_
        first | (refine Hd.yv (y_addn rfl rfl (by simp only [InK]; omega)) ?_) | (refine Hd.yv (y_add rfl rfl) ?_)
        refine Hd.yv (y_assign rfl) ?_
        refine Hd.nil ?_
        refine Hd.slots [(0, _), (1, _), (5, _), (6, _)] ⟨rfl, rfl, rfl, rfl, trivial⟩ ?_
        clear hK1 hK2 hK3 hK4 hK5 hK6 hK7 hK8 hK9 hK10 hK11 hK12
        refine Hd.thenN ?_
        have hqj : qE f w xs[j] = true := by
          show (findE f w xs[j]).isSome = true
          simpa using hc2
        have hk := hp0.keep hj hqj
        refine Hd.again (i + 1, j + 1, cs.set i xs[j]) (by show xs.length - (j + 1) < xs.length - j; omega) (by repeat (first | exact trivial | refine ⟨rfl, ?_⟩)) (fun q t => ?_)
        exact Ent.sep (.pure hk (.eq pkk (own_eq3 rfl rfl (by simp [vi, List.map_set])) enn)) q t
      ·
        try simp only [decide_eq_true_eq, decide_eq_false_iff_not, Bool.and_eq_true, Bool.or_eq_true, Bool.and_eq_false_iff, Bool.or_eq_false_iff, Bool.not_eq_true', Bool.not_eq_false', Bool.not_eq_true, Bool.not_eq_false, Int.not_lt, Int.not_le, Decidable.not_not, ne_eq] at hc2
        refine Hd.skip ?_
        refine Hd.inB ?_
        refine Hd.toK hK9 ?_
        refine Hd.region ?_
        refine Hd.yv (y_move rfl) ?_
        first | (refine Hd.yv (y_addn rfl rfl (by simp only [InK]; omega)) ?_) | (refine Hd.yv (y_add rfl rfl) ?_)
        refine Hd.yv (y_assign rfl) ?_
        refine Hd.nil ?_
        refine Hd.slots [(0, _), (1, _), (5, _), (6, _)] ⟨rfl, rfl, rfl, rfl, trivial⟩ ?_
        clear hK1 hK2 hK3 hK4 hK5 hK6 hK7 hK8 hK9 hK10 hK11
        refine Hd.thenN ?_
        have hqj : qE f w xs[j] = false := by
          show (findE f w xs[j]).isSome = false
          simpa using hc2
        have hk := hp0.drop hj hqj
        refine Hd.again (i, j + 1, cs) (by show xs.length - (j + 1) < xs.length - j; omega) (by repeat (first | exact trivial | refine ⟨rfl, ?_⟩)) (fun q t => ?_)
        exact Ent.sep (.pure hk enn) q t
    ·
      try simp only [decide_eq_true_eq, decide_eq_false_iff_not, Bool.and_eq_true, Bool.or_eq_true, Bool.and_eq_false_iff, Bool.or_eq_false_iff, Bool.not_eq_true', Bool.not_eq_false', Bool.not_eq_true, Bool.not_eq_false, Int.not_lt, Int.not_le, Decidable.not_not, ne_eq] at hc1
      have hjl : j = xs.length := by have := hp0.le; omega
      have hd := hp0.done hjl
      have hil : i < j := hp0.lt
      have hvl : (vi cs).length = xs.length := by rw [List.length_map]; exact hp0.len
      have hcl : cs.length = xs.length := hp0.len
      have hfl : (xs.filter (qE f w)).length = i := by rw [← hd, List.length_take]; omega
      refine Hd.exit ?_
      refine Hd.thenExit ?_
      refine Hd.thenExit ?_
      refine Hd.inBexit ?_
      refine Hd.toK hK5 ?_
      refine Hd.seq (fun K13 hK13 => ?_)
      refine Hd.region ?_
      refine Hd.yv (y_move rfl) ?_
      refine Hd.yv (y_move rfl) ?_
      first | (refine Hd.yv (y_slo_oxxN Try.underlying22 sz3 rfl rfl (by first | omega | (simp; done) | decide)) ?_) | (refine Hd.yv (y_slo_oxx Try.underlying22 sz3 rfl rfl (by first | omega | (simp; done) | decide) (by first | omega | (simp; done) | decide)) ?_)
      refine Hd.clearTail (sz := 1) Try.underlying22 zr3 rfl rfl rfl pkk (by omega) ?_
      refine Hd.nil ?_
      refine Hd.slots [(0, _), (5, _)] ⟨rfl, rfl, trivial⟩ ?_
      refine Hd.toK hK13 ?_
      refine Hd.seq (fun K14 hK14 => ?_)
      refine Hd.region ?_
      refine Hd.yv (y_move rfl) ?_
      refine Hd.yv (y_move rfl) ?_
      first | (refine Hd.yv (y_slo_xoxN Try.underlying22 sz3 rfl rfl (by first | omega | (simp; done) | decide)) ?_) | (refine Hd.yv (y_slo_xox Try.underlying22 sz3 rfl rfl (by first | omega | (simp; done) | decide) (by first | omega | (simp; done) | decide)) ?_)
      refine Hd.yv (y_assign rfl) ?_
      refine Hd.nil ?_
      refine Hd.slots [(4, _)] ⟨rfl, trivial⟩ ?_
      refine Hd.toK hK14 ?_
      refine Hd.ret ?_
      clear hK1 hK2 hK3 hK4 hK5 hK6 hK7 hK8 hK13 hK14
      rw [hfl]
      exact Hd.ret1 rfl () rfl (Ent.sep (.eq pkk (own_eq3 rfl rfl (by rw [← hd, Nat.mul_one]; exact (List.map_take ..).symm)) enn))
end Ep
end Go.Proofs.Ytbfddabjbkohdaa
namespace Go.Proofs.Ytbfddabjbkohdaa
set_option linter.unusedSimpArgs false
set_option linter.unusedVariables false
set_option linter.unnecessarySimpa false
open Go.RX Fx
namespace Ep
open Wo
set_option maxRecDepth 8000
theorem dela_ct (L : List SP) (px pb wb mb : Nat) (limit : Int) (f : Int → Option IxA) (m : Nat) (w : WA) (ad : Option Addr) (cap : Nat) (xs : List Int) (hb : xs.length ≤ 1000000) :
    Ct Try.prog 71 #[.slice ad xs.length cap, allK px] (own 3 1 ad xs.length cap (vi xs) :: EpM px pb wb mb limit f m w L) (fun _ : Unit => .slice ad (xs.filter (qE f w)).length cap) (fun _ => own 3 1 ad (xs.filter (qE f w)).length cap (vi (xs.filter (qE f w))) :: EpM px pb wb mb limit f m w L) := by
  by_cases h : ∀ y ∈ xs, qE f w y = true
  · rw [List.filter_eq_self.2 h]
    exact deln_ct L px pb wb mb limit f m w ad cap xs hb h
  · have he : ∃ y ∈ xs, (!qE f w y) = true := by
      refine Decidable.byContradiction fun hn => h fun y hy => ?_
      cases hq : qE f w y with
      | true => rfl
      | false => exact absurd ⟨y, hy, by rw [hq]; rfl⟩ hn
    have hlt := List.findIdx_lt_length_of_exists he
    refine delf_ct L px pb wb mb limit f m w ad cap xs hb (xs.findIdx fun y => !qE f w y) hlt (fun j hj hjn => ?_) ?_
    · have := List.not_of_lt_findIdx hjn
      simpa using this
    · have := List.findIdx_getElem (w := hlt)
      simpa using this
structure AllE (f : Int → Option IxA) (m : Nat) (w : WA) (ks : List Int) : Prop where
  srt : ks.Pairwise (· < ·)
  mem : ∀ a, a ∈ ks ↔ (findE f w a).isSome = true
  len : ks.length ≤ m
theorem all_of {f : Int → Option IxA} {m : Nat} {w : WA} {ks : List Int} (h : KeysOf (fmap f) ks) (hl : ks.length ≤ m) (hs : ks.Pairwise (· ≤ ·)) : AllE f m w (ks.filter (qE f w)) where
  srt := by
    have h1 : ks.Pairwise (· < ·) := (hs.and h.nd).imp fun ⟨a, b⟩ => by omega
    exact h1.sublist List.filter_sublist
  mem a := by
    rw [List.mem_filter, h.mem, fmap_some]
    refine ⟨fun q => q.2, fun q => ⟨?_, q⟩⟩
    unfold findE at q
    cases hf : f a with
    | none => rw [hf] at q; simp at q
    | some x => rfl
  len := Nat.le_trans (List.length_filter_le _ _) hl
set_option maxHeartbeats 2000000 in
theorem all_ct (L : List SP) (pb wb mb : Nat) (limit : Int) (f : Int → Option IxA) (m : Nat) (hm : m ≤ 1000000) (w : WA) : Ct Try.prog 40 #[.pointer (some ⟨pb, 0, none⟩)] (EpH pb wb mb limit :: mp mb .i64 (fmap f) m :: WorldP wb w :: L) (fun q_ : Option Addr × Nat × List Int => .slice q_.1 q_.2.2.length q_.2.1) (fun q_ : Option Addr × Nat × List Int => pu (AllE f m w q_.2.2) :: own 3 1 q_.1 q_.2.2.length q_.2.1 (vi q_.2.2) :: EpH pb wb mb limit :: mp mb .i64 (fmap f) m :: WorldP wb w :: L) := by
  refine Ct.of (vs := [.pointer (some ⟨pb, 0, none⟩)]) Try.func40 rfl rfl [(0, .pointer (some ⟨pb, 0, none⟩))] (by repeat (first | exact trivial | refine ⟨rfl, ?_⟩)) ?_
  intro E
  show Hd E 11 _ _ _ _
  refine Hd.seq (fun K1 hK1 => ?_)
  refine Hd.region ?_
  refine Hd.box rfl rfl (fun b1 => ?_)
  refine Hd.yv (y_assign rfl) ?_
  refine Hd.nil ?_
  refine Hd.slots [(1, _)] ⟨rfl, trivial⟩ ?_
  refine Hd.toK hK1 ?_
  refine Hd.seq (fun K2 hK2 => ?_)
  refine Hd.region ?_
  first | (refine Hd.yv (y_load1 ag32 rfl (Rd.pt1 pkk (by (first | rfl)))) ?_) | (refine Hd.yv (y_load1 ag32 rfl (Rd.seg1 pkk (by (first | rfl)))) ?_) | (refine Hd.yv (y_loadR1 ag32 rfl (by (first | exact RdS.own pkk)) (by (first | rfl))) ?_)
  refine Hd.yv (y_nilp rfl) ?_
  first | (refine Hd.yv (y_field' (q := 2) (ft := 49) Try.underlying51 rfl sz49 rfl rfl) ?_) | (refine Hd.yv (y_fieldR (q := 2) (ft := 49) Try.underlying51 rfl sz49 rfl rfl) ?_)
  first | (refine Hd.yv (y_load1 ag49 rfl (Rd.pt1 pkk (by (first | rfl)))) ?_) | (refine Hd.yv (y_load1 ag49 rfl (Rd.seg1 pkk (by (first | rfl)))) ?_) | (refine Hd.yv (y_loadR1 ag49 rfl (by (first | exact RdS.own pkk)) (by (first | rfl))) ?_)
  refine Hd.callE rfl fk73 (keys_ct _ mb) (Ent.sep enn) ?_
  intro kb
  refine Hd.callE rfl fk72 (sortedk_ct _ kb mb (fmap f) m hm) (Ent.sep enn) ?_
  rintro ⟨ad, c, ks⟩
  dsimp only
  refine Hd.pure (fun hks => ?_)
  refine Hd.yv (y_mkf (fv := []) (cv := [_]) rfl rfl) ?_
  refine Hd.callE rfl fk71 (dela_ct _ b1 pb wb mb limit f m w ad c ks (by omega)) (Ent.sep enn) ?_
  intro _
  refine Hd.yv (y_assign rfl) ?_
  refine Hd.nil ?_
  refine Hd.slots [(2, _)] ⟨rfl, trivial⟩ ?_
  refine Hd.toK hK2 ?_
  refine Hd.ret ?_
  clear hK1 hK2
  exact Hd.ret1 rfl (ad, c, ks.filter (qE f w)) rfl (Ent.sep (.pure (all_of hks.1 hks.2.1 hks.2.2) enn))
end Ep
end Go.Proofs.Ytbfddabjbkohdaa
