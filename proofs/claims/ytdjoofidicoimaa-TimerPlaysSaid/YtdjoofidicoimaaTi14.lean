/-
  The document's timers: Due, Wait.
-/
import Derived.Test.YtdjoofidicoimaaTi13
namespace Go.Proofs.Ytdjoofidicoimaa
set_option linter.unusedSimpArgs false
set_option linter.unusedVariables false
set_option linter.unnecessarySimpa false
open Go.RX Fx Hp Cm
namespace Tm
set_option maxRecDepth 8000
theorem hpf_tail {pre rest : List It} (hF : HpF (pre ++ rest)) : HpF rest :=
  ⟨hF.srt.sublist (List.sublist_append_right _ _), hF.nd.sublist (List.Sublist.map _ (List.sublist_append_right _ _)), by have := hF.len; rw [List.length_append] at this; omega⟩
theorem cn_le (l : List On) : cn l ≤ l.length := List.length_filter_le _ _
set_option maxHeartbeats 2000000 in
theorem rtdue_ct (L : List SP) (b : Nat) (s : List It) (nx : Int) (af : AF) (lim : Int) (hF : HpF s) (hA : AtOk s) (hnin : ∀ x ∈ s, ∀ y ∈ s, x.n = y.n → x = y) (now : Int) : Ct Try.prog 29 #[.pointer (some ⟨b, 0, none⟩), .int .u64 now] (TrA b s nx af lim :: L) (fun q_ : Option Addr × Nat => .slice q_.1 (du now s).length q_.2) (fun q_ : Option Addr × Nat => ownN q_.1 (du now s).length q_.2 (du now s) :: TrA b (restI (min now 18446744073709551614) s) nx af lim :: L) := by
  refine Ct.of (vs := [.pointer (some ⟨b, 0, none⟩), .int .u64 now]) Try.func29 rfl rfl [(0, .pointer (some ⟨b, 0, none⟩)), (1, .int .u64 now)] (by repeat (first | exact trivial | refine ⟨rfl, ?_⟩)) ?_
  intro E
  show Hd E 44 _ _ _ _
  refine Hd.exs .here ?_
  rintro ⟨r, l⟩
  simp only [List.cons_append, List.nil_append]
  refine Hd.pure (fun hr => ?_)
  have hll := hr.len
  have hnx := hr.nx
  have hcl : s.length ≤ l.length := by have h1 : cn l = s.length := hr.rel.len; have h2 := cn_le l; omega
  refine Hd.seq (fun K1 hK1 => ?_)
  refine Hd.region ?_
  refine Hd.yv (y_assign rfl) ?_
  refine Hd.nil ?_
  refine Hd.slots [(0, _), (1, _)] ⟨rfl, rfl, trivial⟩ ?_
  refine Hd.toK hK1 ?_
  refine Hd.seq (fun K2 hK2 => ?_)
  refine Hd.region ?_
  refine Hd.yv (y_assign rfl) ?_
  refine Hd.nil ?_
  refine Hd.slots [(0, _), (1, _), (5, _)] ⟨rfl, rfl, rfl, trivial⟩ ?_
  refine Hd.toK hK2 ?_
  refine Hd.seq (fun K3 hK3 => ?_)
  refine Hd.seq (fun K4 hK4 => ?_)
  refine Hd.region ?_
  refine Hd.yv (y_assign rfl) ?_
  refine Hd.nil ?_
  refine Hd.slots [(0, _), (1, _), (5, _), (6, _)] ⟨rfl, rfl, rfl, rfl, trivial⟩ ?_
  refine Hd.toK hK4 ?_
  refine Hd.block ?_
  refine Hd.ownNil 3 1 none ?_
  refine Hd.loopK (ι := List It × List It × List On × Option Addr × Nat) [(0, _), (1, _)] (fun q_ => [(5, .slice q_.2.2.2.1 q_.1.length q_.2.2.2.2), (6, .int .i64 (q_.1.length : Int))]) (fun q_ => pu (s = q_.1 ++ q_.2.1 ∧ du now s = q_.1 ++ du now q_.2.1 ∧ TrOk q_.2.1 af nx q_.2.2.1 ∧ q_.2.2.1.length = l.length) :: ownN q_.2.2.2.1 q_.1.length q_.2.2.2.2 q_.1 :: TrL b q_.2.2.1 nx lim r L) (fun q_ => q_.2.1.length) ([], s, l, none, 0) (by repeat (first | exact trivial | refine ⟨rfl, ?_⟩)) (by repeat (first | exact trivial | refine ⟨rfl, ?_⟩)) (Ent.sep (.pure ⟨rfl, rfl, hr, rfl⟩ enn)) ?_
  rintro ⟨pre, rest, l', ad, cp⟩
  try dsimp only
  refine Hd.pure (fun hp0 => ?_)
  try dsimp only at hp0
  refine Hd.seq (fun K5 hK5 => ?_)
  refine Hd.seq (fun K6 hK6 => ?_)
  refine Hd.region ?_
  refine Hd.yv (y_move rfl) ?_
  refine Hd.yv (y_move rfl) ?_
  refine Hd.yv (y_nilp rfl) ?_
  first | (refine Hd.yv (y_field' (q := 0) (ft := 56) Try.underlying58 rfl sz56 rfl rfl) ?_) | (refine Hd.yv (y_fieldR (q := 0) (ft := 56) Try.underlying58 rfl sz56 rfl rfl) ?_)
  first | (refine Hd.yv (y_load1 ag56 rfl (Rd.pt1 pkk (by (first | rfl)))) ?_) | (refine Hd.yv (y_load1 ag56 rfl (Rd.seg1 pkk (by (first | rfl)))) ?_) | (refine Hd.yv (y_loadR1 ag56 rfl (by (first | exact RdS.own pkk)) (by (first | rfl))) ?_)
  refine Hd.yv (y_len Try.underlying56 rfl) ?_
  refine Hd.yv (y_leq rfl rfl) ?_
  refine Hd.nil ?_
  refine Hd.slots [(0, _), (1, _), (5, _), (6, _), (14, _)] ⟨rfl, rfl, rfl, rfl, rfl, trivial⟩ ?_
  refine Hd.toK hK6 ?_
  refine Hd.cond rfl (fun hc0 => ?_) (fun hc0 => ?_)
  ·
    try simp only [decide_eq_true_eq, decide_eq_false_iff_not, Bool.and_eq_true, Bool.or_eq_true, Bool.and_eq_false_iff, Bool.or_eq_false_iff, Bool.not_eq_true', Bool.not_eq_false', Bool.not_eq_true, Bool.not_eq_false, Int.not_lt, Int.not_le, Decidable.not_not, ne_eq] at hc0
    obtain ⟨hs, hdu, hok, hl'⟩ := hp0
    have hps : pre.length + rest.length = s.length := by have h1 := congrArg List.length hs; rw [List.length_append] at h1; omega
    refine Hd.skip ?_
    refine Hd.toK hK5 ?_
    refine Hd.seq (fun K7 hK7 => ?_)
    refine Hd.block ?_
    refine Hd.seq (fun K8 hK8 => ?_)
    refine Hd.region ?_
    refine Hd.yv (y_move rfl) ?_
    refine Hd.yv (y_move rfl) ?_
    refine Hd.callE rfl fk47 (rtfirst_ct _ b nx lim l' r (by omega) now) (Ent.sep enn) ?_
    intro a
    refine Hd.pure (fun hfs => ?_)
    have hFr : HpF rest := hpf_tail (pre := pre) (by rw [← hs]; exact hF)
    have hmem : ∀ y ∈ rest, y ∈ s := fun y hy => by rw [hs]; exact List.mem_append_right _ hy
    have hcase := first_due hok.rel (now := now) hFr (fun y hy => hA y (hmem y hy)) (fun x hx y hy e => hnin x (hmem x hx) y (hmem y hy) e) hfs
    refine Hd.yv (y_assign rfl) ?_
    refine Hd.nil ?_
    refine Hd.slots [(0, _), (1, _), (5, _), (6, _), (7, _)] ⟨rfl, rfl, rfl, rfl, rfl, trivial⟩ ?_
    refine Hd.toK hK8 ?_
    refine Hd.seq (fun K9 hK9 => ?_)
    refine Hd.seq (fun K10 hK10 => ?_)
    refine Hd.region ?_
    refine Hd.yv (y_move rfl) ?_
    refine Hd.yv (y_lss rfl rfl) ?_
    refine Hd.nil ?_
    refine Hd.slots [(0, _), (1, _), (5, _), (6, _), (7, _), (21, _)] ⟨rfl, rfl, rfl, rfl, rfl, rfl, trivial⟩ ?_
    refine Hd.toK hK10 ?_
    refine Hd.cond rfl (fun hc1 => ?_) (fun hc1 => ?_)
    ·
      try simp only [decide_eq_true_eq, decide_eq_false_iff_not, Bool.and_eq_true, Bool.or_eq_true, Bool.and_eq_false_iff, Bool.or_eq_false_iff, Bool.not_eq_true', Bool.not_eq_false', Bool.not_eq_true, Bool.not_eq_false, Int.not_lt, Int.not_le, Decidable.not_not, ne_eq] at hc1
      refine Hd.exit ?_
      refine Hd.thenExit ?_
      refine Hd.inBexit' rfl ?_
      refine Hd.thenExit ?_
      refine Hd.thenExit ?_
      refine Hd.inBexit ?_
      refine Hd.toK hK3 ?_
      refine Hd.seq (fun K11 hK11 => ?_)
      refine Hd.region ?_
      refine Hd.yv (y_move rfl) ?_
      refine Hd.yv (y_assign rfl) ?_
      refine Hd.nil ?_
      refine Hd.slots [(4, _)] ⟨rfl, trivial⟩ ?_
      refine Hd.toK hK11 ?_
      refine Hd.ret ?_
      clear hK1 hK2 hK3 hK4 hK5 hK6 hK7 hK8 hK9 hK10 hK11
      have hd0 : du now rest = [] := by
        rcases hcase with ⟨_, h⟩ | ⟨j, x, r', e, _⟩
        · exact h
        · omega
      have hpre : du now s = pre := by rw [hdu, hd0, List.append_nil]
      have hrest : restI (min now 18446744073709551614) s = rest := by
        have h1 := due_app (min now 18446744073709551614) s
        rw [show dueI (min now 18446744073709551614) s = pre from hpre] at h1
        rw [hs] at h1 ⊢
        exact List.append_cancel_left h1
      rw [hpre, hrest]
      exact Hd.ret1 rfl (ad, cp) rfl (Ent.sep (.pick pkk (.ex (r, l') (.pure hok enn))))
    ·
      try simp only [decide_eq_true_eq, decide_eq_false_iff_not, Bool.and_eq_true, Bool.or_eq_true, Bool.and_eq_false_iff, Bool.or_eq_false_iff, Bool.not_eq_true', Bool.not_eq_false', Bool.not_eq_true, Bool.not_eq_false, Int.not_lt, Int.not_le, Decidable.not_not, ne_eq] at hc1
      obtain ⟨j, x, r', hj, hjg, hxp, hre, hdr⟩ : ∃ (j : Nat) (x : On) (r' : List It), a = (j : Int) ∧ l'[j]? = some x ∧ x.pn = true ∧ rest = x.it :: r' ∧ du now rest = x.it :: du now r' := by
        rcases hcase with ⟨h, _⟩ | h
        · omega
        · exact h
      have hjl := (List.getElem?_eq_some_iff.1 hjg).1
      rw [hj]
      have hrl : r'.length + 1 = rest.length := by rw [hre]; rfl
      refine Hd.skip ?_
      refine Hd.toK hK9 ?_
      refine Hd.seq (fun K12 hK12 => ?_)
      refine Hd.region ?_
      refine Hd.yv (y_move rfl) ?_
      refine Hd.yv (y_move rfl) ?_
      refine Hd.yv (y_nilp rfl) ?_
      first | (refine Hd.yv (y_field' (q := 0) (ft := 56) Try.underlying58 rfl sz56 rfl rfl) ?_) | (refine Hd.yv (y_fieldR (q := 0) (ft := 56) Try.underlying58 rfl sz56 rfl rfl) ?_)
      first | (refine Hd.yv (y_load1 ag56 rfl (Rd.pt1 pkk (by (first | rfl)))) ?_) | (refine Hd.yv (y_load1 ag56 rfl (Rd.seg1 pkk (by (first | rfl)))) ?_) | (refine Hd.yv (y_loadR1 ag56 rfl (by (first | exact RdS.own pkk)) (by (first | rfl))) ?_)
      refine Hd.yv (y_move rfl) ?_
      first | (refine Hd.yv (y_idxS Try.underlying56 sz61 rfl rfl (by first | omega | decide)) ?_) | (refine Hd.yv (y_idxR Try.underlying56 sz61 rfl rfl (by first | omega | decide) (by (first | exact RdS.own pkk))) ?_)
      first | (refine Hd.yv (y_field' (q := 0) (ft := 3) Try.underlying61 rfl sz3 rfl rfl) ?_) | (refine Hd.yv (y_fieldR (q := 0) (ft := 3) Try.underlying61 rfl sz3 rfl rfl) ?_)
      refine Hd.yv (y_loadR1 ag3 rfl (RdS.own (ad := r.1) (us := l'.flatMap encT) pkk) (flat_cells encT 5 (fun _ => rfl) hjg 0 _ rfl)) ?_
      refine Hd.bslice (vs := [(0, _)]) rfl (by first | exact bs29_31 .. | kernel_rfl) (fun b31 => ?_)
      refine Hd.append Try.underlying35 ty3 rfl rfl rfl pkk (by first | exact RdS.rd (Rd.pt pkk (fun j v e => by simpa using e)) rfl | (first | exact RdS.own pkk)) (by first | (simp [Value.oneCell']; done) | assumption) (by first | (simp only [maxLen]; omega) | assumption) (by omega) (fun ad32 cap32 => ?_)
      refine Hd.yv (y_assign rfl) ?_
      refine Hd.nil ?_
      refine Hd.slots [(0, _), (1, _), (5, _), (6, _), (7, _)] ⟨rfl, rfl, rfl, rfl, rfl, trivial⟩ ?_
      refine Hd.toK hK12 ?_
      refine Hd.region ?_
      refine Hd.yv (y_move rfl) ?_
      refine Hd.yv (y_move rfl) ?_
      refine Hd.yv (y_nilp rfl) ?_
      first | (refine Hd.yv (y_field' (q := 0) (ft := 56) Try.underlying58 rfl sz56 rfl rfl) ?_) | (refine Hd.yv (y_fieldR (q := 0) (ft := 56) Try.underlying58 rfl sz56 rfl rfl) ?_)
      first | (refine Hd.yv (y_load1 ag56 rfl (Rd.pt1 pkk (by (first | rfl)))) ?_) | (refine Hd.yv (y_load1 ag56 rfl (Rd.seg1 pkk (by (first | rfl)))) ?_) | (refine Hd.yv (y_loadR1 ag56 rfl (by (first | exact RdS.own pkk)) (by (first | rfl))) ?_)
      refine Hd.yv (y_move rfl) ?_
      first | (refine Hd.yv (y_idxS Try.underlying56 sz61 rfl rfl (by first | omega | decide)) ?_) | (refine Hd.yv (y_idxR Try.underlying56 sz61 rfl rfl (by first | omega | decide) (by (first | exact RdS.own pkk))) ?_)
      first | (refine Hd.yv (y_field' (q := 0) (ft := 3) Try.underlying61 rfl sz3 rfl rfl) ?_) | (refine Hd.yv (y_fieldR (q := 0) (ft := 3) Try.underlying61 rfl sz3 rfl rfl) ?_)
      refine Hd.yv (y_loadR1 ag3 rfl (RdS.own (ad := r.1) (us := l'.flatMap encT) pkk) (flat_cells encT 5 (fun _ => rfl) hjg 0 _ rfl)) ?_
      refine Hd.callE rfl fk27 (rtcut_ct _ b rest nx af lim l' r hok hFr.nd x.id) (Ent.sep enn) ?_
      intro l2
      refine Hd.pure (fun hq => ?_)
      have hrem : remI x.id rest = r' := by rw [hre]; exact rem_head (by rw [hre] at hFr; exact hFr)
      rw [hrem] at hq
      refine Hd.nil ?_
      refine Hd.slots [(0, _), (1, _), (5, _), (6, _)] ⟨rfl, rfl, rfl, rfl, trivial⟩ ?_
      refine Hd.inB ?_
      refine Hd.toK hK7 ?_
      refine Hd.region ?_
      refine Hd.yv (y_move rfl) ?_
      first | (refine Hd.yv (y_addn rfl rfl (by simp only [InK]; omega)) ?_) | (refine Hd.yv (y_add rfl rfl) ?_)
      refine Hd.yv (y_assign rfl) ?_
      refine Hd.nil ?_
      refine Hd.slots [(0, _), (1, _), (5, _), (6, _)] ⟨rfl, rfl, rfl, rfl, trivial⟩ ?_
      clear hK1 hK2 hK3 hK4 hK5 hK6 hK7 hK8 hK9 hK10 hK12
      refine Hd.thenN ?_
      rw [show pre.length + 1 = (pre ++ [x.it]).length by simp, show (pre.length : Int) + 1 = ((pre ++ [x.it]).length : Nat) by simp]; refine Hd.heap (ownN ad32 (pre ++ [x.it]).length cap32 (pre ++ [x.it]) :: TrL b l2 nx lim r L) (Ent.sep (.eq pkk (own_eq3 rfl rfl (by simp [eN, On.it])) enn)) ?_
      exact Hd.again (pre ++ [x.it], r', l2, ad32, cap32) (by show r'.length < rest.length; omega) (by repeat (first | exact trivial | refine ⟨rfl, ?_⟩)) (Ent.sep (.pure ⟨by rw [hs, hre]; simp, by rw [hdu, hdr]; simp, hq.1, by rw [hq.2]; exact hl'⟩ enn))
  ·
    try simp only [decide_eq_true_eq, decide_eq_false_iff_not, Bool.and_eq_true, Bool.or_eq_true, Bool.and_eq_false_iff, Bool.or_eq_false_iff, Bool.not_eq_true', Bool.not_eq_false', Bool.not_eq_true, Bool.not_eq_false, Int.not_lt, Int.not_le, Decidable.not_not, ne_eq] at hc0
    exfalso
    have h1 := congrArg List.length hp0.1
    rw [List.length_append] at h1
    have h2 := hp0.2.2.2
    omega
set_option maxHeartbeats 2000000 in
theorem rtleft_ct (L : List SP) (now d : Int) (hn : InK .u64 now) (hd : InK .u64 d) : Ct Try.prog 48 #[.int .u64 now, .int .u64 d] (L) (fun _ : Unit => .int .u64 (lf now d)) (fun _ : Unit => L) := by
  refine Ct.of (vs := [.int .u64 now, .int .u64 d]) Try.func48 rfl rfl [(0, .int .u64 now), (1, .int .u64 d)] (by repeat (first | exact trivial | refine ⟨rfl, ?_⟩)) ?_
  intro E
  show Hd E 13 _ _ _ _
  simp only [InK] at hn hd
  refine Hd.seq (fun K1 hK1 => ?_)
  refine Hd.region ?_
  refine Hd.yv (y_assign rfl) ?_
  refine Hd.nil ?_
  refine Hd.slots [(0, _), (1, _)] ⟨rfl, rfl, trivial⟩ ?_
  refine Hd.toK hK1 ?_
  refine Hd.seq (fun K2 hK2 => ?_)
  refine Hd.seq (fun K3 hK3 => ?_)
  refine Hd.region ?_
  refine Hd.yv (y_move rfl) ?_
  first | (refine Hd.yv (y_eqlT rfl rfl) ?_) | (refine Hd.yv (y_eql rfl rfl) ?_)
  refine Hd.nil ?_
  refine Hd.slots [(0, _), (1, _), (6, _)] ⟨rfl, rfl, rfl, trivial⟩ ?_
  refine Hd.toK hK3 ?_
  refine Hd.cond rfl (fun hc0 => ?_) (fun hc0 => ?_)
  ·
    try simp only [decide_eq_true_eq, decide_eq_false_iff_not, Bool.and_eq_true, Bool.or_eq_true, Bool.and_eq_false_iff, Bool.or_eq_false_iff, Bool.not_eq_true', Bool.not_eq_false', Bool.not_eq_true, Bool.not_eq_false, Int.not_lt, Int.not_le, Decidable.not_not, ne_eq] at hc0
    refine Hd.seq (fun K4 hK4 => ?_)
    refine Hd.region ?_
    refine Hd.yv (y_assign rfl) ?_
    refine Hd.nil ?_
    refine Hd.slots [(4, _)] ⟨rfl, trivial⟩ ?_
    refine Hd.toK hK4 ?_
    refine Hd.ret ?_
    refine Hd.thenRet ?_
    clear hK1 hK2 hK3 hK4
    exact Hd.ret1 rfl () (congrArg (fun z => some (Value.int .u64 z)) (show (18446744073709551615 : Int) = lf now d by unfold lf; rw [if_pos hc0])) (Ent.sep enn)
  ·
    try simp only [decide_eq_true_eq, decide_eq_false_iff_not, Bool.and_eq_true, Bool.or_eq_true, Bool.and_eq_false_iff, Bool.or_eq_false_iff, Bool.not_eq_true', Bool.not_eq_false', Bool.not_eq_true, Bool.not_eq_false, Int.not_lt, Int.not_le, Decidable.not_not, ne_eq] at hc0
    refine Hd.skip ?_
    refine Hd.toK hK2 ?_
    refine Hd.seq (fun K5 hK5 => ?_)
    refine Hd.seq (fun K6 hK6 => ?_)
    refine Hd.region ?_
    refine Hd.yv (y_move rfl) ?_
    refine Hd.yv (y_move rfl) ?_
    refine Hd.yv (y_gtr rfl rfl) ?_
    refine Hd.nil ?_
    refine Hd.slots [(0, _), (1, _), (9, _)] ⟨rfl, rfl, rfl, trivial⟩ ?_
    refine Hd.toK hK6 ?_
    refine Hd.cond rfl (fun hc1 => ?_) (fun hc1 => ?_)
    ·
      try simp only [decide_eq_true_eq, decide_eq_false_iff_not, Bool.and_eq_true, Bool.or_eq_true, Bool.and_eq_false_iff, Bool.or_eq_false_iff, Bool.not_eq_true', Bool.not_eq_false', Bool.not_eq_true, Bool.not_eq_false, Int.not_lt, Int.not_le, Decidable.not_not, ne_eq] at hc1
      refine Hd.seq (fun K7 hK7 => ?_)
      refine Hd.region ?_
      refine Hd.yv (y_move rfl) ?_
      refine Hd.yv (y_move rfl) ?_
      first | (refine Hd.yv (y_subn rfl rfl (by simp only [InK]; omega)) ?_) | (refine Hd.yv (y_sub rfl rfl) ?_)
      refine Hd.yv (y_assign rfl) ?_
      refine Hd.nil ?_
      refine Hd.slots [(4, _)] ⟨rfl, trivial⟩ ?_
      refine Hd.toK hK7 ?_
      refine Hd.ret ?_
      refine Hd.thenRet ?_
      clear hK1 hK2 hK3 hK5 hK6 hK7
      exact Hd.ret1 rfl () (congrArg (fun z => some (Value.int .u64 z)) (show d - now = lf now d by unfold lf; rw [if_neg hc0, if_neg (by omega)])) (Ent.sep enn)
    ·
      try simp only [decide_eq_true_eq, decide_eq_false_iff_not, Bool.and_eq_true, Bool.or_eq_true, Bool.and_eq_false_iff, Bool.or_eq_false_iff, Bool.not_eq_true', Bool.not_eq_false', Bool.not_eq_true, Bool.not_eq_false, Int.not_lt, Int.not_le, Decidable.not_not, ne_eq] at hc1
      refine Hd.skip ?_
      refine Hd.toK hK5 ?_
      refine Hd.seq (fun K8 hK8 => ?_)
      refine Hd.region ?_
      refine Hd.yv (y_assign rfl) ?_
      refine Hd.nil ?_
      refine Hd.slots [(4, _)] ⟨rfl, trivial⟩ ?_
      refine Hd.toK hK8 ?_
      refine Hd.ret ?_
      clear hK1 hK2 hK3 hK5 hK6 hK8
      exact Hd.ret1 rfl () (congrArg (fun z => some (Value.int .u64 z)) (show (0 : Int) = lf now d by unfold lf; rw [if_neg hc0, if_pos (by omega)])) (Ent.sep enn)
/-- the least of what is left -/
def WM (now lim : Int) (l : List It) (v : Int) : Prop := (v = lf now lim ∨ ∃ y ∈ l, v = lf now y.at_) ∧ v ≤ lf now lim ∧ ∀ y ∈ l, v ≤ lf now y.at_
theorem WM.put {now lim v : Int} {l : List It} (h : WM now lim l v) (y : It) : WM now lim (l ++ [y]) (min v (lf now y.at_)) := by
  obtain ⟨h1, h2, h3⟩ := h
  refine ⟨?_, by omega, fun z hz => ?_⟩
  · rcases Int.le_total v (lf now y.at_) with h | h
    · rw [Int.min_eq_left h]
      rcases h1 with h1 | ⟨z, hz, e⟩
      · exact .inl h1
      · exact .inr ⟨z, List.mem_append_left _ hz, e⟩
    · rw [Int.min_eq_right h]
      exact .inr ⟨y, by simp, rfl⟩
  · rcases List.mem_append.1 hz with hz | hz
    · have := h3 z hz; omega
    · obtain rfl : z = y := by simpa using hz
      omega
theorem WM.wl {now lim v : Int} {l s : List It} (h : WM now lim l v) (hp : l.Perm s) (hs : s.Pairwise ltI) (hA : AtOk s) (hn : 0 ≤ now) : v = Tm.wl s lim now := by
  obtain ⟨h1, h2, h3⟩ := h
  cases s with
  | nil =>
    have : l = [] := hp.eq_nil
    subst this
    rcases h1 with h1 | ⟨z, hz, _⟩
    · exact h1
    · cases hz
  | cons x r =>
    show v = min (lf now lim) (lf now x.at_)
    have hx := h3 x (hp.mem_iff.2 List.mem_cons_self)
    rcases h1 with h1 | ⟨z, hz, e⟩
    · omega
    · have hzs := hp.mem_iff.1 hz
      have hle : x.at_ ≤ z.at_ := by
        rcases List.mem_cons.1 hzs with rfl | hm
        · omega
        · have := (List.pairwise_cons.1 hs).1 z hm
          unfold ltI at this; omega
      have := lf_mono hle hn (hA x List.mem_cons_self) (hA z hzs)
      omega
theorem pend_step {l : List On} {i : Nat} {x : On} (h : l[i]? = some x) : pend (l.take (i + 1)) = if x.pn = true then pend (l.take i) ++ [x.it] else pend (l.take i) := by
  rw [take_succ h, pend_app, pend_one]; split <;> simp
set_option maxHeartbeats 2000000 in
theorem rtwait_ct (L : List SP) (b : Nat) (s : List It) (nx : Int) (af : AF) (lim : Int) (hF : HpF s) (hA : AtOk s) (hlim : InK .u64 lim) (now : Int) (hn : InK .u64 now) (busy : Bool) : Ct Try.prog 30 #[.pointer (some ⟨b, 0, none⟩), .int .u64 now, .bool busy] (TrA b s nx af lim :: L) (fun _ : Unit => .tuple #[.int .u64 (waitV s lim now busy).1, .bool (waitV s lim now busy).2]) (fun _ : Unit => TrA b s nx af lim :: L) := by
  refine Ct.of (vs := [.pointer (some ⟨b, 0, none⟩), .int .u64 now, .bool busy]) Try.func30 rfl rfl [(0, .pointer (some ⟨b, 0, none⟩)), (1, .int .u64 now), (2, .bool busy)] (by repeat (first | exact trivial | refine ⟨rfl, ?_⟩)) ?_
  intro E
  show Hd E 50 _ _ _ _
  refine Hd.seq (fun K1 hK1 => ?_)
  refine Hd.region ?_
  refine Hd.yv (y_assign rfl) ?_
  refine Hd.yv (y_assign rfl) ?_
  refine Hd.nil ?_
  refine Hd.slots [(0, _), (1, _), (2, _)] ⟨rfl, rfl, rfl, trivial⟩ ?_
  refine Hd.toK hK1 ?_
  refine Hd.seq (fun K2 hK2 => ?_)
  refine Hd.seq (fun K3 hK3 => ?_)
  refine Hd.region ?_
  refine Hd.yv (y_move rfl) ?_
  refine Hd.nil ?_
  refine Hd.slots [(0, _), (1, _), (10, _)] ⟨rfl, rfl, rfl, trivial⟩ ?_
  refine Hd.toK hK3 ?_
  refine Hd.cond rfl (fun hc0 => ?_) (fun hc0 => ?_)
  ·
    try simp only [decide_eq_true_eq, decide_eq_false_iff_not, Bool.and_eq_true, Bool.or_eq_true, Bool.and_eq_false_iff, Bool.or_eq_false_iff, Bool.not_eq_true', Bool.not_eq_false', Bool.not_eq_true, Bool.not_eq_false, Int.not_lt, Int.not_le, Decidable.not_not, ne_eq] at hc0
    refine Hd.seq (fun K4 hK4 => ?_)
    refine Hd.region ?_
    refine Hd.yv (y_assign rfl) ?_
    refine Hd.yv (y_assign rfl) ?_
    refine Hd.nil ?_
    refine Hd.slots [(6, _), (7, _)] ⟨rfl, rfl, trivial⟩ ?_
    refine Hd.toK hK4 ?_
    refine Hd.ret ?_
    refine Hd.thenRet ?_
    clear hK1 hK2 hK3 hK4
    rw [show waitV s lim now busy = (0, false) by unfold waitV; rw [if_pos hc0]]
    exact Hd.ret2 rfl () rfl rfl rfl (Ent.sep enn)
  ·
    try simp only [decide_eq_true_eq, decide_eq_false_iff_not, Bool.and_eq_true, Bool.or_eq_true, Bool.and_eq_false_iff, Bool.or_eq_false_iff, Bool.not_eq_true', Bool.not_eq_false', Bool.not_eq_true, Bool.not_eq_false, Int.not_lt, Int.not_le, Decidable.not_not, ne_eq] at hc0
    refine Hd.exs .here ?_
    rintro ⟨r, l⟩
    simp only [List.cons_append, List.nil_append]
    refine Hd.pure (fun hr => ?_)
    have hll := hr.len
    have hnx := hr.nx
    refine Hd.skip ?_
    refine Hd.toK hK2 ?_
    refine Hd.seq (fun K5 hK5 => ?_)
    refine Hd.region ?_
    refine Hd.yv (y_move rfl) ?_
    refine Hd.yv (y_move rfl) ?_
    refine Hd.yv (y_nilp rfl) ?_
    first | (refine Hd.yv (y_field' (q := 2) (ft := 23) Try.underlying58 rfl sz23 rfl rfl) ?_) | (refine Hd.yv (y_fieldR (q := 2) (ft := 23) Try.underlying58 rfl sz23 rfl rfl) ?_)
    first | (refine Hd.yv (y_load1 ag23 rfl (Rd.pt1 pkk (by (first | rfl)))) ?_) | (refine Hd.yv (y_load1 ag23 rfl (Rd.seg1 pkk (by (first | rfl)))) ?_) | (refine Hd.yv (y_loadR1 ag23 rfl (by (first | exact RdS.own pkk)) (by (first | rfl))) ?_)
    refine Hd.callE rfl fk48 (rtleft_ct _ now lim hn hlim) (Ent.sep enn) ?_
    intro _
    refine Hd.yv (y_assign rfl) ?_
    refine Hd.nil ?_
    refine Hd.slots [(0, _), (1, _), (8, _)] ⟨rfl, rfl, rfl, trivial⟩ ?_
    refine Hd.toK hK5 ?_
    refine Hd.seq (fun K6 hK6 => ?_)
    refine Hd.seq (fun K7 hK7 => ?_)
    refine Hd.region ?_
    refine Hd.yv (y_assign rfl) ?_
    refine Hd.nil ?_
    refine Hd.slots [(0, _), (1, _), (8, _), (9, _)] ⟨rfl, rfl, rfl, rfl, trivial⟩ ?_
    refine Hd.toK hK7 ?_
    refine Hd.block ?_
    refine Hd.loopK (ι := Nat × Int) [(0, _), (1, _)] (fun q_ => [(8, .int .u64 q_.2), (9, .int .i64 (q_.1 : Int))]) (fun q_ => pu (q_.1 ≤ l.length ∧ WM now lim (pend (l.take q_.1)) q_.2) :: TrL b l nx lim r L) (fun q_ => l.length - q_.1) (0, lf now lim) (by repeat (first | exact trivial | refine ⟨rfl, ?_⟩)) (by repeat (first | exact trivial | refine ⟨rfl, ?_⟩)) (Ent.sep (.pure ⟨Nat.zero_le _, .inl rfl, Int.le_refl _, fun y hy => by cases hy⟩ enn)) ?_
    rintro ⟨i, v⟩
    try dsimp only
    refine Hd.pure (fun hp0 => ?_)
    try dsimp only at hp0
    refine Hd.seq (fun K8 hK8 => ?_)
    refine Hd.seq (fun K9 hK9 => ?_)
    refine Hd.region ?_
    refine Hd.yv (y_move rfl) ?_
    refine Hd.yv (y_move rfl) ?_
    refine Hd.yv (y_nilp rfl) ?_
    first | (refine Hd.yv (y_field' (q := 0) (ft := 56) Try.underlying58 rfl sz56 rfl rfl) ?_) | (refine Hd.yv (y_fieldR (q := 0) (ft := 56) Try.underlying58 rfl sz56 rfl rfl) ?_)
    first | (refine Hd.yv (y_load1 ag56 rfl (Rd.pt1 pkk (by (first | rfl)))) ?_) | (refine Hd.yv (y_load1 ag56 rfl (Rd.seg1 pkk (by (first | rfl)))) ?_) | (refine Hd.yv (y_loadR1 ag56 rfl (by (first | exact RdS.own pkk)) (by (first | rfl))) ?_)
    refine Hd.yv (y_len Try.underlying56 rfl) ?_
    refine Hd.yv (y_lss rfl rfl) ?_
    refine Hd.nil ?_
    refine Hd.slots [(0, _), (1, _), (8, _), (9, _), (23, _)] ⟨rfl, rfl, rfl, rfl, rfl, trivial⟩ ?_
    refine Hd.toK hK9 ?_
    refine Hd.cond rfl (fun hc1 => ?_) (fun hc1 => ?_)
    ·
      try simp only [decide_eq_true_eq, decide_eq_false_iff_not, Bool.and_eq_true, Bool.or_eq_true, Bool.and_eq_false_iff, Bool.or_eq_false_iff, Bool.not_eq_true', Bool.not_eq_false', Bool.not_eq_true, Bool.not_eq_false, Int.not_lt, Int.not_le, Decidable.not_not, ne_eq] at hc1
      have hi : i < l.length := by omega
      have hgi : l[i]? = some (gO l i) := gO_at hi
      have hst := pend_step hgi
      obtain ⟨_, hw⟩ := hp0
      refine Hd.skip ?_
      refine Hd.toK hK8 ?_
      refine Hd.seq (fun K10 hK10 => ?_)
      refine Hd.block ?_
      refine Hd.seq (fun K11 hK11 => ?_)
      refine Hd.region ?_
      refine Hd.yv (y_move rfl) ?_
      refine Hd.yv (y_nilp rfl) ?_
      first | (refine Hd.yv (y_field' (q := 0) (ft := 56) Try.underlying58 rfl sz56 rfl rfl) ?_) | (refine Hd.yv (y_fieldR (q := 0) (ft := 56) Try.underlying58 rfl sz56 rfl rfl) ?_)
      first | (refine Hd.yv (y_load1 ag56 rfl (Rd.pt1 pkk (by (first | rfl)))) ?_) | (refine Hd.yv (y_load1 ag56 rfl (Rd.seg1 pkk (by (first | rfl)))) ?_) | (refine Hd.yv (y_loadR1 ag56 rfl (by (first | exact RdS.own pkk)) (by (first | rfl))) ?_)
      refine Hd.yv (y_move rfl) ?_
      first | (refine Hd.yv (y_idxS Try.underlying56 sz61 rfl rfl (by first | omega | decide)) ?_) | (refine Hd.yv (y_idxR Try.underlying56 sz61 rfl rfl (by first | omega | decide) (by (first | exact RdS.own pkk))) ?_)
      first | (refine Hd.yv (y_field' (q := 2) (ft := 4) Try.underlying61 rfl sz4 rfl rfl) ?_) | (refine Hd.yv (y_fieldR (q := 2) (ft := 4) Try.underlying61 rfl sz4 rfl rfl) ?_)
      refine Hd.yv (y_loadR1 ag4 rfl (RdS.own (ad := r.1) (us := l.flatMap encT) pkk) (flat_cells encT 5 (fun _ => rfl) hgi 2 _ rfl)) ?_
      refine Hd.nil ?_
      refine Hd.slots [(0, _), (1, _), (8, _), (9, _), (33, _)] ⟨rfl, rfl, rfl, rfl, rfl, trivial⟩ ?_
      refine Hd.toK hK11 ?_
      refine Hd.cond rfl (fun hc2 => ?_) (fun hc2 => ?_)
      ·
        try simp only [decide_eq_true_eq, decide_eq_false_iff_not, Bool.and_eq_true, Bool.or_eq_true, Bool.and_eq_false_iff, Bool.or_eq_false_iff, Bool.not_eq_true', Bool.not_eq_false', Bool.not_eq_true, Bool.not_eq_false, Int.not_lt, Int.not_le, Decidable.not_not, ne_eq] at hc2
        rw [if_pos hc2] at hst
        have hxm := hr.rel.perm.mem_iff.1 (pend_mem.2 ⟨gO l i, List.mem_of_getElem? hgi, hc2, rfl⟩)
        have hxa : InK .u64 (gO l i).at_ := hA _ hxm
        refine Hd.region ?_
        refine Hd.yv (y_move rfl) ?_
        refine Hd.yv (y_move rfl) ?_
        refine Hd.yv (y_move rfl) ?_
        refine Hd.yv (y_nilp rfl) ?_
        first | (refine Hd.yv (y_field' (q := 0) (ft := 56) Try.underlying58 rfl sz56 rfl rfl) ?_) | (refine Hd.yv (y_fieldR (q := 0) (ft := 56) Try.underlying58 rfl sz56 rfl rfl) ?_)
        first | (refine Hd.yv (y_load1 ag56 rfl (Rd.pt1 pkk (by (first | rfl)))) ?_) | (refine Hd.yv (y_load1 ag56 rfl (Rd.seg1 pkk (by (first | rfl)))) ?_) | (refine Hd.yv (y_loadR1 ag56 rfl (by (first | exact RdS.own pkk)) (by (first | rfl))) ?_)
        refine Hd.yv (y_move rfl) ?_
        first | (refine Hd.yv (y_idxS Try.underlying56 sz61 rfl rfl (by first | omega | decide)) ?_) | (refine Hd.yv (y_idxR Try.underlying56 sz61 rfl rfl (by first | omega | decide) (by (first | exact RdS.own pkk))) ?_)
        first | (refine Hd.yv (y_field' (q := 3) (ft := 23) Try.underlying61 rfl sz23 rfl rfl) ?_) | (refine Hd.yv (y_fieldR (q := 3) (ft := 23) Try.underlying61 rfl sz23 rfl rfl) ?_)
        refine Hd.yv (y_loadR1 ag23 rfl (RdS.own (ad := r.1) (us := l.flatMap encT) pkk) (flat_cells encT 5 (fun _ => rfl) hgi 3 _ rfl)) ?_
        refine Hd.callE rfl fk48 (rtleft_ct _ now (gO l i).at_ hn hxa) (Ent.sep enn) ?_
        intro _
        refine Hd.yv (y_min rfl rfl) ?_
        refine Hd.yv (y_assign rfl) ?_
        refine Hd.nil ?_
        refine Hd.slots [(0, _), (1, _), (8, _), (9, _)] ⟨rfl, rfl, rfl, rfl, trivial⟩ ?_
        refine Hd.inB ?_
        refine Hd.toK hK10 ?_
        refine Hd.region ?_
        refine Hd.yv (y_move rfl) ?_
        first | (refine Hd.yv (y_addn rfl rfl (by simp only [InK]; omega)) ?_) | (refine Hd.yv (y_add rfl rfl) ?_)
        refine Hd.yv (y_assign rfl) ?_
        refine Hd.nil ?_
        refine Hd.slots [(0, _), (1, _), (8, _), (9, _)] ⟨rfl, rfl, rfl, rfl, trivial⟩ ?_
        clear hK1 hK2 hK3 hK5 hK6 hK7 hK8 hK9 hK10 hK11
        refine Hd.thenN ?_
        exact Hd.again (i + 1, min v (lf now (gO l i).at_)) (by first | omega | (simp only; omega) | (simp; omega)) (by repeat (first | exact trivial | refine ⟨rfl, ?_⟩)) (Ent.sep (.pure ⟨hi, by rw [hst]; exact hw.put (gO l i).it⟩ enn))
      ·
        try simp only [decide_eq_true_eq, decide_eq_false_iff_not, Bool.and_eq_true, Bool.or_eq_true, Bool.and_eq_false_iff, Bool.or_eq_false_iff, Bool.not_eq_true', Bool.not_eq_false', Bool.not_eq_true, Bool.not_eq_false, Int.not_lt, Int.not_le, Decidable.not_not, ne_eq] at hc2
        rw [if_neg (by rw [hc2]; simp)] at hst
        refine Hd.skip ?_
        refine Hd.inB ?_
        refine Hd.toK hK10 ?_
        refine Hd.region ?_
        refine Hd.yv (y_move rfl) ?_
        first | (refine Hd.yv (y_addn rfl rfl (by simp only [InK]; omega)) ?_) | (refine Hd.yv (y_add rfl rfl) ?_)
        refine Hd.yv (y_assign rfl) ?_
        refine Hd.nil ?_
        refine Hd.slots [(0, _), (1, _), (8, _), (9, _)] ⟨rfl, rfl, rfl, rfl, trivial⟩ ?_
        clear hK1 hK2 hK3 hK5 hK6 hK7 hK8 hK9 hK10 hK11
        refine Hd.thenN ?_
        exact Hd.again (i + 1, v) (by first | omega | (simp only; omega) | (simp; omega)) (by repeat (first | exact trivial | refine ⟨rfl, ?_⟩)) (Ent.sep (.pure ⟨hi, by rw [hst]; exact hw⟩ enn))
    ·
      try simp only [decide_eq_true_eq, decide_eq_false_iff_not, Bool.and_eq_true, Bool.or_eq_true, Bool.and_eq_false_iff, Bool.or_eq_false_iff, Bool.not_eq_true', Bool.not_eq_false', Bool.not_eq_true, Bool.not_eq_false, Int.not_lt, Int.not_le, Decidable.not_not, ne_eq] at hc1
      have hall : l.take i = l := List.take_of_length_le (by omega)
      have hw := hp0.2
      rw [hall] at hw
      have hv := hw.wl hr.rel.perm hF.srt hA (by simp only [InK] at hn; omega)
      rw [hv]
      refine Hd.exit ?_
      refine Hd.thenExit ?_
      refine Hd.thenExit ?_
      refine Hd.inBexit ?_
      refine Hd.toK hK6 ?_
      refine Hd.seq (fun K12 hK12 => ?_)
      refine Hd.seq (fun K13 hK13 => ?_)
      refine Hd.region ?_
      refine Hd.yv (y_move rfl) ?_
      first | (refine Hd.yv (y_eqlT rfl rfl) ?_) | (refine Hd.yv (y_eql rfl rfl) ?_)
      refine Hd.nil ?_
      refine Hd.slots [(8, _), (47, _)] ⟨rfl, rfl, trivial⟩ ?_
      refine Hd.toK hK13 ?_
      refine Hd.cond rfl (fun hc3 => ?_) (fun hc3 => ?_)
      ·
        try simp only [decide_eq_true_eq, decide_eq_false_iff_not, Bool.and_eq_true, Bool.or_eq_true, Bool.and_eq_false_iff, Bool.or_eq_false_iff, Bool.not_eq_true', Bool.not_eq_false', Bool.not_eq_true, Bool.not_eq_false, Int.not_lt, Int.not_le, Decidable.not_not, ne_eq] at hc3
        refine Hd.seq (fun K14 hK14 => ?_)
        refine Hd.region ?_
        refine Hd.yv (y_assign rfl) ?_
        refine Hd.yv (y_assign rfl) ?_
        refine Hd.nil ?_
        refine Hd.slots [(6, _), (7, _)] ⟨rfl, rfl, trivial⟩ ?_
        refine Hd.toK hK14 ?_
        refine Hd.ret ?_
        refine Hd.thenRet ?_
        clear hK1 hK2 hK3 hK5 hK6 hK7 hK8 hK9 hK12 hK13 hK14
        rw [show waitV s lim now busy = (0, true) by unfold waitV; rw [if_neg (by rw [hc0]; simp), if_pos hc3]]
        exact Hd.ret2 rfl () rfl rfl rfl (Ent.sep (.ex (r, l) (.pure hr enn)))
      ·
        try simp only [decide_eq_true_eq, decide_eq_false_iff_not, Bool.and_eq_true, Bool.or_eq_true, Bool.and_eq_false_iff, Bool.or_eq_false_iff, Bool.not_eq_true', Bool.not_eq_false', Bool.not_eq_true, Bool.not_eq_false, Int.not_lt, Int.not_le, Decidable.not_not, ne_eq] at hc3
        refine Hd.skip ?_
        refine Hd.toK hK12 ?_
        refine Hd.seq (fun K15 hK15 => ?_)
        refine Hd.region ?_
        refine Hd.yv (y_move rfl) ?_
        refine Hd.yv (y_min rfl rfl) ?_
        refine Hd.yv (y_assign rfl) ?_
        refine Hd.yv (y_assign rfl) ?_
        refine Hd.nil ?_
        refine Hd.slots [(6, _), (7, _)] ⟨rfl, rfl, trivial⟩ ?_
        refine Hd.toK hK15 ?_
        refine Hd.ret ?_
        clear hK1 hK2 hK3 hK5 hK6 hK7 hK8 hK9 hK12 hK13 hK15
        rw [show waitV s lim now busy = (min (wl s lim now) 1048576, false) by unfold waitV; rw [if_neg (by rw [hc0]; simp), if_neg hc3]]
        exact Hd.ret2 rfl () rfl rfl rfl (Ent.sep (.ex (r, l) (.pure hr enn)))
end Tm
end Go.Proofs.Ytdjoofidicoimaa
