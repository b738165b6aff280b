/-
  The world and the document's, side by side: wires that are made; Do. Epoll's laws: calls as they come in, how many there may be. Epoll: EplAgain. Epoll: EplTraces. Calls of the world, as the rows give them. The calls of epoll's laws, as the rows give them.
-/
import Derived.Test.YtbfddabjbkohdaaGreatZEplTracesI
namespace Go.Proofs.YtbfddabjbkohdaaGreat
set_option maxHeartbeats 2000000
open Go.RX.Hd (yv y2 n1 fk sk sr tH callE heldK onlyH endH thenN slots)
set_option linter.unusedSimpArgs false
set_option linter.unusedVariables false
set_option linter.unnecessarySimpa false
open Go.RX Fx
namespace Wo
set_option maxRecDepth 8000
open Rf (badK mkErr mkLst mk_bad mk_no mk_yes)
def mkA (w : WA) (k n : Int) : Int := if badK k n then 0 else mkI w (mkKE k) 0
def mkB (w : WA) (k n : Int) : Int := if badK k n then 0 else if k ≤ 1 then mkI w 2 1 else mkN w 1
theorem bad_of {k n : Int} (hk : k ≠ 3) : badK k n ↔ (n < 1 ∨ 65536 < n) := by unfold badK; omega
theorem wmk0_ct (L : List SP) (wb : Nat) (w : WA) (k n : Int) (hk : k = 0) : Ct Tryz.prog 54 #[.pointer (some ⟨wb, 0, none⟩), .int .i64 n] (WorldP wb w :: L) (fun _ : Unit => .tuple #[.int .i64 (mkA w k n), .int .i64 (mkB w k n), .int .i64 (mkErr w k n)]) (fun _ => WorldP wb (makeR w k n) :: L) := by
 subst hk
 by_cases h : badK 0 n
 ·obtain ⟨e1, _, e3⟩ := mk_bad (w := w) h
  rw [show mkA w 0 n = 0 from if_pos h, show mkB w 0 n = 0 from if_pos h, e1, e3]; exact pipe_bad L wb w n ((bad_of (by decide)).1 h)
 ·rw [show mkA w 0 n = mkI w 2 0 from if_neg h, show mkB w 0 n = mkI w 2 1 from if_neg h, show mkErr w 0 n = mkE w 2 from if_neg h, show makeR w 0 n = mkW w 2 (pipeW n.toNat) from if_neg h]
  rw [bad_of (by decide)] at h
  obtain ⟨m, rfl⟩ : ∃ m : Nat, n = (m : Int) := ⟨n.toNat, by omega⟩
  exact pipe_mk L wb w m (by omega) (by omega)
theorem wmk1_ct (L : List SP) (wb : Nat) (w : WA) (k n : Int) (hk : k = 1) : Ct Tryz.prog 55 #[.pointer (some ⟨wb, 0, none⟩), .int .i64 n] (WorldP wb w :: L) (fun _ : Unit => .tuple #[.int .i64 (mkA w k n), .int .i64 (mkB w k n), .int .i64 (mkErr w k n)]) (fun _ => WorldP wb (makeR w k n) :: L) := by
 subst hk
 by_cases h : badK 1 n
 ·obtain ⟨e1, _, e3⟩ := mk_bad (w := w) h
  rw [show mkA w 1 n = 0 from if_pos h, show mkB w 1 n = 0 from if_pos h, e1, e3]; exact pairbad_ct L wb w n ((bad_of (by decide)).1 h)
 ·rw [show mkA w 1 n = mkI w 2 0 from if_neg h, show mkB w 1 n = mkI w 2 1 from if_neg h, show mkErr w 1 n = mkE w 2 from if_neg h, show makeR w 1 n = mkW w 2 (halfW n.toNat 2) from if_neg h]
  rw [bad_of (by decide)] at h
  obtain ⟨m, rfl⟩ : ∃ m : Nat, n = (m : Int) := ⟨n.toNat, by omega⟩
  exact pair_ct L wb w m (by omega) (by omega)
theorem wmk2_ct (L : List SP) (wb : Nat) (w : WA) (k n : Int) (hk : k = 2) : Ct Tryz.prog 50 #[.pointer (some ⟨wb, 0, none⟩), .int .i64 n] (WorldP wb w :: L) (fun _ : Unit => .tuple #[.int .i64 (mkA w k n), .int .i64 (mkB w k n), .int .i64 (mkErr w k n)]) (fun _ => WorldP wb (makeR w k n) :: L) := by
 subst hk
 by_cases h : badK 2 n
 ·obtain ⟨e1, _, e3⟩ := mk_bad (w := w) h
  rw [show mkA w 2 n = 0 from if_pos h, show mkB w 2 n = 0 from if_pos h, e1, e3]; exact outer_bad L wb w n ((bad_of (by decide)).1 h)
 ·rw [show mkA w 2 n = mkI w 1 0 from if_neg h, show mkB w 2 n = mkN w 1 from if_neg h, show mkErr w 2 n = mkE w 1 from if_neg h, show makeR w 2 n = mkW w 1 (connW n.toNat) from if_neg h]
  rw [bad_of (by decide)] at h
  obtain ⟨m, rfl⟩ : ∃ m : Nat, n = (m : Int) := ⟨n.toNat, by omega⟩
  exact outer_mk L wb w m (by omega) (by omega)
theorem wmk3_ct (L : List SP) (wb : Nat) (w : WA) (k n : Int) (hk : k = 3) : Ct Tryz.prog 56 #[.pointer (some ⟨wb, 0, none⟩), .int .i64 n] (WorldP wb w :: L) (fun _ : Unit => .tuple #[.int .i64 (mkA w k n), .int .i64 (mkB w k n), .int .i64 (mkErr w k n)]) (fun _ => WorldP wb (makeR w k n) :: L) := by
 subst hk
 by_cases h : badK 3 n
 ·obtain ⟨e1, _, e3⟩ := mk_bad (w := w) h
  rw [show mkA w 3 n = 0 from if_pos h, show mkB w 3 n = 0 from if_pos h, e1, e3]; exact listen_bad L wb w n (by unfold badK at h; omega)
 ·rw [show mkA w 3 n = mkI w 1 0 from if_neg h, show mkB w 3 n = mkN w 1 from if_neg h, show mkErr w 3 n = mkE w 1 from if_neg h, show makeR w 3 n = mkW w 1 (listW n.toNat) from if_neg h]
  unfold badK at h
  obtain ⟨m, rfl⟩ : ∃ m : Nat, n = (m : Int) := ⟨n.toNat, by omega⟩
  exact listen_mk L wb w m (by omega) (by omega)
structure MadeOk (a b e wire : Int) (l : List Nat) : Prop where
 no : e ≠ 0 → a = 0 ∧ b = 0
 yes : e = 0 → ∃ f t, l = f :: t ∧ a = ((f : Nat) : Int) ∧ ((t = [] ∧ b = wire) ∨ ∃ g, t = [g] ∧ b = ((g : Nat) : Int))
theorem made_ok (w : WA) {k : Int} (hk : 0 ≤ k ∧ k ≤ 3) (n : Int) : MadeOk (mkA w k n) (mkB w k n) (mkErr w k n) (((makeR w k n).ws.length : Nat) - 1) (mkLst w k n) := by
 by_cases h : badK k n
 ·obtain ⟨e1, e2, e3⟩ := mk_bad (w := w) h
  exact ⟨fun _ => ⟨if_pos h, if_pos h⟩, fun e => by rw [e1] at e; exact absurd e (by decide)⟩
 have hA : mkA w k n = mkI w (mkKE k) 0 := if_neg h
 have hB : mkB w k n = if k ≤ 1 then mkI w 2 1 else mkN w 1 := if_neg h
 cases ho : mkOk w (mkKE k) with
 | false =>
  obtain ⟨e1, e2, e3⟩ := mk_no (w := w) h ho
  have hF : mkF w (mkKE k) = [] := by unfold mkF; rw [ho]; rfl
  refine ⟨fun _ => ⟨by rw [hA]; unfold mkI; rw [hF]; rfl, ?_⟩, fun e => by rw [e1] at e; exact absurd e (by decide)⟩; rw [hB]
  by_cases h1 : k ≤ 1
  ·rw [if_pos h1]
   have : mkKE k = 2 := if_pos (by omega)
   rw [this] at hF; unfold mkI; rw [hF]; rfl
  ·rw [if_neg h1]
   have : mkKE k = 1 := if_neg (by omega)
   rw [this] at ho; unfold mkN mkE; rw [ho]; rfl
 | true =>
  obtain ⟨e1, e2, e3⟩ := mk_yes (w := w) h ho
  have hF : mkF w (mkKE k) = (frees w.at).take (mkKE k) := by unfold mkF; rw [ho]; rfl
  have hl : ((frees w.at).take (mkKE k)).length = mkKE k := by unfold mkOk at ho; simp only [Bool.and_eq_true, decide_eq_true_eq] at ho; omega
  refine ⟨fun e => absurd e1 e, fun _ => ?_⟩; rw [e2, hA, hB]; unfold mkI; rw [hF]
  by_cases h1 : k ≤ 1
  ·have h2 : mkKE k = 2 := if_pos (by omega)
   rw [h2] at hl hF ⊢; rw [if_pos h1, hF]
   obtain ⟨f, g, hfg⟩ : ∃ f g, (frees w.at).take 2 = [f, g] := by
    match hm : (frees w.at).take 2, hl with
    | [f, g], _ => exact ⟨f, g, rfl⟩
   rw [hfg]; exact ⟨f, [g], rfl, rfl, .inr ⟨g, rfl, rfl⟩⟩
  ·have h2 : mkKE k = 1 := if_neg (by omega)
   rw [h2] at hl ho ⊢; rw [if_neg h1]
   obtain ⟨f, hf⟩ : ∃ f, (frees w.at).take 1 = [f] := by
    match hm : (frees w.at).take 1, hl with
    | [f], _ => exact ⟨f, rfl⟩
   rw [hf]; refine ⟨f, [], rfl, rfl, .inl ⟨rfl, ?_⟩⟩
   have he : mkE w 1 = 0 := by unfold mkE; rw [ho]; rfl
   rw [show mkN w 1 = (w.ws.length : Int) from if_pos he]
   have : makeR w k n = mkW w 1 (mkKW k n) := by
    rw [← h2]; exact if_neg h
   rw [this, mkW_len he]; omega
theorem made_ct (L : List SP) (a b e wire : Int) (l : List Nat) (ad : Option Addr) (c : Nat) (hR : RdS L 1 ad l.length (nats l)) (h : MadeOk a b e wire l) : Ct Tryz.prog 58 #[.int .i64 a, .int .i64 b, .int .i64 e, .slice ad l.length c, .int .i64 wire, .int .i64 e] (L) (fun _ : Unit => .bool true) (fun _ : Unit => L) := by
 refine Ct.of (vs := [.int .i64 a, .int .i64 b, .int .i64 e, .slice ad l.length c, .int .i64 wire, .int .i64 e]) Tryz.func58 rfl rfl [(0, .int .i64 a), (1, .int .i64 b), (2, .int .i64 e), (3, .slice ad l.length c), (4, .int .i64 wire), (5, .int .i64 e)] sbq ?_; intro E
 show Hd E 55 _ _ _ _
 refine sr fun _ hK1 => ?_
 refine yv y_as ?_; refine fk [(0, _), (1, _), (2, _), (3, _), (4, _), (5, _)] hK1 ?_; refine Hd.seq fun _ hK2 => ?_
 refine sr fun _ hK3 => ?_
 refine yv y_mv ?_; refine yv (y_neq rfl rfl) ?_; refine yv y_mv ?_; apply Hd.org 3 15 18 [(0, _), (1, _), (2, _), (3, _), (4, _), (5, _)] rfl ⟨rfl, rfl, rfl, rfl, rfl, rfl, trivial⟩
 ·intro hg1_15
  try simp only [hyA, hyB, hyC, ne_eq] at hg1_15
  simp only [List.take]; refine n1 ?_; refine n1 ?_; refine yv (y_pickT rfl rfl) ?_; refine Hd.nil ?_; exact Hd.mq
 ·intro hg1_15
  try simp only [hyA, hyB, hyC, ne_eq] at hg1_15
  simp only [List.take]; refine y2 y_mv ?_; refine y2 (y_neq rfl rfl) ?_; refine yv (y_pickF rfl rfl) ?_; refine Hd.nil ?_; exact Hd.mq
 simp only [List.drop]; refine fk [(0, _), (1, _), (2, _), (3, _), (4, _), (5, _), (18, _)] hK3 ?_; refine Hd.cond rfl (fun hc0 => ?_) (fun hc0 => ?_)
 ·
  try simp only [hyA, hyB, hyC, ne_eq] at hc0
  refine sr fun _ hK4 => ?_
  refine yv y_mv ?_; refine yv y_mv ?_; refine yv (y_eqlT rfl rfl) ?_; refine yv y_mv ?_; apply Hd.andg 3 22 25 [(1, _)] rfl ⟨rfl, trivial⟩
  ·intro hg2_22
   try simp only [hyA, hyB, hyC, ne_eq] at hg2_22
   simp only [List.take]; refine y2 y_mv ?_; refine y2 (y_eql rfl rfl) ?_; refine yv (y_pickT rfl rfl) ?_; refine Hd.nil ?_; exact Hd.mq
  ·intro hg2_22
   try simp only [hyA, hyB, hyC, ne_eq] at hg2_22
   simp only [List.take]; refine n1 ?_; refine n1 ?_; refine yv (y_pickF rfl rfl) ?_; refine Hd.nil ?_; exact Hd.mq
  simp only [List.drop]; refine yv y_mv ?_; apply Hd.andg 3 26 29 [] rfl trivial
  ·intro hg2_26
   try simp only [hyA, hyB, hyC, ne_eq] at hg2_26
   simp only [List.take]; refine y2 y_mv ?_; refine y2 (y_eql rfl rfl) ?_; refine yv (y_pickT rfl rfl) ?_; refine Hd.nil ?_; exact Hd.mq
  ·intro hg2_26
   try simp only [hyA, hyB, hyC, ne_eq] at hg2_26
   simp only [List.take]; refine n1 ?_; refine n1 ?_; refine yv (y_pickF rfl rfl) ?_; refine Hd.nil ?_; exact Hd.mq
  simp only [List.drop]; refine yv y_as ?_; refine fk [(12, _)] hK4 ?_; refine Hd.ret ?_; refine Hd.thenRet ?_
  obtain ⟨rfl, rfl⟩ := h.no (by omega)
  exact Hd.ret1 rfl () rfl sq
 ·
  try simp only [hyA, hyB, hyC, ne_eq] at hc0
  obtain ⟨f, t, rfl, rfl, ht⟩ := h.yes (by omega)
  have hln : 0 < (f :: t).length := Nat.succ_pos _
  refine Hd.skip ?_; refine Hd.toK hK2 ?_; refine Hd.seq fun _ hK5 => ?_
  refine sr fun _ hK6 => ?_
  refine yv y_mv ?_; refine yv (y_len Tryz.underlying44 rfl) ?_; refine yv (y_eql rfl rfl) ?_; refine fk [(0, _), (1, _), (3, _), (4, _), (32, _)] hK6 ?_; refine Hd.cond rfl (fun hc1 => ?_) (fun hc1 => ?_)
  ·
   try simp only [hyA, hyB, hyC, ne_eq] at hc1
   obtain ⟨g, rfl, rfl⟩ : ∃ g, t = [g] ∧ b = ((g : Nat) : Int) := by
    rcases ht with ⟨rfl, _⟩ | h1
    ·simp at hc1
    ·exact h1
   refine sr fun _ hK7 => ?_
   refine yv y_mv ?_; refine yv y_mv ?_; refine yv (y_idxR Tryz.underlying44 sz3 rfl rfl (by exact (show (0 : Nat) < _ by omega)) (by exact hR)) ?_; refine yv (y_loadR1 ag3 rfl (by exact hR) (by rfl)) ?_; refine yv (y_eqlT rfl rfl) ?_; refine yv y_mv ?_; apply Hd.andg 6 38 44 [] rfl trivial
   ·intro hg4_38
    try simp only [hyA, hyB, hyC, ne_eq] at hg4_38
    simp only [List.take]; refine y2 y_mv ?_; refine y2 y_mv ?_; refine y2 (y_idxR Tryz.underlying44 sz3 rfl rfl (by exact (show (1 : Nat) < _ by omega)) (by exact hR)) ?_; refine y2 (y_loadR1 ag3 rfl (by exact hR) (by rfl)) ?_; refine y2 (y_eqlT rfl rfl) ?_; refine yv (y_pickT rfl rfl) ?_; refine Hd.nil ?_; exact Hd.mq
   ·intro hg4_38
    try simp only [hyA, hyB, hyC, ne_eq] at hg4_38
    simp only [List.take]; refine n1 ?_; refine n1 ?_; refine n1 ?_; refine n1 ?_; refine n1 ?_; refine yv (y_pickF rfl rfl) ?_; refine Hd.nil ?_; exact Hd.mq
   simp only [List.drop]; refine yv y_as ?_; refine fk [(12, _)] hK7 ?_; refine Hd.ret ?_; refine Hd.thenRet ?_; exact Hd.ret1 rfl () (by rfl) sq
  ·
   try simp only [hyA, hyB, hyC, ne_eq] at hc1
   obtain ⟨rfl, rfl⟩ : t = [] ∧ b = wire := by
    rcases ht with h1 | ⟨g, rfl, _⟩
    ·exact h1
    ·exact absurd rfl hc1
   refine Hd.skip ?_; refine Hd.toK hK5 ?_; refine sr fun _ hK8 => ?_
   refine yv y_mv ?_; refine yv y_mv ?_; refine yv (y_idxR Tryz.underlying44 sz3 rfl rfl (by exact (show (0 : Nat) < _ by omega)) (by exact hR)) ?_; refine yv (y_loadR1 ag3 rfl (by exact hR) (by rfl)) ?_; refine yv (y_eqlT rfl rfl) ?_; refine yv y_mv ?_; apply Hd.andg 4 50 54 [] rfl trivial
   ·intro hg5_50
    try simp only [hyA, hyB, hyC, ne_eq] at hg5_50
    simp only [List.take]; refine y2 y_mv ?_; refine y2 y_mv ?_; refine y2 (y_eqlT rfl rfl) ?_; refine yv (y_pickT rfl rfl) ?_; refine Hd.nil ?_; exact Hd.mq
   ·intro hg5_50
    try simp only [hyA, hyB, hyC, ne_eq] at hg5_50
    simp only [List.take]; refine n1 ?_; refine n1 ?_; refine n1 ?_; refine yv (y_pickF rfl rfl) ?_; refine Hd.nil ?_; exact Hd.mq
   simp only [List.drop]; refine yv y_as ?_; refine fk [(12, _)] hK8 ?_; refine Hd.ret ?_; exact Hd.ret1 rfl () (by rfl) sq
theorem do_ct (L : List SP) (pb wb rb : Nat) (w : WA) (K : Nat) (hK : K ≤ 100000000) (hl : Lo K w) (o : Ov) (ht : InK .u64 o.t) (hd : o.d.length ≤ 300) (hR : RdS L 1 o.ad o.d.length (bsl o.d)) (hc : o.d.length ≤ o.c) : Ct Tryz.prog 17 #[.pointer (some ⟨pb, 0, none⟩), .agg (encO o).toArray] (BoP pb wb rb :: WorldP wb w :: Rf.RwP rb w :: L) (fun _ : Unit => .bool true) (fun _ : Unit => BoP pb wb rb :: WorldP wb (doA w o) :: Rf.RwP rb (doA w o) :: L) := by
 refine Ct.of (vs := [.pointer (some ⟨pb, 0, none⟩), .agg (encO o).toArray]) Tryz.func17 rfl rfl [(0, .pointer (some ⟨pb, 0, none⟩)), (1, .agg (encO o).toArray)] sbq ?_; intro E
 show Hd E 289 _ _ _ _
 have ht0 := ht
 simp only [InK] at ht
 have hnow := hl.now
 refine Hd.wokW (.there .here) (fun hw => ?_); refine sr fun _ hK1 => ?_
 refine Hd.box rfl rfl (fun b3 => ?_); refine yv y_as ?_; refine fk [(0, _), (3, _)] hK1 ?_; refine sr fun _ hK2 => ?_
 refine Hd.bslice (vs := []) rfl (by exact bs17_31 ..) (fun b31 => ?_); refine Hd.ownNil 5 1 (some ⟨b31, 0, none⟩) ?_; refine yv (y_f 4 31 Tryz.underlying33 sz31) ?_; refine yv (y_l1 ag31 rfl) ?_; refine Hd.append Tryz.underlying31 ty5 rfl rfl rfl pkk (by exact RdS.mono hR sq) (by simp [Value.oneCell']; done) (by simp only [maxLen]; omega) (by omega) (fun ad34 cap34 => ?_); refine yv y_as ?_; refine Hd.nil ?_; rw [Nat.zero_add, List.nil_append]; refine sk [(0, _), (3, _), (5, _)] hK2 ?_; refine Hd.seq fun _ hK3 => ?_
 refine Hd.ownCap (ad := ad34) (us := bsl o.d) pkk (fun hcap => ?_); refine Hd.region ?_; refine yv y_as ?_; refine fk [(0, _), (3, _), (5, _)] hK3 ?_; refine Hd.cutK (ι := Unit) [(5, _)] (fun _ => [(6, .bool true)]) (fun _ => own 5 1 ad34 o.d.length cap34 (bsl o.d) :: BoP pb wb rb :: WorldP wb (doA w o) :: Rf.RwP rb (doA w o) :: L) ?_ ?_ ⟨rfl, trivial⟩
 ·
  refine sr fun _ hK4 => ?_
  refine yv (y_f 0 3 Tryz.underlying33 sz3) ?_; refine yv (y_l1 ag3 rfl) ?_; refine fk [(0, _), (3, _), (5, _), (36, _)] hK4 ?_; refine Hd.block ?_; refine Hd.seq fun _ hK5 => ?_
  refine sr fun _ hK6 => ?_
  refine yv (y_eql rfl rfl) ?_; refine yv y_as ?_; refine fk [(0, _), (3, _), (5, _), (36, _), (41, _)] hK6 ?_; refine Hd.cond rfl (fun hc0 => ?_) (fun hc0 => ?_)
  ·
   try simp only [hyA, hyB, hyC, ne_eq] at hc0
   rw [decide_eq_true hc0]; refine Hd.skip ?_; refine Hd.toK hK5 ?_; refine Hd.condT rfl ?_; refine sr fun _ hK7 => ?_
   refine yv y_as ?_; refine yv y_as ?_; refine fk [(0, _), (3, _), (5, _)] hK7 ?_; refine sr fun _ hK8 => ?_
   refine yv y_as ?_; refine fk [(0, _), (3, _), (5, _)] hK8 ?_; refine Hd.seq fun _ hK9 => ?_
   refine sr fun _ hK10 => ?_
   refine yv (y_f 0 3 Tryz.underlying33 sz3) ?_; refine yv (y_l1 ag3 rfl) ?_; refine fk [(0, _), (3, _), (5, _), (47, _)] hK10 ?_; refine Hd.block ?_; refine sr fun _ hK11 => ?_
   refine yv (y_eql rfl rfl) ?_; refine yv y_as ?_; refine fk [(0, _), (3, _), (5, _), (47, _), (59, _)] hK11 ?_; refine Hd.cond rfl (fun hc4 => ?_) (fun hc4 => ?_)
   ·
    try simp only [hyA, hyB, hyC, ne_eq] at hc4
    refine Hd.drawsH ([BoP pb wb rb, pt b3 (encO o) 33]) (fun _ => true) mixed ?_; simp only [List.length, Nat.zero_add, Nat.reduceAdd]; refine tH 0 rfl y_mv ?_; refine tH 1 rfl y_np ?_; refine tH 2 rfl (y_f 0 38 Tryz.underlying41 sz38) ?_; refine tH 3 rfl (y_l1 ag38 rfl) ?_; refine tH 4 rfl (y_f 2 3 Tryz.underlying33 sz3) ?_; refine tH 5 rfl (y_l1 ag3 rfl) ?_; refine onlyH 6 rfl kq ?_; refine callE rfl fk54 (wmk0_ct _ wb w o.k o.n (by omega)) sq ?_; intro _; refine Hd.nil ?_; refine thenN ?_; refine heldK (J := (fun _ => true)) (i := 6) sq ?_; refine tH 7 rfl y_mv ?_; refine tH 8 rfl y_ex ?_; refine tH 9 rfl y_ex ?_; refine tH 10 rfl y_ex ?_; refine tH 11 rfl y_as ?_; refine tH 12 rfl y_as ?_; refine tH 13 rfl y_as ?_; refine endH kq ?_; refine slots [(0, _), (3, _), (5, _), (7, _), (8, _), (9, _)] sbq ?_; refine Hd.inB ?_; refine Hd.toK hK9 ?_; refine Hd.seq fun _ hK12 => ?_
    refine Hd.drawsH ([BoP pb wb rb, pt b3 (encO o) 33]) (fun _ => true) mixed ?_; simp only [List.length, Nat.zero_add, Nat.reduceAdd]; refine tH 0 rfl y_mv ?_; refine tH 1 rfl y_np ?_; refine tH 2 rfl (y_f 1 39 Tryz.underlying41 sz39) ?_; refine tH 3 rfl (y_l1 ag39 rfl) ?_; refine tH 4 rfl (y_f 0 3 Tryz.underlying33 sz3) ?_; refine tH 5 rfl (y_l1 ag3 rfl) ?_; refine tH 6 rfl (y_f 2 3 Tryz.underlying33 sz3) ?_; refine tH 7 rfl (y_l1 ag3 rfl) ?_; refine onlyH 8 rfl kq ?_; refine callE rfl fk57 (Rf.rMake_ct _ rb w hw o.k o.n (by omega)) sq ?_; rintro ⟨ma, mc⟩; dsimp only; refine Hd.nil ?_; refine thenN ?_; refine heldK (J := (fun _ => true)) (i := 8) sq ?_; refine tH 9 rfl y_mv ?_; refine tH 10 rfl y_ex ?_; refine tH 11 rfl y_ex ?_; refine tH 12 rfl y_as ?_; refine tH 13 rfl y_as ?_; refine endH kq ?_; refine sk [(0, _), (5, _), (7, _), (8, _), (9, _), (10, _), (11, _)] hK12 ?_; refine Hd.wokW (wb := wb) (w := makeR w o.k o.n) pkk (fun hw2 => ?_)
    refine Rf.Hd.rw (b := rb) (w := makeR w o.k o.n) pkk (fun i hi => ?_)
    have hrl := Rf.rows_n hi
    have hlen := hw2.len
    refine Hd.region ?_; refine yv y_mv ?_; refine yv y_mv ?_; refine yv y_mv ?_; refine yv y_mv ?_; refine yv y_mv ?_; refine yv y_np ?_; refine yv (y_f 1 39 Tryz.underlying41 sz39) ?_; refine yv (y_l1 ag39 rfl) ?_; refine yv y_np ?_; refine yv (y_f 0 129 Tryz.underlying133 sz129) ?_; refine yv (y_l1 ag129 rfl) ?_; refine yv (y_len Tryz.underlying129 rfl) ?_; refine yv (y_to (v' := .int .i64 (((makeR w o.k o.n).ws.length : Nat) - 1)) (y_subn rfl rfl (by simp only [InK]; omega)) (by (congr 1; omega))) ?_; refine yv y_mv ?_; refine callE rfl fk58 (made_ct _ _ _ _ _ _ ma mc ?hD (made_ok w (k := o.k) (by omega) o.n)) sq ?_
    case hD => exact RdS.own pkk
    intro _; refine yv y_as ?_; refine Hd.nil ?_; refine slots [(5, _), (6, _)] sbq ?_; refine Hd.inB ?_; refine thenN ?_; rw [do_mk ⟨by omega, by omega⟩]; exact Hd.meet () sbq (Ent.sep (.pick pkk (.pick pkk (.pick pkk (.ex i (.pure hi enn))))))
   ·
    try simp only [hyA, hyB, hyC, ne_eq] at hc4
    exact absurd hc0 hc4
  ·
   try simp only [hyA, hyB, hyC, ne_eq] at hc0
   refine sr fun _ hK13 => ?_
   refine yv (y_eql rfl rfl) ?_; refine yv y_as ?_; refine fk [(0, _), (3, _), (5, _), (36, _), (41, _)] hK13 ?_; refine Hd.cond rfl (fun hc1 => ?_) (fun hc1 => ?_)
   ·
    try simp only [hyA, hyB, hyC, ne_eq] at hc1
    rw [decide_eq_true hc1]; refine Hd.skip ?_; refine Hd.toK hK5 ?_; refine Hd.condT rfl ?_; refine sr fun _ hK14 => ?_
    refine yv y_as ?_; refine yv y_as ?_; refine fk [(0, _), (3, _), (5, _)] hK14 ?_; refine sr fun _ hK15 => ?_
    refine yv y_as ?_; refine fk [(0, _), (3, _), (5, _)] hK15 ?_; refine Hd.seq fun _ hK16 => ?_
    refine sr fun _ hK17 => ?_
    refine yv (y_f 0 3 Tryz.underlying33 sz3) ?_; refine yv (y_l1 ag3 rfl) ?_; refine fk [(0, _), (3, _), (5, _), (47, _)] hK17 ?_; refine Hd.block ?_; refine sr fun _ hK18 => ?_
    refine yv (y_eql rfl rfl) ?_; refine yv y_as ?_; refine fk [(0, _), (3, _), (5, _), (47, _), (59, _)] hK18 ?_; refine Hd.cond rfl (fun hc4 => ?_) (fun hc4 => ?_)
    ·
     try simp only [hyA, hyB, hyC, ne_eq] at hc4
     exact absurd (hc4.symm.trans hc1) (by decide)
    ·
     try simp only [hyA, hyB, hyC, ne_eq] at hc4
     refine sr fun _ hK19 => ?_
     refine yv (y_eql rfl rfl) ?_; refine yv y_as ?_; refine fk [(0, _), (3, _), (5, _), (47, _), (72, _)] hK19 ?_; refine Hd.cond rfl (fun hc5 => ?_) (fun hc5 => ?_)
     ·
      try simp only [hyA, hyB, hyC, ne_eq] at hc5
      refine Hd.drawsH ([BoP pb wb rb, pt b3 (encO o) 33]) (fun _ => true) mixed ?_; simp only [List.length, Nat.zero_add, Nat.reduceAdd]; refine tH 0 rfl y_mv ?_; refine tH 1 rfl y_np ?_; refine tH 2 rfl (y_f 0 38 Tryz.underlying41 sz38) ?_; refine tH 3 rfl (y_l1 ag38 rfl) ?_; refine tH 4 rfl (y_f 2 3 Tryz.underlying33 sz3) ?_; refine tH 5 rfl (y_l1 ag3 rfl) ?_; refine onlyH 6 rfl kq ?_; refine callE rfl fk55 (wmk1_ct _ wb w o.k o.n (by omega)) sq ?_; intro _; refine Hd.nil ?_; refine thenN ?_; refine heldK (J := (fun _ => true)) (i := 6) sq ?_; refine tH 7 rfl y_mv ?_; refine tH 8 rfl y_ex ?_; refine tH 9 rfl y_ex ?_; refine tH 10 rfl y_ex ?_; refine tH 11 rfl y_as ?_; refine tH 12 rfl y_as ?_; refine tH 13 rfl y_as ?_; refine endH kq ?_; refine slots [(0, _), (3, _), (5, _), (7, _), (8, _), (9, _)] sbq ?_; refine Hd.inB ?_; refine Hd.toK hK16 ?_; refine Hd.seq fun _ hK20 => ?_
      refine Hd.drawsH ([BoP pb wb rb, pt b3 (encO o) 33]) (fun _ => true) mixed ?_; simp only [List.length, Nat.zero_add, Nat.reduceAdd]; refine tH 0 rfl y_mv ?_; refine tH 1 rfl y_np ?_; refine tH 2 rfl (y_f 1 39 Tryz.underlying41 sz39) ?_; refine tH 3 rfl (y_l1 ag39 rfl) ?_; refine tH 4 rfl (y_f 0 3 Tryz.underlying33 sz3) ?_; refine tH 5 rfl (y_l1 ag3 rfl) ?_; refine tH 6 rfl (y_f 2 3 Tryz.underlying33 sz3) ?_; refine tH 7 rfl (y_l1 ag3 rfl) ?_; refine onlyH 8 rfl kq ?_; refine callE rfl fk57 (Rf.rMake_ct _ rb w hw o.k o.n (by omega)) sq ?_; rintro ⟨ma, mc⟩; dsimp only; refine Hd.nil ?_; refine thenN ?_; refine heldK (J := (fun _ => true)) (i := 8) sq ?_; refine tH 9 rfl y_mv ?_; refine tH 10 rfl y_ex ?_; refine tH 11 rfl y_ex ?_; refine tH 12 rfl y_as ?_; refine tH 13 rfl y_as ?_; refine endH kq ?_; refine sk [(0, _), (5, _), (7, _), (8, _), (9, _), (10, _), (11, _)] hK20 ?_; refine Hd.wokW (wb := wb) (w := makeR w o.k o.n) pkk (fun hw2 => ?_)
      refine Rf.Hd.rw (b := rb) (w := makeR w o.k o.n) pkk (fun i hi => ?_)
      have hrl := Rf.rows_n hi
      have hlen := hw2.len
      refine Hd.region ?_; refine yv y_mv ?_; refine yv y_mv ?_; refine yv y_mv ?_; refine yv y_mv ?_; refine yv y_mv ?_; refine yv y_np ?_; refine yv (y_f 1 39 Tryz.underlying41 sz39) ?_; refine yv (y_l1 ag39 rfl) ?_; refine yv y_np ?_; refine yv (y_f 0 129 Tryz.underlying133 sz129) ?_; refine yv (y_l1 ag129 rfl) ?_; refine yv (y_len Tryz.underlying129 rfl) ?_; refine yv (y_to (v' := .int .i64 (((makeR w o.k o.n).ws.length : Nat) - 1)) (y_subn rfl rfl (by simp only [InK]; omega)) (by (congr 1; omega))) ?_; refine yv y_mv ?_; refine callE rfl fk58 (made_ct _ _ _ _ _ _ ma mc ?hD (made_ok w (k := o.k) (by omega) o.n)) sq ?_
      case hD => exact RdS.own pkk
      intro _; refine yv y_as ?_; refine Hd.nil ?_; refine slots [(5, _), (6, _)] sbq ?_; refine Hd.inB ?_; refine thenN ?_; rw [do_mk ⟨by omega, by omega⟩]; exact Hd.meet () sbq (Ent.sep (.pick pkk (.pick pkk (.pick pkk (.ex i (.pure hi enn))))))
     ·
      try simp only [hyA, hyB, hyC, ne_eq] at hc5
      exact absurd hc1 hc5
   ·
    try simp only [hyA, hyB, hyC, ne_eq] at hc1
    refine sr fun _ hK21 => ?_
    refine yv (y_eql rfl rfl) ?_; refine yv y_as ?_; refine fk [(0, _), (3, _), (5, _), (36, _), (41, _)] hK21 ?_; refine Hd.cond rfl (fun hc2 => ?_) (fun hc2 => ?_)
    ·
     try simp only [hyA, hyB, hyC, ne_eq] at hc2
     rw [decide_eq_true hc2]; refine Hd.skip ?_; refine Hd.toK hK5 ?_; refine Hd.condT rfl ?_; refine sr fun _ hK22 => ?_
     refine yv y_as ?_; refine yv y_as ?_; refine fk [(0, _), (3, _), (5, _)] hK22 ?_; refine sr fun _ hK23 => ?_
     refine yv y_as ?_; refine fk [(0, _), (3, _), (5, _)] hK23 ?_; refine Hd.seq fun _ hK24 => ?_
     refine sr fun _ hK25 => ?_
     refine yv (y_f 0 3 Tryz.underlying33 sz3) ?_; refine yv (y_l1 ag3 rfl) ?_; refine fk [(0, _), (3, _), (5, _), (47, _)] hK25 ?_; refine Hd.block ?_; refine sr fun _ hK26 => ?_
     refine yv (y_eql rfl rfl) ?_; refine yv y_as ?_; refine fk [(0, _), (3, _), (5, _), (47, _), (59, _)] hK26 ?_; refine Hd.cond rfl (fun hc4 => ?_) (fun hc4 => ?_)
     ·
      try simp only [hyA, hyB, hyC, ne_eq] at hc4
      exact absurd (hc4.symm.trans hc2) (by decide)
     ·
      try simp only [hyA, hyB, hyC, ne_eq] at hc4
      refine sr fun _ hK27 => ?_
      refine yv (y_eql rfl rfl) ?_; refine yv y_as ?_; refine fk [(0, _), (3, _), (5, _), (47, _), (72, _)] hK27 ?_; refine Hd.cond rfl (fun hc5 => ?_) (fun hc5 => ?_)
      ·
       try simp only [hyA, hyB, hyC, ne_eq] at hc5
       exact absurd (hc5.symm.trans hc2) (by decide)
      ·
       try simp only [hyA, hyB, hyC, ne_eq] at hc5
       refine sr fun _ hK28 => ?_
       refine yv (y_eql rfl rfl) ?_; refine yv y_as ?_; refine fk [(0, _), (3, _), (5, _), (85, _)] hK28 ?_; refine Hd.cond rfl (fun hc6 => ?_) (fun hc6 => ?_)
       ·
        try simp only [hyA, hyB, hyC, ne_eq] at hc6
        refine Hd.drawsH ([BoP pb wb rb, pt b3 (encO o) 33]) (fun _ => true) mixed ?_; simp only [List.length, Nat.zero_add, Nat.reduceAdd]; refine tH 0 rfl y_mv ?_; refine tH 1 rfl y_np ?_; refine tH 2 rfl (y_f 0 38 Tryz.underlying41 sz38) ?_; refine tH 3 rfl (y_l1 ag38 rfl) ?_; refine tH 4 rfl (y_f 2 3 Tryz.underlying33 sz3) ?_; refine tH 5 rfl (y_l1 ag3 rfl) ?_; refine onlyH 6 rfl kq ?_; refine callE rfl fk50 (wmk2_ct _ wb w o.k o.n (by omega)) sq ?_; intro _; refine Hd.nil ?_; refine thenN ?_; refine heldK (J := (fun _ => true)) (i := 6) sq ?_; refine tH 7 rfl y_mv ?_; refine tH 8 rfl y_ex ?_; refine tH 9 rfl y_ex ?_; refine tH 10 rfl y_ex ?_; refine tH 11 rfl y_as ?_; refine tH 12 rfl y_as ?_; refine tH 13 rfl y_as ?_; refine endH kq ?_; refine slots [(0, _), (3, _), (5, _), (7, _), (8, _), (9, _)] sbq ?_; refine Hd.inB ?_; refine Hd.toK hK24 ?_; refine Hd.seq fun _ hK29 => ?_
        refine Hd.drawsH ([BoP pb wb rb, pt b3 (encO o) 33]) (fun _ => true) mixed ?_; simp only [List.length, Nat.zero_add, Nat.reduceAdd]; refine tH 0 rfl y_mv ?_; refine tH 1 rfl y_np ?_; refine tH 2 rfl (y_f 1 39 Tryz.underlying41 sz39) ?_; refine tH 3 rfl (y_l1 ag39 rfl) ?_; refine tH 4 rfl (y_f 0 3 Tryz.underlying33 sz3) ?_; refine tH 5 rfl (y_l1 ag3 rfl) ?_; refine tH 6 rfl (y_f 2 3 Tryz.underlying33 sz3) ?_; refine tH 7 rfl (y_l1 ag3 rfl) ?_; refine onlyH 8 rfl kq ?_; refine callE rfl fk57 (Rf.rMake_ct _ rb w hw o.k o.n (by omega)) sq ?_; rintro ⟨ma, mc⟩; dsimp only; refine Hd.nil ?_; refine thenN ?_; refine heldK (J := (fun _ => true)) (i := 8) sq ?_; refine tH 9 rfl y_mv ?_; refine tH 10 rfl y_ex ?_; refine tH 11 rfl y_ex ?_; refine tH 12 rfl y_as ?_; refine tH 13 rfl y_as ?_; refine endH kq ?_; refine sk [(0, _), (5, _), (7, _), (8, _), (9, _), (10, _), (11, _)] hK29 ?_; refine Hd.wokW (wb := wb) (w := makeR w o.k o.n) pkk (fun hw2 => ?_)
        refine Rf.Hd.rw (b := rb) (w := makeR w o.k o.n) pkk (fun i hi => ?_)
        have hrl := Rf.rows_n hi
        have hlen := hw2.len
        refine Hd.region ?_; refine yv y_mv ?_; refine yv y_mv ?_; refine yv y_mv ?_; refine yv y_mv ?_; refine yv y_mv ?_; refine yv y_np ?_; refine yv (y_f 1 39 Tryz.underlying41 sz39) ?_; refine yv (y_l1 ag39 rfl) ?_; refine yv y_np ?_; refine yv (y_f 0 129 Tryz.underlying133 sz129) ?_; refine yv (y_l1 ag129 rfl) ?_; refine yv (y_len Tryz.underlying129 rfl) ?_; refine yv (y_to (v' := .int .i64 (((makeR w o.k o.n).ws.length : Nat) - 1)) (y_subn rfl rfl (by simp only [InK]; omega)) (by (congr 1; omega))) ?_; refine yv y_mv ?_; refine callE rfl fk58 (made_ct _ _ _ _ _ _ ma mc ?hD (made_ok w (k := o.k) (by omega) o.n)) sq ?_
        case hD => exact RdS.own pkk
        intro _; refine yv y_as ?_; refine Hd.nil ?_; refine slots [(5, _), (6, _)] sbq ?_; refine Hd.inB ?_; refine thenN ?_; rw [do_mk ⟨by omega, by omega⟩]; exact Hd.meet () sbq (Ent.sep (.pick pkk (.pick pkk (.pick pkk (.ex i (.pure hi enn))))))
       ·
        try simp only [hyA, hyB, hyC, ne_eq] at hc6
        exact absurd hc2 hc6
    ·
     try simp only [hyA, hyB, hyC, ne_eq] at hc2
     refine Hd.region ?_; refine yv (y_eql rfl rfl) ?_; refine yv y_as ?_; refine fk [(0, _), (3, _), (5, _), (36, _), (41, _)] hK5 ?_; refine Hd.cond rfl (fun hc3 => ?_) (fun hc3 => ?_)
     ·
      try simp only [hyA, hyB, hyC, ne_eq] at hc3
      refine sr fun _ hK30 => ?_
      refine yv y_as ?_; refine yv y_as ?_; refine fk [(0, _), (3, _), (5, _)] hK30 ?_; refine sr fun _ hK31 => ?_
      refine yv y_as ?_; refine fk [(0, _), (3, _), (5, _)] hK31 ?_; refine Hd.seq fun _ hK32 => ?_
      refine sr fun _ hK33 => ?_
      refine yv (y_f 0 3 Tryz.underlying33 sz3) ?_; refine yv (y_l1 ag3 rfl) ?_; refine fk [(0, _), (3, _), (5, _), (47, _)] hK33 ?_; refine Hd.block ?_; refine sr fun _ hK34 => ?_
      refine yv (y_eql rfl rfl) ?_; refine yv y_as ?_; refine fk [(0, _), (3, _), (5, _), (47, _), (59, _)] hK34 ?_; refine Hd.cond rfl (fun hc4 => ?_) (fun hc4 => ?_)
      ·
       try simp only [hyA, hyB, hyC, ne_eq] at hc4
       exact absurd (hc4.symm.trans hc3) (by decide)
      ·
       try simp only [hyA, hyB, hyC, ne_eq] at hc4
       refine sr fun _ hK35 => ?_
       refine yv (y_eql rfl rfl) ?_; refine yv y_as ?_; refine fk [(0, _), (3, _), (5, _), (47, _), (72, _)] hK35 ?_; refine Hd.cond rfl (fun hc5 => ?_) (fun hc5 => ?_)
       ·
        try simp only [hyA, hyB, hyC, ne_eq] at hc5
        exact absurd (hc5.symm.trans hc3) (by decide)
       ·
        try simp only [hyA, hyB, hyC, ne_eq] at hc5
        refine sr fun _ hK36 => ?_
        refine yv (y_eql rfl rfl) ?_; refine yv y_as ?_; refine fk [(0, _), (3, _), (5, _), (85, _)] hK36 ?_; refine Hd.cond rfl (fun hc6 => ?_) (fun hc6 => ?_)
        ·
         try simp only [hyA, hyB, hyC, ne_eq] at hc6
         exact absurd (hc6.symm.trans hc3) (by decide)
        ·
         try simp only [hyA, hyB, hyC, ne_eq] at hc6
         refine Hd.drawsH ([BoP pb wb rb, pt b3 (encO o) 33]) (fun _ => true) mixed ?_; simp only [List.length, Nat.zero_add, Nat.reduceAdd]; refine tH 0 rfl y_mv ?_; refine tH 1 rfl y_np ?_; refine tH 2 rfl (y_f 0 38 Tryz.underlying41 sz38) ?_; refine tH 3 rfl (y_l1 ag38 rfl) ?_; refine tH 4 rfl (y_f 2 3 Tryz.underlying33 sz3) ?_; refine tH 5 rfl (y_l1 ag3 rfl) ?_; refine onlyH 6 rfl kq ?_; refine callE rfl fk56 (wmk3_ct _ wb w o.k o.n (by omega)) sq ?_; intro _; refine Hd.nil ?_; refine thenN ?_; refine heldK (J := (fun _ => true)) (i := 6) sq ?_; refine tH 7 rfl y_mv ?_; refine tH 8 rfl y_ex ?_; refine tH 9 rfl y_ex ?_; refine tH 10 rfl y_ex ?_; refine tH 11 rfl y_as ?_; refine tH 12 rfl y_as ?_; refine tH 13 rfl y_as ?_; refine endH kq ?_; refine slots [(0, _), (3, _), (5, _), (7, _), (8, _), (9, _)] sbq ?_; refine Hd.inB ?_; refine Hd.toK hK32 ?_; refine Hd.seq fun _ hK37 => ?_
         refine Hd.drawsH ([BoP pb wb rb, pt b3 (encO o) 33]) (fun _ => true) mixed ?_; simp only [List.length, Nat.zero_add, Nat.reduceAdd]; refine tH 0 rfl y_mv ?_; refine tH 1 rfl y_np ?_; refine tH 2 rfl (y_f 1 39 Tryz.underlying41 sz39) ?_; refine tH 3 rfl (y_l1 ag39 rfl) ?_; refine tH 4 rfl (y_f 0 3 Tryz.underlying33 sz3) ?_; refine tH 5 rfl (y_l1 ag3 rfl) ?_; refine tH 6 rfl (y_f 2 3 Tryz.underlying33 sz3) ?_; refine tH 7 rfl (y_l1 ag3 rfl) ?_; refine onlyH 8 rfl kq ?_; refine callE rfl fk57 (Rf.rMake_ct _ rb w hw o.k o.n (by omega)) sq ?_; rintro ⟨ma, mc⟩; dsimp only; refine Hd.nil ?_; refine thenN ?_; refine heldK (J := (fun _ => true)) (i := 8) sq ?_; refine tH 9 rfl y_mv ?_; refine tH 10 rfl y_ex ?_; refine tH 11 rfl y_ex ?_; refine tH 12 rfl y_as ?_; refine tH 13 rfl y_as ?_; refine endH kq ?_; refine sk [(0, _), (5, _), (7, _), (8, _), (9, _), (10, _), (11, _)] hK37 ?_; refine Hd.wokW (wb := wb) (w := makeR w o.k o.n) pkk (fun hw2 => ?_)
         refine Rf.Hd.rw (b := rb) (w := makeR w o.k o.n) pkk (fun i hi => ?_)
         have hrl := Rf.rows_n hi
         have hlen := hw2.len
         refine Hd.region ?_; refine yv y_mv ?_; refine yv y_mv ?_; refine yv y_mv ?_; refine yv y_mv ?_; refine yv y_mv ?_; refine yv y_np ?_; refine yv (y_f 1 39 Tryz.underlying41 sz39) ?_; refine yv (y_l1 ag39 rfl) ?_; refine yv y_np ?_; refine yv (y_f 0 129 Tryz.underlying133 sz129) ?_; refine yv (y_l1 ag129 rfl) ?_; refine yv (y_len Tryz.underlying129 rfl) ?_; refine yv (y_to (v' := .int .i64 (((makeR w o.k o.n).ws.length : Nat) - 1)) (y_subn rfl rfl (by simp only [InK]; omega)) (by (congr 1; omega))) ?_; refine yv y_mv ?_; refine callE rfl fk58 (made_ct _ _ _ _ _ _ ma mc ?hD (made_ok w (k := o.k) (by omega) o.n)) sq ?_
         case hD => exact RdS.own pkk
         intro _; refine yv y_as ?_; refine Hd.nil ?_; refine slots [(5, _), (6, _)] sbq ?_; refine Hd.inB ?_; refine thenN ?_; rw [do_mk ⟨by omega, by omega⟩]; exact Hd.meet () sbq (Ent.sep (.pick pkk (.pick pkk (.pick pkk (.ex i (.pure hi enn))))))
     ·
      try simp only [hyA, hyB, hyC, ne_eq] at hc3
      refine sr fun _ hK38 => ?_
      refine yv (y_eql rfl rfl) ?_; refine yv y_as ?_; refine fk [(0, _), (3, _), (5, _), (36, _), (125, _)] hK38 ?_; refine Hd.cond rfl (fun hc7 => ?_) (fun hc7 => ?_)
      ·
       try simp only [hyA, hyB, hyC, ne_eq] at hc7
       refine Hd.seq fun _ hK39 => ?_
       refine Hd.drawsH ([BoP pb wb rb, pt b3 (encO o) 33]) (fun _ => true) mixed ?_; simp only [List.length, Nat.zero_add, Nat.reduceAdd]; refine tH 0 rfl y_mv ?_; refine tH 1 rfl y_np ?_; refine tH 2 rfl (y_f 0 38 Tryz.underlying41 sz38) ?_; refine tH 3 rfl (y_l1 ag38 rfl) ?_; refine tH 4 rfl (y_f 1 3 Tryz.underlying33 sz3) ?_; refine tH 5 rfl (y_l1 ag3 rfl) ?_; refine onlyH 6 rfl kq ?_; refine callE rfl fk59 (waccept_ct _ wb w o.a) sq ?_; intro _; refine Hd.nil ?_; refine thenN ?_; refine heldK (J := (fun _ => true)) (i := 6) sq ?_; refine tH 7 rfl y_mv ?_; refine tH 8 rfl y_ex ?_; refine tH 9 rfl y_ex ?_; refine tH 10 rfl y_ex ?_; refine tH 11 rfl y_as ?_; refine tH 12 rfl y_as ?_; refine tH 13 rfl y_as ?_; refine endH kq ?_; refine sk [(0, _), (3, _), (5, _), (12, _), (13, _), (14, _)] hK39 ?_; refine Hd.seq fun _ hK40 => ?_
       refine Hd.drawsH ([BoP pb wb rb, pt b3 (encO o) 33]) (fun _ => true) mixed ?_; simp only [List.length, Nat.zero_add, Nat.reduceAdd]; refine tH 0 rfl y_mv ?_; refine tH 1 rfl y_np ?_; refine tH 2 rfl (y_f 1 39 Tryz.underlying41 sz39) ?_; refine tH 3 rfl (y_l1 ag39 rfl) ?_; refine tH 4 rfl (y_f 1 3 Tryz.underlying33 sz3) ?_; refine tH 5 rfl (y_l1 ag3 rfl) ?_; refine onlyH 6 rfl kq ?_; refine callE rfl fk60 (Rf.rAccept_ct _ rb w hw o.a) sq ?_; intro _; refine Hd.nil ?_; refine thenN ?_; refine heldK (J := (fun _ => true)) (i := 6) sq ?_; refine tH 7 rfl y_mv ?_; refine tH 8 rfl y_ex ?_; refine tH 9 rfl y_ex ?_; refine tH 10 rfl y_ex ?_; refine tH 11 rfl y_as ?_; refine tH 12 rfl y_as ?_; refine tH 13 rfl y_as ?_; refine endH kq ?_; refine sk [(5, _), (12, _), (13, _), (14, _), (15, _), (16, _), (17, _)] hK40 ?_; refine Hd.region ?_; refine yv y_mv ?_; refine yv y_mv ?_; refine yv (y_eqlT rfl rfl) ?_
       refine yv y_mv ?_; apply Hd.andg 4 152 156 [(5, _), (14, _), (17, _)] rfl ⟨rfl, rfl, rfl, trivial⟩
       ·intro hg24_152
        try simp only [hyA, hyB, hyC, ne_eq] at hg24_152
        simp only [List.take]; refine y2 y_mv ?_; refine y2 y_mv ?_; refine y2 (y_eqlT rfl rfl) ?_; refine yv (y_pickT rfl rfl) ?_; refine Hd.nil ?_; exact Hd.mq
       ·intro hg24_152
        try simp only [hyA, hyB, hyC, ne_eq] at hg24_152
        simp only [List.take]; refine n1 ?_; refine n1 ?_; refine n1 ?_; refine yv (y_pickF rfl rfl) ?_; refine Hd.nil ?_; exact Hd.mq
       simp only [List.drop]; refine yv y_mv ?_; apply Hd.andg 4 157 161 [(5, _)] rfl ⟨rfl, trivial⟩
       ·intro hg24_157
        try simp only [hyA, hyB, hyC, ne_eq] at hg24_157
        simp only [List.take]; refine y2 y_mv ?_; refine y2 y_mv ?_; refine y2 (y_eqlT rfl rfl) ?_; refine yv (y_pickT rfl rfl) ?_; refine Hd.nil ?_; exact Hd.mq
       ·intro hg24_157
        try simp only [hyA, hyB, hyC, ne_eq] at hg24_157
        simp only [List.take]; refine n1 ?_; refine n1 ?_; refine n1 ?_; refine yv (y_pickF rfl rfl) ?_; refine Hd.nil ?_; exact Hd.mq
       simp only [List.drop]; refine yv y_as ?_; refine Hd.nil ?_; refine slots [(5, _), (6, _)] sbq ?_; refine Hd.inB ?_; refine thenN ?_; rw [do_4 hc7]; exact Hd.meet () (by (repeat (first | exact trivial | refine ⟨rfl, ?_⟩)); done) sq
      ·
       try simp only [hyA, hyB, hyC, ne_eq] at hc7
       refine sr fun _ hK41 => ?_
       refine yv (y_eql rfl rfl) ?_; refine yv y_as ?_; refine fk [(0, _), (3, _), (5, _), (36, _), (162, _)] hK41 ?_; refine Hd.cond rfl (fun hc8 => ?_) (fun hc8 => ?_)
       ·
        try simp only [hyA, hyB, hyC, ne_eq] at hc8
        refine Hd.seq fun _ hK42 => ?_
        refine Hd.drawsH ([BoP pb wb rb, pt b3 (encO o) 33]) (fun _ => true) mixed ?_; simp only [List.length, Nat.zero_add, Nat.reduceAdd]; refine tH 0 rfl y_mv ?_; refine tH 1 rfl y_np ?_; refine tH 2 rfl (y_f 0 38 Tryz.underlying41 sz38) ?_; refine tH 3 rfl (y_l1 ag38 rfl) ?_; refine tH 4 rfl (y_f 1 3 Tryz.underlying33 sz3) ?_; refine tH 5 rfl (y_l1 ag3 rfl) ?_; refine tH 6 rfl (y_f 2 3 Tryz.underlying33 sz3) ?_; refine tH 7 rfl (y_l1 ag3 rfl) ?_; refine onlyH 8 rfl kq ?_; refine callE rfl fk61 (wread_ct _ wb w o.a o.n) sq ?_; rintro ⟨ta, tc⟩; dsimp only; refine Hd.nil ?_; refine thenN ?_; refine heldK (J := (fun _ => true)) (i := 8) sq ?_; refine tH 9 rfl y_mv ?_; refine tH 10 rfl y_ex ?_; refine tH 11 rfl y_ex ?_; refine tH 12 rfl y_ex ?_; refine tH 13 rfl y_as ?_; refine tH 14 rfl y_as ?_; refine tH 15 rfl y_as ?_; refine endH kq ?_; refine sk [(0, _), (3, _), (5, _), (18, _), (19, _), (20, _)] hK42 ?_
        refine Hd.seq fun _ hK43 => ?_
        refine Hd.drawsH ([BoP pb wb rb, pt b3 (encO o) 33]) (fun _ => true) mixed ?_; simp only [List.length, Nat.zero_add, Nat.reduceAdd]; refine tH 0 rfl y_mv ?_; refine tH 1 rfl y_np ?_; refine tH 2 rfl (y_f 1 39 Tryz.underlying41 sz39) ?_; refine tH 3 rfl (y_l1 ag39 rfl) ?_; refine tH 4 rfl (y_f 1 3 Tryz.underlying33 sz3) ?_; refine tH 5 rfl (y_l1 ag3 rfl) ?_; refine tH 6 rfl (y_f 2 3 Tryz.underlying33 sz3) ?_; refine tH 7 rfl (y_l1 ag3 rfl) ?_; refine onlyH 8 rfl kq ?_; refine callE rfl fk62 (Rf.rRead_ct _ rb w hw o.a o.n) sq ?_; rintro ⟨ua, uc⟩; dsimp only; refine Hd.nil ?_; refine thenN ?_; refine heldK (J := (fun _ => true)) (i := 8) sq ?_; refine tH 9 rfl y_mv ?_; refine tH 10 rfl y_ex ?_; refine tH 11 rfl y_ex ?_; refine tH 12 rfl y_ex ?_; refine tH 13 rfl y_as ?_; refine tH 14 rfl y_as ?_; refine tH 15 rfl y_as ?_; refine endH kq ?_; refine sk [(5, _), (18, _), (19, _), (20, _), (21, _), (22, _), (23, _)] hK43 ?_
        refine Hd.region ?_; refine yv y_mv ?_; refine yv (y_strOf (l := _) kq Tryz.underlying9 rfl (by exact RdS.own pkk)) ?_; refine yv y_mv ?_; refine yv (y_strOf (l := _) kq Tryz.underlying9 rfl (by exact RdS.own pkk)) ?_; refine yv (y_eqlstr rfl rfl) ?_; refine yv y_mv ?_; apply Hd.andg 4 195 199 [(5, _), (20, _), (23, _)] rfl ⟨rfl, rfl, rfl, trivial⟩
        ·intro hg28_195
         try simp only [hyA, hyB, hyC, ne_eq] at hg28_195
         simp only [List.take]; refine y2 y_mv ?_; refine y2 y_mv ?_; refine y2 (y_eqlb Tryz.underlying4 rfl rfl) ?_; refine yv (y_pickT rfl rfl) ?_; refine Hd.nil ?_; exact Hd.mq
        ·intro hg28_195
         try simp only [hyA, hyB, hyC, ne_eq] at hg28_195
         simp only [List.take]; refine n1 ?_; refine n1 ?_; refine n1 ?_; refine yv (y_pickF rfl rfl) ?_; refine Hd.nil ?_; exact Hd.mq
        simp only [List.drop]; refine yv y_mv ?_; apply Hd.andg 4 200 204 [(5, _)] rfl ⟨rfl, trivial⟩
        ·intro hg28_200
         try simp only [hyA, hyB, hyC, ne_eq] at hg28_200
         simp only [List.take]; refine y2 y_mv ?_; refine y2 y_mv ?_; refine y2 (y_eqlT rfl rfl) ?_; refine yv (y_pickT rfl rfl) ?_; refine Hd.nil ?_; exact Hd.mq
        ·intro hg28_200
         try simp only [hyA, hyB, hyC, ne_eq] at hg28_200
         simp only [List.take]; refine n1 ?_; refine n1 ?_; refine n1 ?_; refine yv (y_pickF rfl rfl) ?_; refine Hd.nil ?_; exact Hd.mq
        simp only [List.drop]; refine yv y_as ?_; refine Hd.nil ?_; refine slots [(5, _), (6, _)] sbq ?_; refine Hd.inB ?_; refine thenN ?_; rw [do_5 hc8]; exact Hd.meet () (by simp; repeat (first | exact trivial | refine ⟨rfl, ?_⟩)) sq
       ·
        try simp only [hyA, hyB, hyC, ne_eq] at hc8
        refine sr fun _ hK44 => ?_
        refine yv (y_eql rfl rfl) ?_; refine yv y_as ?_; refine fk [(0, _), (3, _), (5, _), (36, _), (205, _)] hK44 ?_; refine Hd.cond rfl (fun hc9 => ?_) (fun hc9 => ?_)
        ·
         try simp only [hyA, hyB, hyC, ne_eq] at hc9
         refine Hd.seq fun _ hK45 => ?_
         refine Hd.drawsH ([BoP pb wb rb, pt b3 (encO o) 33]) (fun _ => true) mixed ?_; simp only [List.length, Nat.zero_add, Nat.reduceAdd]; refine tH 0 rfl y_mv ?_; refine tH 1 rfl y_np ?_; refine tH 2 rfl (y_f 0 38 Tryz.underlying41 sz38) ?_; refine tH 3 rfl (y_l1 ag38 rfl) ?_; refine tH 4 rfl (y_f 1 3 Tryz.underlying33 sz3) ?_; refine tH 5 rfl (y_l1 ag3 rfl) ?_; refine tH 6 rfl y_mv ?_; refine onlyH 7 rfl kq ?_; refine callE rfl fk63 (wwrite_ct _ wb w o.a ad34 o.d.length cap34 o.d rfl ?hD (by omega) hcap) sq ?_
         case hD => exact RdS.own pkk
         intro _; refine Hd.nil ?_; refine thenN ?_; refine heldK (J := (fun _ => true)) (i := 7) sq ?_; refine tH 8 rfl y_mv ?_; refine tH 9 rfl y_ex ?_; refine tH 10 rfl y_ex ?_; refine tH 11 rfl y_as ?_; refine tH 12 rfl y_as ?_; refine endH kq ?_; refine sk [(0, _), (3, _), (5, _), (24, _), (25, _)] hK45 ?_; refine Hd.seq fun _ hK46 => ?_
         refine Hd.drawsH ([BoP pb wb rb, pt b3 (encO o) 33]) (fun _ => true) mixed ?_; simp only [List.length, Nat.zero_add, Nat.reduceAdd]; refine tH 0 rfl y_mv ?_; refine tH 1 rfl y_np ?_; refine tH 2 rfl (y_f 1 39 Tryz.underlying41 sz39) ?_; refine tH 3 rfl (y_l1 ag39 rfl) ?_; refine tH 4 rfl (y_f 1 3 Tryz.underlying33 sz3) ?_; refine tH 5 rfl (y_l1 ag3 rfl) ?_; refine tH 6 rfl (y_f 4 31 Tryz.underlying33 sz31) ?_; refine tH 7 rfl (y_l1 ag31 rfl) ?_; refine onlyH 8 rfl kq ?_; refine callE rfl fk64 (Rf.rWrite_ct _ rb w hw o.a o.ad o.d.length o.c o.d rfl ?hD (by omega) hc) sq ?_
         case hD => exact RdS.mono hR sq
         intro _; refine Hd.nil ?_; refine thenN ?_; refine heldK (J := (fun _ => true)) (i := 8) sq ?_; refine tH 9 rfl y_mv ?_; refine tH 10 rfl y_ex ?_; refine tH 11 rfl y_ex ?_; refine tH 12 rfl y_as ?_; refine tH 13 rfl y_as ?_; refine endH kq ?_; refine sk [(5, _), (24, _), (25, _), (26, _), (27, _)] hK46 ?_; refine Hd.region ?_; refine yv y_mv ?_; refine yv y_mv ?_; refine yv (y_eqlT rfl rfl) ?_; refine yv y_mv ?_; apply Hd.andg 4 233 237 [(5, _)] rfl ⟨rfl, trivial⟩
         ·intro hg32_233
          try simp only [hyA, hyB, hyC, ne_eq] at hg32_233
          simp only [List.take]; refine y2 y_mv ?_; refine y2 y_mv ?_; refine y2 (y_eqlT rfl rfl) ?_; refine yv (y_pickT rfl rfl) ?_; refine Hd.nil ?_; exact Hd.mq
         ·intro hg32_233
          try simp only [hyA, hyB, hyC, ne_eq] at hg32_233
          simp only [List.take]; refine n1 ?_; refine n1 ?_; refine n1 ?_; refine yv (y_pickF rfl rfl) ?_; refine Hd.nil ?_; exact Hd.mq
         simp only [List.drop]; refine yv y_as ?_; refine Hd.nil ?_; refine slots [(5, _), (6, _)] sbq ?_; refine Hd.inB ?_; refine thenN ?_; rw [do_6 hc9]; exact Hd.meet () (by (repeat (first | exact trivial | refine ⟨rfl, ?_⟩)); done) sq
        ·
         try simp only [hyA, hyB, hyC, ne_eq] at hc9
         refine sr fun _ hK47 => ?_
         refine yv (y_eql rfl rfl) ?_; refine yv y_as ?_; refine fk [(0, _), (3, _), (5, _), (36, _), (238, _)] hK47 ?_; refine Hd.cond rfl (fun hc10 => ?_) (fun hc10 => ?_)
         ·
          try simp only [hyA, hyB, hyC, ne_eq] at hc10
          refine Hd.seq fun _ hK48 => ?_
          refine Hd.drawsH ([BoP pb wb rb, pt b3 (encO o) 33]) (fun _ => true) mixed ?_; simp only [List.length, Nat.zero_add, Nat.reduceAdd]; refine tH 0 rfl y_mv ?_; refine tH 1 rfl y_np ?_; refine tH 2 rfl (y_f 0 38 Tryz.underlying41 sz38) ?_; refine tH 3 rfl (y_l1 ag38 rfl) ?_; refine tH 4 rfl (y_f 1 3 Tryz.underlying33 sz3) ?_; refine tH 5 rfl (y_l1 ag3 rfl) ?_; refine onlyH 6 rfl kq ?_; refine callE rfl fk65 (wshut_ct _ wb w o.a) sq ?_; intro _; refine Hd.nil ?_; refine thenN ?_; refine heldK (J := (fun _ => true)) (i := 6) sq ?_; refine tH 7 rfl y_as ?_; refine endH kq ?_; refine sk [(0, _), (3, _), (5, _), (28, _)] hK48 ?_; refine Hd.drawsH ([BoP pb wb rb, pt b3 (encO o) 33]) (fun _ => true) mixed ?_; simp only [List.length, Nat.zero_add, Nat.reduceAdd]; refine tH 0 rfl y_mv ?_; refine tH 1 rfl y_mv ?_; refine tH 2 rfl y_np ?_; refine tH 3 rfl (y_f 1 39 Tryz.underlying41 sz39) ?_; refine tH 4 rfl (y_l1 ag39 rfl) ?_
          refine tH 5 rfl (y_f 1 3 Tryz.underlying33 sz3) ?_; refine tH 6 rfl (y_l1 ag3 rfl) ?_; refine onlyH 7 rfl kq ?_; refine callE rfl fk66 (Rf.rShut_ct _ rb w hw o.a) sq ?_; intro _; refine Hd.nil ?_; refine thenN ?_; refine heldK (J := (fun _ => true)) (i := 7) sq ?_; refine tH 8 rfl (y_eqlT rfl rfl) ?_; refine tH 9 rfl y_as ?_; refine endH kq ?_; refine slots [(5, _), (6, _)] sbq ?_; refine Hd.inB ?_; refine thenN ?_; rw [do_7 hc10]; exact Hd.meet () (by (repeat (first | exact trivial | refine ⟨rfl, ?_⟩)); done) sq
         ·
          try simp only [hyA, hyB, hyC, ne_eq] at hc10
          refine sr fun _ hK49 => ?_
          refine yv (y_eql rfl rfl) ?_; refine yv y_as ?_; refine fk [(0, _), (3, _), (5, _), (256, _)] hK49 ?_; refine Hd.cond rfl (fun hc11 => ?_) (fun hc11 => ?_)
          ·
           try simp only [hyA, hyB, hyC, ne_eq] at hc11
           refine Hd.seq fun _ hK50 => ?_
           refine Hd.drawsH ([BoP pb wb rb, pt b3 (encO o) 33]) (fun _ => true) mixed ?_; simp only [List.length, Nat.zero_add, Nat.reduceAdd]; refine tH 0 rfl y_mv ?_; refine tH 1 rfl y_np ?_; refine tH 2 rfl (y_f 0 38 Tryz.underlying41 sz38) ?_; refine tH 3 rfl (y_l1 ag38 rfl) ?_; refine tH 4 rfl (y_f 1 3 Tryz.underlying33 sz3) ?_; refine tH 5 rfl (y_l1 ag3 rfl) ?_; refine onlyH 6 rfl kq ?_; refine callE rfl fk67 (wclose_ct _ wb w o.a) sq ?_; intro _; refine Hd.nil ?_; refine thenN ?_; refine heldK (J := (fun _ => true)) (i := 6) sq ?_; refine tH 7 rfl y_as ?_; refine endH kq ?_; refine sk [(0, _), (3, _), (5, _), (29, _)] hK50 ?_; refine Hd.drawsH ([BoP pb wb rb, pt b3 (encO o) 33]) (fun _ => true) mixed ?_; simp only [List.length, Nat.zero_add, Nat.reduceAdd]; refine tH 0 rfl y_mv ?_; refine tH 1 rfl y_mv ?_; refine tH 2 rfl y_np ?_; refine tH 3 rfl (y_f 1 39 Tryz.underlying41 sz39) ?_; refine tH 4 rfl (y_l1 ag39 rfl) ?_
           refine tH 5 rfl (y_f 1 3 Tryz.underlying33 sz3) ?_; refine tH 6 rfl (y_l1 ag3 rfl) ?_; refine onlyH 7 rfl kq ?_; refine callE rfl fk68 (Rf.rClose_ct _ rb w hw o.a) sq ?_; intro _; refine Hd.nil ?_; refine thenN ?_; refine heldK (J := (fun _ => true)) (i := 7) sq ?_; refine tH 8 rfl (y_eqlT rfl rfl) ?_; refine tH 9 rfl y_as ?_; refine endH kq ?_; refine slots [(5, _), (6, _)] sbq ?_; refine Hd.inB ?_; refine thenN ?_; rw [do_8 hc11]; exact Hd.meet () (by (repeat (first | exact trivial | refine ⟨rfl, ?_⟩)); done) sq
          ·
           try simp only [hyA, hyB, hyC, ne_eq] at hc11
           refine Hd.region ?_; refine yv y_mv ?_; refine yv (y_loadn (us := [_, _, _, _, _]) ag33 rfl (Rd.pt pkk (by exact fun j v e => by rw [Nat.zero_add]; exact e)) (by exact sz33)) ?_; refine yv y_mv ?_; refine callE rfl fk69 (more_ct _ pb wb rb w K hK hl o (by omega) ht0 hd ?hD hc ad34 cap34 ?hD2 hcap) sq ?_
           case hD => exact RdS.mono hR sq
           case hD2 => exact RdS.own pkk
           intro _; refine yv y_as ?_; refine Hd.nil ?_; refine slots [(5, _), (6, _)] sbq ?_; refine Hd.inB ?_; refine thenN ?_; exact Hd.meet () sbq sq
 ·
  intro _; refine Hd.seq fun _ hK51 => ?_
  refine sr fun _ hK52 => ?_
  refine yv y_mv ?_; refine yv (y_len Tryz.underlying31 rfl) ?_; refine yv y_mv ?_; refine fk [(5, _), (6, _), (275, _), (276, _)] hK52 ?_; refine Hd.block ?_; refine Hd.loopK (ι := Nat × List Value) [(5, _), (6, _), (275, _)] (fun q_ => [(276, .int .i64 (q_.1 : Int))]) (fun q_ => pu (q_.1 ≤ o.d.length ∧ q_.2.length = o.d.length ∧ ∀ v ∈ q_.2, ∃ x, v = .int .u8 x) :: own 5 1 ad34 o.d.length cap34 q_.2 :: BoP pb wb rb :: WorldP wb (doA w o) :: Rf.RwP rb (doA w o) :: L) (fun q_ => o.d.length - q_.1) (0, bsl o.d) sbq sbq (Ent.sep (.pure ⟨Nat.zero_le _, by simp [bsl], fun v hv => by obtain ⟨b, _, rfl⟩ := List.mem_map.1 hv; exact ⟨_, rfl⟩⟩ enn)) ?_; rintro ⟨i, us⟩
  try dsimp only
  refine Hd.pure (fun hp0 => ?_)
  try dsimp only at hp0
  refine sr fun _ hK53 => ?_
  refine yv (y_lss rfl rfl) ?_; refine fk [(5, _), (6, _), (275, _), (276, _), (277, _)] hK53 ?_; refine Hd.seq fun _ hK54 => ?_
  refine Hd.cond rfl (fun hc12 => ?_) (fun hc12 => ?_)
  ·
   try simp only [hyA, hyB, hyC, ne_eq] at hc12
   have hi : i < o.d.length := by omega
   have hiu : i < us.length := by omega
   obtain ⟨x, hx⟩ := hp0.2.2 us[i] (List.getElem_mem hiu)
   have hg : us[i * 1]? = some (.int .u8 x) := by rw [Nat.mul_one, List.getElem?_eq_getElem hiu, hx]
   refine Hd.skip ?_; refine Hd.toK hK54 ?_; refine Hd.seq fun _ hK55 => ?_
   refine Hd.block ?_; refine sr fun _ hK56 => ?_
   refine yv y_mv ?_; refine yv y_as ?_; refine fk [(5, _), (6, _), (30, _), (275, _), (276, _)] hK56 ?_; refine Hd.region ?_; refine yv y_mv ?_; refine yv y_mv ?_; refine yv y_mv ?_; refine yv y_mv ?_; refine yv (y_idxR Tryz.underlying31 sz5 rfl rfl (by omega) (by exact RdS.own pkk)) ?_; refine yv (y_loadR1 ag5 rfl (by exact RdS.own pkk) (by exact hg)) ?_; refine yv (y_add rfl rfl) ?_; refine yv (y_idxR Tryz.underlying31 sz5 rfl rfl (by omega) (by exact RdS.own pkk)) ?_; refine Hd.storeO1 sz5 rfl rfl rfl pkk (by omega) ?_
   try simp only [List.set_cons_zero, List.set_cons_succ]
   refine Hd.nil ?_; refine slots [(5, _), (6, _), (275, _), (276, _)] sbq ?_; refine Hd.inB ?_; refine Hd.toK hK55 ?_; refine Hd.region ?_; refine yv (y_addn rfl rfl (by simp only [InK]; omega)) ?_; refine yv y_mv ?_; refine Hd.nil ?_; refine slots [(5, _), (6, _), (275, _), (276, _)] sbq ?_; refine thenN ?_
   have hnew : ∀ v ∈ us.set (i * 1) (.int .u8 (IntKind.u8.wrap (x + 1))), ∃ x, v = .int .u8 x := fun v hv => (List.mem_or_eq_of_mem_set hv).elim (fun h => hp0.2.2 v h) (fun h => ⟨_, h⟩)
   exact Hd.again (i + 1, us.set (i * 1) (.int .u8 (IntKind.u8.wrap (x + 1)))) (by omega) sbq (Ent.sep (.pure ⟨hi, by rw [List.length_set]; exact hp0.2.1, hnew⟩ enn))
  ·
   try simp only [hyA, hyB, hyC, ne_eq] at hc12
   refine Hd.exit ?_; refine Hd.thenExit ?_; refine Hd.thenExit ?_; refine Hd.inBexit ?_; refine Hd.toK hK51 ?_; refine sr fun _ hK57 => ?_
   refine yv y_mv ?_; refine yv y_as ?_; refine fk [(4, _)] hK57 ?_; refine Hd.ret ?_; exact Hd.ret1 rfl () (by rfl) sq
end Wo
end Go.Proofs.YtbfddabjbkohdaaGreat
namespace Go.Proofs.YtbfddabjbkohdaaGreat
set_option maxHeartbeats 2000000
open Go.RX.Hd (yv y2 n1 fk sk sr tH callE heldK onlyH endH thenN slots)
set_option linter.unusedSimpArgs false
set_option linter.unusedVariables false
set_option linter.unnecessarySimpa false
open Go.RX Fx
namespace Ep
open Wo
set_option maxRecDepth 8000
structure Pv where
 k : Int
 x : Ov
 fd : Int
 n : Int
 ev : Int
 ad : Option Addr
 c : Nat
 ord : List Int
abbrev encPv (p : Pv) : List Value := [.int .i64 p.k, .int .i64 p.x.k, .int .i64 p.x.a, .int .i64 p.x.n, .int .u64 p.x.t, .slice p.x.ad p.x.d.length p.x.c, .int .i64 p.fd, .int .i64 p.n, .int .i64 p.ev, .slice p.ad p.ord.length p.c]
structure PvOk (L : List SP) (p : Pv) : Prop where
 x : OvOk L p.x
 rd : RdS L 1 p.ad p.ord.length (vi p.ord)
 k : InK .i64 p.k
 fd : InK .i64 p.fd
 n : InK .i64 p.n
 ev : InK .i64 p.ev
def gP (xs : List Pv) : Int := if 150 < xs.length then 1 else if ∀ p ∈ xs, p.ord.length ≤ 60 ∧ p.x.d.length ≤ 300 then 0 else 1
theorem gP_ok {xs : List Pv} (h : ¬ 0 < gP xs) : xs.length ≤ 150 ∧ ∀ p ∈ xs, p.ord.length ≤ 60 ∧ p.x.d.length ≤ 300 := by
 unfold gP at h
 split at h
 ·exact absurd (by decide) h
 ·split at h
  ·rename_i h1 h2; exact ⟨by omega, h2⟩
  ·exact absurd (by decide) h
theorem gO_one (o : Ov) : gO [o] = if o.d.length ≤ 300 then 0 else 1 := by
 unfold gO; rw [if_neg (by simp)]
 by_cases h : o.d.length ≤ 300
 ·rw [if_pos h, if_pos (by intro q hq; obtain rfl : q = o := (by simpa using hq); exact h)]
 ·rw [if_neg h, if_neg (fun g => h (g o List.mem_cons_self))]
theorem pv_x {xs : List Pv} {i : Nat} {p : Pv} (h : xs[i]? = some p) : ∀ (j : Nat) v, (encO p.x)[j]? = some v → (xs.flatMap encPv)[i * 10 + 1 + j]? = some v := fun j v e => by
 rw [Nat.add_assoc]; refine flat_cells encPv 10 (fun _ => rfl) h (1 + j) v ?_; rw [Nat.add_comm]
 show (encO p.x ++ [Value.int .i64 p.fd, .int .i64 p.n, .int .i64 p.ev, .slice p.ad p.ord.length p.c])[j]? = some v
 rw [List.getElem?_append_left (List.getElem?_eq_some_iff.1 e).1]; exact e
theorem great15_ct (L : List SP) (ad : Option Addr) (c : Nat) (xs : List Pv) (hR : RdS L 10 ad xs.length (xs.flatMap encPv)) : Ct Tryz.prog 15 #[.slice ad xs.length c] (L) (fun _ : Unit => .int .i64 (gP xs)) (fun _ : Unit => L) := by
 refine Ct.of (vs := [.slice ad xs.length c]) Tryz.func15 rfl rfl [(0, .slice ad xs.length c)] sbq ?_; intro E
 show Hd E 30 _ _ _ _
 refine sr fun _ hK1 => ?_
 refine yv y_as ?_; refine fk [(0, _)] hK1 ?_; refine Hd.seq fun _ hK2 => ?_
 refine sr fun _ hK3 => ?_
 refine yv y_mv ?_; refine yv (y_len Tryz.underlying23 rfl) ?_; refine yv (y_gtr rfl rfl) ?_; refine fk [(0, _), (6, _)] hK3 ?_; refine Hd.cond rfl (fun hc0 => ?_) (fun hc0 => ?_)
 ·
  try simp only [hyA, hyB, hyC, ne_eq] at hc0
  refine sr fun _ hK4 => ?_
  refine yv y_as ?_; refine fk [(2, _)] hK4 ?_; refine Hd.ret ?_; refine Hd.thenRet ?_; exact Hd.ret1 rfl () (by unfold gP; rw [if_pos (by omega)]; rfl) sq
 ·
  try simp only [hyA, hyB, hyC, ne_eq] at hc0
  have hx : xs.length ≤ 150 := by omega
  refine Hd.skip ?_; refine Hd.toK hK2 ?_; refine Hd.seq fun _ hK5 => ?_
  refine sr fun _ hK6 => ?_
  refine yv y_mv ?_; refine yv (y_len Tryz.underlying23 rfl) ?_; refine yv y_mv ?_; refine fk [(0, _), (8, _), (9, _)] hK6 ?_; refine Hd.block ?_; refine Hd.loopK (ι := Nat) [(0, _), (8, _)] (fun i => [(9, .int .i64 (i : Int))]) (fun i => pu (i ≤ xs.length ∧ ∀ p ∈ xs.take i, p.ord.length ≤ 60 ∧ p.x.d.length ≤ 300) :: L) (fun i => xs.length - i) 0 sbq sbq (Ent.sep (.pure ⟨Nat.zero_le _, fun o ho => by simp at ho⟩ enn)) ?_; intro i
  try dsimp only
  refine Hd.pure (fun hp0 => ?_)
  try dsimp only at hp0
  refine sr fun _ hK7 => ?_
  refine yv (y_lss rfl rfl) ?_; refine fk [(0, _), (8, _), (9, _), (10, _)] hK7 ?_; refine Hd.seq fun _ hK8 => ?_
  refine Hd.cond rfl (fun hc1 => ?_) (fun hc1 => ?_)
  ·
   try simp only [hyA, hyB, hyC, ne_eq] at hc1
   have hi : i < xs.length := by omega
   obtain ⟨p, hp⟩ : ∃ p, xs[i]? = some p := ⟨_, List.getElem?_eq_getElem hi⟩
   refine Hd.skip ?_; refine Hd.toK hK8 ?_; refine Hd.seq fun _ hK9 => ?_
   refine Hd.block ?_; refine sr fun _ hK10 => ?_
   refine yv y_mv ?_; refine yv y_as ?_; refine fk [(0, _), (3, _), (8, _), (9, _)] hK10 ?_; refine sr fun _ hK11 => ?_
   refine yv y_mv ?_; refine yv y_mv ?_; refine yv (y_idxR Tryz.underlying23 sz46 rfl rfl (by omega) (by exact RdS.mono hR sq)) ?_; refine yv (y_fR 9 44 Tryz.underlying46 sz44) ?_; refine yv (y_loadR1 ag44 rfl (by exact RdS.mono hR sq) (by exact flat_cells encPv 10 (fun _ => rfl) hp 9 _ rfl)) ?_; refine yv (y_len Tryz.underlying44 rfl) ?_; refine yv (y_gtr rfl rfl) ?_; refine yv y_mv ?_; apply Hd.org 9 19 28 [(0, _), (8, _), (9, _)] rfl ⟨rfl, rfl, rfl, trivial⟩
   ·intro hg6_19
    try simp only [hyA, hyB, hyC, ne_eq] at hg6_19
    simp only [List.take]; refine n1 ?_; refine n1 ?_; refine n1 ?_; refine n1 ?_; refine n1 ?_; refine n1 ?_; refine n1 ?_; refine n1 ?_; refine yv (y_pickT rfl rfl) ?_; refine Hd.nil ?_; exact Hd.mq
   ·intro hg6_19
    try simp only [hyA, hyB, hyC, ne_eq] at hg6_19
    simp only [List.take]; refine y2 y_mv ?_; refine y2 y_mv ?_; refine y2 (y_idxR Tryz.underlying23 sz46 rfl rfl (by omega) (by exact RdS.mono hR sq)) ?_; refine y2 (y_fR 1 33 Tryz.underlying46 sz33) ?_; refine y2 (y_loadRn (vs := encO p.x) ag33 rfl (RdS.mono hR sq) (pv_x hp) sz33 (by simp)) ?_; refine Hd.unguard rfl rfl ?_; refine Hd.bslice (vs := [(0, _)]) rfl (by exact bs15_25 ..) (fun b25 => ?_); refine Hd.unguard rfl rfl ?_; refine callE rfl fk14 (great11_ct _ _ 1 [p.x] ?hD) sq ?_
    case hD => exact RdS.rd (Rd.pt pkk (fun j v e => by simpa using e)) rfl
    intro _; refine y2 (y_gtr rfl rfl) ?_; refine yv (y_pickF rfl rfl) ?_; refine Hd.nil ?_; exact Hd.mq
   simp only [List.drop]; refine fk [(0, _), (8, _), (9, _), (28, _)] hK11 ?_; refine Hd.cond rfl (fun hc2 => ?_) (fun hc2 => ?_)
   ·
    try simp only [hyA, hyB, hyC, ne_eq] at hc2
    refine sr fun _ hK12 => ?_
    refine yv y_as ?_; refine fk [(2, _)] hK12 ?_; refine Hd.ret ?_; refine Hd.inBret ?_; refine Hd.thenRet ?_; refine Hd.thenRet ?_; refine Hd.inBret ?_; refine Hd.thenRet ?_
    have hb : ¬ (∀ p ∈ xs, p.ord.length ≤ 60 ∧ p.x.d.length ≤ 300) := fun h => by
     have h1 := h p (List.mem_of_getElem? hp)
     have h2 : gO [p.x] = 0 := by rw [gO_one, if_pos h1.2]
     omega
    exact Hd.ret1 rfl () (by unfold gP; rw [if_neg (by omega), if_neg hb]; rfl) sq
   ·
    try simp only [hyA, hyB, hyC, ne_eq] at hc2
    refine Hd.skip ?_; refine Hd.inB ?_; refine Hd.toK hK9 ?_; refine Hd.region ?_; refine yv (y_addn rfl rfl (by simp only [InK]; omega)) ?_; refine yv y_mv ?_; refine Hd.nil ?_; refine slots [(0, _), (8, _), (9, _)] sbq ?_; refine thenN ?_
    have hnew : ∀ q ∈ xs.take (i + 1), q.ord.length ≤ 60 ∧ q.x.d.length ≤ 300 := by
     intro q hq; rw [List.take_add_one, hp] at hq
     rcases List.mem_append.1 hq with h | h
     ·exact hp0.2 q h
     ·obtain rfl : q = p := by simpa using h
      have h2 := gO_one q.x
      by_cases h3 : q.x.d.length ≤ 300
      ·exact ⟨by omega, h3⟩
      ·rw [if_neg h3] at h2; omega
    exact Hd.again (i + 1) (by omega) sbq (Ent.sep (.pure ⟨hi, hnew⟩ enn))
  ·
   try simp only [hyA, hyB, hyC, ne_eq] at hc1
   refine Hd.exit ?_; refine Hd.thenExit ?_; refine Hd.thenExit ?_; refine Hd.inBexit ?_; refine Hd.toK hK5 ?_; refine sr fun _ hK13 => ?_
   refine yv y_as ?_; refine fk [(2, _)] hK13 ?_; refine Hd.ret ?_; exact Hd.ret1 rfl () (by unfold gP; rw [if_neg (by omega), if_pos (by have h := hp0.2; rwa [List.take_of_length_le (by omega)] at h)]; rfl) sq
structure LvOk (g : Int → Option Value) (m : Nat) (S : List (Int × Int)) : Prop where
 mem : ∀ y ∈ S, g y.1 = some (.int .i64 y.2)
 no : ∀ a, a ∉ S.map Prod.fst → g a = none
 len : m = S.length
theorem LvOk.nil : LvOk (fun _ => none) 0 [] := ⟨fun _ h => (by cases h), fun _ _ => rfl, rfl⟩
theorem LvOk.add {g : Int → Option Value} {m : Nat} {S : List (Int × Int)} (h : LvOk g m S) {y : Int × Int} (hy : y.1 ∉ S.map Prod.fst) : LvOk (fun a => if a = y.1 then some (.int .i64 y.2) else g a) (if (g y.1).isSome = true then m else m + 1) (S ++ [y]) where
 mem z hz := by
  rcases List.mem_append.1 hz with hz | hz
  ·rw [if_neg (fun e : z.1 = y.1 => hy (e ▸ List.mem_map_of_mem hz))]; exact h.mem z hz
  ·obtain rfl : z = y := by simpa using hz
   rw [if_pos rfl]
 no a ha := by
  rw [List.map_append, List.mem_append] at ha; rw [if_neg (fun e => ha (.inr (by rw [e]; simp)))]; exact h.no a fun e => ha (.inl e)
 len := by rw [h.no _ hy, List.length_append, h.len]; rfl
theorem LvOk.same {g : Int → Option Value} {m : Nat} {S : List (Int × Int)} (h : LvOk g m S) {y : Int × Int} (hy : y ∈ S) : LvOk (fun a => if a = y.1 then some (.int .i64 y.2) else g a) (if (g y.1).isSome = true then m else m + 1) S where
 mem z hz := by
  by_cases e : z.1 = y.1
  ·rw [if_pos e, ← h.mem y hy, ← e]; exact h.mem z hz
  ·rw [if_neg e]; exact h.mem z hz
 no a ha := by
  rw [if_neg (fun e => ha (by rw [e]; exact List.mem_map_of_mem hy))]; exact h.no a ha
 len := by rw [h.mem y hy]; exact h.len
theorem filter_one {p q : Nat → Bool} {a : Nat} (hp : p a = true) (hq : q a = false) (h : ∀ b, b ≠ a → p b = q b) : ∀ {l : List Nat}, l.Nodup → a ∈ l → (l.filter p).length = (l.filter q).length + 1
 | [], _, hm => by cases hm
 | b :: t, hn, hm => by
  rw [List.nodup_cons] at hn; rw [List.filter_cons, List.filter_cons]
  by_cases e : b = a
  ·subst e
   rw [if_pos hp, if_neg (by rw [hq]; decide), List.length_cons]
   congr 1
   exact congrArg List.length (List.filter_congr fun c hc => h c fun e => hn.1 (e ▸ hc))
  ·have hm2 : a ∈ t := (List.mem_cons.1 hm).resolve_left fun e2 => e e2.symm
   have ih := filter_one hp hq h hn.2 hm2
   rw [h b e]
   split
   ·rw [List.length_cons, List.length_cons, ih]
   ·exact ih
theorem allL_add {f : Int → Option IxA} {w : WA} (hw : WOk w) {fd : Int} {x : IxA} (h0 : f fd = none) (hq : qE (updF f fd (some x)) w fd = true) : (allL (updF f fd (some x)) w).length = (allL f w).length + 1 := by
 obtain ⟨_, n, k, _, ha, _, _⟩ := findE_at hq
 have hb := hw.at_lt ha
 obtain ⟨a, rfl⟩ : ∃ a : Nat, fd = (a : Int) := ⟨fd.toNat, by omega⟩
 unfold allL; rw [List.length_map, List.length_map]; refine filter_one (a := a) hq ?_ (fun b hb => qE_congr (updF_ne (by omega))) List.nodup_range (List.mem_range.2 (by omega)); unfold qE findE; rw [h0]; rfl
theorem add_del {limit : Int} {f : Int → Option IxA} {w : WA} (hw : WOk w) {fd ev : Int} (h0 : f fd = none) {f' : Int → Option IxA} (hf' : f' = updF f fd (some (addX w fd ev))) (ha : w.at fd ≠ none) :
  (allL f' w).length = (allL f w).length + 1 ∧ ctlR limit f' w 3 fd 0 = (0, f) := by
 subst hf'
 have hq : qE (updF f fd (some (addX w fd ev))) w fd = true := by
  unfold qE findE; rw [updF_eq]; dsimp only; rw [if_pos ⟨by cases h : w.at fd with | none => exact absurd h ha | some _ => rfl, rfl⟩]; rfl
 refine ⟨allL_add hw h0 hq, ?_⟩; unfold ctlR; rw [if_neg (by omega), if_neg ha, if_neg (fun h => absurd h.1 (by decide)), if_neg (fun h => absurd h.1 (by decide)), if_neg (by decide), if_neg (by rw [hq]; decide), if_pos rfl]; refine Prod.ext rfl ?_
 funext b
 show updF _ _ none b = f b
 by_cases e : b = fd
 ·subst e; rw [updF_eq, h0]
 ·rw [updF_ne e, updF_ne e]
theorem traces_ct (L : List SP) (a1 : Option Addr) (c1 : Nat) (fs : List Ov) (hF : RdS L 5 a1 fs.length (fs.flatMap encO)) (hFo : ∀ o ∈ fs, OvOk L o) (a2 : Option Addr) (c2 : Nat) (xs : List Pv) (hX : RdS L 10 a2 xs.length (xs.flatMap encPv)) (hXo : ∀ p ∈ xs, PvOk L p) (z : Pv) (hz : InK .i64 z.ev) : Ct Tryz.prog 5 #[.slice a1 fs.length c1, .slice a2 xs.length c2, .agg (encPv z).toArray] (L) (fun _ : Unit => .bool true) (fun _ : Unit => L) := by
 refine Ct.of (vs := [.slice a1 fs.length c1, .slice a2 xs.length c2, .agg (encPv z).toArray]) Tryz.func5 rfl rfl [(0, .slice a1 fs.length c1), (1, .slice a2 xs.length c2), (2, .agg (encPv z).toArray)] sbq ?_; intro E
 show Hd E 202 _ _ _ _
 refine sr fun _ hK1 => ?_
 refine Hd.box rfl rfl (fun b5 => ?_); refine yv y_as ?_; refine fk [(0, _), (1, _), (5, _)] hK1 ?_; refine sr fun _ hK2 => ?_
 refine callE rfl fk13 (alive15_ct _) sq ?_; intro _; refine yv y_as ?_; refine fk [(0, _), (1, _), (5, _), (7, _)] hK2 ?_; refine Hd.seq fun _ hK3 => ?_
 refine sr fun _ hK4 => ?_
 refine yv y_mv ?_; refine callE rfl fk14 (great11_ct _ a1 c1 fs ?hD) sq ?_
 case hD => exact RdS.mono hF sq
 intro _; refine yv (y_gtr rfl rfl) ?_; refine yv y_mv ?_; apply Hd.org 4 28 32 [(0, _), (1, _), (5, _), (7, _)] rfl ⟨rfl, rfl, rfl, rfl, trivial⟩
 ·intro hg2_28
  try simp only [hyA, hyB, hyC, ne_eq] at hg2_28
  simp only [List.take]; refine n1 ?_; refine n1 ?_; refine n1 ?_; refine yv (y_pickT rfl rfl) ?_; refine Hd.nil ?_; exact Hd.mq
 ·intro hg2_28
  try simp only [hyA, hyB, hyC, ne_eq] at hg2_28
  simp only [List.take]; refine y2 y_mv ?_; refine y2 (y_len Tryz.underlying22 rfl) ?_; refine y2 (y_gtr rfl rfl) ?_; refine yv (y_pickF rfl rfl) ?_; refine Hd.nil ?_; exact Hd.mq
 simp only [List.drop]; refine yv y_mv ?_; apply Hd.org 4 33 37 [(0, _), (1, _), (5, _), (7, _)] rfl ⟨rfl, rfl, rfl, rfl, trivial⟩
 ·intro hg2_33
  try simp only [hyA, hyB, hyC, ne_eq] at hg2_33
  simp only [List.take]; refine n1 ?_; refine n1 ?_; refine n1 ?_; refine yv (y_pickT rfl rfl) ?_; refine Hd.nil ?_; exact Hd.mq
 ·intro hg2_33
  try simp only [hyA, hyB, hyC, ne_eq] at hg2_33
  simp only [List.take]; refine y2 y_mv ?_; refine Hd.unguard rfl rfl ?_; refine callE rfl fk15 (great15_ct _ a2 c2 xs ?hD) sq ?_
  case hD => exact RdS.mono hX sq
  intro _; refine y2 (y_gtr rfl rfl) ?_; refine yv (y_pickF rfl rfl) ?_; refine Hd.nil ?_; exact Hd.mq
 simp only [List.drop]; refine yv y_mv ?_; apply Hd.org 4 38 42 [(0, _), (1, _), (5, _), (7, _)] rfl ⟨rfl, rfl, rfl, rfl, trivial⟩
 ·intro hg2_38
  try simp only [hyA, hyB, hyC, ne_eq] at hg2_38
  simp only [List.take]; refine n1 ?_; refine n1 ?_; refine n1 ?_; refine yv (y_pickT rfl rfl) ?_; refine Hd.nil ?_; exact Hd.mq
 ·intro hg2_38
  try simp only [hyA, hyB, hyC, ne_eq] at hg2_38
  simp only [List.take]; refine y2 y_mv ?_; refine y2 (y_len Tryz.underlying23 rfl) ?_; refine y2 (y_gtr rfl rfl) ?_; refine yv (y_pickF rfl rfl) ?_; refine Hd.nil ?_; exact Hd.mq
 simp only [List.drop]; refine yv y_mv ?_; apply Hd.org 3 43 46 [(0, _), (1, _), (5, _), (7, _)] rfl ⟨rfl, rfl, rfl, rfl, trivial⟩
 ·intro hg2_43
  try simp only [hyA, hyB, hyC, ne_eq] at hg2_43
  simp only [List.take]; refine n1 ?_; refine n1 ?_; refine yv (y_pickT rfl rfl) ?_; refine Hd.nil ?_; exact Hd.mq
 ·intro hg2_43
  try simp only [hyA, hyB, hyC, ne_eq] at hg2_43
  simp only [List.take]; refine y2 y_mv ?_; refine y2 (y_not rfl) ?_; refine yv (y_pickF rfl rfl) ?_; refine Hd.nil ?_; exact Hd.mq
 simp only [List.drop]; refine fk [(0, _), (1, _), (5, _), (7, _), (46, _)] hK4 ?_; refine Hd.cond rfl (fun hc0 => ?_) (fun hc0 => ?_)
 ·
  try simp only [hyA, hyB, hyC, ne_eq] at hc0
  refine sr fun _ hK5 => ?_
  refine yv y_mv ?_; refine yv y_as ?_; refine fk [(6, _)] hK5 ?_; refine Hd.ret ?_; refine Hd.thenRet ?_; exact Hd.ret1 rfl () rfl sq
 ·
  try simp only [hyA, hyB, hyC, ne_eq] at hc0
  have hb1 : ¬ 0 < gO fs ∧ fs.length ≤ 60 ∧ ¬ 0 < gP xs ∧ xs.length ≤ 40 := by simp at hc0; omega
  have hgo := gO_ok hb1.1
  have hgp := gP_ok hb1.2.2.1
  refine Hd.skip ?_; refine Hd.toK hK3 ?_; refine sr fun _ hK6 => ?_
  refine callE rfl fk16 (fresh_ct _) sq ?_; rintro ⟨pb, wb, rb⟩; dsimp only; refine yv y_as ?_; refine fk [(0, _), (1, _), (5, _), (7, _), (8, _)] hK6 ?_; refine Hd.seq fun _ hK7 => ?_
  refine sr fun _ hK8 => ?_
  refine yv y_mv ?_; refine yv (y_len Tryz.underlying22 rfl) ?_; refine yv y_mv ?_; refine fk [(0, _), (1, _), (5, _), (7, _), (8, _), (50, _), (51, _)] hK8 ?_; refine Hd.block ?_; refine Hd.loopK (ι := Nat) [(0, _), (1, _), (5, _), (7, _), (8, _), (50, _)] (fun i => [(51, .int .i64 (i : Int))]) (fun i => pu (i ≤ fs.length ∧ Lo (100 * i) (runA newA (fs.take i))) :: BoP pb wb rb :: WorldP wb (runA newA (fs.take i)) :: Rf.RwP rb (runA newA (fs.take i)) :: pt b5 (encPv z) 46 :: L) (fun i => fs.length - i) 0 sbq sbq (Ent.sep (.pure ⟨Nat.zero_le _, newA_lo⟩ enn)) ?_; intro i
  try dsimp only
  refine Hd.pure (fun hp0 => ?_)
  try dsimp only at hp0
  refine sr fun _ hK9 => ?_
  refine yv (y_lss rfl rfl) ?_; refine fk [(0, _), (1, _), (5, _), (7, _), (8, _), (50, _), (51, _), (52, _)] hK9 ?_; refine Hd.seq fun _ hK10 => ?_
  refine Hd.cond rfl (fun hc1 => ?_) (fun hc1 => ?_)
  ·
   try simp only [hyA, hyB, hyC, ne_eq] at hc1
   have hi : i < fs.length := by omega
   obtain ⟨o, ho⟩ : ∃ o, fs[i]? = some o := ⟨_, List.getElem?_eq_getElem hi⟩
   have hoo := hFo o (List.mem_of_getElem? ho)
   have hod := hgo.2 o (List.mem_of_getElem? ho)
   have hrs : runA newA (fs.take (i + 1)) = doA (runA newA (fs.take i)) o := by rw [List.take_add_one, ho]; exact runA_snoc _ _ _
   refine Hd.wokW (.there .here) (fun hw => ?_)
   have hst := (do_stp hw o (by have := hoo.t; simp only [InK] at this; omega) (100 * i) (by omega) hp0.2).1
   rw [← hrs] at hst; refine Hd.skip ?_; refine Hd.toK hK10 ?_; refine Hd.seq fun _ hK11 => ?_
   refine Hd.block ?_; refine sr fun _ hK12 => ?_
   refine yv y_mv ?_; refine yv y_as ?_; refine fk [(0, _), (1, _), (5, _), (7, _), (8, _), (9, _), (50, _), (51, _)] hK12 ?_; refine sr fun _ hK13 => ?_
   refine yv y_mv ?_; refine yv y_mv ?_; refine yv y_mv ?_; refine yv (y_idxR Tryz.underlying22 sz33 rfl rfl hi (RdS.mono hF sq)) ?_; refine yv (y_loadRn (vs := encO o) ag33 rfl (RdS.mono hF sq) (flat_cells encO 5 (fun _ => rfl) ho) sz33 (by simp)) ?_; refine callE rfl fk17 (do_ct _ pb wb rb _ (100 * i) (by omega) hp0.2 o hoo.t hod ?hD hoo.c) sq ?_
   case hD => exact RdS.mono hoo.rd sq
   intro _; rw [← hrs]; refine yv (y_not rfl) ?_; refine fk [(0, _), (1, _), (5, _), (7, _), (8, _), (50, _), (51, _), (60, _)] hK13 ?_; refine Hd.condF rfl ?_; refine Hd.skip ?_; refine Hd.inB ?_; refine Hd.toK hK11 ?_; refine Hd.region ?_; refine yv (y_addn rfl rfl (by simp only [InK]; omega)) ?_; refine yv y_mv ?_; refine Hd.nil ?_; refine slots [(0, _), (1, _), (5, _), (7, _), (8, _), (50, _), (51, _)] sbq ?_; refine thenN ?_; exact Hd.again (i + 1) (by omega) sbq (Ent.sep (.pure ⟨hi, hst⟩ enn))
  ·
   try simp only [hyA, hyB, hyC, ne_eq] at hc1
   obtain rfl : i = fs.length := by omega
   rw [List.take_of_length_le (Nat.le_refl _)] at hp0 ⊢
   obtain ⟨w, hrw⟩ : ∃ w, runA newA fs = w := ⟨_, rfl⟩
   rw [hrw] at hp0 ⊢; refine Hd.wokW (.there .here) (fun hw => ?_); refine Hd.exit ?_; refine Hd.thenExit ?_; refine Hd.thenExit ?_; refine Hd.inBexit ?_; refine Hd.toK hK7 ?_; refine sr fun _ hK14 => ?_
   refine yv y_mv ?_; refine yv y_np ?_; refine yv (y_f 0 38 Tryz.underlying41 sz38) ?_; refine yv (y_l1 ag38 rfl) ?_; refine callE rfl fk18 (enew_ct _ wb 30 (by decide)) sq ?_; rintro ⟨eb, mb⟩; dsimp only; refine yv y_mv ?_; refine yv (y_to (v' := .pointer (some ⟨eb, 0, none⟩)) y_ex (by rfl)) ?_; refine yv (y_to (v' := .int .i64 0) y_ex (by rfl)) ?_; refine yv y_as ?_; refine yv y_as ?_; refine fk [(1, _), (5, _), (7, _), (8, _), (10, _), (11, _)] hK14 ?_; refine sr fun _ hK15 => ?_
   refine yv y_mv ?_; refine yv y_np ?_; refine yv (y_f 0 38 Tryz.underlying41 sz38) ?_; refine yv (y_l1 ag38 rfl) ?_; refine callE rfl fk18 (enew_ct _ wb 30 (by decide)) sq ?_; rintro ⟨eb2, mb2⟩; dsimp only; refine yv y_mv ?_; refine yv (y_to (v' := .pointer (some ⟨eb2, 0, none⟩)) y_ex (by rfl)) ?_; refine yv (y_to (v' := .int .i64 0) y_ex (by rfl)) ?_; refine yv y_as ?_; refine yv y_as ?_; refine fk [(1, _), (5, _), (7, _), (10, _), (11, _), (12, _), (13, _)] hK15 ?_; refine Hd.seq fun _ hK16 => ?_
   refine sr fun _ hK17 => ?_
   refine yv y_mv ?_; refine yv (y_neq rfl rfl) ?_; refine yv y_mv ?_; apply Hd.org 3 80 83 [(1, _), (5, _), (7, _), (10, _), (12, _)] rfl ⟨rfl, rfl, rfl, rfl, rfl, trivial⟩
   ·intro hg13_80
    try simp only [hyA, hyB, hyC, ne_eq] at hg13_80
    simp only [List.take]; refine n1 ?_; refine n1 ?_; refine yv (y_pickT rfl rfl) ?_; refine Hd.nil ?_; exact Hd.mq
   ·intro hg13_80
    try simp only [hyA, hyB, hyC, ne_eq] at hg13_80
    simp only [List.take]; refine y2 y_mv ?_; refine y2 (y_neq rfl rfl) ?_; refine yv (y_pickF rfl rfl) ?_; refine Hd.nil ?_; exact Hd.mq
   simp only [List.drop]; refine fk [(1, _), (5, _), (7, _), (10, _), (12, _), (83, _)] hK17 ?_; refine Hd.cond rfl (fun hc3 => ?_) (fun hc3 => ?_)
   ·
    try simp only [hyA, hyB, hyC, ne_eq] at hc3
    exfalso; simp at hc3
   ·
    try simp only [hyA, hyB, hyC, ne_eq] at hc3
    refine Hd.skip ?_; refine Hd.toK hK16 ?_; refine Hd.seq fun _ hK18 => ?_
    refine sr fun _ hK19 => ?_
    refine yv y_mv ?_; refine yv (y_len Tryz.underlying23 rfl) ?_; refine yv y_mv ?_; refine fk [(1, _), (5, _), (7, _), (10, _), (12, _), (85, _), (86, _)] hK19 ?_; refine Hd.block ?_; refine Hd.loopK (ι := Nat × (Int → Option IxA) × Nat × Nat) [(1, _), (5, _), (7, _), (10, _), (12, _), (85, _)] (fun q_ => [(86, .int .i64 (q_.1 : Int))]) (fun q_ => pu (q_.1 ≤ xs.length ∧ GdE q_.2.1 w ∧ q_.2.2.1 ≤ q_.1 ∧ q_.2.2.2 ≤ q_.1) :: EpH eb2 wb mb2 30 :: mp mb2 .i64 (fmap q_.2.1) q_.2.2.2 :: EpB eb wb mb 30 q_.2.1 q_.2.2.1 w (BoP pb wb rb :: Rf.RwP rb w :: pt b5 (encPv z) 46 :: L)) (fun q_ => xs.length - q_.1) (0, f0, 0, 0) sbq sbq (Ent.sep (.pure ⟨Nat.zero_le _, f0_gd w, Nat.le_refl _, Nat.le_refl _⟩ enn)) ?_; rintro ⟨i, f, m, m2⟩
    try dsimp only
    refine Hd.pure (fun hp1 => ?_)
    try dsimp only at hp1
    refine sr fun _ hK20 => ?_
    refine yv (y_lss rfl rfl) ?_; refine fk [(1, _), (5, _), (7, _), (10, _), (12, _), (85, _), (86, _), (87, _)] hK20 ?_; refine Hd.seq fun _ hK21 => ?_
    refine Hd.cond rfl (fun hc4 => ?_) (fun hc4 => ?_)
    ·
     try simp only [hyA, hyB, hyC, ne_eq] at hc4
     have hi : i < xs.length := by omega
     obtain ⟨p, hp⟩ : ∃ p, xs[i]? = some p := ⟨_, List.getElem?_eq_getElem hi⟩
     have hpo := hXo p (List.mem_of_getElem? hp)
     obtain ⟨_, hgf, hmi, hmi2⟩ := hp1
     refine Hd.skip ?_; refine Hd.toK hK21 ?_; refine Hd.seq fun _ hK22 => ?_
     refine Hd.block ?_; refine sr fun _ hK23 => ?_
     refine yv y_mv ?_; refine yv y_as ?_; refine fk [(1, _), (5, _), (7, _), (10, _), (12, _), (14, _), (85, _), (86, _)] hK23 ?_; refine Hd.seq fun _ hK24 => ?_
     refine Hd.drawsH (L) (fun _ => true) mixed ?_; simp only [List.length, Nat.zero_add, Nat.reduceAdd]; refine tH 0 rfl y_mv ?_; refine tH 1 rfl y_mv ?_; refine tH 2 rfl y_mv ?_; refine tH 3 rfl (y_idxR Tryz.underlying23 sz46 rfl rfl hi hX) ?_; refine tH 4 rfl (y_fR 6 3 Tryz.underlying46 sz3) ?_; refine tH 5 rfl (y_loadR1 ag3 rfl hX (flat_cells encPv 10 (fun _ => rfl) hp 6 _ rfl)) ?_; refine tH 6 rfl y_mv ?_; refine tH 7 rfl y_mv ?_; refine tH 8 rfl (y_idxR Tryz.underlying23 sz46 rfl rfl hi hX) ?_; refine tH 9 rfl (y_fR 8 3 Tryz.underlying46 sz3) ?_; refine tH 10 rfl (y_loadR1 ag3 rfl hX (flat_cells encPv 10 (fun _ => rfl) hp 8 _ rfl)) ?_; refine tH 12 rfl y_mv ?_; refine tH 13 rfl y_mv ?_; refine tH 14 rfl y_mv ?_; refine tH 15 rfl (y_idxR Tryz.underlying23 sz46 rfl rfl hi hX) ?_; refine tH 16 rfl (y_fR 6 3 Tryz.underlying46 sz3) ?_; refine tH 17 rfl (y_loadR1 ag3 rfl hX (flat_cells encPv 10 (fun _ => rfl) hp 6 _ rfl)) ?_
     refine tH 18 rfl y_mv ?_; refine tH 19 rfl y_mv ?_; refine tH 20 rfl (y_idxR Tryz.underlying23 sz46 rfl rfl hi hX) ?_; refine tH 21 rfl (y_fR 8 3 Tryz.underlying46 sz3) ?_; refine tH 22 rfl (y_loadR1 ag3 rfl hX (flat_cells encPv 10 (fun _ => rfl) hp 8 _ rfl)) ?_; refine onlyH 11 rfl kq ?_; refine callE rfl fk19 (ctl_ct _ eb wb mb 30 f m (by omega) w 1 p.fd p.ev) sq ?_; intro m'; refine Hd.pure fun hm' => ?_
     refine Hd.nil ?_; refine thenN ?_; refine heldK (J := (fun _ => true)) (i := 11) sq ?_; refine onlyH 23 rfl kq ?_; refine callE rfl fk19 (ctl_ct _ eb2 wb mb2 30 f m2 (by omega) w 1 p.fd p.ev) sq ?_; intro m2'; refine Hd.pure fun hm2' => ?_
     refine Hd.nil ?_; refine thenN ?_; refine heldK (J := (fun _ => true)) (i := 23) sq ?_; refine tH 24 rfl (y_neq rfl rfl) ?_; refine endH kq ?_
     have hag := add_gd hgf (limit := 30) p.fd p.ev hpo.ev
     obtain ⟨f', hf'⟩ : ∃ f', (ctlR 30 f w 1 p.fd p.ev).2 = f' := ⟨_, rfl⟩
     rw [hf'] at hag ⊢
     have hg' : GdE f' w := by
      rcases hag with ⟨_, e⟩ | ⟨_, _, e, g, _⟩
      ·rw [e]; exact hgf
      ·exact g
     refine sk [(1, _), (5, _), (7, _), (10, _), (12, _), (85, _), (86, _), (113, _)] hK24 ?_; refine Hd.cond rfl (fun hc5 => ?_) (fun hc5 => ?_)
     ·
      try simp only [hyA, hyB, hyC, ne_eq] at hc5
      exfalso; simp at hc5
     ·
      try simp only [hyA, hyB, hyC, ne_eq] at hc5
      refine Hd.skip ?_; refine Hd.inB ?_; refine Hd.toK hK22 ?_; refine Hd.region ?_; refine yv (y_addn rfl rfl (by simp only [InK]; omega)) ?_; refine yv y_mv ?_; refine Hd.nil ?_; refine slots [(1, _), (5, _), (7, _), (10, _), (12, _), (85, _), (86, _)] sbq ?_; refine thenN ?_; exact Hd.again (i + 1, f', m', m2') (by omega) sbq (Ent.sep (.pure ⟨hi, hg', (show m' ≤ i + 1 by omega), (show m2' ≤ i + 1 by omega)⟩ enn))
    ·
     try simp only [hyA, hyB, hyC, ne_eq] at hc4
     obtain rfl : i = xs.length := by omega
     obtain ⟨_, hgf, hmi, hmi2⟩ := hp1
     refine Hd.exit ?_; refine Hd.thenExit ?_; refine Hd.thenExit ?_; refine Hd.inBexit ?_; refine Hd.toK hK18 ?_; refine sr fun _ hK25 => ?_
     refine yv y_mv ?_; refine callE rfl fk22 (inter_ct _ eb wb mb 30 f m (by omega) w) sq ?_; rintro ⟨ia, ic, ks⟩; dsimp only; refine Hd.pure fun hks => ?_
     obtain rfl := hks.eq hw
     have hall := allL_len f w
     refine yv (y_len Tryz.underlying47 rfl) ?_; refine yv y_as ?_; refine fk [(5, _), (7, _), (10, _), (12, _), (15, _)] hK25 ?_; refine sr fun _ hK26 => ?_
     refine yv y_mv ?_; refine yv (y_f 6 3 Tryz.underlying46 sz3) ?_; refine yv (y_l1 ag3 rfl) ?_; refine yv (y_f 8 3 Tryz.underlying46 sz3) ?_; refine yv (y_l1 ag3 rfl) ?_; refine callE rfl fk19 (ctl_ct _ eb wb mb 30 f m (by omega) w 1 z.fd z.ev) sq ?_; intro m'; refine Hd.pure fun hm' => ?_
     have hag := add_gd hgf (limit := 30) z.fd z.ev hz
     obtain ⟨f', hf'⟩ : ∃ f', (ctlR 30 f w 1 z.fd z.ev).2 = f' := ⟨_, rfl⟩
     obtain ⟨e', he'⟩ : ∃ e', (ctlR 30 f w 1 z.fd z.ev).1 = e' := ⟨_, rfl⟩
     rw [hf', he'] at hag; rw [hf', he']; refine yv y_as ?_; refine fk [(5, _), (7, _), (10, _), (12, _), (15, _), (16, _)] hK26 ?_; refine Hd.cutK (ι := {m : Nat // m ≤ 100}) [(7, _), (10, _), (12, _)] (fun _ => []) (fun q => EpH eb2 wb mb2 30 :: mp mb2 .i64 (fmap f) m2 :: EpB eb wb mb 30 f q.1 w L) ?_ ?_ ⟨rfl, rfl, rfl, trivial⟩
     ·
      refine sr fun _ hK27 => ?_
      refine yv y_mv ?_; refine yv (y_eql rfl rfl) ?_; refine fk [(5, _), (7, _), (10, _), (12, _), (15, _), (125, _)] hK27 ?_; refine Hd.cond rfl (fun hc6 => ?_) (fun hc6 => ?_)
      ·
       try simp only [hyA, hyB, hyC, ne_eq] at hc6
       have hh := hag.resolve_left (fun h => h.1 (by simpa using hc6))
       have hdl := add_del (limit := 30) hw hh.2.1 hh.2.2.1 hh.2.2.2.2.2
       refine sr fun _ hK28 => ?_
       refine yv y_mv ?_; refine callE rfl fk22 (inter_ct _ eb wb mb 30 f' m' (by omega) w) sq ?_; rintro ⟨ia2, ic2, ks2⟩; dsimp only; refine Hd.pure fun hks2 => ?_
       obtain rfl := hks2.eq hw
       rw [hdl.1]; refine yv (y_len Tryz.underlying47 rfl) ?_; refine yv y_mv ?_; refine yv (y_addn rfl rfl (by simp only [InK]; omega)) ?_; refine yv (y_neq rfl rfl) ?_; refine yv y_mv ?_; refine Hd.part (gd := 132) rfl (fun hg24_132 => ?_) (fun hg24_132 => ?_)
       ·
        try simp only [hyA, hyB, hyC, ne_eq] at hg24_132
        exfalso; simp at hg24_132
       ·
        try simp only [hyA, hyB, hyC, ne_eq] at hg24_132
        refine y2 y_mv ?_; refine y2 (y_f 6 3 Tryz.underlying46 sz3) ?_; refine y2 (y_l1 ag3 rfl) ?_; refine Hd.unguard rfl rfl ?_; refine callE rfl fk19 (ctl_ct _ eb wb mb 30 f' m' (by omega) w 3 z.fd 0) sq ?_; intro m3; refine Hd.pure fun hm3 => ?_
        rw [hdl.2]; refine y2 (y_neq rfl rfl) ?_; refine yv (y_pickF rfl rfl) ?_; refine fk [(7, _), (10, _), (12, _), (138, _)] hK28 ?_; refine Hd.cond rfl (fun hc7 => ?_) (fun hc7 => ?_)
        ·
         try simp only [hyA, hyB, hyC, ne_eq] at hc7
         exfalso; simp at hc7
        ·
         try simp only [hyA, hyB, hyC, ne_eq] at hc7
         refine Hd.skip ?_; refine thenN ?_; exact Hd.meet ⟨m3, by omega⟩ sbq sq
      ·
       try simp only [hyA, hyB, hyC, ne_eq] at hc6
       have hh := hag.resolve_right (fun h => hc6 (by simpa using h.1))
       rw [hh.2]; refine Hd.skip ?_; refine thenN ?_; exact Hd.meet ⟨m', by omega⟩ sbq sq
     ·
      rintro ⟨m3, hm3⟩; dsimp only; refine sr fun _ hK29 => ?_
      refine yv y_mv ?_; refine callE rfl fk22 (inter_ct _ eb wb mb 30 f m3 (by omega) w) sq ?_; rintro ⟨ja, jc, ks3⟩; dsimp only; refine Hd.pure fun hks3 => ?_
      obtain rfl := hks3.eq hw
      refine yv y_mv ?_; refine callE rfl fk22 (inter_ct _ eb2 wb mb2 30 f m2 (by omega) w) sq ?_; rintro ⟨ka, kc, ks4⟩; dsimp only; refine Hd.pure fun hks4 => ?_
      obtain rfl := hks4.eq hw
      obtain ⟨D, hD⟩ : ∃ D, intE f (allL f w) = D := ⟨_, rfl⟩
      have hDl : (allL f w).length = D.length := by rw [← hD, intE_len]
      rw [hD, hDl]; rw [hDl] at hall; refine yv y_as ?_; refine yv y_as ?_; refine fk [(7, _), (10, _), (12, _), (17, _), (18, _)] hK29 ?_; refine Hd.seq fun _ hK30 => ?_
      refine sr fun _ hK31 => ?_
      refine yv y_mv ?_; refine yv (y_len Tryz.underlying47 rfl) ?_; refine yv y_mv ?_; refine yv (y_len Tryz.underlying47 rfl) ?_; refine yv (y_neq rfl rfl) ?_; refine fk [(7, _), (10, _), (12, _), (17, _), (18, _), (147, _)] hK31 ?_; refine Hd.cond rfl (fun hc8 => ?_) (fun hc8 => ?_)
      ·
       try simp only [hyA, hyB, hyC, ne_eq] at hc8
       exfalso; simp at hc8
      ·
       try simp only [hyA, hyB, hyC, ne_eq] at hc8
       refine Hd.skip ?_; refine Hd.toK hK30 ?_; refine Hd.seq fun _ hK32 => ?_
       refine sr fun _ hK33 => ?_
       refine yv y_mv ?_; refine yv (y_len Tryz.underlying47 rfl) ?_; refine yv y_mv ?_; refine fk [(7, _), (10, _), (12, _), (17, _), (18, _), (149, _), (150, _)] hK33 ?_; refine Hd.block ?_; refine Hd.loopK (ι := Nat) [(7, _), (10, _), (12, _), (17, _), (18, _), (149, _)] (fun i => [(150, .int .i64 (i : Int))]) (fun i => pu (i ≤ D.length) :: own 51 2 ja D.length jc (D.flatMap encPo) :: own 51 2 ka D.length kc (D.flatMap encPo) :: EpH eb2 wb mb2 30 :: mp mb2 .i64 (fmap f) m2 :: EpB eb wb mb 30 f m3 w L) (fun i => D.length - i) 0 sbq sbq (Ent.sep (.pure (by omega) enn)) ?_; intro i
       try dsimp only
       refine Hd.pure (fun hp2 => ?_)
       try dsimp only at hp2
       refine sr fun _ hK34 => ?_
       refine yv (y_lss rfl rfl) ?_; refine fk [(7, _), (10, _), (12, _), (17, _), (18, _), (149, _), (150, _), (151, _)] hK34 ?_; refine Hd.seq fun _ hK35 => ?_
       refine Hd.cond rfl (fun hc9 => ?_) (fun hc9 => ?_)
       ·
        try simp only [hyA, hyB, hyC, ne_eq] at hc9
        have hi : i < D.length := by omega
        obtain ⟨y, hy⟩ : ∃ y, D[i]? = some y := ⟨_, List.getElem?_eq_getElem hi⟩
        refine Hd.skip ?_; refine Hd.toK hK35 ?_; refine Hd.seq fun _ hK36 => ?_
        refine Hd.block ?_; refine sr fun _ hK37 => ?_
        refine yv y_mv ?_; refine yv y_as ?_; refine fk [(7, _), (10, _), (12, _), (17, _), (18, _), (19, _), (149, _), (150, _)] hK37 ?_; refine Hd.seq fun _ hK38 => ?_
        refine Hd.quiet mixed kq ?_; refine Hq.yv y_mv ?_; refine Hq.yv y_mv ?_; refine Hq.yv (y_idxR Tryz.underlying47 sz51 rfl rfl (by omega) (by exact RdS.own pkk)) ?_; refine Hq.yv (y_fR 0 3 Tryz.underlying51 sz3) ?_; refine Hq.yv (y_loadR1 ag3 rfl (RdS.own (ad := ja) (us := D.flatMap encPo) pkk) (flat_cells encPo 2 (fun _ => rfl) hy 0 _ rfl)) ?_; refine Hq.yv y_mv ?_; refine Hq.yv y_mv ?_; refine Hq.yv (y_idxR Tryz.underlying47 sz51 rfl rfl (by omega) (by exact RdS.own pkk)) ?_; refine Hq.yv (y_fR 0 3 Tryz.underlying51 sz3) ?_; refine Hq.yv (y_loadR1 ag3 rfl (RdS.own (ad := ka) (us := D.flatMap encPo) pkk) (flat_cells encPo 2 (fun _ => rfl) hy 0 _ rfl)) ?_; refine Hq.yv (y_neq rfl rfl) ?_; refine Hq.yv y_mv ?_; apply Hq.org 12 164 176 [(7, _), (10, _), (12, _), (17, _), (18, _), (149, _), (150, _)] rfl ⟨rfl, rfl, rfl, rfl, rfl, rfl, rfl, trivial⟩
        ·intro hg32_164
         try simp only [hyA, hyB, hyC, ne_eq] at hg32_164
         simp only [List.take]; refine Hq.ng rfl rfl rfl ?_; refine Hq.ng rfl rfl rfl ?_; refine Hq.ng rfl rfl rfl ?_; refine Hq.ng rfl rfl rfl ?_; refine Hq.ng rfl rfl rfl ?_; refine Hq.ng rfl rfl rfl ?_; refine Hq.ng rfl rfl rfl ?_; refine Hq.ng rfl rfl rfl ?_; refine Hq.ng rfl rfl rfl ?_; refine Hq.ng rfl rfl rfl ?_; refine Hq.ng rfl rfl rfl ?_; refine Hq.yv (y_pickT rfl rfl) ?_; exact Hq.mend sbq
        ·intro hg32_164
         try simp only [hyA, hyB, hyC, ne_eq] at hg32_164
         simp only [List.take]; refine Hq.yg rfl rfl y_mv ?_; refine Hq.yg rfl rfl y_mv ?_; refine Hq.yg rfl rfl (y_idxR Tryz.underlying47 sz51 rfl rfl (by omega) (by exact RdS.own pkk)) ?_; refine Hq.yg rfl rfl (y_fR 1 3 Tryz.underlying51 sz3) ?_; refine Hq.yg rfl rfl (y_loadR1 ag3 rfl (RdS.own (ad := ja) (us := D.flatMap encPo) pkk) (flat_cells encPo 2 (fun _ => rfl) hy 1 _ rfl)) ?_; refine Hq.yg rfl rfl y_mv ?_; refine Hq.yg rfl rfl y_mv ?_; refine Hq.yg rfl rfl (y_idxR Tryz.underlying47 sz51 rfl rfl (by omega) (by exact RdS.own pkk)) ?_; refine Hq.yg rfl rfl (y_fR 1 3 Tryz.underlying51 sz3) ?_; refine Hq.yg rfl rfl (y_loadR1 ag3 rfl (RdS.own (ad := ka) (us := D.flatMap encPo) pkk) (flat_cells encPo 2 (fun _ => rfl) hy 1 _ rfl)) ?_; refine Hq.yg rfl rfl (y_neq rfl rfl) ?_; refine Hq.yv (y_pickF rfl rfl) ?_; exact Hq.mend sbq
        simp only [List.drop]; refine Hq.nil ?_; refine sk [(7, _), (10, _), (12, _), (17, _), (18, _), (149, _), (150, _), (176, _)] hK38 ?_; refine Hd.cond rfl (fun hc10 => ?_) (fun hc10 => ?_)
        ·
         try simp only [hyA, hyB, hyC, ne_eq] at hc10
         exfalso; simp at hc10
        ·
         try simp only [hyA, hyB, hyC, ne_eq] at hc10
         refine Hd.skip ?_; refine Hd.inB ?_; refine Hd.toK hK36 ?_; refine Hd.region ?_; refine yv (y_addn rfl rfl (by simp only [InK]; omega)) ?_; refine yv y_mv ?_; refine Hd.nil ?_; refine slots [(7, _), (10, _), (12, _), (17, _), (18, _), (149, _), (150, _)] sbq ?_; refine thenN ?_; exact Hd.again (i + 1) (by omega) sbq (Ent.sep (.pure (by omega) enn))
       ·
        try simp only [hyA, hyB, hyC, ne_eq] at hc9
        refine Hd.exit ?_; refine Hd.thenExit ?_; refine Hd.thenExit ?_; refine Hd.inBexit ?_; refine Hd.toK hK32 ?_; refine sr fun _ hK39 => ?_
        refine yv y_mv ?_; refine callE rfl fk20 (poll_ct _ eb wb mb 30 f m3 (by omega) w 200 (by decide) none 0 [] ?hD (by decide)) sq ?_
        case hD => exact RdS.none _ _ _
        rintro ⟨pa, pc, mp'⟩; dsimp only; refine Hd.pure fun hmp => ?_
        have hpl := polL_len f w 200 []
        have hdl := dueL_len f w
        obtain ⟨A, hA⟩ : ∃ A, polL f w 200 [] = A := ⟨_, rfl⟩
        rw [hA] at hpl ⊢
        have hAl : A.length ≤ 96 := by omega
        refine yv y_mv ?_; refine yv (y_to (v' := .slice pa A.length pc) y_ex (by rfl)) ?_; refine yv (y_to (v' := .int .i64 0) y_ex (by rfl)) ?_; refine yv y_as ?_; refine yv y_as ?_; refine fk [(7, _), (12, _), (20, _), (21, _)] hK39 ?_; refine sr fun _ hK40 => ?_
        refine yv y_mv ?_; refine callE rfl fk20 (poll_ct _ eb2 wb mb2 30 f m2 (by omega) w 200 (by decide) none 0 [] ?hD (by decide)) sq ?_
        case hD => exact RdS.none _ _ _
        rintro ⟨qa, qc, mq'⟩; dsimp only; refine Hd.pure fun hmq => ?_
        rw [hA]; refine yv y_mv ?_; refine yv (y_to (v' := .slice qa A.length qc) y_ex (by rfl)) ?_; refine yv (y_to (v' := .int .i64 0) y_ex (by rfl)) ?_; refine yv y_as ?_; refine yv y_as ?_; refine fk [(7, _), (20, _), (21, _), (22, _), (23, _)] hK40 ?_; refine sr fun _ hK41 => ?_
        refine yv y_mv ?_; refine yv y_mv ?_; apply Hd.andg 3 189 192 [(20, _), (22, _), (23, _)] rfl ⟨rfl, rfl, rfl, trivial⟩
        ·intro hg37_189
         try simp only [hyA, hyB, hyC, ne_eq] at hg37_189
         simp only [List.take]; refine y2 y_mv ?_; refine y2 (y_eqlT rfl rfl) ?_; refine yv (y_pickT rfl rfl) ?_; refine Hd.nil ?_; exact Hd.mq
        ·intro hg37_189
         try simp only [hyA, hyB, hyC, ne_eq] at hg37_189
         simp only [List.take]; refine n1 ?_; refine n1 ?_; refine yv (y_pickF rfl rfl) ?_; refine Hd.nil ?_; exact Hd.mq
        simp only [List.drop]; refine yv y_mv ?_; apply Hd.andg 3 193 196 [(20, _), (22, _)] rfl ⟨rfl, rfl, trivial⟩
        ·intro hg37_193
         try simp only [hyA, hyB, hyC, ne_eq] at hg37_193
         simp only [List.take]; refine y2 y_mv ?_; refine y2 (y_eqlT rfl rfl) ?_; refine yv (y_pickT rfl rfl) ?_; refine Hd.nil ?_; exact Hd.mq
        ·intro hg37_193
         try simp only [hyA, hyB, hyC, ne_eq] at hg37_193
         simp only [List.take]; refine n1 ?_; refine n1 ?_; refine yv (y_pickF rfl rfl) ?_; refine Hd.nil ?_; exact Hd.mq
        simp only [List.drop]; refine yv y_mv ?_; apply Hd.andg 4 197 201 [] rfl trivial
        ·intro hg37_197
         try simp only [hyA, hyB, hyC, ne_eq] at hg37_197
         simp only [List.take]; refine y2 y_mv ?_; refine y2 y_mv ?_; refine Hd.unguard rfl rfl ?_; refine callE rfl fk23 (same15_ct _ pa pc A ?hD (by omega) qa qc A ?hE (by omega)) sq ?_
         case hD => exact RdS.own (ad := pa) (us := A.flatMap encPo) pkk
         case hE => exact RdS.own (ad := qa) (us := A.flatMap encPo) pkk
         intro _; refine yv (y_pickT rfl rfl) ?_; refine Hd.nil ?_; exact Hd.mq
        ·intro hg37_197
         try simp only [hyA, hyB, hyC, ne_eq] at hg37_197
         simp only [List.take]; refine n1 ?_; refine n1 ?_; refine n1 ?_; refine yv (y_pickF rfl rfl) ?_; refine Hd.nil ?_; exact Hd.mq
        simp only [List.drop]; refine yv y_as ?_; refine fk [(6, _)] hK41 ?_; refine Hd.ret ?_; exact Hd.ret1 rfl () (by simp; rfl) sq
end Ep
end Go.Proofs.YtbfddabjbkohdaaGreat
namespace Go.Proofs.YtbfddabjbkohdaaGreat
set_option maxHeartbeats 2000000
open Go.RX.Hd (yv y2 n1 fk sk sr tH callE heldK onlyH endH thenN slots)
set_option linter.unusedSimpArgs false
set_option linter.unusedVariables false
set_option linter.unnecessarySimpa false
open Go.RX Go.ChangeShapes Go.WideShapes Go.ChangeAt Go.RowKit
abbrev shO : Sh := .struct (.fld (.int .i64) (.fld (.int .i64) (.fld (.int .i64) (.fld (.int .u64) (.fld (.slice (.int .u8)) .nil)))))
def cvO (y : shO.T) : Wo.Ov := ⟨y.1, y.2.1, y.2.2.1, y.2.2.2.1, y.2.2.2.2.1.ad, y.2.2.2.2.1.cap, y.2.2.2.2.1.l.map u8of⟩
theorem enc_cvO (y : shO.T) : Wo.encO (cvO y) = shO.enc y := by
 show [_, _, _, _, Value.slice _ (y.2.2.2.2.1.l.map u8of).length _] = _
 rw [List.length_map]; rfl
theorem ok_cvO {W : World} {y : shO.T} (h : shO.ok W y) : Wo.OvOk [Old W] (cvO y) :=
 ⟨rd_u8 h.2.2.2.2.1, by show (List.map u8of _).length ≤ _; rw [List.length_map]; exact h.2.2.2.2.1.2.1, h.1, h.2.1, h.2.2.1, h.2.2.2.1⟩
theorem rd_ops {W : World} {x : (Sh.slice shO).T} (h : (Sh.slice shO).ok W x) : RdS [Old W] 5 x.ad (x.l.map cvO).length ((x.l.map cvO).flatMap Wo.encO) := by
 have e : (x.l.map cvO).flatMap Wo.encO = x.l.flatMap shO.enc := by rw [List.flatMap_map]; congr 1; funext y; exact enc_cvO y
 rw [e, List.length_map]; exact h.1
theorem ops_ok {W : World} {x : (Sh.slice shO).T} (h : (Sh.slice shO).ok W x) : ∀ o ∈ x.l.map cvO, Wo.OvOk [Old W] o := fun o ho => by
 obtain ⟨y, hy, rfl⟩ := List.mem_map.1 ho
 exact ok_cvO (h.2.2.2.2 y hy)
abbrev shPl : Sh := .fld (.int .i64) (.fld shO (.fld (.int .i64) (.fld (.int .i64) (.fld (.int .i64) (.fld (.slice (.int .i64)) .nil)))))
abbrev shP : Sh := .struct shPl
def cvP (y : shP.T) : Ep.Pv := ⟨y.1, cvO y.2.1, y.2.2.1, y.2.2.2.1, y.2.2.2.2.1, y.2.2.2.2.2.1.ad, y.2.2.2.2.2.1.cap, y.2.2.2.2.2.1.l⟩
theorem enc_cvP (y : shP.T) : Ep.encPv (cvP y) = shP.enc y := by
 show [_, _, _, _, _, Value.slice _ (y.2.1.2.2.2.2.1.l.map u8of).length _, _, _, _, _] = _
 rw [List.length_map]; rfl
theorem ok_cvP {W : World} {y : shP.T} (h : shP.ok W y) : Ep.PvOk [Old W] (cvP y) :=
 ⟨ok_cvO h.2.1, rd_int h.2.2.2.2.2.1, h.1, h.2.2.1, h.2.2.2.1, h.2.2.2.2.1⟩
theorem rd_ps {W : World} {x : (Sh.slice shP).T} (h : (Sh.slice shP).ok W x) : RdS [Old W] 10 x.ad (x.l.map cvP).length ((x.l.map cvP).flatMap Ep.encPv) := by
 have e : (x.l.map cvP).flatMap Ep.encPv = x.l.flatMap shP.enc := by rw [List.flatMap_map]; congr 1; funext y; exact enc_cvP y
 rw [e, List.length_map]; exact h.1
theorem ps_ok {W : World} {x : (Sh.slice shP).T} (h : (Sh.slice shP).ok W x) : ∀ p ∈ x.l.map cvP, Ep.PvOk [Old W] p := fun o ho => by
 obtain ⟨y, hy, rfl⟩ := List.mem_map.1 ho
 exact ok_cvP (h.2.2.2.2 y hy)
end Go.Proofs.YtbfddabjbkohdaaGreat
