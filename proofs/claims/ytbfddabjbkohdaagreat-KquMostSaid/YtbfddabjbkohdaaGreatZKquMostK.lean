/-
  The world and the document's, side by side: wires that are made; Do. Kqueue's laws: twins; KquMost. Calls of the world, as the rows give them. The changes of kqueue's laws, as the rows give them.
-/
import Derived.Test.YtbfddabjbkohdaaGreatZKquMostJ
namespace Go.Proofs.YtbfddabjbkohdaaGreat
set_option maxHeartbeats 2000000
open Go.RX.Hd (yv y2 n1 fk sk sr tH callE heldK onlyH endH thenN slots)
set_option linter.unusedSimpArgs false
set_option linter.unusedVariables false
set_option linter.unnecessarySimpa false
open Go.RX Fx
namespace Wo
set_option maxRecDepth 8000
open Rf (badK mkErr mkLst mk_bad mk_no mk_yes)
def mkA (w : WA) (k n : Int) : Int := if badK k n then 0 else mkI w (mkKE k) 0
def mkB (w : WA) (k n : Int) : Int := if badK k n then 0 else if k ≤ 1 then mkI w 2 1 else mkN w 1
theorem bad_of {k n : Int} (hk : k ≠ 3) : badK k n ↔ (n < 1 ∨ 65536 < n) := by unfold badK; omega
theorem wmk0_ct (L : List SP) (wb : Nat) (w : WA) (k n : Int) (hk : k = 0) : Ct Tryz.prog 54 #[.pointer (some ⟨wb, 0, none⟩), .int .i64 n] (WorldP wb w :: L) (fun _ : Unit => .tuple #[.int .i64 (mkA w k n), .int .i64 (mkB w k n), .int .i64 (mkErr w k n)]) (fun _ => WorldP wb (makeR w k n) :: L) := by
 subst hk
 by_cases h : badK 0 n
 ·obtain ⟨e1, _, e3⟩ := mk_bad (w := w) h
  rw [show mkA w 0 n = 0 from if_pos h, show mkB w 0 n = 0 from if_pos h, e1, e3]; exact pipe_bad L wb w n ((bad_of (by decide)).1 h)
 ·rw [show mkA w 0 n = mkI w 2 0 from if_neg h, show mkB w 0 n = mkI w 2 1 from if_neg h, show mkErr w 0 n = mkE w 2 from if_neg h, show makeR w 0 n = mkW w 2 (pipeW n.toNat) from if_neg h]
  rw [bad_of (by decide)] at h
  obtain ⟨m, rfl⟩ : ∃ m : Nat, n = (m : Int) := ⟨n.toNat, by omega⟩
  exact pipe_mk L wb w m (by omega) (by omega)
theorem wmk1_ct (L : List SP) (wb : Nat) (w : WA) (k n : Int) (hk : k = 1) : Ct Tryz.prog 55 #[.pointer (some ⟨wb, 0, none⟩), .int .i64 n] (WorldP wb w :: L) (fun _ : Unit => .tuple #[.int .i64 (mkA w k n), .int .i64 (mkB w k n), .int .i64 (mkErr w k n)]) (fun _ => WorldP wb (makeR w k n) :: L) := by
 subst hk
 by_cases h : badK 1 n
 ·obtain ⟨e1, _, e3⟩ := mk_bad (w := w) h
  rw [show mkA w 1 n = 0 from if_pos h, show mkB w 1 n = 0 from if_pos h, e1, e3]; exact pairbad_ct L wb w n ((bad_of (by decide)).1 h)
 ·rw [show mkA w 1 n = mkI w 2 0 from if_neg h, show mkB w 1 n = mkI w 2 1 from if_neg h, show mkErr w 1 n = mkE w 2 from if_neg h, show makeR w 1 n = mkW w 2 (halfW n.toNat 2) from if_neg h]
  rw [bad_of (by decide)] at h
  obtain ⟨m, rfl⟩ : ∃ m : Nat, n = (m : Int) := ⟨n.toNat, by omega⟩
  exact pair_ct L wb w m (by omega) (by omega)
theorem wmk2_ct (L : List SP) (wb : Nat) (w : WA) (k n : Int) (hk : k = 2) : Ct Tryz.prog 50 #[.pointer (some ⟨wb, 0, none⟩), .int .i64 n] (WorldP wb w :: L) (fun _ : Unit => .tuple #[.int .i64 (mkA w k n), .int .i64 (mkB w k n), .int .i64 (mkErr w k n)]) (fun _ => WorldP wb (makeR w k n) :: L) := by
 subst hk
 by_cases h : badK 2 n
 ·obtain ⟨e1, _, e3⟩ := mk_bad (w := w) h
  rw [show mkA w 2 n = 0 from if_pos h, show mkB w 2 n = 0 from if_pos h, e1, e3]; exact outer_bad L wb w n ((bad_of (by decide)).1 h)
 ·rw [show mkA w 2 n = mkI w 1 0 from if_neg h, show mkB w 2 n = mkN w 1 from if_neg h, show mkErr w 2 n = mkE w 1 from if_neg h, show makeR w 2 n = mkW w 1 (connW n.toNat) from if_neg h]
  rw [bad_of (by decide)] at h
  obtain ⟨m, rfl⟩ : ∃ m : Nat, n = (m : Int) := ⟨n.toNat, by omega⟩
  exact outer_mk L wb w m (by omega) (by omega)
theorem wmk3_ct (L : List SP) (wb : Nat) (w : WA) (k n : Int) (hk : k = 3) : Ct Tryz.prog 56 #[.pointer (some ⟨wb, 0, none⟩), .int .i64 n] (WorldP wb w :: L) (fun _ : Unit => .tuple #[.int .i64 (mkA w k n), .int .i64 (mkB w k n), .int .i64 (mkErr w k n)]) (fun _ => WorldP wb (makeR w k n) :: L) := by
 subst hk
 by_cases h : badK 3 n
 ·obtain ⟨e1, _, e3⟩ := mk_bad (w := w) h
  rw [show mkA w 3 n = 0 from if_pos h, show mkB w 3 n = 0 from if_pos h, e1, e3]; exact listen_bad L wb w n (by unfold badK at h; omega)
 ·rw [show mkA w 3 n = mkI w 1 0 from if_neg h, show mkB w 3 n = mkN w 1 from if_neg h, show mkErr w 3 n = mkE w 1 from if_neg h, show makeR w 3 n = mkW w 1 (listW n.toNat) from if_neg h]
  unfold badK at h
  obtain ⟨m, rfl⟩ : ∃ m : Nat, n = (m : Int) := ⟨n.toNat, by omega⟩
  exact listen_mk L wb w m (by omega) (by omega)
structure MadeOk (a b e wire : Int) (l : List Nat) : Prop where
 no : e ≠ 0 → a = 0 ∧ b = 0
 yes : e = 0 → ∃ f t, l = f :: t ∧ a = ((f : Nat) : Int) ∧ ((t = [] ∧ b = wire) ∨ ∃ g, t = [g] ∧ b = ((g : Nat) : Int))
theorem made_ok (w : WA) {k : Int} (hk : 0 ≤ k ∧ k ≤ 3) (n : Int) : MadeOk (mkA w k n) (mkB w k n) (mkErr w k n) (((makeR w k n).ws.length : Nat) - 1) (mkLst w k n) := by
 by_cases h : badK k n
 ·obtain ⟨e1, e2, e3⟩ := mk_bad (w := w) h
  exact ⟨fun _ => ⟨if_pos h, if_pos h⟩, fun e => by rw [e1] at e; exact absurd e (by decide)⟩
 have hA : mkA w k n = mkI w (mkKE k) 0 := if_neg h
 have hB : mkB w k n = if k ≤ 1 then mkI w 2 1 else mkN w 1 := if_neg h
 cases ho : mkOk w (mkKE k) with
 | false =>
  obtain ⟨e1, e2, e3⟩ := mk_no (w := w) h ho
  have hF : mkF w (mkKE k) = [] := by unfold mkF; rw [ho]; rfl
  refine ⟨fun _ => ⟨by rw [hA]; unfold mkI; rw [hF]; rfl, ?_⟩, fun e => by rw [e1] at e; exact absurd e (by decide)⟩; rw [hB]
  by_cases h1 : k ≤ 1
  ·rw [if_pos h1]
   have : mkKE k = 2 := if_pos (by omega)
   rw [this] at hF; unfold mkI; rw [hF]; rfl
  ·rw [if_neg h1]
   have : mkKE k = 1 := if_neg (by omega)
   rw [this] at ho; unfold mkN mkE; rw [ho]; rfl
 | true =>
  obtain ⟨e1, e2, e3⟩ := mk_yes (w := w) h ho
  have hF : mkF w (mkKE k) = (frees w.at).take (mkKE k) := by unfold mkF; rw [ho]; rfl
  have hl : ((frees w.at).take (mkKE k)).length = mkKE k := by unfold mkOk at ho; simp only [Bool.and_eq_true, decide_eq_true_eq] at ho; omega
  refine ⟨fun e => absurd e1 e, fun _ => ?_⟩; rw [e2, hA, hB]; unfold mkI; rw [hF]
  by_cases h1 : k ≤ 1
  ·have h2 : mkKE k = 2 := if_pos (by omega)
   rw [h2] at hl hF ⊢; rw [if_pos h1, hF]
   obtain ⟨f, g, hfg⟩ : ∃ f g, (frees w.at).take 2 = [f, g] := by
    match hm : (frees w.at).take 2, hl with
    | [f, g], _ => exact ⟨f, g, rfl⟩
   rw [hfg]; exact ⟨f, [g], rfl, rfl, .inr ⟨g, rfl, rfl⟩⟩
  ·have h2 : mkKE k = 1 := if_neg (by omega)
   rw [h2] at hl ho ⊢; rw [if_neg h1]
   obtain ⟨f, hf⟩ : ∃ f, (frees w.at).take 1 = [f] := by
    match hm : (frees w.at).take 1, hl with
    | [f], _ => exact ⟨f, rfl⟩
   rw [hf]; refine ⟨f, [], rfl, rfl, .inl ⟨rfl, ?_⟩⟩
   have he : mkE w 1 = 0 := by unfold mkE; rw [ho]; rfl
   rw [show mkN w 1 = (w.ws.length : Int) from if_pos he]
   have : makeR w k n = mkW w 1 (mkKW k n) := by
    rw [← h2]; exact if_neg h
   rw [this, mkW_len he]; omega
theorem made_ct (L : List SP) (a b e wire : Int) (l : List Nat) (ad : Option Addr) (c : Nat) (hR : RdS L 1 ad l.length (nats l)) (h : MadeOk a b e wire l) : Ct Tryz.prog 58 #[.int .i64 a, .int .i64 b, .int .i64 e, .slice ad l.length c, .int .i64 wire, .int .i64 e] (L) (fun _ : Unit => .bool true) (fun _ : Unit => L) := by
 refine Ct.o6 Tryz.func58 ?_; intro E
 show Hd E 55 _ _ _ _
 refine sr fun _ hK1 => ?_
 refine yv y_as <| fk [(0, _), (1, _), (2, _), (3, _), (4, _), (5, _)] hK1 ?_; refine Hd.seq fun _ hK2 => ?_
 refine sr fun _ hK3 => ?_
 refine yv y_mv <| yv (y_neq rfl rfl) ?_; refine yv y_mv ?_; apply Hd.org 3 15 18 [(0, _), (1, _), (2, _), (3, _), (4, _), (5, _)] rfl sbq
 ·intro _
  simp only [List.take]; refine n1 <| n1 <| yv (y_pickT rfl rfl) ?_; refine Hd.nil ?_; exact Hd.mq
 ·intro _
  simp only [List.take]; refine y2 y_mv <| y2 (y_neq rfl rfl) ?_; refine yv (y_pickF rfl rfl) ?_; refine Hd.nil ?_; exact Hd.mq
 simp only [List.drop]; refine fk [(0, _), (1, _), (2, _), (3, _), (4, _), (5, _), (18, _)] hK3 ?_; refine Hd.cond rfl (fun hc0 => ?_) (fun hc0 => ?_)
 ·try simp only [hyA, hyB, hyC, ne_eq] at hc0
  refine sr fun _ hK4 => ?_
  refine yv y_mv <| yv y_mv <| yv (y_eqlT rfl rfl) ?_; refine yv y_mv ?_; apply Hd.andg 3 22 25 [(1, _)] rfl sbq
  ·intro _
   simp only [List.take]; refine y2 y_mv <| y2 (y_eql rfl rfl) ?_; refine yv (y_pickT rfl rfl) ?_; refine Hd.nil ?_; exact Hd.mq
  ·intro _
   simp only [List.take]; refine n1 <| n1 <| yv (y_pickF rfl rfl) ?_; refine Hd.nil ?_; exact Hd.mq
  simp only [List.drop]; refine yv y_mv ?_; apply Hd.andg 3 26 29 [] rfl sbq
  ·intro _
   simp only [List.take]; refine y2 y_mv <| y2 (y_eql rfl rfl) ?_; refine yv (y_pickT rfl rfl) ?_; refine Hd.nil ?_; exact Hd.mq
  ·intro _
   simp only [List.take]; refine n1 <| n1 <| yv (y_pickF rfl rfl) ?_; refine Hd.nil ?_; exact Hd.mq
  simp only [List.drop]; refine yv y_as <| fk [(12, _)] hK4 ?_; refine Hd.ret <| Hd.thenRet ?_
  obtain ⟨rfl, rfl⟩ := h.no (by omega)
  exact Hd.ret1 rfl () rfl sq
 ·try simp only [hyA, hyB, hyC, ne_eq] at hc0
  obtain ⟨f, t, rfl, rfl, ht⟩ := h.yes (by omega)
  have hln : 0 < (f :: t).length := Nat.succ_pos _
  refine Hd.skip <| Hd.toK hK2 ?_; refine Hd.seq fun _ hK5 => ?_
  refine sr fun _ hK6 => ?_
  refine yv y_mv <| yv (y_len Tryz.underlying44 rfl) ?_; refine yv (y_eql rfl rfl) ?_; refine fk [(0, _), (1, _), (3, _), (4, _), (32, _)] hK6 ?_; refine Hd.cond rfl (fun hc1 => ?_) (fun hc1 => ?_)
  ·try simp only [hyA, hyB, hyC, ne_eq] at hc1
   obtain ⟨g, rfl, rfl⟩ : ∃ g, t = [g] ∧ b = ((g : Nat) : Int) := by
    rcases ht with ⟨rfl, _⟩ | h1
    ·simp at hc1
    ·exact h1
   refine sr fun _ hK7 => ?_
   refine yv y_mv <| yv y_mv <| yv (y_idxR Tryz.underlying44 sz3 rfl rfl (by exact (show (0 : Nat) < _ by omega)) (by exact hR)) ?_; refine yv (y_loadR1 ag3 rfl (by exact hR) (by rfl)) ?_; refine yv (y_eqlT rfl rfl) ?_; refine yv y_mv ?_; apply Hd.andg 6 38 44 [] rfl sbq
   ·intro hg4_38
    try simp only [hyA, hyB, hyC, ne_eq] at hg4_38
    simp only [List.take]; refine y2 y_mv <| y2 y_mv <| y2 (y_idxR Tryz.underlying44 sz3 rfl rfl (by exact (show (1 : Nat) < _ by omega)) (by exact hR)) ?_; refine y2 (y_loadR1 ag3 rfl (by exact hR) (by rfl)) ?_; refine y2 (y_eqlT rfl rfl) ?_; refine yv (y_pickT rfl rfl) ?_; refine Hd.nil ?_; exact Hd.mq
   ·intro _
    simp only [List.take]; refine n1 <| n1 <| n1 <| n1 <| n1 <| yv (y_pickF rfl rfl) ?_; refine Hd.nil ?_; exact Hd.mq
   simp only [List.drop]; refine yv y_as <| fk [(12, _)] hK7 ?_; refine Hd.ret <| Hd.thenRet ?_; exact Hd.ret1 rfl () (by rfl) sq
  ·try simp only [hyA, hyB, hyC, ne_eq] at hc1
   obtain ⟨rfl, rfl⟩ : t = [] ∧ b = wire := by
    rcases ht with h1 | ⟨g, rfl, _⟩
    ·exact h1
    ·exact absurd rfl hc1
   refine Hd.skip <| Hd.toK hK5 ?_; refine sr fun _ hK8 => ?_
   refine yv y_mv <| yv y_mv <| yv (y_idxR Tryz.underlying44 sz3 rfl rfl (by exact (show (0 : Nat) < _ by omega)) (by exact hR)) ?_; refine yv (y_loadR1 ag3 rfl (by exact hR) (by rfl)) ?_; refine yv (y_eqlT rfl rfl) ?_; refine yv y_mv ?_; apply Hd.andg 4 50 54 [] rfl sbq
   ·intro _
    simp only [List.take]; refine y2 y_mv <| y2 y_mv <| y2 (y_eqlT rfl rfl) ?_; refine yv (y_pickT rfl rfl) ?_; refine Hd.nil ?_; exact Hd.mq
   ·intro _
    simp only [List.take]; refine n1 <| n1 <| n1 <| yv (y_pickF rfl rfl) ?_; refine Hd.nil ?_; exact Hd.mq
   simp only [List.drop]; refine yv y_as <| fk [(12, _)] hK8 ?_; refine Hd.ret ?_; exact Hd.ret1 rfl () (by rfl) sq
theorem do_ct (L : List SP) (pb wb rb : Nat) (w : WA) (K : Nat) (hK : K ≤ 100000000) (hl : Lo K w) (o : Ov) (ht : InK .u64 o.t) (hd : o.d.length ≤ 300) (hR : RdS L 1 o.ad o.d.length (bsl o.d)) (hc : o.d.length ≤ o.c) : Ct Tryz.prog 17 #[.pointer (some ⟨pb, 0, none⟩), .agg (encO o).toArray] (BoP pb wb rb :: WorldP wb w :: Rf.RwP rb w :: L) (fun _ : Unit => .bool true) (fun _ : Unit => BoP pb wb rb :: WorldP wb (doA w o) :: Rf.RwP rb (doA w o) :: L) := by
 refine Ct.o2 Tryz.func17 ?_; intro E
 show Hd E 289 _ _ _ _
 have ht0 := ht
 simp only [InK] at ht
 have hnow := hl.now
 refine Hd.wokW (.there .here) (fun hw => ?_); refine sr fun _ hK1 => ?_
 refine Hd.box rfl rfl (fun b3 => ?_); refine yv y_as <| fk [(0, _), (3, _)] hK1 ?_; refine sr fun _ hK2 => ?_
 refine Hd.bslice (vs := []) rfl (by exact bs17_31 ..) (fun b31 => ?_); refine Hd.ownNil 5 1 (some ⟨b31, 0, none⟩) ?_; refine yv (y_f 4 31 Tryz.underlying33 sz31) ?_; refine yv (y_l1 ag31 rfl) ?_; refine Hd.append Tryz.underlying31 ty5 rfl rfl rfl pkk (by exact RdS.mono hR sq) (by simp [Value.oneCell']; done) (by simp only [maxLen]; omega) (by omega) (fun ad34 cap34 => ?_); refine yv y_as <| Hd.nil ?_; rw [Nat.zero_add, List.nil_append]; refine sk [(0, _), (3, _), (5, _)] hK2 ?_; refine Hd.seq fun _ hK3 => ?_
 refine Hd.ownCap (ad := ad34) (us := bsl o.d) pkk (fun hcap => ?_); refine Hd.region <| yv y_as <| fk [(0, _), (3, _), (5, _)] hK3 ?_; refine Hd.cutK (ι := Unit) [(5, _)] (fun _ => [(6, .bool true)]) (fun _ => own 5 1 ad34 o.d.length cap34 (bsl o.d) :: BoP pb wb rb :: WorldP wb (doA w o) :: Rf.RwP rb (doA w o) :: L) ?_ ?_ ⟨rfl, trivial⟩
 ·refine sr fun _ hK4 => ?_
  refine yv (y_f 0 3 Tryz.underlying33 sz3) ?_; refine yv (y_l1 ag3 rfl) ?_; refine fk [(0, _), (3, _), (5, _), (36, _)] hK4 ?_; refine Hd.block <| Hd.seq fun _ hK5 => ?_
  refine sr fun _ hK6 => ?_
  refine yv (y_eql rfl rfl) ?_; refine yv y_as <| fk [(0, _), (3, _), (5, _), (36, _), (41, _)] hK6 ?_; refine Hd.cond rfl (fun hc0 => ?_) (fun hc0 => ?_)
  ·try simp only [hyA, hyB, hyC, ne_eq] at hc0
   rw [decide_eq_true hc0]; refine Hd.skip <| Hd.toK hK5 ?_; refine Hd.condT rfl ?_; refine sr fun _ hK7 => ?_
   refine yv y_as <| yv y_as <| fk [(0, _), (3, _), (5, _)] hK7 ?_; refine sr fun _ hK8 => ?_
   refine yv y_as <| fk [(0, _), (3, _), (5, _)] hK8 ?_; refine Hd.seq fun _ hK9 => ?_
   refine sr fun _ hK10 => ?_
   refine yv (y_f 0 3 Tryz.underlying33 sz3) ?_; refine yv (y_l1 ag3 rfl) ?_; refine fk [(0, _), (3, _), (5, _), (47, _)] hK10 ?_; refine Hd.block <| sr fun _ hK11 => ?_
   refine yv (y_eql rfl rfl) ?_; refine yv y_as <| fk [(0, _), (3, _), (5, _), (47, _), (59, _)] hK11 ?_; refine Hd.cond rfl (fun hc4 => ?_) (fun hc4 => ?_)
   ·try simp only [hyA, hyB, hyC, ne_eq] at hc4
    refine Hd.drawsH ([BoP pb wb rb, pt b3 (encO o) 33]) (fun _ => true) mixed ?_; simp only [List.length, Nat.zero_add, Nat.reduceAdd]; refine tH 0 rfl y_mv ?_; refine tH 1 rfl y_np ?_; refine tH 2 rfl (y_f 0 38 Tryz.underlying41 sz38) ?_; refine tH 3 rfl (y_l1 ag38 rfl) ?_; refine tH 4 rfl (y_f 2 3 Tryz.underlying33 sz3) ?_; refine tH 5 rfl (y_l1 ag3 rfl) ?_; refine onlyH 6 rfl kq ?_; refine callE rfl fk54 (wmk0_ct _ wb w o.k o.n (by omega)) sq ?_; intro _; refine Hd.nil <| thenN <| heldK (J := (fun _ => true)) (i := 6) sq ?_; refine tH 7 rfl y_mv ?_; refine tH 8 rfl y_ex ?_; refine tH 9 rfl y_ex ?_; refine tH 10 rfl y_ex ?_; refine tH 11 rfl y_as ?_; refine tH 12 rfl y_as ?_; refine tH 13 rfl y_as ?_; refine endH kq ?_; refine slots [(0, _), (3, _), (5, _), (7, _), (8, _), (9, _)] sbq ?_; refine Hd.inB <| Hd.toK hK9 ?_; refine Hd.seq fun _ hK12 => ?_
    refine Hd.drawsH ([BoP pb wb rb, pt b3 (encO o) 33]) (fun _ => true) mixed ?_; simp only [List.length, Nat.zero_add, Nat.reduceAdd]; refine tH 0 rfl y_mv ?_; refine tH 1 rfl y_np ?_; refine tH 2 rfl (y_f 1 39 Tryz.underlying41 sz39) ?_; refine tH 3 rfl (y_l1 ag39 rfl) ?_; refine tH 4 rfl (y_f 0 3 Tryz.underlying33 sz3) ?_; refine tH 5 rfl (y_l1 ag3 rfl) ?_; refine tH 6 rfl (y_f 2 3 Tryz.underlying33 sz3) ?_; refine tH 7 rfl (y_l1 ag3 rfl) ?_; refine onlyH 8 rfl kq ?_; refine callE rfl fk57 (Rf.rMake_ct _ rb w hw o.k o.n (by omega)) sq ?_; rintro ⟨ma, mc⟩; dsimp only; refine Hd.nil <| thenN <| heldK (J := (fun _ => true)) (i := 8) sq ?_; refine tH 9 rfl y_mv ?_; refine tH 10 rfl y_ex ?_; refine tH 11 rfl y_ex ?_; refine tH 12 rfl y_as ?_; refine tH 13 rfl y_as ?_; refine endH kq ?_; refine sk [(0, _), (5, _), (7, _), (8, _), (9, _), (10, _), (11, _)] hK12 ?_; refine Hd.wokW (wb := wb) (w := makeR w o.k o.n) pkk (fun hw2 => ?_)
    refine Rf.Hd.rw (b := rb) (w := makeR w o.k o.n) pkk (fun i hi => ?_)
    have hrl := Rf.rows_n hi
    have hlen := hw2.len
    refine Hd.region <| yv y_mv <| yv y_mv <| yv y_mv <| yv y_mv <| yv y_mv <| yv y_np <| yv (y_f 1 39 Tryz.underlying41 sz39) ?_; refine yv (y_l1 ag39 rfl) ?_; refine yv y_np <| yv (y_f 0 129 Tryz.underlying133 sz129) ?_; refine yv (y_l1 ag129 rfl) ?_; refine yv (y_len Tryz.underlying129 rfl) ?_; refine yv (y_to (v' := .int .i64 (((makeR w o.k o.n).ws.length : Nat) - 1)) (y_subn rfl rfl (by simp only [InK]; omega)) (by (congr 1; omega))) ?_; refine yv y_mv <| callE rfl fk58 (made_ct _ _ _ _ _ _ ma mc ?hD (made_ok w (k := o.k) (by omega) o.n)) sq ?_
    case hD => exact RdS.own pkk
    intro _; refine yv y_as <| Hd.nil <| slots [(5, _), (6, _)] sbq ?_; refine Hd.inB <| thenN ?_; rw [do_mk ⟨by omega, by omega⟩]; exact Hd.meet () sbq (Ent.sep (.pick pkk (.pick pkk (.pick pkk (.ex i (.pure hi enn))))))
   ·try simp only [hyA, hyB, hyC, ne_eq] at hc4
    exact absurd hc0 hc4
  ·try simp only [hyA, hyB, hyC, ne_eq] at hc0
   refine sr fun _ hK13 => ?_
   refine yv (y_eql rfl rfl) ?_; refine yv y_as <| fk [(0, _), (3, _), (5, _), (36, _), (41, _)] hK13 ?_; refine Hd.cond rfl (fun hc1 => ?_) (fun hc1 => ?_)
   ·try simp only [hyA, hyB, hyC, ne_eq] at hc1
    rw [decide_eq_true hc1]; refine Hd.skip <| Hd.toK hK5 ?_; refine Hd.condT rfl ?_; refine sr fun _ hK14 => ?_
    refine yv y_as <| yv y_as <| fk [(0, _), (3, _), (5, _)] hK14 ?_; refine sr fun _ hK15 => ?_
    refine yv y_as <| fk [(0, _), (3, _), (5, _)] hK15 ?_; refine Hd.seq fun _ hK16 => ?_
    refine sr fun _ hK17 => ?_
    refine yv (y_f 0 3 Tryz.underlying33 sz3) ?_; refine yv (y_l1 ag3 rfl) ?_; refine fk [(0, _), (3, _), (5, _), (47, _)] hK17 ?_; refine Hd.block <| sr fun _ hK18 => ?_
    refine yv (y_eql rfl rfl) ?_; refine yv y_as <| fk [(0, _), (3, _), (5, _), (47, _), (59, _)] hK18 ?_; refine Hd.cond rfl (fun hc4 => ?_) (fun hc4 => ?_)
    ·try simp only [hyA, hyB, hyC, ne_eq] at hc4
     exact absurd (hc4.symm.trans hc1) (by decide)
    ·try simp only [hyA, hyB, hyC, ne_eq] at hc4
     refine sr fun _ hK19 => ?_
     refine yv (y_eql rfl rfl) ?_; refine yv y_as <| fk [(0, _), (3, _), (5, _), (47, _), (72, _)] hK19 ?_; refine Hd.cond rfl (fun hc5 => ?_) (fun hc5 => ?_)
     ·try simp only [hyA, hyB, hyC, ne_eq] at hc5
      refine Hd.drawsH ([BoP pb wb rb, pt b3 (encO o) 33]) (fun _ => true) mixed ?_; simp only [List.length, Nat.zero_add, Nat.reduceAdd]; refine tH 0 rfl y_mv ?_; refine tH 1 rfl y_np ?_; refine tH 2 rfl (y_f 0 38 Tryz.underlying41 sz38) ?_; refine tH 3 rfl (y_l1 ag38 rfl) ?_; refine tH 4 rfl (y_f 2 3 Tryz.underlying33 sz3) ?_; refine tH 5 rfl (y_l1 ag3 rfl) ?_; refine onlyH 6 rfl kq ?_; refine callE rfl fk55 (wmk1_ct _ wb w o.k o.n (by omega)) sq ?_; intro _; refine Hd.nil <| thenN <| heldK (J := (fun _ => true)) (i := 6) sq ?_; refine tH 7 rfl y_mv ?_; refine tH 8 rfl y_ex ?_; refine tH 9 rfl y_ex ?_; refine tH 10 rfl y_ex ?_; refine tH 11 rfl y_as ?_; refine tH 12 rfl y_as ?_; refine tH 13 rfl y_as ?_; refine endH kq ?_; refine slots [(0, _), (3, _), (5, _), (7, _), (8, _), (9, _)] sbq ?_; refine Hd.inB <| Hd.toK hK16 ?_; refine Hd.seq fun _ hK20 => ?_
      refine Hd.drawsH ([BoP pb wb rb, pt b3 (encO o) 33]) (fun _ => true) mixed ?_; simp only [List.length, Nat.zero_add, Nat.reduceAdd]; refine tH 0 rfl y_mv ?_; refine tH 1 rfl y_np ?_; refine tH 2 rfl (y_f 1 39 Tryz.underlying41 sz39) ?_; refine tH 3 rfl (y_l1 ag39 rfl) ?_; refine tH 4 rfl (y_f 0 3 Tryz.underlying33 sz3) ?_; refine tH 5 rfl (y_l1 ag3 rfl) ?_; refine tH 6 rfl (y_f 2 3 Tryz.underlying33 sz3) ?_; refine tH 7 rfl (y_l1 ag3 rfl) ?_; refine onlyH 8 rfl kq ?_; refine callE rfl fk57 (Rf.rMake_ct _ rb w hw o.k o.n (by omega)) sq ?_; rintro ⟨ma, mc⟩; dsimp only; refine Hd.nil <| thenN <| heldK (J := (fun _ => true)) (i := 8) sq ?_; refine tH 9 rfl y_mv ?_; refine tH 10 rfl y_ex ?_; refine tH 11 rfl y_ex ?_; refine tH 12 rfl y_as ?_; refine tH 13 rfl y_as ?_; refine endH kq ?_; refine sk [(0, _), (5, _), (7, _), (8, _), (9, _), (10, _), (11, _)] hK20 ?_; refine Hd.wokW (wb := wb) (w := makeR w o.k o.n) pkk (fun hw2 => ?_)
      refine Rf.Hd.rw (b := rb) (w := makeR w o.k o.n) pkk (fun i hi => ?_)
      have hrl := Rf.rows_n hi
      have hlen := hw2.len
      refine Hd.region <| yv y_mv <| yv y_mv <| yv y_mv <| yv y_mv <| yv y_mv <| yv y_np <| yv (y_f 1 39 Tryz.underlying41 sz39) ?_; refine yv (y_l1 ag39 rfl) ?_; refine yv y_np <| yv (y_f 0 129 Tryz.underlying133 sz129) ?_; refine yv (y_l1 ag129 rfl) ?_; refine yv (y_len Tryz.underlying129 rfl) ?_; refine yv (y_to (v' := .int .i64 (((makeR w o.k o.n).ws.length : Nat) - 1)) (y_subn rfl rfl (by simp only [InK]; omega)) (by (congr 1; omega))) ?_; refine yv y_mv <| callE rfl fk58 (made_ct _ _ _ _ _ _ ma mc ?hD (made_ok w (k := o.k) (by omega) o.n)) sq ?_
      case hD => exact RdS.own pkk
      intro _; refine yv y_as <| Hd.nil <| slots [(5, _), (6, _)] sbq ?_; refine Hd.inB <| thenN ?_; rw [do_mk ⟨by omega, by omega⟩]; exact Hd.meet () sbq (Ent.sep (.pick pkk (.pick pkk (.pick pkk (.ex i (.pure hi enn))))))
     ·try simp only [hyA, hyB, hyC, ne_eq] at hc5
      exact absurd hc1 hc5
   ·try simp only [hyA, hyB, hyC, ne_eq] at hc1
    refine sr fun _ hK21 => ?_
    refine yv (y_eql rfl rfl) ?_; refine yv y_as <| fk [(0, _), (3, _), (5, _), (36, _), (41, _)] hK21 ?_; refine Hd.cond rfl (fun hc2 => ?_) (fun hc2 => ?_)
    ·try simp only [hyA, hyB, hyC, ne_eq] at hc2
     rw [decide_eq_true hc2]; refine Hd.skip <| Hd.toK hK5 ?_; refine Hd.condT rfl ?_; refine sr fun _ hK22 => ?_
     refine yv y_as <| yv y_as <| fk [(0, _), (3, _), (5, _)] hK22 ?_; refine sr fun _ hK23 => ?_
     refine yv y_as <| fk [(0, _), (3, _), (5, _)] hK23 ?_; refine Hd.seq fun _ hK24 => ?_
     refine sr fun _ hK25 => ?_
     refine yv (y_f 0 3 Tryz.underlying33 sz3) ?_; refine yv (y_l1 ag3 rfl) ?_; refine fk [(0, _), (3, _), (5, _), (47, _)] hK25 ?_; refine Hd.block <| sr fun _ hK26 => ?_
     refine yv (y_eql rfl rfl) ?_; refine yv y_as <| fk [(0, _), (3, _), (5, _), (47, _), (59, _)] hK26 ?_; refine Hd.cond rfl (fun hc4 => ?_) (fun hc4 => ?_)
     ·try simp only [hyA, hyB, hyC, ne_eq] at hc4
      exact absurd (hc4.symm.trans hc2) (by decide)
     ·try simp only [hyA, hyB, hyC, ne_eq] at hc4
      refine sr fun _ hK27 => ?_
      refine yv (y_eql rfl rfl) ?_; refine yv y_as <| fk [(0, _), (3, _), (5, _), (47, _), (72, _)] hK27 ?_; refine Hd.cond rfl (fun hc5 => ?_) (fun hc5 => ?_)
      ·try simp only [hyA, hyB, hyC, ne_eq] at hc5
       exact absurd (hc5.symm.trans hc2) (by decide)
      ·try simp only [hyA, hyB, hyC, ne_eq] at hc5
       refine sr fun _ hK28 => ?_
       refine yv (y_eql rfl rfl) ?_; refine yv y_as <| fk [(0, _), (3, _), (5, _), (85, _)] hK28 ?_; refine Hd.cond rfl (fun hc6 => ?_) (fun hc6 => ?_)
       ·try simp only [hyA, hyB, hyC, ne_eq] at hc6
        refine Hd.drawsH ([BoP pb wb rb, pt b3 (encO o) 33]) (fun _ => true) mixed ?_; simp only [List.length, Nat.zero_add, Nat.reduceAdd]; refine tH 0 rfl y_mv ?_; refine tH 1 rfl y_np ?_; refine tH 2 rfl (y_f 0 38 Tryz.underlying41 sz38) ?_; refine tH 3 rfl (y_l1 ag38 rfl) ?_; refine tH 4 rfl (y_f 2 3 Tryz.underlying33 sz3) ?_; refine tH 5 rfl (y_l1 ag3 rfl) ?_; refine onlyH 6 rfl kq ?_; refine callE rfl fk50 (wmk2_ct _ wb w o.k o.n (by omega)) sq ?_; intro _; refine Hd.nil <| thenN <| heldK (J := (fun _ => true)) (i := 6) sq ?_; refine tH 7 rfl y_mv ?_; refine tH 8 rfl y_ex ?_; refine tH 9 rfl y_ex ?_; refine tH 10 rfl y_ex ?_; refine tH 11 rfl y_as ?_; refine tH 12 rfl y_as ?_; refine tH 13 rfl y_as ?_; refine endH kq ?_; refine slots [(0, _), (3, _), (5, _), (7, _), (8, _), (9, _)] sbq ?_; refine Hd.inB <| Hd.toK hK24 ?_; refine Hd.seq fun _ hK29 => ?_
        refine Hd.drawsH ([BoP pb wb rb, pt b3 (encO o) 33]) (fun _ => true) mixed ?_; simp only [List.length, Nat.zero_add, Nat.reduceAdd]; refine tH 0 rfl y_mv ?_; refine tH 1 rfl y_np ?_; refine tH 2 rfl (y_f 1 39 Tryz.underlying41 sz39) ?_; refine tH 3 rfl (y_l1 ag39 rfl) ?_; refine tH 4 rfl (y_f 0 3 Tryz.underlying33 sz3) ?_; refine tH 5 rfl (y_l1 ag3 rfl) ?_; refine tH 6 rfl (y_f 2 3 Tryz.underlying33 sz3) ?_; refine tH 7 rfl (y_l1 ag3 rfl) ?_; refine onlyH 8 rfl kq ?_; refine callE rfl fk57 (Rf.rMake_ct _ rb w hw o.k o.n (by omega)) sq ?_; rintro ⟨ma, mc⟩; dsimp only; refine Hd.nil <| thenN <| heldK (J := (fun _ => true)) (i := 8) sq ?_; refine tH 9 rfl y_mv ?_; refine tH 10 rfl y_ex ?_; refine tH 11 rfl y_ex ?_; refine tH 12 rfl y_as ?_; refine tH 13 rfl y_as ?_; refine endH kq ?_; refine sk [(0, _), (5, _), (7, _), (8, _), (9, _), (10, _), (11, _)] hK29 ?_; refine Hd.wokW (wb := wb) (w := makeR w o.k o.n) pkk (fun hw2 => ?_)
        refine Rf.Hd.rw (b := rb) (w := makeR w o.k o.n) pkk (fun i hi => ?_)
        have hrl := Rf.rows_n hi
        have hlen := hw2.len
        refine Hd.region <| yv y_mv <| yv y_mv <| yv y_mv <| yv y_mv <| yv y_mv <| yv y_np <| yv (y_f 1 39 Tryz.underlying41 sz39) ?_; refine yv (y_l1 ag39 rfl) ?_; refine yv y_np <| yv (y_f 0 129 Tryz.underlying133 sz129) ?_; refine yv (y_l1 ag129 rfl) ?_; refine yv (y_len Tryz.underlying129 rfl) ?_; refine yv (y_to (v' := .int .i64 (((makeR w o.k o.n).ws.length : Nat) - 1)) (y_subn rfl rfl (by simp only [InK]; omega)) (by (congr 1; omega))) ?_; refine yv y_mv <| callE rfl fk58 (made_ct _ _ _ _ _ _ ma mc ?hD (made_ok w (k := o.k) (by omega) o.n)) sq ?_
        case hD => exact RdS.own pkk
        intro _; refine yv y_as <| Hd.nil <| slots [(5, _), (6, _)] sbq ?_; refine Hd.inB <| thenN ?_; rw [do_mk ⟨by omega, by omega⟩]; exact Hd.meet () sbq (Ent.sep (.pick pkk (.pick pkk (.pick pkk (.ex i (.pure hi enn))))))
       ·try simp only [hyA, hyB, hyC, ne_eq] at hc6
        exact absurd hc2 hc6
    ·try simp only [hyA, hyB, hyC, ne_eq] at hc2
     refine Hd.region <| yv (y_eql rfl rfl) ?_; refine yv y_as <| fk [(0, _), (3, _), (5, _), (36, _), (41, _)] hK5 ?_; refine Hd.cond rfl (fun hc3 => ?_) (fun hc3 => ?_)
     ·try simp only [hyA, hyB, hyC, ne_eq] at hc3
      refine sr fun _ hK30 => ?_
      refine yv y_as <| yv y_as <| fk [(0, _), (3, _), (5, _)] hK30 ?_; refine sr fun _ hK31 => ?_
      refine yv y_as <| fk [(0, _), (3, _), (5, _)] hK31 ?_; refine Hd.seq fun _ hK32 => ?_
      refine sr fun _ hK33 => ?_
      refine yv (y_f 0 3 Tryz.underlying33 sz3) ?_; refine yv (y_l1 ag3 rfl) ?_; refine fk [(0, _), (3, _), (5, _), (47, _)] hK33 ?_; refine Hd.block <| sr fun _ hK34 => ?_
      refine yv (y_eql rfl rfl) ?_; refine yv y_as <| fk [(0, _), (3, _), (5, _), (47, _), (59, _)] hK34 ?_; refine Hd.cond rfl (fun hc4 => ?_) (fun hc4 => ?_)
      ·try simp only [hyA, hyB, hyC, ne_eq] at hc4
       exact absurd (hc4.symm.trans hc3) (by decide)
      ·try simp only [hyA, hyB, hyC, ne_eq] at hc4
       refine sr fun _ hK35 => ?_
       refine yv (y_eql rfl rfl) ?_; refine yv y_as <| fk [(0, _), (3, _), (5, _), (47, _), (72, _)] hK35 ?_; refine Hd.cond rfl (fun hc5 => ?_) (fun hc5 => ?_)
       ·try simp only [hyA, hyB, hyC, ne_eq] at hc5
        exact absurd (hc5.symm.trans hc3) (by decide)
       ·try simp only [hyA, hyB, hyC, ne_eq] at hc5
        refine sr fun _ hK36 => ?_
        refine yv (y_eql rfl rfl) ?_; refine yv y_as <| fk [(0, _), (3, _), (5, _), (85, _)] hK36 ?_; refine Hd.cond rfl (fun hc6 => ?_) (fun hc6 => ?_)
        ·try simp only [hyA, hyB, hyC, ne_eq] at hc6
         exact absurd (hc6.symm.trans hc3) (by decide)
        ·try simp only [hyA, hyB, hyC, ne_eq] at hc6
         refine Hd.drawsH ([BoP pb wb rb, pt b3 (encO o) 33]) (fun _ => true) mixed ?_; simp only [List.length, Nat.zero_add, Nat.reduceAdd]; refine tH 0 rfl y_mv ?_; refine tH 1 rfl y_np ?_; refine tH 2 rfl (y_f 0 38 Tryz.underlying41 sz38) ?_; refine tH 3 rfl (y_l1 ag38 rfl) ?_; refine tH 4 rfl (y_f 2 3 Tryz.underlying33 sz3) ?_; refine tH 5 rfl (y_l1 ag3 rfl) ?_; refine onlyH 6 rfl kq ?_; refine callE rfl fk56 (wmk3_ct _ wb w o.k o.n (by omega)) sq ?_; intro _; refine Hd.nil <| thenN <| heldK (J := (fun _ => true)) (i := 6) sq ?_; refine tH 7 rfl y_mv ?_; refine tH 8 rfl y_ex ?_; refine tH 9 rfl y_ex ?_; refine tH 10 rfl y_ex ?_; refine tH 11 rfl y_as ?_; refine tH 12 rfl y_as ?_; refine tH 13 rfl y_as ?_; refine endH kq ?_; refine slots [(0, _), (3, _), (5, _), (7, _), (8, _), (9, _)] sbq ?_; refine Hd.inB <| Hd.toK hK32 ?_; refine Hd.seq fun _ hK37 => ?_
         refine Hd.drawsH ([BoP pb wb rb, pt b3 (encO o) 33]) (fun _ => true) mixed ?_; simp only [List.length, Nat.zero_add, Nat.reduceAdd]; refine tH 0 rfl y_mv ?_; refine tH 1 rfl y_np ?_; refine tH 2 rfl (y_f 1 39 Tryz.underlying41 sz39) ?_; refine tH 3 rfl (y_l1 ag39 rfl) ?_; refine tH 4 rfl (y_f 0 3 Tryz.underlying33 sz3) ?_; refine tH 5 rfl (y_l1 ag3 rfl) ?_; refine tH 6 rfl (y_f 2 3 Tryz.underlying33 sz3) ?_; refine tH 7 rfl (y_l1 ag3 rfl) ?_; refine onlyH 8 rfl kq ?_; refine callE rfl fk57 (Rf.rMake_ct _ rb w hw o.k o.n (by omega)) sq ?_; rintro ⟨ma, mc⟩; dsimp only; refine Hd.nil <| thenN <| heldK (J := (fun _ => true)) (i := 8) sq ?_; refine tH 9 rfl y_mv ?_; refine tH 10 rfl y_ex ?_; refine tH 11 rfl y_ex ?_; refine tH 12 rfl y_as ?_; refine tH 13 rfl y_as ?_; refine endH kq ?_; refine sk [(0, _), (5, _), (7, _), (8, _), (9, _), (10, _), (11, _)] hK37 ?_; refine Hd.wokW (wb := wb) (w := makeR w o.k o.n) pkk (fun hw2 => ?_)
         refine Rf.Hd.rw (b := rb) (w := makeR w o.k o.n) pkk (fun i hi => ?_)
         have hrl := Rf.rows_n hi
         have hlen := hw2.len
         refine Hd.region <| yv y_mv <| yv y_mv <| yv y_mv <| yv y_mv <| yv y_mv <| yv y_np <| yv (y_f 1 39 Tryz.underlying41 sz39) ?_; refine yv (y_l1 ag39 rfl) ?_; refine yv y_np <| yv (y_f 0 129 Tryz.underlying133 sz129) ?_; refine yv (y_l1 ag129 rfl) ?_; refine yv (y_len Tryz.underlying129 rfl) ?_; refine yv (y_to (v' := .int .i64 (((makeR w o.k o.n).ws.length : Nat) - 1)) (y_subn rfl rfl (by simp only [InK]; omega)) (by (congr 1; omega))) ?_; refine yv y_mv <| callE rfl fk58 (made_ct _ _ _ _ _ _ ma mc ?hD (made_ok w (k := o.k) (by omega) o.n)) sq ?_
         case hD => exact RdS.own pkk
         intro _; refine yv y_as <| Hd.nil <| slots [(5, _), (6, _)] sbq ?_; refine Hd.inB <| thenN ?_; rw [do_mk ⟨by omega, by omega⟩]; exact Hd.meet () sbq (Ent.sep (.pick pkk (.pick pkk (.pick pkk (.ex i (.pure hi enn))))))
     ·try simp only [hyA, hyB, hyC, ne_eq] at hc3
      refine sr fun _ hK38 => ?_
      refine yv (y_eql rfl rfl) ?_; refine yv y_as <| fk [(0, _), (3, _), (5, _), (36, _), (125, _)] hK38 ?_; refine Hd.cond rfl (fun hc7 => ?_) (fun hc7 => ?_)
      ·try simp only [hyA, hyB, hyC, ne_eq] at hc7
       refine Hd.seq fun _ hK39 => ?_
       refine Hd.drawsH ([BoP pb wb rb, pt b3 (encO o) 33]) (fun _ => true) mixed ?_; simp only [List.length, Nat.zero_add, Nat.reduceAdd]; refine tH 0 rfl y_mv ?_; refine tH 1 rfl y_np ?_; refine tH 2 rfl (y_f 0 38 Tryz.underlying41 sz38) ?_; refine tH 3 rfl (y_l1 ag38 rfl) ?_; refine tH 4 rfl (y_f 1 3 Tryz.underlying33 sz3) ?_; refine tH 5 rfl (y_l1 ag3 rfl) ?_; refine onlyH 6 rfl kq ?_; refine callE rfl fk59 (waccept_ct _ wb w o.a) sq ?_; intro _; refine Hd.nil <| thenN <| heldK (J := (fun _ => true)) (i := 6) sq ?_; refine tH 7 rfl y_mv ?_; refine tH 8 rfl y_ex ?_; refine tH 9 rfl y_ex ?_; refine tH 10 rfl y_ex ?_; refine tH 11 rfl y_as ?_; refine tH 12 rfl y_as ?_; refine tH 13 rfl y_as ?_; refine endH kq ?_; refine sk [(0, _), (3, _), (5, _), (12, _), (13, _), (14, _)] hK39 ?_; refine Hd.seq fun _ hK40 => ?_
       refine Hd.drawsH ([BoP pb wb rb, pt b3 (encO o) 33]) (fun _ => true) mixed ?_; simp only [List.length, Nat.zero_add, Nat.reduceAdd]; refine tH 0 rfl y_mv ?_; refine tH 1 rfl y_np ?_; refine tH 2 rfl (y_f 1 39 Tryz.underlying41 sz39) ?_; refine tH 3 rfl (y_l1 ag39 rfl) ?_; refine tH 4 rfl (y_f 1 3 Tryz.underlying33 sz3) ?_; refine tH 5 rfl (y_l1 ag3 rfl) ?_; refine onlyH 6 rfl kq ?_; refine callE rfl fk60 (Rf.rAccept_ct _ rb w hw o.a) sq ?_; intro _; refine Hd.nil <| thenN <| heldK (J := (fun _ => true)) (i := 6) sq ?_; refine tH 7 rfl y_mv ?_; refine tH 8 rfl y_ex ?_; refine tH 9 rfl y_ex ?_; refine tH 10 rfl y_ex ?_; refine tH 11 rfl y_as ?_; refine tH 12 rfl y_as ?_; refine tH 13 rfl y_as ?_; refine endH kq ?_; refine sk [(5, _), (12, _), (13, _), (14, _), (15, _), (16, _), (17, _)] hK40 ?_; refine Hd.region <| yv y_mv <| yv y_mv <| yv (y_eqlT rfl rfl) ?_
       refine yv y_mv ?_; apply Hd.andg 4 152 156 [(5, _), (14, _), (17, _)] rfl sbq
       ·intro _
        simp only [List.take]; refine y2 y_mv <| y2 y_mv <| y2 (y_eqlT rfl rfl) ?_; refine yv (y_pickT rfl rfl) ?_; refine Hd.nil ?_; exact Hd.mq
       ·intro _
        simp only [List.take]; refine n1 <| n1 <| n1 <| yv (y_pickF rfl rfl) ?_; refine Hd.nil ?_; exact Hd.mq
       simp only [List.drop]; refine yv y_mv ?_; apply Hd.andg 4 157 161 [(5, _)] rfl sbq
       ·intro _
        simp only [List.take]; refine y2 y_mv <| y2 y_mv <| y2 (y_eqlT rfl rfl) ?_; refine yv (y_pickT rfl rfl) ?_; refine Hd.nil ?_; exact Hd.mq
       ·intro _
        simp only [List.take]; refine n1 <| n1 <| n1 <| yv (y_pickF rfl rfl) ?_; refine Hd.nil ?_; exact Hd.mq
       simp only [List.drop]; refine yv y_as <| Hd.nil <| slots [(5, _), (6, _)] sbq ?_; refine Hd.inB <| thenN ?_; rw [do_4 hc7]; exact Hd.meet () (by (repeat (first | exact trivial | refine ⟨rfl, ?_⟩)); done) sq
      ·try simp only [hyA, hyB, hyC, ne_eq] at hc7
       refine sr fun _ hK41 => ?_
       refine yv (y_eql rfl rfl) ?_; refine yv y_as <| fk [(0, _), (3, _), (5, _), (36, _), (162, _)] hK41 ?_; refine Hd.cond rfl (fun hc8 => ?_) (fun hc8 => ?_)
       ·try simp only [hyA, hyB, hyC, ne_eq] at hc8
        refine Hd.seq fun _ hK42 => ?_
        refine Hd.drawsH ([BoP pb wb rb, pt b3 (encO o) 33]) (fun _ => true) mixed ?_; simp only [List.length, Nat.zero_add, Nat.reduceAdd]; refine tH 0 rfl y_mv ?_; refine tH 1 rfl y_np ?_; refine tH 2 rfl (y_f 0 38 Tryz.underlying41 sz38) ?_; refine tH 3 rfl (y_l1 ag38 rfl) ?_; refine tH 4 rfl (y_f 1 3 Tryz.underlying33 sz3) ?_; refine tH 5 rfl (y_l1 ag3 rfl) ?_; refine tH 6 rfl (y_f 2 3 Tryz.underlying33 sz3) ?_; refine tH 7 rfl (y_l1 ag3 rfl) ?_; refine onlyH 8 rfl kq ?_; refine callE rfl fk61 (wread_ct _ wb w o.a o.n) sq ?_; rintro ⟨ta, tc⟩; dsimp only; refine Hd.nil <| thenN <| heldK (J := (fun _ => true)) (i := 8) sq ?_; refine tH 9 rfl y_mv ?_; refine tH 10 rfl y_ex ?_; refine tH 11 rfl y_ex ?_; refine tH 12 rfl y_ex ?_; refine tH 13 rfl y_as ?_; refine tH 14 rfl y_as ?_; refine tH 15 rfl y_as ?_; refine endH kq ?_; refine sk [(0, _), (3, _), (5, _), (18, _), (19, _), (20, _)] hK42 ?_
        refine Hd.seq fun _ hK43 => ?_
        refine Hd.drawsH ([BoP pb wb rb, pt b3 (encO o) 33]) (fun _ => true) mixed ?_; simp only [List.length, Nat.zero_add, Nat.reduceAdd]; refine tH 0 rfl y_mv ?_; refine tH 1 rfl y_np ?_; refine tH 2 rfl (y_f 1 39 Tryz.underlying41 sz39) ?_; refine tH 3 rfl (y_l1 ag39 rfl) ?_; refine tH 4 rfl (y_f 1 3 Tryz.underlying33 sz3) ?_; refine tH 5 rfl (y_l1 ag3 rfl) ?_; refine tH 6 rfl (y_f 2 3 Tryz.underlying33 sz3) ?_; refine tH 7 rfl (y_l1 ag3 rfl) ?_; refine onlyH 8 rfl kq ?_; refine callE rfl fk62 (Rf.rRead_ct _ rb w hw o.a o.n) sq ?_; rintro ⟨ua, uc⟩; dsimp only; refine Hd.nil <| thenN <| heldK (J := (fun _ => true)) (i := 8) sq ?_; refine tH 9 rfl y_mv ?_; refine tH 10 rfl y_ex ?_; refine tH 11 rfl y_ex ?_; refine tH 12 rfl y_ex ?_; refine tH 13 rfl y_as ?_; refine tH 14 rfl y_as ?_; refine tH 15 rfl y_as ?_; refine endH kq ?_; refine sk [(5, _), (18, _), (19, _), (20, _), (21, _), (22, _), (23, _)] hK43 ?_
        refine Hd.region <| yv y_mv <| yv (y_strOf (l := _) kq Tryz.underlying9 rfl (by exact RdS.own pkk)) ?_; refine yv y_mv <| yv (y_strOf (l := _) kq Tryz.underlying9 rfl (by exact RdS.own pkk)) ?_; refine yv (y_eqlstr rfl rfl) ?_; refine yv y_mv ?_; apply Hd.andg 4 195 199 [(5, _), (20, _), (23, _)] rfl sbq
        ·intro _
         simp only [List.take]; refine y2 y_mv <| y2 y_mv <| y2 (y_eqlb Tryz.underlying4 rfl rfl) ?_; refine yv (y_pickT rfl rfl) ?_; refine Hd.nil ?_; exact Hd.mq
        ·intro _
         simp only [List.take]; refine n1 <| n1 <| n1 <| yv (y_pickF rfl rfl) ?_; refine Hd.nil ?_; exact Hd.mq
        simp only [List.drop]; refine yv y_mv ?_; apply Hd.andg 4 200 204 [(5, _)] rfl sbq
        ·intro _
         simp only [List.take]; refine y2 y_mv <| y2 y_mv <| y2 (y_eqlT rfl rfl) ?_; refine yv (y_pickT rfl rfl) ?_; refine Hd.nil ?_; exact Hd.mq
        ·intro _
         simp only [List.take]; refine n1 <| n1 <| n1 <| yv (y_pickF rfl rfl) ?_; refine Hd.nil ?_; exact Hd.mq
        simp only [List.drop]; refine yv y_as <| Hd.nil <| slots [(5, _), (6, _)] sbq ?_; refine Hd.inB <| thenN ?_; rw [do_5 hc8]; exact Hd.meet () (by simp; repeat (first | exact trivial | refine ⟨rfl, ?_⟩)) sq
       ·try simp only [hyA, hyB, hyC, ne_eq] at hc8
        refine sr fun _ hK44 => ?_
        refine yv (y_eql rfl rfl) ?_; refine yv y_as <| fk [(0, _), (3, _), (5, _), (36, _), (205, _)] hK44 ?_; refine Hd.cond rfl (fun hc9 => ?_) (fun hc9 => ?_)
        ·try simp only [hyA, hyB, hyC, ne_eq] at hc9
         refine Hd.seq fun _ hK45 => ?_
         refine Hd.drawsH ([BoP pb wb rb, pt b3 (encO o) 33]) (fun _ => true) mixed ?_; simp only [List.length, Nat.zero_add, Nat.reduceAdd]; refine tH 0 rfl y_mv ?_; refine tH 1 rfl y_np ?_; refine tH 2 rfl (y_f 0 38 Tryz.underlying41 sz38) ?_; refine tH 3 rfl (y_l1 ag38 rfl) ?_; refine tH 4 rfl (y_f 1 3 Tryz.underlying33 sz3) ?_; refine tH 5 rfl (y_l1 ag3 rfl) ?_; refine tH 6 rfl y_mv ?_; refine onlyH 7 rfl kq ?_; refine callE rfl fk63 (wwrite_ct _ wb w o.a ad34 o.d.length cap34 o.d rfl ?hD (by omega) hcap) sq ?_
         case hD => exact RdS.own pkk
         intro _; refine Hd.nil <| thenN <| heldK (J := (fun _ => true)) (i := 7) sq ?_; refine tH 8 rfl y_mv ?_; refine tH 9 rfl y_ex ?_; refine tH 10 rfl y_ex ?_; refine tH 11 rfl y_as ?_; refine tH 12 rfl y_as ?_; refine endH kq ?_; refine sk [(0, _), (3, _), (5, _), (24, _), (25, _)] hK45 ?_; refine Hd.seq fun _ hK46 => ?_
         refine Hd.drawsH ([BoP pb wb rb, pt b3 (encO o) 33]) (fun _ => true) mixed ?_; simp only [List.length, Nat.zero_add, Nat.reduceAdd]; refine tH 0 rfl y_mv ?_; refine tH 1 rfl y_np ?_; refine tH 2 rfl (y_f 1 39 Tryz.underlying41 sz39) ?_; refine tH 3 rfl (y_l1 ag39 rfl) ?_; refine tH 4 rfl (y_f 1 3 Tryz.underlying33 sz3) ?_; refine tH 5 rfl (y_l1 ag3 rfl) ?_; refine tH 6 rfl (y_f 4 31 Tryz.underlying33 sz31) ?_; refine tH 7 rfl (y_l1 ag31 rfl) ?_; refine onlyH 8 rfl kq ?_; refine callE rfl fk64 (Rf.rWrite_ct _ rb w hw o.a o.ad o.d.length o.c o.d rfl ?hD (by omega) hc) sq ?_
         case hD => exact RdS.mono hR sq
         intro _; refine Hd.nil <| thenN <| heldK (J := (fun _ => true)) (i := 8) sq ?_; refine tH 9 rfl y_mv ?_; refine tH 10 rfl y_ex ?_; refine tH 11 rfl y_ex ?_; refine tH 12 rfl y_as ?_; refine tH 13 rfl y_as ?_; refine endH kq ?_; refine sk [(5, _), (24, _), (25, _), (26, _), (27, _)] hK46 ?_; refine Hd.region <| yv y_mv <| yv y_mv <| yv (y_eqlT rfl rfl) ?_; refine yv y_mv ?_; apply Hd.andg 4 233 237 [(5, _)] rfl sbq
         ·intro _
          simp only [List.take]; refine y2 y_mv <| y2 y_mv <| y2 (y_eqlT rfl rfl) ?_; refine yv (y_pickT rfl rfl) ?_; refine Hd.nil ?_; exact Hd.mq
         ·intro _
          simp only [List.take]; refine n1 <| n1 <| n1 <| yv (y_pickF rfl rfl) ?_; refine Hd.nil ?_; exact Hd.mq
         simp only [List.drop]; refine yv y_as <| Hd.nil <| slots [(5, _), (6, _)] sbq ?_; refine Hd.inB <| thenN ?_; rw [do_6 hc9]; exact Hd.meet () (by (repeat (first | exact trivial | refine ⟨rfl, ?_⟩)); done) sq
        ·try simp only [hyA, hyB, hyC, ne_eq] at hc9
         refine sr fun _ hK47 => ?_
         refine yv (y_eql rfl rfl) ?_; refine yv y_as <| fk [(0, _), (3, _), (5, _), (36, _), (238, _)] hK47 ?_; refine Hd.cond rfl (fun hc10 => ?_) (fun hc10 => ?_)
         ·try simp only [hyA, hyB, hyC, ne_eq] at hc10
          refine Hd.seq fun _ hK48 => ?_
          refine Hd.drawsH ([BoP pb wb rb, pt b3 (encO o) 33]) (fun _ => true) mixed ?_; simp only [List.length, Nat.zero_add, Nat.reduceAdd]; refine tH 0 rfl y_mv ?_; refine tH 1 rfl y_np ?_; refine tH 2 rfl (y_f 0 38 Tryz.underlying41 sz38) ?_; refine tH 3 rfl (y_l1 ag38 rfl) ?_; refine tH 4 rfl (y_f 1 3 Tryz.underlying33 sz3) ?_; refine tH 5 rfl (y_l1 ag3 rfl) ?_; refine onlyH 6 rfl kq ?_; refine callE rfl fk65 (wshut_ct _ wb w o.a) sq ?_; intro _; refine Hd.nil <| thenN <| heldK (J := (fun _ => true)) (i := 6) sq ?_; refine tH 7 rfl y_as ?_; refine endH kq ?_; refine sk [(0, _), (3, _), (5, _), (28, _)] hK48 ?_; refine Hd.drawsH ([BoP pb wb rb, pt b3 (encO o) 33]) (fun _ => true) mixed ?_; simp only [List.length, Nat.zero_add, Nat.reduceAdd]; refine tH 0 rfl y_mv ?_; refine tH 1 rfl y_mv ?_; refine tH 2 rfl y_np ?_; refine tH 3 rfl (y_f 1 39 Tryz.underlying41 sz39) ?_; refine tH 4 rfl (y_l1 ag39 rfl) ?_
          refine tH 5 rfl (y_f 1 3 Tryz.underlying33 sz3) ?_; refine tH 6 rfl (y_l1 ag3 rfl) ?_; refine onlyH 7 rfl kq ?_; refine callE rfl fk66 (Rf.rShut_ct _ rb w hw o.a) sq ?_; intro _; refine Hd.nil <| thenN <| heldK (J := (fun _ => true)) (i := 7) sq ?_; refine tH 8 rfl (y_eqlT rfl rfl) ?_; refine tH 9 rfl y_as ?_; refine endH kq ?_; refine slots [(5, _), (6, _)] sbq ?_; refine Hd.inB <| thenN ?_; rw [do_7 hc10]; exact Hd.meet () (by (repeat (first | exact trivial | refine ⟨rfl, ?_⟩)); done) sq
         ·try simp only [hyA, hyB, hyC, ne_eq] at hc10
          refine sr fun _ hK49 => ?_
          refine yv (y_eql rfl rfl) ?_; refine yv y_as <| fk [(0, _), (3, _), (5, _), (256, _)] hK49 ?_; refine Hd.cond rfl (fun hc11 => ?_) (fun hc11 => ?_)
          ·try simp only [hyA, hyB, hyC, ne_eq] at hc11
           refine Hd.seq fun _ hK50 => ?_
           refine Hd.drawsH ([BoP pb wb rb, pt b3 (encO o) 33]) (fun _ => true) mixed ?_; simp only [List.length, Nat.zero_add, Nat.reduceAdd]; refine tH 0 rfl y_mv ?_; refine tH 1 rfl y_np ?_; refine tH 2 rfl (y_f 0 38 Tryz.underlying41 sz38) ?_; refine tH 3 rfl (y_l1 ag38 rfl) ?_; refine tH 4 rfl (y_f 1 3 Tryz.underlying33 sz3) ?_; refine tH 5 rfl (y_l1 ag3 rfl) ?_; refine onlyH 6 rfl kq ?_; refine callE rfl fk67 (wclose_ct _ wb w o.a) sq ?_; intro _; refine Hd.nil <| thenN <| heldK (J := (fun _ => true)) (i := 6) sq ?_; refine tH 7 rfl y_as ?_; refine endH kq ?_; refine sk [(0, _), (3, _), (5, _), (29, _)] hK50 ?_; refine Hd.drawsH ([BoP pb wb rb, pt b3 (encO o) 33]) (fun _ => true) mixed ?_; simp only [List.length, Nat.zero_add, Nat.reduceAdd]; refine tH 0 rfl y_mv ?_; refine tH 1 rfl y_mv ?_; refine tH 2 rfl y_np ?_; refine tH 3 rfl (y_f 1 39 Tryz.underlying41 sz39) ?_; refine tH 4 rfl (y_l1 ag39 rfl) ?_
           refine tH 5 rfl (y_f 1 3 Tryz.underlying33 sz3) ?_; refine tH 6 rfl (y_l1 ag3 rfl) ?_; refine onlyH 7 rfl kq ?_; refine callE rfl fk68 (Rf.rClose_ct _ rb w hw o.a) sq ?_; intro _; refine Hd.nil <| thenN <| heldK (J := (fun _ => true)) (i := 7) sq ?_; refine tH 8 rfl (y_eqlT rfl rfl) ?_; refine tH 9 rfl y_as ?_; refine endH kq ?_; refine slots [(5, _), (6, _)] sbq ?_; refine Hd.inB <| thenN ?_; rw [do_8 hc11]; exact Hd.meet () (by (repeat (first | exact trivial | refine ⟨rfl, ?_⟩)); done) sq
          ·try simp only [hyA, hyB, hyC, ne_eq] at hc11
           refine Hd.region <| yv y_mv <| yv (y_loadn (us := [_, _, _, _, _]) ag33 rfl (Rd.pt pkk (by exact fun j v e => by rw [Nat.zero_add]; exact e)) (by exact sz33)) ?_; refine yv y_mv <| callE rfl fk69 (more_ct _ pb wb rb w K hK hl o (by omega) ht0 hd ?hD hc ad34 cap34 ?hD2 hcap) sq ?_
           case hD => exact RdS.mono hR sq
           case hD2 => exact RdS.own pkk
           intro _; refine yv y_as <| Hd.nil <| slots [(5, _), (6, _)] sbq ?_; refine Hd.inB <| thenN ?_; exact Hd.meet () sbq sq
 ·intro _
  refine Hd.seq fun _ hK51 => ?_
  refine sr fun _ hK52 => ?_
  refine yv y_mv <| yv (y_len Tryz.underlying31 rfl) ?_; refine yv y_mv <| fk [(5, _), (6, _), (275, _), (276, _)] hK52 ?_; refine Hd.block <| Hd.loopK (ι := Nat × List Value) [(5, _), (6, _), (275, _)] (fun q_ => [(276, .int .i64 (q_.1 : Int))]) (fun q_ => pu (q_.1 ≤ o.d.length ∧ q_.2.length = o.d.length ∧ ∀ v ∈ q_.2, ∃ x, v = .int .u8 x) :: own 5 1 ad34 o.d.length cap34 q_.2 :: BoP pb wb rb :: WorldP wb (doA w o) :: Rf.RwP rb (doA w o) :: L) (fun q_ => o.d.length - q_.1) (0, bsl o.d) sbq sbq (Ent.sep (.pure ⟨Nat.zero_le _, by simp [bsl], fun v hv => by obtain ⟨b, _, rfl⟩ := List.mem_map.1 hv; exact ⟨_, rfl⟩⟩ enn)) ?_; rintro ⟨i, us⟩
  try dsimp only
  refine Hd.pure (fun hp0 => ?_)
  try dsimp only at hp0
  refine sr fun _ hK53 => ?_
  refine yv (y_lss rfl rfl) ?_; refine fk [(5, _), (6, _), (275, _), (276, _), (277, _)] hK53 ?_; refine Hd.seq fun _ hK54 => ?_
  refine Hd.cond rfl (fun hc12 => ?_) (fun hc12 => ?_)
  ·try simp only [hyA, hyB, hyC, ne_eq] at hc12
   have hi : i < o.d.length := by omega
   have hiu : i < us.length := by omega
   obtain ⟨x, hx⟩ := hp0.2.2 us[i] (List.getElem_mem hiu)
   have hg : us[i * 1]? = some (.int .u8 x) := by rw [Nat.mul_one, List.getElem?_eq_getElem hiu, hx]
   refine Hd.skip <| Hd.toK hK54 ?_; refine Hd.seq fun _ hK55 => ?_
   refine Hd.block <| sr fun _ hK56 => ?_
   refine yv y_mv <| yv y_as <| fk [(5, _), (6, _), (30, _), (275, _), (276, _)] hK56 ?_; refine Hd.region <| yv y_mv <| yv y_mv <| yv y_mv <| yv y_mv <| yv (y_idxR Tryz.underlying31 sz5 rfl rfl (by omega) (by exact RdS.own pkk)) ?_; refine yv (y_loadR1 ag5 rfl (by exact RdS.own pkk) (by exact hg)) ?_; refine yv (y_add rfl rfl) ?_; refine yv (y_idxR Tryz.underlying31 sz5 rfl rfl (by omega) (by exact RdS.own pkk)) ?_; refine Hd.storeO1 sz5 rfl rfl rfl pkk (by omega) ?_
   try simp only [List.set_cons_zero, List.set_cons_succ]
   refine Hd.nil <| slots [(5, _), (6, _), (275, _), (276, _)] sbq ?_; refine Hd.inB <| Hd.toK hK55 ?_; refine Hd.region <| yv (y_addn rfl rfl (by simp only [InK]; omega)) ?_; refine yv y_mv <| Hd.nil <| slots [(5, _), (6, _), (275, _), (276, _)] sbq ?_; refine thenN ?_
   have hnew : ∀ v ∈ us.set (i * 1) (.int .u8 (IntKind.u8.wrap (x + 1))), ∃ x, v = .int .u8 x := fun v hv => (List.mem_or_eq_of_mem_set hv).elim (fun h => hp0.2.2 v h) (fun h => ⟨_, h⟩)
   exact Hd.again (i + 1, us.set (i * 1) (.int .u8 (IntKind.u8.wrap (x + 1)))) (by omega) sbq (Ent.sep (.pure ⟨hi, by rw [List.length_set]; exact hp0.2.1, hnew⟩ enn))
  ·try simp only [hyA, hyB, hyC, ne_eq] at hc12
   refine Hd.exit <| Hd.thenExit <| Hd.thenExit <| Hd.inBexit <| Hd.toK hK51 ?_; refine sr fun _ hK57 => ?_
   refine yv y_mv <| yv y_as <| fk [(4, _)] hK57 ?_; refine Hd.ret ?_; exact Hd.ret1 rfl () (by rfl) sq
end Wo
end Go.Proofs.YtbfddabjbkohdaaGreat
namespace Go.Proofs.YtbfddabjbkohdaaGreat
set_option maxHeartbeats 2000000
open Go.RX.Hd (yv y2 n1 fk sk sr tH callE heldK onlyH endH thenN slots)
set_option linter.unusedSimpArgs false
set_option linter.unusedVariables false
set_option linter.unnecessarySimpa false
open Go.RX Fx
namespace Kq
open Wo
set_option maxRecDepth 8000
theorem most_v {most : Int} (h : InK .u8 most) : IntKind.i64.wrap (1 + most.tmod 20) = 1 + most.tmod 20 := by
 simp only [InK] at h
 have h1 := Int.tmod_nonneg 20 (show 0 ≤ most by omega)
 have h2 := Int.tmod_lt_of_pos most (b := 20) (by decide)
 rw [wrap_i64]; omega
theorem twins_ct (L : List SP) (a1 : Option Addr) (c1 : Nat) (fs : List Ov) (hF : RdS L 5 a1 fs.length (fs.flatMap encO)) (hFo : ∀ o ∈ fs, OvOk L o) (hfl : fs.length ≤ 60) (hfd : ∀ o ∈ fs, o.d.length ≤ 300) (a2 : Option Addr) (c2 : Nat) (xs : List NoA) (hX : RdS L 4 a2 xs.length (xs.flatMap encNo)) (hxl : xs.length ≤ 40) : Ct Tryz.prog 28 #[.slice a1 fs.length c1, .slice a2 xs.length c2] (L) (fun q_ : Nat × Nat × Nat × Nat × Nat × Nat × Nat => .tuple #[.pointer (some ⟨q_.1, 0, none⟩), .pointer (some ⟨q_.2.2.1, 0, none⟩)]) (fun q_ : Nat × Nat × Nat × Nat × Nat × Nat × Nat => pu (q_.2.2.2.2.2.1 ≤ 40 ∧ q_.2.2.2.2.2.2 ≤ 40 ∧ WOk (runA newA fs)) :: KqH q_.2.2.1 q_.2.2.2.2.1 q_.2.2.2.1 :: mpP q_.2.2.2.1 .i64 (kmap (chsK k0 (runA newA fs) xs).2) q_.2.2.2.2.2.2 :: KqB q_.1 q_.2.2.2.2.1 q_.2.1 (chsK k0 (runA newA fs) xs).2 q_.2.2.2.2.2.1 (runA newA fs) L) := by
 refine Ct.o2 Tryz.func28 ?_; intro E
 show Hd E 55 _ _ _ _
 refine sr fun _ hK1 => ?_
 refine yv y_as <| yv y_as <| fk [(0, _), (1, _)] hK1 ?_; refine sr fun _ hK2 => ?_
 refine callE rfl fk16 (fresh_ct _) sq ?_; rintro ⟨pb, wb, rb⟩; dsimp only; refine yv y_as <| fk [(0, _), (1, _), (6, _)] hK2 ?_; refine Hd.seq fun _ hK3 => ?_
 refine sr fun _ hK4 => ?_
 refine yv y_mv <| yv (y_len Tryz.underlying22 rfl) ?_; refine yv y_mv <| fk [(0, _), (1, _), (6, _), (14, _), (15, _)] hK4 ?_; refine Hd.block <| Hd.loopK (ι := Nat) [(0, _), (1, _), (6, _), (14, _)] (fun i => [(15, .int .i64 (i : Int))]) (fun i => pu (i ≤ fs.length ∧ Lo (100 * i) (runA newA (fs.take i))) :: BoP pb wb rb :: WorldP wb (runA newA (fs.take i)) :: Rf.RwP rb (runA newA (fs.take i)) :: L) (fun i => fs.length - i) 0 sbq sbq (Ent.sep (.pure ⟨Nat.zero_le _, newA_lo⟩ enn)) ?_; intro i
 try dsimp only
 refine Hd.pure (fun hp0 => ?_)
 try dsimp only at hp0
 refine sr fun _ hK5 => ?_
 refine yv (y_lss rfl rfl) ?_; refine fk [(0, _), (1, _), (6, _), (14, _), (15, _), (16, _)] hK5 ?_; refine Hd.seq fun _ hK6 => ?_
 refine Hd.cond rfl (fun hc0 => ?_) (fun hc0 => ?_)
 ·try simp only [hyA, hyB, hyC, ne_eq] at hc0
  have hi : i < fs.length := by omega
  obtain ⟨o, ho⟩ : ∃ o, fs[i]? = some o := ⟨_, List.getElem?_eq_getElem hi⟩
  have hoo := hFo o (List.mem_of_getElem? ho)
  have hod := hfd o (List.mem_of_getElem? ho)
  have hrs : runA newA (fs.take (i + 1)) = doA (runA newA (fs.take i)) o := by rw [List.take_add_one, ho]; exact runA_snoc _ _ _
  refine Hd.wokW (.there .here) (fun hw => ?_)
  have hst := (do_stp hw o (by have := hoo.t; simp only [InK] at this; omega) (100 * i) (by omega) hp0.2).1
  rw [← hrs] at hst; refine Hd.skip <| Hd.toK hK6 ?_; refine Hd.seq fun _ hK7 => ?_
  refine Hd.block <| sr fun _ hK8 => ?_
  refine yv y_mv <| yv y_as <| fk [(0, _), (1, _), (6, _), (7, _), (14, _), (15, _)] hK8 ?_; refine Hd.region <| yv y_mv <| yv y_mv <| yv y_mv <| yv (y_idxR Tryz.underlying22 sz33 rfl rfl hi (RdS.mono hF sq)) ?_; refine yv (y_loadRn (vs := encO o) ag33 rfl (RdS.mono hF sq) (flat_cells encO 5 (fun _ => rfl) ho) sz33 (by simp)) ?_; refine callE rfl fk17 (do_ct _ pb wb rb _ (100 * i) (by omega) hp0.2 o hoo.t hod ?hD hoo.c) sq ?_
  case hD => exact RdS.mono hoo.rd sq
  intro _; rw [← hrs]; refine Hd.nil <| slots [(0, _), (1, _), (6, _), (14, _), (15, _)] sbq ?_; refine Hd.inB <| Hd.toK hK7 ?_; refine Hd.region <| yv (y_addn rfl rfl (by simp only [InK]; omega)) ?_; refine yv y_mv <| Hd.nil <| slots [(0, _), (1, _), (6, _), (14, _), (15, _)] sbq ?_; refine thenN ?_; exact Hd.again (i + 1) (by omega) sbq (Ent.sep (.pure ⟨hi, hst⟩ enn))
 ·try simp only [hyA, hyB, hyC, ne_eq] at hc0
  obtain rfl : i = fs.length := by omega
  rw [List.take_of_length_le (Nat.le_refl _)]
  obtain ⟨w, hrw⟩ : ∃ w, runA newA fs = w := ⟨_, rfl⟩
  rw [hrw]; refine Hd.wokW (.there .here) (fun hw => ?_); refine Hd.exit <| Hd.thenExit <| Hd.thenExit <| Hd.inBexit <| Hd.toK hK3 ?_; refine sr fun _ hK9 => ?_
  refine yv y_mv <| yv y_np <| yv (y_f 0 38 Tryz.underlying41 sz38) ?_; refine yv (y_l1 ag38 rfl) ?_; refine callE rfl fk32 (knew_ct _ wb) sq ?_; rintro ⟨qb, mb⟩; dsimp only; refine yv y_mv <| yv (y_to (v' := .pointer (some ⟨qb, 0, none⟩)) y_ex (by rfl)) ?_; refine yv (y_to (v' := .int .i64 0) y_ex (by rfl)) ?_; refine yv y_as <| yv y_as <| fk [(1, _), (6, _), (8, _), (9, _)] hK9 ?_; refine sr fun _ hK10 => ?_
  refine yv y_mv <| yv y_np <| yv (y_f 0 38 Tryz.underlying41 sz38) ?_; refine yv (y_l1 ag38 rfl) ?_; refine callE rfl fk32 (knew_ct _ wb) sq ?_; rintro ⟨qb2, mb2⟩; dsimp only; refine yv y_mv <| yv (y_to (v' := .pointer (some ⟨qb2, 0, none⟩)) y_ex (by rfl)) ?_; refine yv (y_to (v' := .int .i64 0) y_ex (by rfl)) ?_; refine yv y_as <| yv y_as <| fk [(1, _), (8, _), (9, _), (10, _), (11, _)] hK10 ?_; refine Hd.seq fun _ hK11 => ?_
  refine sr fun _ hK12 => ?_
  refine yv y_mv <| yv (y_neq rfl rfl) ?_; refine yv y_mv ?_; apply Hd.org 3 43 46 [(1, _), (8, _), (10, _)] rfl sbq
  ·intro _
   simp only [List.take]; refine n1 <| n1 <| yv (y_pickT rfl rfl) ?_; refine Hd.nil ?_; exact Hd.mq
  ·intro _
   simp only [List.take]; refine y2 y_mv <| y2 (y_neq rfl rfl) ?_; refine yv (y_pickF rfl rfl) ?_; refine Hd.nil ?_; exact Hd.mq
  simp only [List.drop]; refine fk [(1, _), (8, _), (10, _), (46, _)] hK12 ?_; refine Hd.cond rfl (fun hc1 => ?_) (fun hc1 => ?_)
  ·try simp only [hyA, hyB, hyC, ne_eq] at hc1
   exfalso; simp at hc1
  ·try simp only [hyA, hyB, hyC, ne_eq] at hc1
   refine Hd.skip <| Hd.toK hK11 ?_; refine sr fun _ hK13 => ?_
   refine yv y_mv <| yv y_mv <| callE rfl fk33 (kchs_ct _ qb wb mb k0 0 w a2 c2 xs ?hD (by omega)) sq ?_
   case hD => exact RdS.mono hX sq
   rintro ⟨ra, rc, m⟩; dsimp only; refine Hd.pure fun hm => ?_
   refine fk [(1, _), (8, _), (10, _)] hK13 ?_; refine sr fun _ hK14 => ?_
   refine yv y_mv <| yv y_mv <| callE rfl fk33 (kchs_ct _ qb2 wb mb2 k0 0 w a2 c2 xs ?hD (by omega)) sq ?_
   case hD => exact RdS.mono hX sq
   rintro ⟨ra2, rc2, m2⟩; dsimp only; refine Hd.pure fun hm2 => ?_
   refine fk [(8, _), (10, _)] hK14 ?_; refine sr fun _ hK15 => ?_
   refine yv y_mv <| yv y_mv <| yv y_as <| yv y_as <| fk [(4, _), (5, _)] hK15 ?_; refine Hd.ret ?_; rw [← hrw] at hw ⊢; exact Hd.ret2 rfl (qb, mb, qb2, mb2, wb, m, m2) rfl rfl rfl (Ent.sep (.pure ⟨(show m ≤ 40 by omega), (show m2 ≤ 40 by omega), hw⟩ enn))
theorem most_ct (L : List SP) (a1 : Option Addr) (c1 : Nat) (fs : List Ov) (hF : RdS L 5 a1 fs.length (fs.flatMap encO)) (hFo : ∀ o ∈ fs, OvOk L o) (a2 : Option Addr) (c2 : Nat) (xs : List NoA) (hX : RdS L 4 a2 xs.length (xs.flatMap encNo)) (most : Int) (hmo : InK .u8 most) (a3 : Option Addr) (c3 : Nat) (ord : List Int) (hO : RdS L 1 a3 ord.length (vi ord)) : Ct Tryz.prog 7 #[.slice a1 fs.length c1, .slice a2 xs.length c2, .int .u8 most, .slice a3 ord.length c3] (L) (fun _ : Unit => .bool true) (fun _ : Unit => L) := by
 refine Ct.o4 Tryz.func7 ?_; intro E
 show Hd E 108 _ _ _ _
 refine sr fun _ hK1 => ?_
 refine yv y_as <| fk [(0, _), (1, _), (2, _), (3, _)] hK1 ?_; refine sr fun _ hK2 => ?_
 refine callE rfl fk27 (alive16_ct L) sq ?_; intro _; refine yv y_as <| fk [(0, _), (1, _), (2, _), (3, _), (9, _)] hK2 ?_; refine Hd.seq fun _ hK3 => ?_
 refine sr fun _ hK4 => ?_
 refine yv y_mv <| callE rfl fk14 (great11_ct _ a1 c1 fs hF) sq ?_; intro _; refine yv (y_gtr rfl rfl) ?_; refine yv y_mv ?_; apply Hd.org 4 22 26 [(0, _), (1, _), (2, _), (3, _), (9, _)] rfl sbq
 ·intro _
  simp only [List.take]; refine n1 <| n1 <| n1 <| yv (y_pickT rfl rfl) ?_; refine Hd.nil ?_; exact Hd.mq
 ·intro _
  simp only [List.take]; refine y2 y_mv <| y2 (y_len Tryz.underlying22 rfl) ?_; refine y2 (y_gtr rfl rfl) ?_; refine yv (y_pickF rfl rfl) ?_; refine Hd.nil ?_; exact Hd.mq
 simp only [List.drop]; refine yv y_mv ?_; apply Hd.org 4 27 31 [(0, _), (1, _), (2, _), (3, _), (9, _)] rfl sbq
 ·intro _
  simp only [List.take]; refine n1 <| n1 <| n1 <| yv (y_pickT rfl rfl) ?_; refine Hd.nil ?_; exact Hd.mq
 ·intro _
  simp only [List.take]; refine y2 y_mv <| y2 (y_len Tryz.underlying67 rfl) ?_; refine y2 (y_gtr rfl rfl) ?_; refine yv (y_pickF rfl rfl) ?_; refine Hd.nil ?_; exact Hd.mq
 simp only [List.drop]; refine yv y_mv ?_; apply Hd.org 4 32 36 [(0, _), (1, _), (2, _), (3, _), (9, _)] rfl sbq
 ·intro _
  simp only [List.take]; refine n1 <| n1 <| n1 <| yv (y_pickT rfl rfl) ?_; refine Hd.nil ?_; exact Hd.mq
 ·intro _
  simp only [List.take]; refine y2 y_mv <| y2 (y_len Tryz.underlying44 rfl) ?_; refine y2 (y_gtr rfl rfl) ?_; refine yv (y_pickF rfl rfl) ?_; refine Hd.nil ?_; exact Hd.mq
 simp only [List.drop]; refine yv y_mv ?_; apply Hd.org 3 37 40 [(0, _), (1, _), (2, _), (3, _), (9, _)] rfl sbq
 ·intro _
  simp only [List.take]; refine n1 <| n1 <| yv (y_pickT rfl rfl) ?_; refine Hd.nil ?_; exact Hd.mq
 ·intro _
  simp only [List.take]; refine y2 y_mv <| y2 (y_not rfl) ?_; refine yv (y_pickF rfl rfl) ?_; refine Hd.nil ?_; exact Hd.mq
 simp only [List.drop]; refine fk [(0, _), (1, _), (2, _), (3, _), (9, _), (40, _)] hK4 ?_; refine Hd.cond rfl (fun hc0 => ?_) (fun hc0 => ?_)
 ·try simp only [hyA, hyB, hyC, ne_eq] at hc0
  refine sr fun _ hK5 => ?_
  refine yv y_mv <| yv y_as <| fk [(8, _)] hK5 ?_; refine Hd.ret <| Hd.thenRet ?_; exact Hd.ret1 rfl () rfl sq
 ·try simp only [hyA, hyB, hyC, ne_eq] at hc0
  have hb1 : ¬ 0 < gO fs ∧ fs.length ≤ 60 ∧ xs.length ≤ 40 ∧ ord.length ≤ 60 := by simp at hc0; omega
  have hgo := gO_ok hb1.1
  refine Hd.skip <| Hd.toK hK3 ?_; refine sr fun _ hK6 => ?_
  refine yv y_mv <| yv y_mv <| callE rfl fk28 (twins_ct _ a1 c1 fs hF hFo hb1.2.1 hgo.2 a2 c2 xs hX hb1.2.2.1) sq ?_; rintro ⟨qb, mb, qb2, mb2, wb, m, m2⟩; dsimp only; refine Hd.pure fun hpp => ?_
  obtain ⟨w, hrw⟩ : ∃ w, runA newA fs = w := ⟨_, rfl⟩
  rw [hrw] at hpp ⊢
  obtain ⟨f, hf⟩ : ∃ f, (chsK k0 w xs).2 = f := ⟨_, rfl⟩
  have hok : OkK f := by rw [← hf]; exact OkK.chs okK_0 xs
  rw [hf]
  have hdl := dueK_len f w
  obtain ⟨mn, hmn, hmn1, hmn2⟩ : ∃ mn : Nat, 1 + Int.tmod most 20 = (mn : Int) ∧ 1 ≤ mn ∧ mn ≤ 20 := by
   simp only [InK] at hmo
   have h1 := Int.tmod_nonneg 20 (show 0 ≤ most by omega)
   have h2 := Int.tmod_lt_of_pos most (b := 20) (by decide)
   exact ⟨(1 + Int.tmod most 20).toNat, by omega, by omega, by omega⟩
  refine yv y_mv <| yv (y_to (v' := .pointer (some ⟨qb, 0, none⟩)) y_ex (by rfl)) ?_; refine yv (y_to (v' := .pointer (some ⟨qb2, 0, none⟩)) y_ex (by rfl)) ?_; refine yv y_as <| yv y_as <| fk [(2, _), (3, _), (9, _), (10, _), (11, _)] hK6 ?_; refine Hd.seq fun _ hK7 => ?_
  refine sr fun _ hK8 => ?_
  refine yv y_mv <| yv (y_eql_pointer Tryz.underlying68 rfl rfl) ?_; refine yv y_mv ?_; apply Hd.org 3 50 53 [(2, _), (3, _), (9, _), (10, _), (11, _)] rfl sbq
  ·intro _
   simp only [List.take]; refine n1 <| n1 <| yv (y_pickT rfl rfl) ?_; refine Hd.nil ?_; exact Hd.mq
  ·intro _
   simp only [List.take]; refine y2 y_mv <| y2 (y_eql_pointer Tryz.underlying68 rfl rfl) ?_; refine yv (y_pickF rfl rfl) ?_; refine Hd.nil ?_; exact Hd.mq
  simp only [List.drop]; refine fk [(2, _), (3, _), (9, _), (10, _), (11, _), (53, _)] hK8 ?_; refine Hd.cond rfl (fun hc1 => ?_) (fun hc1 => ?_)
  ·try simp only [hyA, hyB, hyC, ne_eq] at hc1
   exfalso; simp at hc1
  ·try simp only [hyA, hyB, hyC, ne_eq] at hc1
   refine Hd.skip <| Hd.toK hK7 ?_; refine sr fun _ hK9 => ?_
   refine yv y_mv <| yv (y_rem rfl rfl (by omega)) ?_; refine yv (y_convn rfl Tryz.underlying5 Tryz.underlying3 (by simp only [InK]; omega)) ?_; refine yv (y_to (v' := .int .i64 (mn : Int)) (y_add rfl rfl) (by (rw [← hmn]; exact congrArg (Value.int .i64) (most_v hmo)))) ?_; refine yv y_as <| fk [(3, _), (9, _), (10, _), (11, _), (12, _)] hK9 ?_; refine sr fun _ hK10 => ?_
   refine yv y_mv <| callE rfl fk29 (kdue_ct _ qb2 wb mb2 f m2 (by omega) hok w) sq ?_; intro _; refine yv y_as <| fk [(3, _), (9, _), (10, _), (11, _), (12, _), (13, _)] hK10 ?_; refine sr fun _ hK11 => ?_
   refine yv y_mv <| yv y_mv <| callE rfl fk30 (kpoll_ct _ qb wb mb f m (by omega) hok w 300 (by decide) a3 c3 ord ?hD (by omega)) sq ?_
   case hD => exact RdS.mono hO sq
   rintro ⟨pa, pc, m3⟩; dsimp only; refine Hd.pure fun hm3 => ?_
   obtain ⟨A, hA⟩ : ∃ A, polK f w 300 ord = A := ⟨_, rfl⟩
   have hAl : A.length = (dueK f w).length := by rw [← hA, polK_len]; show min 300 _ = _; omega
   rw [hA]; refine yv y_mv <| yv (y_to (v' := .slice pa A.length pc) y_ex (by rfl)) ?_; refine yv (y_to (v' := .int .i64 0) y_ex (by rfl)) ?_; refine yv y_as <| yv y_as <| fk [(3, _), (9, _), (11, _), (12, _), (13, _), (14, _), (15, _)] hK11 ?_; refine sr fun _ hK12 => ?_
   refine yv y_mv <| yv y_mv <| yv y_mv <| callE rfl fk30 (kpoll_ct _ qb2 wb mb2 f m2 (by omega) hok w (mn : Int) (by omega) a3 c3 ord ?hD (by omega)) sq ?_
   case hD => exact RdS.mono hO sq
   rintro ⟨qa, qc, m4⟩; dsimp only; refine Hd.pure fun hm4 => ?_
   obtain ⟨B, hB⟩ : ∃ B, polK f w (mn : Int) ord = B := ⟨_, rfl⟩
   have hAB : B = A.take mn := by
    rw [← hA, ← hB]; unfold polK; rw [List.take_of_length_le (l := Sh.shufTo ord (dueK f w) _) (i := (300 : Int).toNat) (by rw [Sh.shuf_len]; exact Nat.le_trans hdl (by decide)), Int.toNat_natCast]
   have hBl : B.length = min mn A.length := by rw [hAB, List.length_take]
   rw [hB]; refine yv y_mv <| yv (y_to (v' := .slice qa B.length qc) y_ex (by rfl)) ?_; refine yv (y_to (v' := .int .i64 0) y_ex (by rfl)) ?_; refine yv y_as <| yv y_as <| fk [(9, _), (12, _), (13, _), (14, _), (15, _), (16, _), (17, _)] hK12 ?_; refine Hd.seq fun _ hK13 => ?_
   refine Hd.ownCap (ad := pa) (us := A.flatMap encNo) pkk (fun hcap => ?_)
   have hk : min (mn : Int) (A.length : Int) = (B.length : Int) := by omega
   have hBA : B.length ≤ A.length := by omega
   have hBf : (A.flatMap encNo).take (B.length * 4) = B.flatMap encNo := by
    have e : A = B ++ A.drop mn := by rw [hAB, List.take_append_drop]
    have e2 : (B.flatMap encNo).length = B.length * 4 := rows_len (enc := encNo) (k := 4) (fun _ => rfl) B
    conv => lhs; rw [e]
    rw [List.flatMap_append, List.take_left' e2]
   refine Hd.region <| yv y_mv <| yv y_mv ?_; apply Hd.andg 3 74 77 [(12, _), (13, _), (14, _), (16, _), (17, _)] rfl sbq
   ·intro _
    simp only [List.take]; refine y2 y_mv <| y2 (y_eqlT rfl rfl) ?_; refine yv (y_pickT rfl rfl) ?_; refine Hd.nil ?_; exact Hd.mq
   ·intro _
    simp only [List.take]; refine n1 <| n1 <| yv (y_pickF rfl rfl) ?_; refine Hd.nil ?_; exact Hd.mq
   simp only [List.drop]; refine yv y_mv ?_; apply Hd.andg 3 78 81 [(12, _), (13, _), (14, _), (16, _)] rfl sbq
   ·intro _
    simp only [List.take]; refine y2 y_mv <| y2 (y_eqlT rfl rfl) ?_; refine yv (y_pickT rfl rfl) ?_; refine Hd.nil ?_; exact Hd.mq
   ·intro _
    simp only [List.take]; refine n1 <| n1 <| yv (y_pickF rfl rfl) ?_; refine Hd.nil ?_; exact Hd.mq
   simp only [List.drop]; refine yv y_mv ?_; apply Hd.andg 6 82 88 [(12, _), (14, _), (16, _)] rfl sbq
   ·intro _
    simp only [List.take]; refine y2 y_mv <| y2 y_mv <| y2 (y_len Tryz.underlying67 rfl) ?_; refine y2 (y_gtr rfl rfl) ?_; refine y2 (y_eqlb Tryz.underlying4 rfl rfl) ?_; refine yv (y_pickT rfl rfl) ?_; refine Hd.nil ?_; exact Hd.mq
   ·intro _
    simp only [List.take]; refine n1 <| n1 <| n1 <| n1 <| n1 <| yv (y_pickF rfl rfl) ?_; refine Hd.nil ?_; exact Hd.mq
   simp only [List.drop]; refine yv y_mv ?_; apply Hd.andg 8 89 97 [(12, _), (14, _), (16, _)] rfl sbq
   ·intro hg11_89
    try simp only [hyA, hyB, hyC, ne_eq] at hg11_89
    simp only [List.take]; refine y2 y_mv <| y2 (y_len Tryz.underlying67 rfl) ?_; refine y2 y_mv <| y2 y_mv <| y2 (y_len Tryz.underlying67 rfl) ?_; refine y2 (y_to (v' := .int .i64 (B.length : Int)) (y_min rfl rfl) (by (rw [hk]))) ?_; refine y2 (y_eqlT rfl rfl) ?_; refine yv (y_pickT rfl rfl) ?_; refine Hd.nil ?_; exact Hd.mq
   ·intro _
    simp only [List.take]; refine n1 <| n1 <| n1 <| n1 <| n1 <| n1 <| n1 <| yv (y_pickF rfl rfl) ?_; refine Hd.nil ?_; exact Hd.mq
   simp only [List.drop]; refine yv y_mv ?_; apply Hd.andg 9 98 107 [] rfl sbq
   ·intro hg11_98
    try simp only [hyA, hyB, hyC, ne_eq] at hg11_98
    simp only [List.take]; refine y2 y_mv <| y2 y_mv <| y2 y_mv <| y2 y_mv <| y2 (y_len Tryz.underlying67 rfl) ?_; refine y2 (y_to (v' := .int .i64 (B.length : Int)) (y_min rfl rfl) (by (rw [hk]))) ?_; refine y2 (y_slo_xoxN Tryz.underlying67 sz82 rfl rfl (by omega)) ?_; refine Hd.unguard rfl rfl ?_; refine callE rfl fk31 (same16_ct _ qa qc B ?hD (by omega) pa pc B ?hE (by omega)) sq ?_
    case hD => exact RdS.own (ad := qa) (us := B.flatMap encNo) pkk
    case hE => have h := (RdS.own (L := KqB qb2 wb mb2 (offK w f B) m4 w (own 82 4 pa A.length pc (A.flatMap encNo) :: L)) (e := 82) (sz := 4) (ad := pa) (m := A.length) (cap := pc) (us := A.flatMap encNo) pkk).head hBA; rw [hBf] at h; exact h.mono sq
    intro _; refine yv (y_pickT rfl rfl) ?_; refine Hd.nil ?_; exact Hd.mq
   ·intro _
    simp only [List.take]; refine n1 <| n1 <| n1 <| n1 <| n1 <| n1 <| n1 <| n1 <| yv (y_pickF rfl rfl) ?_; refine Hd.nil ?_; exact Hd.mq
   simp only [List.drop]; refine yv y_as <| fk [(8, _)] hK13 ?_; refine Hd.ret ?_; exact Hd.ret1 rfl () (by rw [show decide (0 < (A.length : Int)) = !(dueK f w).isEmpty by cases h : dueK f w <;> simp [hAl, h]]; simp; rfl) sq
end Kq
end Go.Proofs.YtbfddabjbkohdaaGreat
namespace Go.Proofs.YtbfddabjbkohdaaGreat
set_option maxHeartbeats 2000000
open Go.RX.Hd (yv y2 n1 fk sk sr tH callE heldK onlyH endH thenN slots)
set_option linter.unusedSimpArgs false
set_option linter.unusedVariables false
set_option linter.unnecessarySimpa false
open Go.RX Go.ChangeShapes Go.WideShapes Go.ChangeAt Go.RowKit
abbrev shO : Sh := .struct (.fld (.int .i64) (.fld (.int .i64) (.fld (.int .i64) (.fld (.int .u64) (.fld (.slice (.int .u8)) .nil)))))
def cvO (y : shO.T) : Wo.Ov := ⟨y.1, y.2.1, y.2.2.1, y.2.2.2.1, y.2.2.2.2.1.ad, y.2.2.2.2.1.cap, y.2.2.2.2.1.l.map u8of⟩
theorem enc_cvO (y : shO.T) : Wo.encO (cvO y) = shO.enc y := by
 show [_, _, _, _, Value.slice _ (y.2.2.2.2.1.l.map u8of).length _] = _
 rw [List.length_map]; rfl
theorem ok_cvO {W : World} {y : shO.T} (h : shO.ok W y) : Wo.OvOk [Old W] (cvO y) :=
 ⟨rd_u8 h.2.2.2.2.1, by show (List.map u8of _).length ≤ _; rw [List.length_map]; exact h.2.2.2.2.1.2.1, h.1, h.2.1, h.2.2.1, h.2.2.2.1⟩
theorem rd_ops {W : World} {x : (Sh.slice shO).T} (h : (Sh.slice shO).ok W x) : RdS [Old W] 5 x.ad (x.l.map cvO).length ((x.l.map cvO).flatMap Wo.encO) := by
 have e : (x.l.map cvO).flatMap Wo.encO = x.l.flatMap shO.enc := by rw [List.flatMap_map]; congr 1; funext y; exact enc_cvO y
 rw [e, List.length_map]; exact h.1
theorem ops_ok {W : World} {x : (Sh.slice shO).T} (h : (Sh.slice shO).ok W x) : ∀ o ∈ x.l.map cvO, Wo.OvOk [Old W] o := fun o ho => by
 obtain ⟨y, hy, rfl⟩ := List.mem_map.1 ho
 exact ok_cvO (h.2.2.2.2 y hy)
abbrev shNl : Sh := .fld (.int .i64) (.fld (.int .i64) (.fld (.int .i64) (.fld (.int .i64) .nil)))
abbrev shN : Sh := .struct shNl
def cvN (y : shN.T) : Kq.NoA := (y.1, y.2.1, y.2.2.1, y.2.2.2.1)
theorem rd_ns {W : World} {x : (Sh.slice shN).T} (h : (Sh.slice shN).ok W x) : RdS [Old W] 4 x.ad (x.l.map cvN).length ((x.l.map cvN).flatMap Kq.encNo) := by
 have e : (x.l.map cvN).flatMap Kq.encNo = x.l.flatMap shN.enc := by rw [List.flatMap_map]; congr 1
 rw [e, List.length_map]; exact h.1
end Go.Proofs.YtbfddabjbkohdaaGreat
