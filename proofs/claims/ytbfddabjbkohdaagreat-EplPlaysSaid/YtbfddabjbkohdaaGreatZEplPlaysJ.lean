/-
  The world and the document's, side by side: wires that are made; Do. Epoll's laws: calls as they come in, how many there may be. Epoll: EplAgain. The document's epoll (roundhouseref15): bits, and where a descriptor stands. The document's epoll (roundhouseref15): what is told of one interest. The document's epoll (roundhouseref15): tidy. The document's epoll (roundhouseref15): what is due. Epoll beside the document's list: what is due (plain). Epoll beside the document's list: what a report leaves (plain). Places of the document's epoll. The document's epoll (roundhouseref15): Poll. The document's epoll: one entry told, by its place (plain). The document's epoll (roundhouseref15): Poll. Epoll beside the document's list: calls, one by one (plain).
-/
import Derived.Test.YtbfddabjbkohdaaGreatZEplPlaysI
set_option linter.unusedSimpArgs false
set_option linter.unusedVariables false
set_option linter.unnecessarySimpa false
namespace Go.Proofs.YtbfddabjbkohdaaGreat
set_option maxHeartbeats 2000000
open Go.RX.Hd (yv y2 n1 fk sk sr tH callE heldK onlyH endH thenN slots)
open Go.RX Fx
namespace Wo
set_option maxRecDepth 8000
open Rf (badK mkErr mkLst mk_bad mk_no mk_yes)
def mkA (w : WA) (k n : Int) : Int := if badK k n then 0 else mkI w (mkKE k) 0
def mkB (w : WA) (k n : Int) : Int := if badK k n then 0 else if k ≤ 1 then mkI w 2 1 else mkN w 1
theorem bad_of {k n : Int} (hk : k ≠ 3) : badK k n ↔ (n < 1 ∨ 65536 < n) := by unfold badK; omega
theorem wmk0_ct (L : List SP) (wb : Nat) (w : WA) (k n : Int) (hk : k = 0) : Ct Tryz.prog 54 #[.pointer (some ⟨wb, 0, none⟩), .int .i64 n] (WorldP wb w :: L) (fun _ : Unit => .tuple #[.int .i64 (mkA w k n), .int .i64 (mkB w k n), .int .i64 (mkErr w k n)]) (fun _ => WorldP wb (makeR w k n) :: L) := by
 subst hk
 by_cases h : badK 0 n
 ·obtain ⟨e1, _, e3⟩ := mk_bad (w := w) h
  rw [show mkA w 0 n = 0 from if_pos h, show mkB w 0 n = 0 from if_pos h, e1, e3]; exact pipe_bad L wb w n ((bad_of (by decide)).1 h)
 ·rw [show mkA w 0 n = mkI w 2 0 from if_neg h, show mkB w 0 n = mkI w 2 1 from if_neg h, show mkErr w 0 n = mkE w 2 from if_neg h, show makeR w 0 n = mkW w 2 (pipeW n.toNat) from if_neg h]
  rw [bad_of (by decide)] at h
  obtain ⟨m, rfl⟩ : ∃ m : Nat, n = (m : Int) := ⟨n.toNat, by omega⟩
  exact pipe_mk L wb w m (by omega) (by omega)
theorem wmk1_ct (L : List SP) (wb : Nat) (w : WA) (k n : Int) (hk : k = 1) : Ct Tryz.prog 55 #[.pointer (some ⟨wb, 0, none⟩), .int .i64 n] (WorldP wb w :: L) (fun _ : Unit => .tuple #[.int .i64 (mkA w k n), .int .i64 (mkB w k n), .int .i64 (mkErr w k n)]) (fun _ => WorldP wb (makeR w k n) :: L) := by
 subst hk
 by_cases h : badK 1 n
 ·obtain ⟨e1, _, e3⟩ := mk_bad (w := w) h
  rw [show mkA w 1 n = 0 from if_pos h, show mkB w 1 n = 0 from if_pos h, e1, e3]; exact pairbad_ct L wb w n ((bad_of (by decide)).1 h)
 ·rw [show mkA w 1 n = mkI w 2 0 from if_neg h, show mkB w 1 n = mkI w 2 1 from if_neg h, show mkErr w 1 n = mkE w 2 from if_neg h, show makeR w 1 n = mkW w 2 (halfW n.toNat 2) from if_neg h]
  rw [bad_of (by decide)] at h
  obtain ⟨m, rfl⟩ : ∃ m : Nat, n = (m : Int) := ⟨n.toNat, by omega⟩
  exact pair_ct L wb w m (by omega) (by omega)
theorem wmk2_ct (L : List SP) (wb : Nat) (w : WA) (k n : Int) (hk : k = 2) : Ct Tryz.prog 50 #[.pointer (some ⟨wb, 0, none⟩), .int .i64 n] (WorldP wb w :: L) (fun _ : Unit => .tuple #[.int .i64 (mkA w k n), .int .i64 (mkB w k n), .int .i64 (mkErr w k n)]) (fun _ => WorldP wb (makeR w k n) :: L) := by
 subst hk
 by_cases h : badK 2 n
 ·obtain ⟨e1, _, e3⟩ := mk_bad (w := w) h
  rw [show mkA w 2 n = 0 from if_pos h, show mkB w 2 n = 0 from if_pos h, e1, e3]; exact outer_bad L wb w n ((bad_of (by decide)).1 h)
 ·rw [show mkA w 2 n = mkI w 1 0 from if_neg h, show mkB w 2 n = mkN w 1 from if_neg h, show mkErr w 2 n = mkE w 1 from if_neg h, show makeR w 2 n = mkW w 1 (connW n.toNat) from if_neg h]
  rw [bad_of (by decide)] at h
  obtain ⟨m, rfl⟩ : ∃ m : Nat, n = (m : Int) := ⟨n.toNat, by omega⟩
  exact outer_mk L wb w m (by omega) (by omega)
theorem wmk3_ct (L : List SP) (wb : Nat) (w : WA) (k n : Int) (hk : k = 3) : Ct Tryz.prog 56 #[.pointer (some ⟨wb, 0, none⟩), .int .i64 n] (WorldP wb w :: L) (fun _ : Unit => .tuple #[.int .i64 (mkA w k n), .int .i64 (mkB w k n), .int .i64 (mkErr w k n)]) (fun _ => WorldP wb (makeR w k n) :: L) := by
 subst hk
 by_cases h : badK 3 n
 ·obtain ⟨e1, _, e3⟩ := mk_bad (w := w) h
  rw [show mkA w 3 n = 0 from if_pos h, show mkB w 3 n = 0 from if_pos h, e1, e3]; exact listen_bad L wb w n (by unfold badK at h; omega)
 ·rw [show mkA w 3 n = mkI w 1 0 from if_neg h, show mkB w 3 n = mkN w 1 from if_neg h, show mkErr w 3 n = mkE w 1 from if_neg h, show makeR w 3 n = mkW w 1 (listW n.toNat) from if_neg h]
  unfold badK at h
  obtain ⟨m, rfl⟩ : ∃ m : Nat, n = (m : Int) := ⟨n.toNat, by omega⟩
  exact listen_mk L wb w m (by omega) (by omega)
structure MadeOk (a b e wire : Int) (l : List Nat) : Prop where
 no : e ≠ 0 → a = 0 ∧ b = 0
 yes : e = 0 → ∃ f t, l = f :: t ∧ a = ((f : Nat) : Int) ∧ ((t = [] ∧ b = wire) ∨ ∃ g, t = [g] ∧ b = ((g : Nat) : Int))
theorem made_ok (w : WA) {k : Int} (hk : 0 ≤ k ∧ k ≤ 3) (n : Int) : MadeOk (mkA w k n) (mkB w k n) (mkErr w k n) (((makeR w k n).ws.length : Nat) - 1) (mkLst w k n) := by
 by_cases h : badK k n
 ·obtain ⟨e1, e2, e3⟩ := mk_bad (w := w) h
  exact ⟨fun _ => ⟨if_pos h, if_pos h⟩, fun e => by rw [e1] at e; exact absurd e (by decide)⟩
 have hA : mkA w k n = mkI w (mkKE k) 0 := if_neg h
 have hB : mkB w k n = if k ≤ 1 then mkI w 2 1 else mkN w 1 := if_neg h
 cases ho : mkOk w (mkKE k) with
 | false =>
  obtain ⟨e1, e2, e3⟩ := mk_no (w := w) h ho
  have hF : mkF w (mkKE k) = [] := by unfold mkF; rw [ho]; rfl
  refine ⟨fun _ => ⟨by rw [hA]; unfold mkI; rw [hF]; rfl, ?_⟩, fun e => by rw [e1] at e; exact absurd e (by decide)⟩; rw [hB]
  by_cases h1 : k ≤ 1
  ·rw [if_pos h1]
   have : mkKE k = 2 := if_pos (by omega)
   rw [this] at hF; unfold mkI; rw [hF]; rfl
  ·rw [if_neg h1]
   have : mkKE k = 1 := if_neg (by omega)
   rw [this] at ho; unfold mkN mkE; rw [ho]; rfl
 | true =>
  obtain ⟨e1, e2, e3⟩ := mk_yes (w := w) h ho
  have hF : mkF w (mkKE k) = (frees w.at).take (mkKE k) := by unfold mkF; rw [ho]; rfl
  have hl : ((frees w.at).take (mkKE k)).length = mkKE k := by unfold mkOk at ho; simp only [Bool.and_eq_true, decide_eq_true_eq] at ho; omega
  refine ⟨fun e => absurd e1 e, fun _ => ?_⟩; rw [e2, hA, hB]; unfold mkI; rw [hF]
  by_cases h1 : k ≤ 1
  ·have h2 : mkKE k = 2 := if_pos (by omega)
   rw [h2] at hl hF ⊢; rw [if_pos h1, hF]
   obtain ⟨f, g, hfg⟩ : ∃ f g, (frees w.at).take 2 = [f, g] := by
    match hm : (frees w.at).take 2, hl with
    | [f, g], _ => exact ⟨f, g, rfl⟩
   rw [hfg]; exact ⟨f, [g], rfl, rfl, .inr ⟨g, rfl, rfl⟩⟩
  ·have h2 : mkKE k = 1 := if_neg (by omega)
   rw [h2] at hl ho ⊢; rw [if_neg h1]
   obtain ⟨f, hf⟩ : ∃ f, (frees w.at).take 1 = [f] := by
    match hm : (frees w.at).take 1, hl with
    | [f], _ => exact ⟨f, rfl⟩
   rw [hf]; refine ⟨f, [], rfl, rfl, .inl ⟨rfl, ?_⟩⟩
   have he : mkE w 1 = 0 := by unfold mkE; rw [ho]; rfl
   rw [show mkN w 1 = (w.ws.length : Int) from if_pos he]
   have : makeR w k n = mkW w 1 (mkKW k n) := by
    rw [← h2]; exact if_neg h
   rw [this, mkW_len he]; omega
theorem made_ct (L : List SP) (a b e wire : Int) (l : List Nat) (ad : Option Addr) (c : Nat) (hR : RdS L 1 ad l.length (nats l)) (h : MadeOk a b e wire l) : Ct Tryz.prog 58 #[.int .i64 a, .int .i64 b, .int .i64 e, .slice ad l.length c, .int .i64 wire, .int .i64 e] (L) (fun _ : Unit => .bool true) (fun _ : Unit => L) := by
 refine Ct.o6 Tryz.func58 ?_; intro E
 show Hd E 55 _ _ _ _
 refine sr fun _ hK1 => ?_
 refine yv y_as <| fk [(0, _), (1, _), (2, _), (3, _), (4, _), (5, _)] hK1 ?_; refine Hd.seq fun _ hK2 => ?_
 refine sr fun _ hK3 => ?_
 refine yv y_mv <| yv (y_neq rfl rfl) ?_; refine yv y_mv ?_; apply Hd.org 3 15 18 [(0, _), (1, _), (2, _), (3, _), (4, _), (5, _)] rfl sbq
 ·intro _
  simp only [List.take]; refine n1 <| n1 <| yv (y_pickT rfl rfl) ?_; refine Hd.nil ?_; exact Hd.mq
 ·intro _
  simp only [List.take]; refine y2 y_mv <| y2 (y_neq rfl rfl) ?_; refine yv (y_pickF rfl rfl) ?_; refine Hd.nil ?_; exact Hd.mq
 simp only [List.drop]; refine fk [(0, _), (1, _), (2, _), (3, _), (4, _), (5, _), (18, _)] hK3 ?_; refine Hd.cond rfl (fun hc0 => ?_) (fun hc0 => ?_)
 ·try simp only [hyZ] at hc0
  refine sr fun _ hK4 => ?_
  refine yv y_mv <| yv y_mv <| yv (y_eqlT rfl rfl) ?_; refine yv y_mv ?_; apply Hd.andg 3 22 25 [(1, _)] rfl sbq
  ·intro _
   simp only [List.take]; refine y2 y_mv <| y2 (y_eql rfl rfl) ?_; refine yv (y_pickT rfl rfl) ?_; refine Hd.nil ?_; exact Hd.mq
  ·intro _
   simp only [List.take]; refine n1 <| n1 <| yv (y_pickF rfl rfl) ?_; refine Hd.nil ?_; exact Hd.mq
  simp only [List.drop]; refine yv y_mv ?_; apply Hd.andg 3 26 29 [] rfl sbq
  ·intro _
   simp only [List.take]; refine y2 y_mv <| y2 (y_eql rfl rfl) ?_; refine yv (y_pickT rfl rfl) ?_; refine Hd.nil ?_; exact Hd.mq
  ·intro _
   simp only [List.take]; refine n1 <| n1 <| yv (y_pickF rfl rfl) ?_; refine Hd.nil ?_; exact Hd.mq
  simp only [List.drop]; refine yv y_as <| fk [(12, _)] hK4 ?_; refine Hd.ret <| Hd.thenRet ?_
  obtain ⟨rfl, rfl⟩ := h.no (by omega)
  exact Hd.ret1 rfl () rfl sq
 ·try simp only [hyZ] at hc0
  obtain ⟨f, t, rfl, rfl, ht⟩ := h.yes (by omega)
  have hln : 0 < (f :: t).length := Nat.succ_pos _
  refine Hd.skip <| Hd.toK hK2 ?_; refine Hd.seq fun _ hK5 => ?_
  refine sr fun _ hK6 => ?_
  refine yv y_mv <| yv (y_len Tryz.underlying44 rfl) ?_; refine yv (y_eql rfl rfl) ?_; refine fk [(0, _), (1, _), (3, _), (4, _), (32, _)] hK6 ?_; refine Hd.cond rfl (fun hc1 => ?_) (fun hc1 => ?_)
  ·try simp only [hyZ] at hc1
   obtain ⟨g, rfl, rfl⟩ : ∃ g, t = [g] ∧ b = ((g : Nat) : Int) := by
    rcases ht with ⟨rfl, _⟩ | h1
    ·simp at hc1
    ·exact h1
   refine sr fun _ hK7 => ?_
   refine yv y_mv <| yv y_mv <| yv (y_idxR Tryz.underlying44 sz3 rfl rfl (by exact (show (0 : Nat) < _ by omega)) (by exact hR)) ?_; refine yv (y_loadR1 ag3 rfl (by exact hR) (by rfl)) ?_; refine yv (y_eqlT rfl rfl) ?_; refine yv y_mv ?_; apply Hd.andg 6 38 44 [] rfl sbq
   ·intro hg4_38
    try simp only [hyZ] at hg4_38
    simp only [List.take]; refine y2 y_mv <| y2 y_mv <| y2 (y_idxR Tryz.underlying44 sz3 rfl rfl (by exact (show (1 : Nat) < _ by omega)) (by exact hR)) ?_; refine y2 (y_loadR1 ag3 rfl (by exact hR) (by rfl)) ?_; refine y2 (y_eqlT rfl rfl) ?_; refine yv (y_pickT rfl rfl) ?_; refine Hd.nil ?_; exact Hd.mq
   ·intro _
    simp only [List.take]; refine n1 <| n1 <| n1 <| n1 <| n1 <| yv (y_pickF rfl rfl) ?_; refine Hd.nil ?_; exact Hd.mq
   simp only [List.drop]; refine yv y_as <| fk [(12, _)] hK7 ?_; refine Hd.ret <| Hd.thenRet ?_; exact Hd.ret1 rfl () (by rfl) sq
  ·try simp only [hyZ] at hc1
   obtain ⟨rfl, rfl⟩ : t = [] ∧ b = wire := by
    rcases ht with h1 | ⟨g, rfl, _⟩
    ·exact h1
    ·exact absurd rfl hc1
   refine Hd.skip <| Hd.toK hK5 ?_; refine sr fun _ hK8 => ?_
   refine yv y_mv <| yv y_mv <| yv (y_idxR Tryz.underlying44 sz3 rfl rfl (by exact (show (0 : Nat) < _ by omega)) (by exact hR)) ?_; refine yv (y_loadR1 ag3 rfl (by exact hR) (by rfl)) ?_; refine yv (y_eqlT rfl rfl) ?_; refine yv y_mv ?_; apply Hd.andg 4 50 54 [] rfl sbq
   ·intro _
    simp only [List.take]; refine y2 y_mv <| y2 y_mv <| y2 (y_eqlT rfl rfl) ?_; refine yv (y_pickT rfl rfl) ?_; refine Hd.nil ?_; exact Hd.mq
   ·intro _
    simp only [List.take]; refine n1 <| n1 <| n1 <| yv (y_pickF rfl rfl) ?_; refine Hd.nil ?_; exact Hd.mq
   simp only [List.drop]; refine yv y_as <| fk [(12, _)] hK8 ?_; refine Hd.ret ?_; exact Hd.ret1 rfl () (by rfl) sq
theorem do_ct (L : List SP) (pb wb rb : Nat) (w : WA) (K : Nat) (hK : K ≤ 100000000) (hl : Lo K w) (o : Ov) (ht : InK .u64 o.t) (hd : o.d.length ≤ 300) (hR : RdS L 1 o.ad o.d.length (bsl o.d)) (hc : o.d.length ≤ o.c) : Ct Tryz.prog 17 #[.pointer (some ⟨pb, 0, none⟩), .agg (encO o).toArray] (BoP pb wb rb :: WorldP wb w :: Rf.RwP rb w :: L) (fun _ : Unit => .bool true) (fun _ : Unit => BoP pb wb rb :: WorldP wb (doA w o) :: Rf.RwP rb (doA w o) :: L) := by
 refine Ct.o2 Tryz.func17 ?_; intro E
 show Hd E 289 _ _ _ _
 have ht0 := ht
 simp only [InK] at ht
 have hnow := hl.now
 refine Hd.wokW (.there .here) (fun hw => ?_); refine sr fun _ hK1 => ?_
 refine Hd.box rfl rfl (fun b3 => ?_); refine yv y_as <| fk [(0, _), (3, _)] hK1 ?_; refine sr fun _ hK2 => ?_
 refine Hd.bslice (vs := []) rfl (by exact bs17_31 ..) (fun b31 => ?_); refine Hd.ownNil 5 1 (some ⟨b31, 0, none⟩) ?_; refine yv (y_f 4 31 Tryz.underlying33 sz31) ?_; refine yv (y_l1 ag31 rfl) ?_; refine Hd.append Tryz.underlying31 ty5 rfl rfl rfl pkk (by exact RdS.mono hR sq) (by simp [Value.oneCell']; done) (by simp only [maxLen]; omega) (by omega) (fun ad34 cap34 => ?_); refine yv y_as <| Hd.nil ?_; rw [Nat.zero_add, List.nil_append]; refine sk [(0, _), (3, _), (5, _)] hK2 ?_; refine Hd.seq fun _ hK3 => ?_
 refine Hd.ownCap (ad := ad34) (us := bsl o.d) pkk (fun hcap => ?_); refine Hd.region <| yv y_as <| fk [(0, _), (3, _), (5, _)] hK3 ?_; refine Hd.cutK (ι := Unit) [(5, _)] (fun _ => [(6, .bool true)]) (fun _ => own 5 1 ad34 o.d.length cap34 (bsl o.d) :: BoP pb wb rb :: WorldP wb (doA w o) :: Rf.RwP rb (doA w o) :: L) ?_ ?_ ⟨rfl, trivial⟩
 ·refine sr fun _ hK4 => ?_
  refine yv (y_f 0 3 Tryz.underlying33 sz3) ?_; refine yv (y_l1 ag3 rfl) ?_; refine fk [(0, _), (3, _), (5, _), (36, _)] hK4 ?_; refine Hd.block <| Hd.seq fun _ hK5 => ?_
  refine sr fun _ hK6 => ?_
  refine yv (y_eql rfl rfl) ?_; refine yv y_as <| fk [(0, _), (3, _), (5, _), (36, _), (41, _)] hK6 ?_; refine Hd.cond rfl (fun hc0 => ?_) (fun hc0 => ?_)
  ·try simp only [hyZ] at hc0
   rw [decide_eq_true hc0]; refine Hd.skip <| Hd.toK hK5 ?_; refine Hd.condT rfl ?_; refine sr fun _ hK7 => ?_
   refine yv y_as <| yv y_as <| fk [(0, _), (3, _), (5, _)] hK7 ?_; refine sr fun _ hK8 => ?_
   refine yv y_as <| fk [(0, _), (3, _), (5, _)] hK8 ?_; refine Hd.seq fun _ hK9 => ?_
   refine sr fun _ hK10 => ?_
   refine yv (y_f 0 3 Tryz.underlying33 sz3) ?_; refine yv (y_l1 ag3 rfl) ?_; refine fk [(0, _), (3, _), (5, _), (47, _)] hK10 ?_; refine Hd.block <| sr fun _ hK11 => ?_
   refine yv (y_eql rfl rfl) ?_; refine yv y_as <| fk [(0, _), (3, _), (5, _), (47, _), (59, _)] hK11 ?_; refine Hd.cond rfl (fun hc4 => ?_) (fun hc4 => ?_)
   ·try simp only [hyZ] at hc4
    refine Hd.drawsH ([BoP pb wb rb, pt b3 (encO o) 33]) (fun _ => true) mixed ?_; simp only [List.length, Nat.zero_add, Nat.reduceAdd]; refine tH 0 rfl y_mv ?_; refine tH 1 rfl y_np ?_; refine tH 2 rfl (y_f 0 38 Tryz.underlying41 sz38) ?_; refine tH 3 rfl (y_l1 ag38 rfl) ?_; refine tH 4 rfl (y_f 2 3 Tryz.underlying33 sz3) ?_; refine tH 5 rfl (y_l1 ag3 rfl) ?_; refine onlyH 6 rfl kq ?_; refine callE rfl fk54 (wmk0_ct _ wb w o.k o.n (by omega)) sq ?_; intro _; refine Hd.nil <| thenN <| heldK (J := (fun _ => true)) (i := 6) sq ?_; refine tH 7 rfl y_mv ?_; refine tH 8 rfl y_ex ?_; refine tH 9 rfl y_ex ?_; refine tH 10 rfl y_ex ?_; refine tH 11 rfl y_as ?_; refine tH 12 rfl y_as ?_; refine tH 13 rfl y_as ?_; refine endH kq ?_; refine slots [(0, _), (3, _), (5, _), (7, _), (8, _), (9, _)] sbq ?_; refine Hd.inB <| Hd.toK hK9 ?_; refine Hd.seq fun _ hK12 => ?_
    refine Hd.drawsH ([BoP pb wb rb, pt b3 (encO o) 33]) (fun _ => true) mixed ?_; simp only [List.length, Nat.zero_add, Nat.reduceAdd]; refine tH 0 rfl y_mv ?_; refine tH 1 rfl y_np ?_; refine tH 2 rfl (y_f 1 39 Tryz.underlying41 sz39) ?_; refine tH 3 rfl (y_l1 ag39 rfl) ?_; refine tH 4 rfl (y_f 0 3 Tryz.underlying33 sz3) ?_; refine tH 5 rfl (y_l1 ag3 rfl) ?_; refine tH 6 rfl (y_f 2 3 Tryz.underlying33 sz3) ?_; refine tH 7 rfl (y_l1 ag3 rfl) ?_; refine onlyH 8 rfl kq ?_; refine callE rfl fk57 (Rf.rMake_ct _ rb w hw o.k o.n (by omega)) sq ?_; rintro ⟨ma, mc⟩; dsimp only; refine Hd.nil <| thenN <| heldK (J := (fun _ => true)) (i := 8) sq ?_; refine tH 9 rfl y_mv ?_; refine tH 10 rfl y_ex ?_; refine tH 11 rfl y_ex ?_; refine tH 12 rfl y_as ?_; refine tH 13 rfl y_as ?_; refine endH kq ?_; refine sk [(0, _), (5, _), (7, _), (8, _), (9, _), (10, _), (11, _)] hK12 ?_; refine Hd.wokW (wb := wb) (w := makeR w o.k o.n) pkk (fun hw2 => ?_)
    refine Rf.Hd.rw (b := rb) (w := makeR w o.k o.n) pkk (fun i hi => ?_)
    have hrl := Rf.rows_n hi
    have hlen := hw2.len
    refine Hd.region <| yv y_mv <| yv y_mv <| yv y_mv <| yv y_mv <| yv y_mv <| yv y_np <| yv (y_f 1 39 Tryz.underlying41 sz39) ?_; refine yv (y_l1 ag39 rfl) ?_; refine yv y_np <| yv (y_f 0 129 Tryz.underlying133 sz129) ?_; refine yv (y_l1 ag129 rfl) ?_; refine yv (y_len Tryz.underlying129 rfl) ?_; refine yv (y_to (v' := .int .i64 (((makeR w o.k o.n).ws.length : Nat) - 1)) (y_subn rfl rfl (by simp only [InK]; omega)) (by (congr 1; omega))) ?_; refine yv y_mv <| callE rfl fk58 (made_ct _ _ _ _ _ _ ma mc ?hD (made_ok w (k := o.k) (by omega) o.n)) sq ?_
    case hD => exact RdS.own pkk
    intro _; refine yv y_as <| Hd.nil <| slots [(5, _), (6, _)] sbq ?_; refine Hd.inB <| thenN ?_; rw [do_mk ⟨by omega, by omega⟩]; exact Hd.meet () sbq (Ent.sep (.pick pkk (.pick pkk (.pick pkk (.ex i (.pure hi enn))))))
   ·try simp only [hyZ] at hc4
    exact absurd hc0 hc4
  ·try simp only [hyZ] at hc0
   refine sr fun _ hK13 => ?_
   refine yv (y_eql rfl rfl) ?_; refine yv y_as <| fk [(0, _), (3, _), (5, _), (36, _), (41, _)] hK13 ?_; refine Hd.cond rfl (fun hc1 => ?_) (fun hc1 => ?_)
   ·try simp only [hyZ] at hc1
    rw [decide_eq_true hc1]; refine Hd.skip <| Hd.toK hK5 ?_; refine Hd.condT rfl ?_; refine sr fun _ hK14 => ?_
    refine yv y_as <| yv y_as <| fk [(0, _), (3, _), (5, _)] hK14 ?_; refine sr fun _ hK15 => ?_
    refine yv y_as <| fk [(0, _), (3, _), (5, _)] hK15 ?_; refine Hd.seq fun _ hK16 => ?_
    refine sr fun _ hK17 => ?_
    refine yv (y_f 0 3 Tryz.underlying33 sz3) ?_; refine yv (y_l1 ag3 rfl) ?_; refine fk [(0, _), (3, _), (5, _), (47, _)] hK17 ?_; refine Hd.block <| sr fun _ hK18 => ?_
    refine yv (y_eql rfl rfl) ?_; refine yv y_as <| fk [(0, _), (3, _), (5, _), (47, _), (59, _)] hK18 ?_; refine Hd.cond rfl (fun hc4 => ?_) (fun hc4 => ?_)
    ·try simp only [hyZ] at hc4
     exact absurd (hc4.symm.trans hc1) (by decide)
    ·try simp only [hyZ] at hc4
     refine sr fun _ hK19 => ?_
     refine yv (y_eql rfl rfl) ?_; refine yv y_as <| fk [(0, _), (3, _), (5, _), (47, _), (72, _)] hK19 ?_; refine Hd.cond rfl (fun hc5 => ?_) (fun hc5 => ?_)
     ·try simp only [hyZ] at hc5
      refine Hd.drawsH ([BoP pb wb rb, pt b3 (encO o) 33]) (fun _ => true) mixed ?_; simp only [List.length, Nat.zero_add, Nat.reduceAdd]; refine tH 0 rfl y_mv ?_; refine tH 1 rfl y_np ?_; refine tH 2 rfl (y_f 0 38 Tryz.underlying41 sz38) ?_; refine tH 3 rfl (y_l1 ag38 rfl) ?_; refine tH 4 rfl (y_f 2 3 Tryz.underlying33 sz3) ?_; refine tH 5 rfl (y_l1 ag3 rfl) ?_; refine onlyH 6 rfl kq ?_; refine callE rfl fk55 (wmk1_ct _ wb w o.k o.n (by omega)) sq ?_; intro _; refine Hd.nil <| thenN <| heldK (J := (fun _ => true)) (i := 6) sq ?_; refine tH 7 rfl y_mv ?_; refine tH 8 rfl y_ex ?_; refine tH 9 rfl y_ex ?_; refine tH 10 rfl y_ex ?_; refine tH 11 rfl y_as ?_; refine tH 12 rfl y_as ?_; refine tH 13 rfl y_as ?_; refine endH kq ?_; refine slots [(0, _), (3, _), (5, _), (7, _), (8, _), (9, _)] sbq ?_; refine Hd.inB <| Hd.toK hK16 ?_; refine Hd.seq fun _ hK20 => ?_
      refine Hd.drawsH ([BoP pb wb rb, pt b3 (encO o) 33]) (fun _ => true) mixed ?_; simp only [List.length, Nat.zero_add, Nat.reduceAdd]; refine tH 0 rfl y_mv ?_; refine tH 1 rfl y_np ?_; refine tH 2 rfl (y_f 1 39 Tryz.underlying41 sz39) ?_; refine tH 3 rfl (y_l1 ag39 rfl) ?_; refine tH 4 rfl (y_f 0 3 Tryz.underlying33 sz3) ?_; refine tH 5 rfl (y_l1 ag3 rfl) ?_; refine tH 6 rfl (y_f 2 3 Tryz.underlying33 sz3) ?_; refine tH 7 rfl (y_l1 ag3 rfl) ?_; refine onlyH 8 rfl kq ?_; refine callE rfl fk57 (Rf.rMake_ct _ rb w hw o.k o.n (by omega)) sq ?_; rintro ⟨ma, mc⟩; dsimp only; refine Hd.nil <| thenN <| heldK (J := (fun _ => true)) (i := 8) sq ?_; refine tH 9 rfl y_mv ?_; refine tH 10 rfl y_ex ?_; refine tH 11 rfl y_ex ?_; refine tH 12 rfl y_as ?_; refine tH 13 rfl y_as ?_; refine endH kq ?_; refine sk [(0, _), (5, _), (7, _), (8, _), (9, _), (10, _), (11, _)] hK20 ?_; refine Hd.wokW (wb := wb) (w := makeR w o.k o.n) pkk (fun hw2 => ?_)
      refine Rf.Hd.rw (b := rb) (w := makeR w o.k o.n) pkk (fun i hi => ?_)
      have hrl := Rf.rows_n hi
      have hlen := hw2.len
      refine Hd.region <| yv y_mv <| yv y_mv <| yv y_mv <| yv y_mv <| yv y_mv <| yv y_np <| yv (y_f 1 39 Tryz.underlying41 sz39) ?_; refine yv (y_l1 ag39 rfl) ?_; refine yv y_np <| yv (y_f 0 129 Tryz.underlying133 sz129) ?_; refine yv (y_l1 ag129 rfl) ?_; refine yv (y_len Tryz.underlying129 rfl) ?_; refine yv (y_to (v' := .int .i64 (((makeR w o.k o.n).ws.length : Nat) - 1)) (y_subn rfl rfl (by simp only [InK]; omega)) (by (congr 1; omega))) ?_; refine yv y_mv <| callE rfl fk58 (made_ct _ _ _ _ _ _ ma mc ?hD (made_ok w (k := o.k) (by omega) o.n)) sq ?_
      case hD => exact RdS.own pkk
      intro _; refine yv y_as <| Hd.nil <| slots [(5, _), (6, _)] sbq ?_; refine Hd.inB <| thenN ?_; rw [do_mk ⟨by omega, by omega⟩]; exact Hd.meet () sbq (Ent.sep (.pick pkk (.pick pkk (.pick pkk (.ex i (.pure hi enn))))))
     ·try simp only [hyZ] at hc5
      exact absurd hc1 hc5
   ·try simp only [hyZ] at hc1
    refine sr fun _ hK21 => ?_
    refine yv (y_eql rfl rfl) ?_; refine yv y_as <| fk [(0, _), (3, _), (5, _), (36, _), (41, _)] hK21 ?_; refine Hd.cond rfl (fun hc2 => ?_) (fun hc2 => ?_)
    ·try simp only [hyZ] at hc2
     rw [decide_eq_true hc2]; refine Hd.skip <| Hd.toK hK5 ?_; refine Hd.condT rfl ?_; refine sr fun _ hK22 => ?_
     refine yv y_as <| yv y_as <| fk [(0, _), (3, _), (5, _)] hK22 ?_; refine sr fun _ hK23 => ?_
     refine yv y_as <| fk [(0, _), (3, _), (5, _)] hK23 ?_; refine Hd.seq fun _ hK24 => ?_
     refine sr fun _ hK25 => ?_
     refine yv (y_f 0 3 Tryz.underlying33 sz3) ?_; refine yv (y_l1 ag3 rfl) ?_; refine fk [(0, _), (3, _), (5, _), (47, _)] hK25 ?_; refine Hd.block <| sr fun _ hK26 => ?_
     refine yv (y_eql rfl rfl) ?_; refine yv y_as <| fk [(0, _), (3, _), (5, _), (47, _), (59, _)] hK26 ?_; refine Hd.cond rfl (fun hc4 => ?_) (fun hc4 => ?_)
     ·try simp only [hyZ] at hc4
      exact absurd (hc4.symm.trans hc2) (by decide)
     ·try simp only [hyZ] at hc4
      refine sr fun _ hK27 => ?_
      refine yv (y_eql rfl rfl) ?_; refine yv y_as <| fk [(0, _), (3, _), (5, _), (47, _), (72, _)] hK27 ?_; refine Hd.cond rfl (fun hc5 => ?_) (fun hc5 => ?_)
      ·try simp only [hyZ] at hc5
       exact absurd (hc5.symm.trans hc2) (by decide)
      ·try simp only [hyZ] at hc5
       refine sr fun _ hK28 => ?_
       refine yv (y_eql rfl rfl) ?_; refine yv y_as <| fk [(0, _), (3, _), (5, _), (85, _)] hK28 ?_; refine Hd.cond rfl (fun hc6 => ?_) (fun hc6 => ?_)
       ·try simp only [hyZ] at hc6
        refine Hd.drawsH ([BoP pb wb rb, pt b3 (encO o) 33]) (fun _ => true) mixed ?_; simp only [List.length, Nat.zero_add, Nat.reduceAdd]; refine tH 0 rfl y_mv ?_; refine tH 1 rfl y_np ?_; refine tH 2 rfl (y_f 0 38 Tryz.underlying41 sz38) ?_; refine tH 3 rfl (y_l1 ag38 rfl) ?_; refine tH 4 rfl (y_f 2 3 Tryz.underlying33 sz3) ?_; refine tH 5 rfl (y_l1 ag3 rfl) ?_; refine onlyH 6 rfl kq ?_; refine callE rfl fk50 (wmk2_ct _ wb w o.k o.n (by omega)) sq ?_; intro _; refine Hd.nil <| thenN <| heldK (J := (fun _ => true)) (i := 6) sq ?_; refine tH 7 rfl y_mv ?_; refine tH 8 rfl y_ex ?_; refine tH 9 rfl y_ex ?_; refine tH 10 rfl y_ex ?_; refine tH 11 rfl y_as ?_; refine tH 12 rfl y_as ?_; refine tH 13 rfl y_as ?_; refine endH kq ?_; refine slots [(0, _), (3, _), (5, _), (7, _), (8, _), (9, _)] sbq ?_; refine Hd.inB <| Hd.toK hK24 ?_; refine Hd.seq fun _ hK29 => ?_
        refine Hd.drawsH ([BoP pb wb rb, pt b3 (encO o) 33]) (fun _ => true) mixed ?_; simp only [List.length, Nat.zero_add, Nat.reduceAdd]; refine tH 0 rfl y_mv ?_; refine tH 1 rfl y_np ?_; refine tH 2 rfl (y_f 1 39 Tryz.underlying41 sz39) ?_; refine tH 3 rfl (y_l1 ag39 rfl) ?_; refine tH 4 rfl (y_f 0 3 Tryz.underlying33 sz3) ?_; refine tH 5 rfl (y_l1 ag3 rfl) ?_; refine tH 6 rfl (y_f 2 3 Tryz.underlying33 sz3) ?_; refine tH 7 rfl (y_l1 ag3 rfl) ?_; refine onlyH 8 rfl kq ?_; refine callE rfl fk57 (Rf.rMake_ct _ rb w hw o.k o.n (by omega)) sq ?_; rintro ⟨ma, mc⟩; dsimp only; refine Hd.nil <| thenN <| heldK (J := (fun _ => true)) (i := 8) sq ?_; refine tH 9 rfl y_mv ?_; refine tH 10 rfl y_ex ?_; refine tH 11 rfl y_ex ?_; refine tH 12 rfl y_as ?_; refine tH 13 rfl y_as ?_; refine endH kq ?_; refine sk [(0, _), (5, _), (7, _), (8, _), (9, _), (10, _), (11, _)] hK29 ?_; refine Hd.wokW (wb := wb) (w := makeR w o.k o.n) pkk (fun hw2 => ?_)
        refine Rf.Hd.rw (b := rb) (w := makeR w o.k o.n) pkk (fun i hi => ?_)
        have hrl := Rf.rows_n hi
        have hlen := hw2.len
        refine Hd.region <| yv y_mv <| yv y_mv <| yv y_mv <| yv y_mv <| yv y_mv <| yv y_np <| yv (y_f 1 39 Tryz.underlying41 sz39) ?_; refine yv (y_l1 ag39 rfl) ?_; refine yv y_np <| yv (y_f 0 129 Tryz.underlying133 sz129) ?_; refine yv (y_l1 ag129 rfl) ?_; refine yv (y_len Tryz.underlying129 rfl) ?_; refine yv (y_to (v' := .int .i64 (((makeR w o.k o.n).ws.length : Nat) - 1)) (y_subn rfl rfl (by simp only [InK]; omega)) (by (congr 1; omega))) ?_; refine yv y_mv <| callE rfl fk58 (made_ct _ _ _ _ _ _ ma mc ?hD (made_ok w (k := o.k) (by omega) o.n)) sq ?_
        case hD => exact RdS.own pkk
        intro _; refine yv y_as <| Hd.nil <| slots [(5, _), (6, _)] sbq ?_; refine Hd.inB <| thenN ?_; rw [do_mk ⟨by omega, by omega⟩]; exact Hd.meet () sbq (Ent.sep (.pick pkk (.pick pkk (.pick pkk (.ex i (.pure hi enn))))))
       ·try simp only [hyZ] at hc6
        exact absurd hc2 hc6
    ·try simp only [hyZ] at hc2
     refine Hd.region <| yv (y_eql rfl rfl) ?_; refine yv y_as <| fk [(0, _), (3, _), (5, _), (36, _), (41, _)] hK5 ?_; refine Hd.cond rfl (fun hc3 => ?_) (fun hc3 => ?_)
     ·try simp only [hyZ] at hc3
      refine sr fun _ hK30 => ?_
      refine yv y_as <| yv y_as <| fk [(0, _), (3, _), (5, _)] hK30 ?_; refine sr fun _ hK31 => ?_
      refine yv y_as <| fk [(0, _), (3, _), (5, _)] hK31 ?_; refine Hd.seq fun _ hK32 => ?_
      refine sr fun _ hK33 => ?_
      refine yv (y_f 0 3 Tryz.underlying33 sz3) ?_; refine yv (y_l1 ag3 rfl) ?_; refine fk [(0, _), (3, _), (5, _), (47, _)] hK33 ?_; refine Hd.block <| sr fun _ hK34 => ?_
      refine yv (y_eql rfl rfl) ?_; refine yv y_as <| fk [(0, _), (3, _), (5, _), (47, _), (59, _)] hK34 ?_; refine Hd.cond rfl (fun hc4 => ?_) (fun hc4 => ?_)
      ·try simp only [hyZ] at hc4
       exact absurd (hc4.symm.trans hc3) (by decide)
      ·try simp only [hyZ] at hc4
       refine sr fun _ hK35 => ?_
       refine yv (y_eql rfl rfl) ?_; refine yv y_as <| fk [(0, _), (3, _), (5, _), (47, _), (72, _)] hK35 ?_; refine Hd.cond rfl (fun hc5 => ?_) (fun hc5 => ?_)
       ·try simp only [hyZ] at hc5
        exact absurd (hc5.symm.trans hc3) (by decide)
       ·try simp only [hyZ] at hc5
        refine sr fun _ hK36 => ?_
        refine yv (y_eql rfl rfl) ?_; refine yv y_as <| fk [(0, _), (3, _), (5, _), (85, _)] hK36 ?_; refine Hd.cond rfl (fun hc6 => ?_) (fun hc6 => ?_)
        ·try simp only [hyZ] at hc6
         exact absurd (hc6.symm.trans hc3) (by decide)
        ·try simp only [hyZ] at hc6
         refine Hd.drawsH ([BoP pb wb rb, pt b3 (encO o) 33]) (fun _ => true) mixed ?_; simp only [List.length, Nat.zero_add, Nat.reduceAdd]; refine tH 0 rfl y_mv ?_; refine tH 1 rfl y_np ?_; refine tH 2 rfl (y_f 0 38 Tryz.underlying41 sz38) ?_; refine tH 3 rfl (y_l1 ag38 rfl) ?_; refine tH 4 rfl (y_f 2 3 Tryz.underlying33 sz3) ?_; refine tH 5 rfl (y_l1 ag3 rfl) ?_; refine onlyH 6 rfl kq ?_; refine callE rfl fk56 (wmk3_ct _ wb w o.k o.n (by omega)) sq ?_; intro _; refine Hd.nil <| thenN <| heldK (J := (fun _ => true)) (i := 6) sq ?_; refine tH 7 rfl y_mv ?_; refine tH 8 rfl y_ex ?_; refine tH 9 rfl y_ex ?_; refine tH 10 rfl y_ex ?_; refine tH 11 rfl y_as ?_; refine tH 12 rfl y_as ?_; refine tH 13 rfl y_as ?_; refine endH kq ?_; refine slots [(0, _), (3, _), (5, _), (7, _), (8, _), (9, _)] sbq ?_; refine Hd.inB <| Hd.toK hK32 ?_; refine Hd.seq fun _ hK37 => ?_
         refine Hd.drawsH ([BoP pb wb rb, pt b3 (encO o) 33]) (fun _ => true) mixed ?_; simp only [List.length, Nat.zero_add, Nat.reduceAdd]; refine tH 0 rfl y_mv ?_; refine tH 1 rfl y_np ?_; refine tH 2 rfl (y_f 1 39 Tryz.underlying41 sz39) ?_; refine tH 3 rfl (y_l1 ag39 rfl) ?_; refine tH 4 rfl (y_f 0 3 Tryz.underlying33 sz3) ?_; refine tH 5 rfl (y_l1 ag3 rfl) ?_; refine tH 6 rfl (y_f 2 3 Tryz.underlying33 sz3) ?_; refine tH 7 rfl (y_l1 ag3 rfl) ?_; refine onlyH 8 rfl kq ?_; refine callE rfl fk57 (Rf.rMake_ct _ rb w hw o.k o.n (by omega)) sq ?_; rintro ⟨ma, mc⟩; dsimp only; refine Hd.nil <| thenN <| heldK (J := (fun _ => true)) (i := 8) sq ?_; refine tH 9 rfl y_mv ?_; refine tH 10 rfl y_ex ?_; refine tH 11 rfl y_ex ?_; refine tH 12 rfl y_as ?_; refine tH 13 rfl y_as ?_; refine endH kq ?_; refine sk [(0, _), (5, _), (7, _), (8, _), (9, _), (10, _), (11, _)] hK37 ?_; refine Hd.wokW (wb := wb) (w := makeR w o.k o.n) pkk (fun hw2 => ?_)
         refine Rf.Hd.rw (b := rb) (w := makeR w o.k o.n) pkk (fun i hi => ?_)
         have hrl := Rf.rows_n hi
         have hlen := hw2.len
         refine Hd.region <| yv y_mv <| yv y_mv <| yv y_mv <| yv y_mv <| yv y_mv <| yv y_np <| yv (y_f 1 39 Tryz.underlying41 sz39) ?_; refine yv (y_l1 ag39 rfl) ?_; refine yv y_np <| yv (y_f 0 129 Tryz.underlying133 sz129) ?_; refine yv (y_l1 ag129 rfl) ?_; refine yv (y_len Tryz.underlying129 rfl) ?_; refine yv (y_to (v' := .int .i64 (((makeR w o.k o.n).ws.length : Nat) - 1)) (y_subn rfl rfl (by simp only [InK]; omega)) (by (congr 1; omega))) ?_; refine yv y_mv <| callE rfl fk58 (made_ct _ _ _ _ _ _ ma mc ?hD (made_ok w (k := o.k) (by omega) o.n)) sq ?_
         case hD => exact RdS.own pkk
         intro _; refine yv y_as <| Hd.nil <| slots [(5, _), (6, _)] sbq ?_; refine Hd.inB <| thenN ?_; rw [do_mk ⟨by omega, by omega⟩]; exact Hd.meet () sbq (Ent.sep (.pick pkk (.pick pkk (.pick pkk (.ex i (.pure hi enn))))))
     ·try simp only [hyZ] at hc3
      refine sr fun _ hK38 => ?_
      refine yv (y_eql rfl rfl) ?_; refine yv y_as <| fk [(0, _), (3, _), (5, _), (36, _), (125, _)] hK38 ?_; refine Hd.cond rfl (fun hc7 => ?_) (fun hc7 => ?_)
      ·try simp only [hyZ] at hc7
       refine Hd.seq fun _ hK39 => ?_
       refine Hd.drawsH ([BoP pb wb rb, pt b3 (encO o) 33]) (fun _ => true) mixed ?_; simp only [List.length, Nat.zero_add, Nat.reduceAdd]; refine tH 0 rfl y_mv ?_; refine tH 1 rfl y_np ?_; refine tH 2 rfl (y_f 0 38 Tryz.underlying41 sz38) ?_; refine tH 3 rfl (y_l1 ag38 rfl) ?_; refine tH 4 rfl (y_f 1 3 Tryz.underlying33 sz3) ?_; refine tH 5 rfl (y_l1 ag3 rfl) ?_; refine onlyH 6 rfl kq ?_; refine callE rfl fk59 (waccept_ct _ wb w o.a) sq ?_; intro _; refine Hd.nil <| thenN <| heldK (J := (fun _ => true)) (i := 6) sq ?_; refine tH 7 rfl y_mv ?_; refine tH 8 rfl y_ex ?_; refine tH 9 rfl y_ex ?_; refine tH 10 rfl y_ex ?_; refine tH 11 rfl y_as ?_; refine tH 12 rfl y_as ?_; refine tH 13 rfl y_as ?_; refine endH kq ?_; refine sk [(0, _), (3, _), (5, _), (12, _), (13, _), (14, _)] hK39 ?_; refine Hd.seq fun _ hK40 => ?_
       refine Hd.drawsH ([BoP pb wb rb, pt b3 (encO o) 33]) (fun _ => true) mixed ?_; simp only [List.length, Nat.zero_add, Nat.reduceAdd]; refine tH 0 rfl y_mv ?_; refine tH 1 rfl y_np ?_; refine tH 2 rfl (y_f 1 39 Tryz.underlying41 sz39) ?_; refine tH 3 rfl (y_l1 ag39 rfl) ?_; refine tH 4 rfl (y_f 1 3 Tryz.underlying33 sz3) ?_; refine tH 5 rfl (y_l1 ag3 rfl) ?_; refine onlyH 6 rfl kq ?_; refine callE rfl fk60 (Rf.rAccept_ct _ rb w hw o.a) sq ?_; intro _; refine Hd.nil <| thenN <| heldK (J := (fun _ => true)) (i := 6) sq ?_; refine tH 7 rfl y_mv ?_; refine tH 8 rfl y_ex ?_; refine tH 9 rfl y_ex ?_; refine tH 10 rfl y_ex ?_; refine tH 11 rfl y_as ?_; refine tH 12 rfl y_as ?_; refine tH 13 rfl y_as ?_; refine endH kq ?_; refine sk [(5, _), (12, _), (13, _), (14, _), (15, _), (16, _), (17, _)] hK40 ?_; refine Hd.region <| yv y_mv <| yv y_mv <| yv (y_eqlT rfl rfl) ?_
       refine yv y_mv ?_; apply Hd.andg 4 152 156 [(5, _), (14, _), (17, _)] rfl sbq
       ·intro _
        simp only [List.take]; refine y2 y_mv <| y2 y_mv <| y2 (y_eqlT rfl rfl) ?_; refine yv (y_pickT rfl rfl) ?_; refine Hd.nil ?_; exact Hd.mq
       ·intro _
        simp only [List.take]; refine n1 <| n1 <| n1 <| yv (y_pickF rfl rfl) ?_; refine Hd.nil ?_; exact Hd.mq
       simp only [List.drop]; refine yv y_mv ?_; apply Hd.andg 4 157 161 [(5, _)] rfl sbq
       ·intro _
        simp only [List.take]; refine y2 y_mv <| y2 y_mv <| y2 (y_eqlT rfl rfl) ?_; refine yv (y_pickT rfl rfl) ?_; refine Hd.nil ?_; exact Hd.mq
       ·intro _
        simp only [List.take]; refine n1 <| n1 <| n1 <| yv (y_pickF rfl rfl) ?_; refine Hd.nil ?_; exact Hd.mq
       simp only [List.drop]; refine yv y_as <| Hd.nil <| slots [(5, _), (6, _)] sbq ?_; refine Hd.inB <| thenN ?_; rw [do_4 hc7]; exact Hd.meet () (by (repeat (first | exact trivial | refine ⟨rfl, ?_⟩)); done) sq
      ·try simp only [hyZ] at hc7
       refine sr fun _ hK41 => ?_
       refine yv (y_eql rfl rfl) ?_; refine yv y_as <| fk [(0, _), (3, _), (5, _), (36, _), (162, _)] hK41 ?_; refine Hd.cond rfl (fun hc8 => ?_) (fun hc8 => ?_)
       ·try simp only [hyZ] at hc8
        refine Hd.seq fun _ hK42 => ?_
        refine Hd.drawsH ([BoP pb wb rb, pt b3 (encO o) 33]) (fun _ => true) mixed ?_; simp only [List.length, Nat.zero_add, Nat.reduceAdd]; refine tH 0 rfl y_mv ?_; refine tH 1 rfl y_np ?_; refine tH 2 rfl (y_f 0 38 Tryz.underlying41 sz38) ?_; refine tH 3 rfl (y_l1 ag38 rfl) ?_; refine tH 4 rfl (y_f 1 3 Tryz.underlying33 sz3) ?_; refine tH 5 rfl (y_l1 ag3 rfl) ?_; refine tH 6 rfl (y_f 2 3 Tryz.underlying33 sz3) ?_; refine tH 7 rfl (y_l1 ag3 rfl) ?_; refine onlyH 8 rfl kq ?_; refine callE rfl fk61 (wread_ct _ wb w o.a o.n) sq ?_; rintro ⟨ta, tc⟩; dsimp only; refine Hd.nil <| thenN <| heldK (J := (fun _ => true)) (i := 8) sq ?_; refine tH 9 rfl y_mv ?_; refine tH 10 rfl y_ex ?_; refine tH 11 rfl y_ex ?_; refine tH 12 rfl y_ex ?_; refine tH 13 rfl y_as ?_; refine tH 14 rfl y_as ?_; refine tH 15 rfl y_as ?_; refine endH kq ?_; refine sk [(0, _), (3, _), (5, _), (18, _), (19, _), (20, _)] hK42 ?_
        refine Hd.seq fun _ hK43 => ?_
        refine Hd.drawsH ([BoP pb wb rb, pt b3 (encO o) 33]) (fun _ => true) mixed ?_; simp only [List.length, Nat.zero_add, Nat.reduceAdd]; refine tH 0 rfl y_mv ?_; refine tH 1 rfl y_np ?_; refine tH 2 rfl (y_f 1 39 Tryz.underlying41 sz39) ?_; refine tH 3 rfl (y_l1 ag39 rfl) ?_; refine tH 4 rfl (y_f 1 3 Tryz.underlying33 sz3) ?_; refine tH 5 rfl (y_l1 ag3 rfl) ?_; refine tH 6 rfl (y_f 2 3 Tryz.underlying33 sz3) ?_; refine tH 7 rfl (y_l1 ag3 rfl) ?_; refine onlyH 8 rfl kq ?_; refine callE rfl fk62 (Rf.rRead_ct _ rb w hw o.a o.n) sq ?_; rintro ⟨ua, uc⟩; dsimp only; refine Hd.nil <| thenN <| heldK (J := (fun _ => true)) (i := 8) sq ?_; refine tH 9 rfl y_mv ?_; refine tH 10 rfl y_ex ?_; refine tH 11 rfl y_ex ?_; refine tH 12 rfl y_ex ?_; refine tH 13 rfl y_as ?_; refine tH 14 rfl y_as ?_; refine tH 15 rfl y_as ?_; refine endH kq ?_; refine sk [(5, _), (18, _), (19, _), (20, _), (21, _), (22, _), (23, _)] hK43 ?_
        refine Hd.region <| yv y_mv <| yv (y_strOf (l := _) kq Tryz.underlying9 rfl (by exact RdS.own pkk)) ?_; refine yv y_mv <| yv (y_strOf (l := _) kq Tryz.underlying9 rfl (by exact RdS.own pkk)) ?_; refine yv (y_eqlstr rfl rfl) ?_; refine yv y_mv ?_; apply Hd.andg 4 195 199 [(5, _), (20, _), (23, _)] rfl sbq
        ·intro _
         simp only [List.take]; refine y2 y_mv <| y2 y_mv <| y2 (y_eqlb Tryz.underlying4 rfl rfl) ?_; refine yv (y_pickT rfl rfl) ?_; refine Hd.nil ?_; exact Hd.mq
        ·intro _
         simp only [List.take]; refine n1 <| n1 <| n1 <| yv (y_pickF rfl rfl) ?_; refine Hd.nil ?_; exact Hd.mq
        simp only [List.drop]; refine yv y_mv ?_; apply Hd.andg 4 200 204 [(5, _)] rfl sbq
        ·intro _
         simp only [List.take]; refine y2 y_mv <| y2 y_mv <| y2 (y_eqlT rfl rfl) ?_; refine yv (y_pickT rfl rfl) ?_; refine Hd.nil ?_; exact Hd.mq
        ·intro _
         simp only [List.take]; refine n1 <| n1 <| n1 <| yv (y_pickF rfl rfl) ?_; refine Hd.nil ?_; exact Hd.mq
        simp only [List.drop]; refine yv y_as <| Hd.nil <| slots [(5, _), (6, _)] sbq ?_; refine Hd.inB <| thenN ?_; rw [do_5 hc8]; exact Hd.meet () (by simp; repeat (first | exact trivial | refine ⟨rfl, ?_⟩)) sq
       ·try simp only [hyZ] at hc8
        refine sr fun _ hK44 => ?_
        refine yv (y_eql rfl rfl) ?_; refine yv y_as <| fk [(0, _), (3, _), (5, _), (36, _), (205, _)] hK44 ?_; refine Hd.cond rfl (fun hc9 => ?_) (fun hc9 => ?_)
        ·try simp only [hyZ] at hc9
         refine Hd.seq fun _ hK45 => ?_
         refine Hd.drawsH ([BoP pb wb rb, pt b3 (encO o) 33]) (fun _ => true) mixed ?_; simp only [List.length, Nat.zero_add, Nat.reduceAdd]; refine tH 0 rfl y_mv ?_; refine tH 1 rfl y_np ?_; refine tH 2 rfl (y_f 0 38 Tryz.underlying41 sz38) ?_; refine tH 3 rfl (y_l1 ag38 rfl) ?_; refine tH 4 rfl (y_f 1 3 Tryz.underlying33 sz3) ?_; refine tH 5 rfl (y_l1 ag3 rfl) ?_; refine tH 6 rfl y_mv ?_; refine onlyH 7 rfl kq ?_; refine callE rfl fk63 (wwrite_ct _ wb w o.a ad34 o.d.length cap34 o.d rfl ?hD (by omega) hcap) sq ?_
         case hD => exact RdS.own pkk
         intro _; refine Hd.nil <| thenN <| heldK (J := (fun _ => true)) (i := 7) sq ?_; refine tH 8 rfl y_mv ?_; refine tH 9 rfl y_ex ?_; refine tH 10 rfl y_ex ?_; refine tH 11 rfl y_as ?_; refine tH 12 rfl y_as ?_; refine endH kq ?_; refine sk [(0, _), (3, _), (5, _), (24, _), (25, _)] hK45 ?_; refine Hd.seq fun _ hK46 => ?_
         refine Hd.drawsH ([BoP pb wb rb, pt b3 (encO o) 33]) (fun _ => true) mixed ?_; simp only [List.length, Nat.zero_add, Nat.reduceAdd]; refine tH 0 rfl y_mv ?_; refine tH 1 rfl y_np ?_; refine tH 2 rfl (y_f 1 39 Tryz.underlying41 sz39) ?_; refine tH 3 rfl (y_l1 ag39 rfl) ?_; refine tH 4 rfl (y_f 1 3 Tryz.underlying33 sz3) ?_; refine tH 5 rfl (y_l1 ag3 rfl) ?_; refine tH 6 rfl (y_f 4 31 Tryz.underlying33 sz31) ?_; refine tH 7 rfl (y_l1 ag31 rfl) ?_; refine onlyH 8 rfl kq ?_; refine callE rfl fk64 (Rf.rWrite_ct _ rb w hw o.a o.ad o.d.length o.c o.d rfl ?hD (by omega) hc) sq ?_
         case hD => exact RdS.mono hR sq
         intro _; refine Hd.nil <| thenN <| heldK (J := (fun _ => true)) (i := 8) sq ?_; refine tH 9 rfl y_mv ?_; refine tH 10 rfl y_ex ?_; refine tH 11 rfl y_ex ?_; refine tH 12 rfl y_as ?_; refine tH 13 rfl y_as ?_; refine endH kq ?_; refine sk [(5, _), (24, _), (25, _), (26, _), (27, _)] hK46 ?_; refine Hd.region <| yv y_mv <| yv y_mv <| yv (y_eqlT rfl rfl) ?_; refine yv y_mv ?_; apply Hd.andg 4 233 237 [(5, _)] rfl sbq
         ·intro _
          simp only [List.take]; refine y2 y_mv <| y2 y_mv <| y2 (y_eqlT rfl rfl) ?_; refine yv (y_pickT rfl rfl) ?_; refine Hd.nil ?_; exact Hd.mq
         ·intro _
          simp only [List.take]; refine n1 <| n1 <| n1 <| yv (y_pickF rfl rfl) ?_; refine Hd.nil ?_; exact Hd.mq
         simp only [List.drop]; refine yv y_as <| Hd.nil <| slots [(5, _), (6, _)] sbq ?_; refine Hd.inB <| thenN ?_; rw [do_6 hc9]; exact Hd.meet () (by (repeat (first | exact trivial | refine ⟨rfl, ?_⟩)); done) sq
        ·try simp only [hyZ] at hc9
         refine sr fun _ hK47 => ?_
         refine yv (y_eql rfl rfl) ?_; refine yv y_as <| fk [(0, _), (3, _), (5, _), (36, _), (238, _)] hK47 ?_; refine Hd.cond rfl (fun hc10 => ?_) (fun hc10 => ?_)
         ·try simp only [hyZ] at hc10
          refine Hd.seq fun _ hK48 => ?_
          refine Hd.drawsH ([BoP pb wb rb, pt b3 (encO o) 33]) (fun _ => true) mixed ?_; simp only [List.length, Nat.zero_add, Nat.reduceAdd]; refine tH 0 rfl y_mv ?_; refine tH 1 rfl y_np ?_; refine tH 2 rfl (y_f 0 38 Tryz.underlying41 sz38) ?_; refine tH 3 rfl (y_l1 ag38 rfl) ?_; refine tH 4 rfl (y_f 1 3 Tryz.underlying33 sz3) ?_; refine tH 5 rfl (y_l1 ag3 rfl) ?_; refine onlyH 6 rfl kq ?_; refine callE rfl fk65 (wshut_ct _ wb w o.a) sq ?_; intro _; refine Hd.nil <| thenN <| heldK (J := (fun _ => true)) (i := 6) sq ?_; refine tH 7 rfl y_as ?_; refine endH kq ?_; refine sk [(0, _), (3, _), (5, _), (28, _)] hK48 ?_; refine Hd.drawsH ([BoP pb wb rb, pt b3 (encO o) 33]) (fun _ => true) mixed ?_; simp only [List.length, Nat.zero_add, Nat.reduceAdd]; refine tH 0 rfl y_mv ?_; refine tH 1 rfl y_mv ?_; refine tH 2 rfl y_np ?_; refine tH 3 rfl (y_f 1 39 Tryz.underlying41 sz39) ?_; refine tH 4 rfl (y_l1 ag39 rfl) ?_
          refine tH 5 rfl (y_f 1 3 Tryz.underlying33 sz3) ?_; refine tH 6 rfl (y_l1 ag3 rfl) ?_; refine onlyH 7 rfl kq ?_; refine callE rfl fk66 (Rf.rShut_ct _ rb w hw o.a) sq ?_; intro _; refine Hd.nil <| thenN <| heldK (J := (fun _ => true)) (i := 7) sq ?_; refine tH 8 rfl (y_eqlT rfl rfl) ?_; refine tH 9 rfl y_as ?_; refine endH kq ?_; refine slots [(5, _), (6, _)] sbq ?_; refine Hd.inB <| thenN ?_; rw [do_7 hc10]; exact Hd.meet () (by (repeat (first | exact trivial | refine ⟨rfl, ?_⟩)); done) sq
         ·try simp only [hyZ] at hc10
          refine sr fun _ hK49 => ?_
          refine yv (y_eql rfl rfl) ?_; refine yv y_as <| fk [(0, _), (3, _), (5, _), (256, _)] hK49 ?_; refine Hd.cond rfl (fun hc11 => ?_) (fun hc11 => ?_)
          ·try simp only [hyZ] at hc11
           refine Hd.seq fun _ hK50 => ?_
           refine Hd.drawsH ([BoP pb wb rb, pt b3 (encO o) 33]) (fun _ => true) mixed ?_; simp only [List.length, Nat.zero_add, Nat.reduceAdd]; refine tH 0 rfl y_mv ?_; refine tH 1 rfl y_np ?_; refine tH 2 rfl (y_f 0 38 Tryz.underlying41 sz38) ?_; refine tH 3 rfl (y_l1 ag38 rfl) ?_; refine tH 4 rfl (y_f 1 3 Tryz.underlying33 sz3) ?_; refine tH 5 rfl (y_l1 ag3 rfl) ?_; refine onlyH 6 rfl kq ?_; refine callE rfl fk67 (wclose_ct _ wb w o.a) sq ?_; intro _; refine Hd.nil <| thenN <| heldK (J := (fun _ => true)) (i := 6) sq ?_; refine tH 7 rfl y_as ?_; refine endH kq ?_; refine sk [(0, _), (3, _), (5, _), (29, _)] hK50 ?_; refine Hd.drawsH ([BoP pb wb rb, pt b3 (encO o) 33]) (fun _ => true) mixed ?_; simp only [List.length, Nat.zero_add, Nat.reduceAdd]; refine tH 0 rfl y_mv ?_; refine tH 1 rfl y_mv ?_; refine tH 2 rfl y_np ?_; refine tH 3 rfl (y_f 1 39 Tryz.underlying41 sz39) ?_; refine tH 4 rfl (y_l1 ag39 rfl) ?_
           refine tH 5 rfl (y_f 1 3 Tryz.underlying33 sz3) ?_; refine tH 6 rfl (y_l1 ag3 rfl) ?_; refine onlyH 7 rfl kq ?_; refine callE rfl fk68 (Rf.rClose_ct _ rb w hw o.a) sq ?_; intro _; refine Hd.nil <| thenN <| heldK (J := (fun _ => true)) (i := 7) sq ?_; refine tH 8 rfl (y_eqlT rfl rfl) ?_; refine tH 9 rfl y_as ?_; refine endH kq ?_; refine slots [(5, _), (6, _)] sbq ?_; refine Hd.inB <| thenN ?_; rw [do_8 hc11]; exact Hd.meet () (by (repeat (first | exact trivial | refine ⟨rfl, ?_⟩)); done) sq
          ·try simp only [hyZ] at hc11
           refine Hd.region <| yv y_mv <| yv (y_loadn (us := [_, _, _, _, _]) ag33 rfl (Rd.pt pkk (by exact fun j v e => by rw [Nat.zero_add]; exact e)) (by exact sz33)) ?_; refine yv y_mv <| callE rfl fk69 (more_ct _ pb wb rb w K hK hl o (by omega) ht0 hd ?hD hc ad34 cap34 ?hD2 hcap) sq ?_
           case hD => exact RdS.mono hR sq
           case hD2 => exact RdS.own pkk
           intro _; refine yv y_as <| Hd.nil <| slots [(5, _), (6, _)] sbq ?_; refine Hd.inB <| thenN ?_; exact Hd.meet () sbq sq
 ·intro _
  refine Hd.seq fun _ hK51 => ?_
  refine sr fun _ hK52 => ?_
  refine yv y_mv <| yv (y_len Tryz.underlying31 rfl) ?_; refine yv y_mv <| fk [(5, _), (6, _), (275, _), (276, _)] hK52 ?_; refine Hd.block <| Hd.loopK (ι := Nat × List Value) [(5, _), (6, _), (275, _)] (fun q_ => [(276, .int .i64 (q_.1 : Int))]) (fun q_ => pu (q_.1 ≤ o.d.length ∧ q_.2.length = o.d.length ∧ ∀ v ∈ q_.2, ∃ x, v = .int .u8 x) :: own 5 1 ad34 o.d.length cap34 q_.2 :: BoP pb wb rb :: WorldP wb (doA w o) :: Rf.RwP rb (doA w o) :: L) (fun q_ => o.d.length - q_.1) (0, bsl o.d) sbq sbq (Ent.sep (.pure ⟨Nat.zero_le _, by simp [bsl], fun v hv => by obtain ⟨b, _, rfl⟩ := List.mem_map.1 hv; exact ⟨_, rfl⟩⟩ enn)) ?_; rintro ⟨i, us⟩
  try dsimp only
  refine Hd.pure (fun hp0 => ?_)
  try dsimp only at hp0
  refine sr fun _ hK53 => ?_
  refine yv (y_lss rfl rfl) ?_; refine fk [(5, _), (6, _), (275, _), (276, _), (277, _)] hK53 ?_; refine Hd.seq fun _ hK54 => ?_
  refine Hd.cond rfl (fun hc12 => ?_) (fun hc12 => ?_)
  ·try simp only [hyZ] at hc12
   have hi : i < o.d.length := by omega
   have hiu : i < us.length := by omega
   obtain ⟨x, hx⟩ := hp0.2.2 us[i] (List.getElem_mem hiu)
   have hg : us[i * 1]? = some (.int .u8 x) := by rw [Nat.mul_one, List.getElem?_eq_getElem hiu, hx]
   refine Hd.skip <| Hd.toK hK54 ?_; refine Hd.seq fun _ hK55 => ?_
   refine Hd.block <| sr fun _ hK56 => ?_
   refine yv y_mv <| yv y_as <| fk [(5, _), (6, _), (30, _), (275, _), (276, _)] hK56 ?_; refine Hd.region <| yv y_mv <| yv y_mv <| yv y_mv <| yv y_mv <| yv (y_idxR Tryz.underlying31 sz5 rfl rfl (by omega) (by exact RdS.own pkk)) ?_; refine yv (y_loadR1 ag5 rfl (by exact RdS.own pkk) (by exact hg)) ?_; refine yv (y_add rfl rfl) ?_; refine yv (y_idxR Tryz.underlying31 sz5 rfl rfl (by omega) (by exact RdS.own pkk)) ?_; refine Hd.storeO1 sz5 rfl rfl rfl pkk (by omega) ?_
   try simp only [hyS]
   refine Hd.nil <| slots [(5, _), (6, _), (275, _), (276, _)] sbq ?_; refine Hd.inB <| Hd.toK hK55 ?_; refine Hd.region <| yv (y_addn rfl rfl (by simp only [InK]; omega)) ?_; refine yv y_mv <| Hd.nil <| slots [(5, _), (6, _), (275, _), (276, _)] sbq ?_; refine thenN ?_
   have hnew : ∀ v ∈ us.set (i * 1) (.int .u8 (IntKind.u8.wrap (x + 1))), ∃ x, v = .int .u8 x := fun v hv => (List.mem_or_eq_of_mem_set hv).elim (fun h => hp0.2.2 v h) (fun h => ⟨_, h⟩)
   exact Hd.again (i + 1, us.set (i * 1) (.int .u8 (IntKind.u8.wrap (x + 1)))) (by omega) sbq (Ent.sep (.pure ⟨hi, by rw [List.length_set]; exact hp0.2.1, hnew⟩ enn))
  ·try simp only [hyZ] at hc12
   refine Hd.exit <| Hd.thenExit <| Hd.thenExit <| Hd.inBexit <| Hd.toK hK51 ?_; refine sr fun _ hK57 => ?_
   refine yv y_mv <| yv y_as <| fk [(4, _)] hK57 ?_; refine Hd.ret ?_; exact Hd.ret1 rfl () (by rfl) sq
end Wo
end Go.Proofs.YtbfddabjbkohdaaGreat
namespace Go.Proofs.YtbfddabjbkohdaaGreat
set_option maxHeartbeats 2000000
open Go.RX.Hd (yv y2 n1 fk sk sr tH callE heldK onlyH endH thenN slots)
open Go.RX Fx
namespace Ep
open Wo
set_option maxRecDepth 8000
structure Pv where
 k : Int
 x : Ov
 fd : Int
 n : Int
 ev : Int
 ad : Option Addr
 c : Nat
 ord : List Int
abbrev encPv (p : Pv) : List Value := [.int .i64 p.k, .int .i64 p.x.k, .int .i64 p.x.a, .int .i64 p.x.n, .int .u64 p.x.t, .slice p.x.ad p.x.d.length p.x.c, .int .i64 p.fd, .int .i64 p.n, .int .i64 p.ev, .slice p.ad p.ord.length p.c]
structure PvOk (L : List SP) (p : Pv) : Prop where
 x : OvOk L p.x
 rd : RdS L 1 p.ad p.ord.length (vi p.ord)
 k : InK .i64 p.k
 fd : InK .i64 p.fd
 n : InK .i64 p.n
 ev : InK .i64 p.ev
def gP (xs : List Pv) : Int := if 150 < xs.length then 1 else if ∀ p ∈ xs, p.ord.length ≤ 60 ∧ p.x.d.length ≤ 300 then 0 else 1
theorem gP_ok {xs : List Pv} (h : ¬ 0 < gP xs) : xs.length ≤ 150 ∧ ∀ p ∈ xs, p.ord.length ≤ 60 ∧ p.x.d.length ≤ 300 := by
 unfold gP at h
 split at h
 ·exact absurd (by decide) h
 ·split at h
  ·rename_i h1 h2; exact ⟨by omega, h2⟩
  ·exact absurd (by decide) h
theorem gO_one (o : Ov) : gO [o] = if o.d.length ≤ 300 then 0 else 1 := by
 unfold gO; rw [if_neg (by simp)]
 by_cases h : o.d.length ≤ 300
 ·rw [if_pos h, if_pos (by intro q hq; obtain rfl : q = o := (by simpa using hq); exact h)]
 ·rw [if_neg h, if_neg (fun g => h (g o List.mem_cons_self))]
theorem pv_x {xs : List Pv} {i : Nat} {p : Pv} (h : xs[i]? = some p) : ∀ (j : Nat) v, (encO p.x)[j]? = some v → (xs.flatMap encPv)[i * 10 + 1 + j]? = some v := fun j v e => by
 rw [Nat.add_assoc]; refine flat_cells encPv 10 (fun _ => rfl) h (1 + j) v ?_; rw [Nat.add_comm]
 show (encO p.x ++ [Value.int .i64 p.fd, .int .i64 p.n, .int .i64 p.ev, .slice p.ad p.ord.length p.c])[j]? = some v
 rw [List.getElem?_append_left (List.getElem?_eq_some_iff.1 e).1]; exact e
theorem great15_ct (L : List SP) (ad : Option Addr) (c : Nat) (xs : List Pv) (hR : RdS L 10 ad xs.length (xs.flatMap encPv)) : Ct Tryz.prog 15 #[.slice ad xs.length c] (L) (fun _ : Unit => .int .i64 (gP xs)) (fun _ : Unit => L) := by
 refine Ct.o1 Tryz.func15 ?_; intro E
 show Hd E 30 _ _ _ _
 refine sr fun _ hK1 => ?_
 refine yv y_as <| fk [(0, _)] hK1 ?_; refine Hd.seq fun _ hK2 => ?_
 refine sr fun _ hK3 => ?_
 refine yv y_mv <| yv (y_len Tryz.underlying23 rfl) ?_; refine yv (y_gtr rfl rfl) ?_; refine fk [(0, _), (6, _)] hK3 ?_; refine Hd.cond rfl (fun hc0 => ?_) (fun hc0 => ?_)
 ·try simp only [hyZ] at hc0
  refine sr fun _ hK4 => ?_
  refine yv y_as <| fk [(2, _)] hK4 ?_; refine Hd.ret <| Hd.thenRet ?_; exact Hd.ret1 rfl () (by unfold gP; rw [if_pos (by omega)]; rfl) sq
 ·try simp only [hyZ] at hc0
  have hx : xs.length ≤ 150 := by omega
  refine Hd.skip <| Hd.toK hK2 ?_; refine Hd.seq fun _ hK5 => ?_
  refine sr fun _ hK6 => ?_
  refine yv y_mv <| yv (y_len Tryz.underlying23 rfl) ?_; refine yv y_mv <| fk [(0, _), (8, _), (9, _)] hK6 ?_; refine Hd.block <| Hd.loopK (ι := Nat) [(0, _), (8, _)] (fun i => [(9, .int .i64 (i : Int))]) (fun i => pu (i ≤ xs.length ∧ ∀ p ∈ xs.take i, p.ord.length ≤ 60 ∧ p.x.d.length ≤ 300) :: L) (fun i => xs.length - i) 0 sbq sbq (Ent.sep (.pure ⟨Nat.zero_le _, fun o ho => by simp at ho⟩ enn)) ?_; intro i
  try dsimp only
  refine Hd.pure (fun hp0 => ?_)
  try dsimp only at hp0
  refine sr fun _ hK7 => ?_
  refine yv (y_lss rfl rfl) ?_; refine fk [(0, _), (8, _), (9, _), (10, _)] hK7 ?_; refine Hd.seq fun _ hK8 => ?_
  refine Hd.cond rfl (fun hc1 => ?_) (fun hc1 => ?_)
  ·try simp only [hyZ] at hc1
   have hi : i < xs.length := by omega
   obtain ⟨p, hp⟩ : ∃ p, xs[i]? = some p := ⟨_, List.getElem?_eq_getElem hi⟩
   refine Hd.skip <| Hd.toK hK8 ?_; refine Hd.seq fun _ hK9 => ?_
   refine Hd.block <| sr fun _ hK10 => ?_
   refine yv y_mv <| yv y_as <| fk [(0, _), (3, _), (8, _), (9, _)] hK10 ?_; refine sr fun _ hK11 => ?_
   refine yv y_mv <| yv y_mv <| yv (y_idxR Tryz.underlying23 sz46 rfl rfl (by omega) (by exact RdS.mono hR sq)) ?_; refine yv (y_fR 9 44 Tryz.underlying46 sz44) ?_; refine yv (y_loadR1 ag44 rfl (by exact RdS.mono hR sq) (by exact flat_cells encPv 10 (fun _ => rfl) hp 9 _ rfl)) ?_; refine yv (y_len Tryz.underlying44 rfl) ?_; refine yv (y_gtr rfl rfl) ?_; refine yv y_mv ?_; apply Hd.org 9 19 28 [(0, _), (8, _), (9, _)] rfl sbq
   ·intro _
    simp only [List.take]; refine n1 <| n1 <| n1 <| n1 <| n1 <| n1 <| n1 <| n1 <| yv (y_pickT rfl rfl) ?_; refine Hd.nil ?_; exact Hd.mq
   ·intro hg6_19
    try simp only [hyZ] at hg6_19
    simp only [List.take]; refine y2 y_mv <| y2 y_mv <| y2 (y_idxR Tryz.underlying23 sz46 rfl rfl (by omega) (by exact RdS.mono hR sq)) ?_; refine y2 (y_fR 1 33 Tryz.underlying46 sz33) ?_; refine y2 (y_loadRn (vs := encO p.x) ag33 rfl (RdS.mono hR sq) (pv_x hp) sz33 (by simp)) ?_; refine Hd.unguard rfl rfl ?_; refine Hd.bslice (vs := [(0, _)]) rfl (by exact bs15_25 ..) (fun b25 => ?_); refine Hd.unguard rfl rfl ?_; refine callE rfl fk14 (great11_ct _ _ 1 [p.x] ?hD) sq ?_
    case hD => exact RdS.rd (Rd.pt pkk (fun j v e => by simpa using e)) rfl
    intro _; refine y2 (y_gtr rfl rfl) ?_; refine yv (y_pickF rfl rfl) ?_; refine Hd.nil ?_; exact Hd.mq
   simp only [List.drop]; refine fk [(0, _), (8, _), (9, _), (28, _)] hK11 ?_; refine Hd.cond rfl (fun hc2 => ?_) (fun hc2 => ?_)
   ·try simp only [hyZ] at hc2
    refine sr fun _ hK12 => ?_
    refine yv y_as <| fk [(2, _)] hK12 ?_; refine Hd.ret <| Hd.inBret <| Hd.thenRet <| Hd.thenRet <| Hd.inBret <| Hd.thenRet ?_
    have hb : ¬ (∀ p ∈ xs, p.ord.length ≤ 60 ∧ p.x.d.length ≤ 300) := fun h => by
     have h1 := h p (List.mem_of_getElem? hp)
     have h2 : gO [p.x] = 0 := by rw [gO_one, if_pos h1.2]
     omega
    exact Hd.ret1 rfl () (by unfold gP; rw [if_neg (by omega), if_neg hb]; rfl) sq
   ·try simp only [hyZ] at hc2
    refine Hd.skip <| Hd.inB <| Hd.toK hK9 ?_; refine Hd.region <| yv (y_addn rfl rfl (by simp only [InK]; omega)) ?_; refine yv y_mv <| Hd.nil <| slots [(0, _), (8, _), (9, _)] sbq ?_; refine thenN ?_
    have hnew : ∀ q ∈ xs.take (i + 1), q.ord.length ≤ 60 ∧ q.x.d.length ≤ 300 := by
     intro q hq; rw [List.take_add_one, hp] at hq
     rcases List.mem_append.1 hq with h | h
     ·exact hp0.2 q h
     ·obtain rfl : q = p := by simpa using h
      have h2 := gO_one q.x
      by_cases h3 : q.x.d.length ≤ 300
      ·exact ⟨by omega, h3⟩
      ·rw [if_neg h3] at h2; omega
    exact Hd.again (i + 1) (by omega) sbq (Ent.sep (.pure ⟨hi, hnew⟩ enn))
  ·try simp only [hyZ] at hc1
   refine Hd.exit <| Hd.thenExit <| Hd.thenExit <| Hd.inBexit <| Hd.toK hK5 ?_; refine sr fun _ hK13 => ?_
   refine yv y_as <| fk [(2, _)] hK13 ?_; refine Hd.ret ?_; exact Hd.ret1 rfl () (by unfold gP; rw [if_neg (by omega), if_pos (by have h := hp0.2; rwa [List.take_of_length_le (by omega)] at h)]; rfl) sq
structure LvOk (g : Int → Option Value) (m : Nat) (S : List (Int × Int)) : Prop where
 mem : ∀ y ∈ S, g y.1 = some (.int .i64 y.2)
 no : ∀ a, a ∉ S.map Prod.fst → g a = none
 len : m = S.length
theorem LvOk.nil : LvOk (fun _ => none) 0 [] := ⟨fun _ h => (by cases h), fun _ _ => rfl, rfl⟩
theorem LvOk.add {g : Int → Option Value} {m : Nat} {S : List (Int × Int)} (h : LvOk g m S) {y : Int × Int} (hy : y.1 ∉ S.map Prod.fst) : LvOk (fun a => if a = y.1 then some (.int .i64 y.2) else g a) (if (g y.1).isSome = true then m else m + 1) (S ++ [y]) where
 mem z hz := by
  rcases List.mem_append.1 hz with hz | hz
  ·rw [if_neg (fun e : z.1 = y.1 => hy (e ▸ List.mem_map_of_mem hz))]; exact h.mem z hz
  ·obtain rfl : z = y := by simpa using hz
   rw [if_pos rfl]
 no a ha := by
  rw [List.map_append, List.mem_append] at ha; rw [if_neg (fun e => ha (.inr (by rw [e]; simp)))]; exact h.no a fun e => ha (.inl e)
 len := by rw [h.no _ hy, List.length_append, h.len]; rfl
theorem LvOk.same {g : Int → Option Value} {m : Nat} {S : List (Int × Int)} (h : LvOk g m S) {y : Int × Int} (hy : y ∈ S) : LvOk (fun a => if a = y.1 then some (.int .i64 y.2) else g a) (if (g y.1).isSome = true then m else m + 1) S where
 mem z hz := by
  by_cases e : z.1 = y.1
  ·rw [if_pos e, ← h.mem y hy, ← e]; exact h.mem z hz
  ·rw [if_neg e]; exact h.mem z hz
 no a ha := by
  rw [if_neg (fun e => ha (by rw [e]; exact List.mem_map_of_mem hy))]; exact h.no a ha
 len := by rw [h.mem y hy]; exact h.len
theorem tdiv_in {n k : Int} (hn : InK .i64 n) (hk : 1 ≤ k) : IntKind.i64.wrap (n.tdiv k) = n.tdiv k := by
 simp only [InK] at hn; rw [wrap_i64]
 rcases Int.le_total 0 n with h0 | h0
 ·have h1 := Int.tdiv_nonneg h0 (show 0 ≤ k by omega)
  have h2 := Int.tdiv_le_self k h0
  omega
 ·obtain ⟨m, rfl⟩ : ∃ m, n = -m := ⟨-n, by omega⟩
  rw [Int.neg_tdiv]
  have h1 := Int.tdiv_nonneg (show 0 ≤ m by omega) (show 0 ≤ k by omega)
  have h2 := Int.tdiv_le_self k (show 0 ≤ m by omega)
  omega
theorem rhas_ct (L : List SP) (n k : Int) (hk : 1 ≤ k) (hn : InK .i64 n) : Ct Tryz.prog 82 #[.int .i64 n, .int .i64 k] (L) (fun _ : Unit => .bool (hasT n k)) (fun _ : Unit => L) := by
 refine Ct.o2 Tryz.func82 ?_; intro E
 show Hd E 10 _ _ _ _
 refine sr fun _ hK1 => ?_
 refine yv y_as <| fk [(0, _), (1, _)] hK1 ?_; refine sr fun _ hK2 => ?_
 refine yv y_mv <| yv y_mv <| yv (y_quo rfl rfl (by omega)) ?_; refine yv (y_rem rfl rfl (by omega)) ?_; refine yv (y_eql rfl rfl) ?_; refine yv y_as <| fk [(4, _)] hK2 ?_; refine Hd.ret ?_; exact Hd.ret1 rfl () (by rw [tdiv_in hn hk]; rfl) sq
abbrev encRi (x : RiA) : List Value := [.int .i64 x.fd, .int .i64 x.wire, .int .i64 x.ev, .bool x.i, .bool x.o, .int .u64 x.r, .int .u64 x.w]
abbrev RlH (eb rb : Nat) (lim : Int) (ad : Option Addr) (n c : Nat) : SP := pt eb [.pointer (some ⟨rb, 0, none⟩), .int .i64 lim, .slice ad n c] 60
abbrev RlP (eb rb : Nat) (lim : Int) (ad : Option Addr) (c : Nat) (l : List RiA) (L : List SP) : List SP := RlH eb rb lim ad l.length c :: own 65 7 ad l.length c (l.flatMap encRi) :: L
def posR (l : List RiA) (fd : Int) : Int := match l.findIdx? fun x => x.fd == fd with
 | some i => (i : Int)
 | none => -1
theorem rfind15_ct (L : List SP) (eb rb : Nat) (lim : Int) (ad : Option Addr) (c : Nat) (l : List RiA) (fd : Int) (hl : l.length ≤ 1000000) : Ct Tryz.prog 80 #[.pointer (some ⟨eb, 0, none⟩), .int .i64 fd] (RlP eb rb lim ad c l L) (fun _ : Unit => .int .i64 (posR l fd)) (fun _ : Unit => RlP eb rb lim ad c l L) := by
 refine Ct.o2 Tryz.func80 ?_; intro E
 show Hd E 26 _ _ _ _
 refine sr fun _ hK1 => ?_
 refine yv y_as <| fk [(0, _), (1, _)] hK1 ?_; refine Hd.seq fun _ hK2 => ?_
 refine sr fun _ hK3 => ?_
 refine yv y_as <| fk [(0, _), (1, _), (5, _)] hK3 ?_; refine Hd.block <| Hd.loopK (ι := Nat) [(0, _), (1, _)] (fun i => [(5, .int .i64 (i : Int))]) (fun i => pu (i ≤ l.length ∧ ∀ x ∈ l.take i, x.fd ≠ fd) :: RlP eb rb lim ad c l L) (fun i => l.length - i) 0 sbq sbq (Ent.sep (.pure ⟨Nat.zero_le _, fun x h => (by cases h)⟩ enn)) ?_; intro i
 try dsimp only
 refine Hd.pure (fun hp0 => ?_)
 try dsimp only at hp0
 refine Hd.seq fun _ hK4 => ?_
 refine sr fun _ hK5 => ?_
 refine yv y_mv <| yv y_mv <| yv y_np <| yv (y_f 2 58 Tryz.underlying60 sz58) ?_; refine yv (y_l1 ag58 rfl) ?_; refine yv (y_len Tryz.underlying58 rfl) ?_; refine yv (y_lss rfl rfl) ?_; refine fk [(0, _), (1, _), (5, _), (12, _)] hK5 ?_; refine Hd.cond rfl (fun hc0 => ?_) (fun hc0 => ?_)
 ·try simp only [hyZ] at hc0
  have hi : i < l.length := by omega
  obtain ⟨y, hy⟩ : ∃ y, l[i]? = some y := ⟨_, List.getElem?_eq_getElem hi⟩
  refine Hd.skip <| Hd.toK hK4 ?_; refine Hd.seq fun _ hK6 => ?_
  refine Hd.block <| sr fun _ hK7 => ?_
  refine yv y_mv <| yv y_np <| yv (y_f 2 58 Tryz.underlying60 sz58) ?_; refine yv (y_l1 ag58 rfl) ?_; refine yv y_mv <| yv (y_idxR Tryz.underlying58 sz65 rfl rfl (by omega) (by exact RdS.own pkk)) ?_; refine yv (y_fR 0 3 Tryz.underlying65 sz3) ?_; refine yv (y_loadR1 ag3 rfl (RdS.own (ad := ad) (us := l.flatMap encRi) pkk) (flat_cells encRi 7 (fun _ => rfl) hy 0 _ rfl)) ?_; refine yv y_mv <| yv (y_eql rfl rfl) ?_; refine fk [(0, _), (1, _), (5, _), (24, _)] hK7 ?_; refine Hd.cond rfl (fun hc1 => ?_) (fun hc1 => ?_)
  ·try simp only [hyZ] at hc1
   have hpos : posR l fd = (i : Int) := by
    unfold posR
    have : l.findIdx? (fun x => x.fd == fd) = some i := by
     obtain ⟨hi', rfl⟩ := List.getElem?_eq_some_iff.1 hy
     rw [List.findIdx?_eq_some_iff_getElem]; refine ⟨hi', by simpa using hc1, fun j hj => ?_⟩
     have := hp0.2 l[j] (List.mem_iff_getElem.2 ⟨j, by rw [List.length_take]; omega, by rw [List.getElem_take]⟩)
     simpa using this
    rw [this]
   refine sr fun _ hK8 => ?_
   refine yv y_mv <| yv y_as <| fk [(4, _)] hK8 ?_; refine Hd.ret <| Hd.inBret <| Hd.thenRet <| Hd.thenRet <| Hd.inBret <| Hd.thenRet ?_; exact Hd.ret1 rfl () (by rw [hpos]; rfl) sq
  ·try simp only [hyZ] at hc1
   have hne : ∀ x ∈ l.take (i + 1), x.fd ≠ fd := fun x hx => by
    rw [List.take_add_one, hy, Option.toList_some] at hx
    rcases List.mem_append.1 hx with h | h
    ·exact hp0.2 x h
    ·rw [List.mem_singleton] at h
     subst h; simpa using hc1
   refine Hd.skip <| Hd.inB <| Hd.toK hK6 ?_; refine Hd.region <| yv y_mv <| yv (y_addn rfl rfl (by simp only [InK]; omega)) ?_; refine yv y_as <| Hd.nil <| slots [(0, _), (1, _), (5, _)] sbq ?_; refine thenN ?_; exact Hd.again (i + 1) (by omega) sbq (Ent.sep (.pure ⟨hi, hne⟩ enn))
 ·try simp only [hyZ] at hc0
  obtain rfl : i = l.length := by omega
  have hpos : posR l fd = -1 := by
   unfold posR
   have : l.findIdx? (fun x => x.fd == fd) = none := by
    rw [List.findIdx?_eq_none_iff]; intro x hx
    have := hp0.2 x (by rwa [List.take_of_length_le (Nat.le_refl _)])
    simpa using this
   rw [this]
  refine Hd.exit <| Hd.thenExit <| Hd.thenExit <| Hd.inBexit <| Hd.toK hK2 ?_; refine sr fun _ hK9 => ?_
  refine yv y_as <| fk [(4, _)] hK9 ?_; refine Hd.ret ?_; exact Hd.ret1 rfl () (by rw [hpos]; rfl) sq
def tolA (x : RiA) (r : RdyA) : Bool := (hasT x.ev 1 && (x.i || !hasT x.ev 32)) && (r.i || (!!hasT x.ev 32 && (r.h || r.e)))
def tolB (x : RiA) (r : RdyA) : Bool := (hasT x.ev 4 && (x.o || !hasT x.ev 32)) && (r.o || (!!hasT x.ev 32 && (r.h || r.e)))
def tolN (x : RiA) (r : RdyA) : Int := (if tolA x r = true then 1 else 0) + (if tolB x r = true then 4 else 0)
def tolT (x : RiA) (r : RdyA) : Int := if tolN x r = 0 ∧ hasT x.ev 32 = true then 0 else tolN x r + (if r.h = true then 16 else 0) + (if r.e = true then 8 else 0)
theorem tolN_in (x : RiA) (r : RdyA) : 0 ≤ tolN x r ∧ tolN x r ≤ 5 := by unfold tolN; split <;> split <;> omega
theorem rtold15_ct (L : List SP) (eb rb : Nat) (lim : Int) (ad : Option Addr) (c : Nat) (l : List RiA) (w : WA) (hw : WOk w) (x : RiA) (hx : InK .i64 x.ev) : Ct Tryz.prog 84 #[.pointer (some ⟨eb, 0, none⟩), .agg (encRi x).toArray] (RlP eb rb lim ad c l (Rf.RwP rb w :: L)) (fun _ : Unit => .int .i64 (tolT x (readyR w x.fd))) (fun _ : Unit => RlP eb rb lim ad c l (Rf.RwP rb w :: L)) := by
 refine Ct.o2 Tryz.func84 ?_; intro E
 show Hd E 87 _ _ _ _
 obtain ⟨r, hr⟩ : ∃ r, readyR w x.fd = r := ⟨_, rfl⟩
 refine sr fun _ hK1 => ?_
 refine Hd.box rfl rfl (fun b3 => ?_); refine yv y_as <| fk [(0, _), (3, _)] hK1 ?_; refine Hd.cutK (ι := Nat) [(3, _)] (fun b5 => [(5, .pointer (some ⟨b5, 0, none⟩))]) (fun b5 => pt b5 (encR r) 105 :: pt b3 (encRi x) 65 :: RlP eb rb lim ad c l (Rf.RwP rb w :: L)) ?_ ?_ ⟨rfl, trivial⟩
 ·refine Hd.drawsH ([RlH eb rb lim ad l.length c, pt b3 (encRi x) 65]) (fun j => !([8].contains j)) mixed ?_
  simp only [List.length, Nat.zero_add, Nat.reduceAdd]; refine tH 0 rfl y_mv ?_; refine tH 1 rfl y_np ?_; refine tH 2 rfl (y_f 0 39 Tryz.underlying60 sz39) ?_; refine tH 3 rfl (y_l1 ag39 rfl) ?_; refine tH 4 rfl (y_f 0 3 Tryz.underlying65 sz3) ?_; refine tH 5 rfl (y_l1 ag3 rfl) ?_; refine Hd.eitherH 6 7 rfl rfl kq ?_ ?_
  ·refine callE rfl fk81 (Rf.rReady_ct _ rb w hw x.fd) sq ?_
   intro _; rw [hr]; refine Hd.nil <| thenN <| heldK (J := (fun j => !([8].contains j))) (i := 6) sq ?_; refine onlyH 7 rfl kq ?_; refine Hd.alloc zr105 (fun b5 => ?_); refine Hd.nil <| thenN <| heldK (J := (fun j => !([8].contains j))) (i := 7) sq ?_; refine onlyH 8 rfl kq ?_; refine Hd.storeA (us := encR r) sz105 rfl rfl rfl (by simp [Value.oneCell']) pkk (by exact rfl) ?_; refine Hd.nil <| thenN <| Hd.heldN (J := (fun j => !([8].contains j))) (i := 8) rfl ?_; refine endH kq ?_; refine slots [(3, _), (5, _)] sbq ?_; refine thenN ?_; exact Hd.meet b5 sbq sq
  ·refine Hd.alloc zr105 (fun b5 => ?_)
   refine Hd.nil <| thenN <| heldK (J := (fun j => !([8].contains j))) (i := 7) sq ?_; refine onlyH 6 rfl kq ?_; refine callE rfl fk81 (Rf.rReady_ct _ rb w hw x.fd) sq ?_; intro _; rw [hr]; refine Hd.nil <| thenN <| heldK (J := (fun j => !([8].contains j))) (i := 6) sq ?_; refine onlyH 8 rfl kq ?_; refine Hd.storeA (us := encR r) sz105 rfl rfl rfl (by simp [Value.oneCell']) pkk (by exact rfl) ?_; refine Hd.nil <| thenN <| Hd.heldN (J := (fun j => !([8].contains j))) (i := 8) rfl ?_; refine endH kq ?_; refine slots [(3, _), (5, _)] sbq ?_; refine thenN ?_; exact Hd.meet b5 sbq sq
 ·intro b5
  refine sr fun _ hK2 => ?_
  refine yv (y_f 2 3 Tryz.underlying65 sz3) ?_; refine yv (y_l1 ag3 rfl) ?_; refine callE rfl fk82 (rhas_ct _ x.ev 32 (by decide) hx) sq ?_; intro _; refine yv (y_not rfl) ?_; refine yv y_as <| fk [(3, _), (5, _), (6, _)] hK2 ?_; refine sr fun _ hK3 => ?_
  refine yv (y_f 2 3 Tryz.underlying65 sz3) ?_; refine yv (y_l1 ag3 rfl) ?_; refine callE rfl fk82 (rhas_ct _ x.ev 1 (by decide) hx) sq ?_; intro _; refine yv y_mv ?_; apply Hd.andg 6 25 31 [(3, _), (5, _), (6, _)] rfl sbq
  ·intro hg3_25
   try simp only [hyZ] at hg3_25
   simp only [List.take]; refine y2 (y_f 3 4 Tryz.underlying65 sz4) ?_; refine y2 (y_l1 ag4 rfl) ?_; refine y2 y_mv ?_; apply Hd.org 2 28 30 [(3, _), (5, _), (6, _), (25, _)] rfl sbq
   ·intro _
    simp only [List.take]; refine n1 <| y2 (y_pickT rfl rfl) ?_; refine Hd.nil ?_; exact Hd.mq
   ·intro _
    simp only [List.take]; refine y2 y_mv <| y2 (y_pickF rfl rfl) ?_; refine Hd.nil ?_; exact Hd.mq
   simp only [List.drop]; refine yv (y_pickT rfl rfl) ?_; refine Hd.nil ?_; exact Hd.mq
  ·intro _
   simp only [List.take]; refine n1 <| n1 <| n1 <| n1 <| n1 <| yv (y_pickF rfl rfl) ?_; refine Hd.nil ?_; exact Hd.mq
  simp only [List.drop]; refine yv y_as <| fk [(3, _), (5, _), (6, _), (7, _)] hK3 ?_; refine sr fun _ hK4 => ?_
  refine yv (y_f 2 3 Tryz.underlying65 sz3) ?_; refine yv (y_l1 ag3 rfl) ?_; refine callE rfl fk82 (rhas_ct _ x.ev 4 (by decide) hx) sq ?_; intro _; refine yv y_mv ?_; apply Hd.andg 6 35 41 [(5, _), (6, _), (7, _)] rfl sbq
  ·intro hg4_35
   try simp only [hyZ] at hg4_35
   simp only [List.take]; refine y2 (y_f 4 4 Tryz.underlying65 sz4) ?_; refine y2 (y_l1 ag4 rfl) ?_; refine y2 y_mv ?_; apply Hd.org 2 38 40 [(5, _), (6, _), (7, _), (35, _)] rfl sbq
   ·intro _
    simp only [List.take]; refine n1 <| y2 (y_pickT rfl rfl) ?_; refine Hd.nil ?_; exact Hd.mq
   ·intro _
    simp only [List.take]; refine y2 y_mv <| y2 (y_pickF rfl rfl) ?_; refine Hd.nil ?_; exact Hd.mq
   simp only [List.drop]; refine yv (y_pickT rfl rfl) ?_; refine Hd.nil ?_; exact Hd.mq
  ·intro _
   simp only [List.take]; refine n1 <| n1 <| n1 <| n1 <| n1 <| yv (y_pickF rfl rfl) ?_; refine Hd.nil ?_; exact Hd.mq
  simp only [List.drop]; refine yv y_as <| fk [(5, _), (6, _), (7, _), (8, _)] hK4 ?_; refine sr fun _ hK5 => ?_
  refine yv y_as <| fk [(5, _), (6, _), (7, _), (8, _), (9, _)] hK5 ?_; refine sr fun _ hK6 => ?_
  refine yv y_mv <| yv (y_not rfl) ?_; refine yv y_mv ?_; apply Hd.andg 7 44 51 [(5, _), (6, _), (7, _), (8, _), (9, _)] rfl sbq
  ·intro hg6_44
   try simp only [hyZ] at hg6_44
   simp only [List.take]; refine y2 (y_f 3 4 Tryz.underlying105 sz4) ?_; refine y2 (y_l1 ag4 rfl) ?_; refine y2 y_mv ?_; apply Hd.org 3 47 50 [(5, _), (6, _), (7, _), (8, _), (9, _), (44, _)] rfl sbq
   ·intro _
    simp only [List.take]; refine n1 <| n1 <| y2 (y_pickT rfl rfl) ?_; refine Hd.nil ?_; exact Hd.mq
   ·intro _
    simp only [List.take]; refine y2 (y_f 4 4 Tryz.underlying105 sz4) ?_; refine y2 (y_l1 ag4 rfl) ?_; refine y2 (y_pickF rfl rfl) ?_; refine Hd.nil ?_; exact Hd.mq
   simp only [List.drop]; refine yv (y_pickT rfl rfl) ?_; refine Hd.nil ?_; exact Hd.mq
  ·intro _
   simp only [List.take]; refine n1 <| n1 <| n1 <| n1 <| n1 <| n1 <| yv (y_pickF rfl rfl) ?_; refine Hd.nil ?_; exact Hd.mq
  simp only [List.drop]; refine yv y_as <| fk [(5, _), (6, _), (7, _), (8, _), (9, _), (10, _)] hK6 ?_; refine Hd.cutK (ι := Unit) [(5, _), (6, _), (8, _), (10, _)] (fun _ => [(9, .int .i64 (if tolA x r = true then 1 else 0))]) (fun _ => pt b5 (encR r) 105 :: pt b3 (encRi x) 65 :: RlP eb rb lim ad c l (Rf.RwP rb w :: L)) ?_ ?_ ⟨rfl, rfl, rfl, rfl, trivial⟩
  ·refine sr fun _ hK7 => ?_
   refine yv y_mv <| yv y_mv ?_; apply Hd.andg 6 53 59 [(5, _), (6, _), (8, _), (9, _), (10, _)] rfl sbq
   ·intro hg7_53
    try simp only [hyZ] at hg7_53
    simp only [List.take]; refine y2 (y_f 1 4 Tryz.underlying105 sz4) ?_; refine y2 (y_l1 ag4 rfl) ?_; refine y2 y_mv ?_; apply Hd.org 2 56 58 [(5, _), (6, _), (8, _), (9, _), (10, _), (53, _)] rfl sbq
    ·intro _
     simp only [List.take]; refine n1 <| y2 (y_pickT rfl rfl) ?_; refine Hd.nil ?_; exact Hd.mq
    ·intro _
     simp only [List.take]; refine y2 y_mv <| y2 (y_pickF rfl rfl) ?_; refine Hd.nil ?_; exact Hd.mq
    simp only [List.drop]; refine yv (y_pickT rfl rfl) ?_; refine Hd.nil ?_; exact Hd.mq
   ·intro _
    simp only [List.take]; refine n1 <| n1 <| n1 <| n1 <| n1 <| yv (y_pickF rfl rfl) ?_; refine Hd.nil ?_; exact Hd.mq
   simp only [List.drop]; refine fk [(5, _), (6, _), (8, _), (9, _), (10, _), (59, _)] hK7 ?_; refine Hd.cond rfl (fun hc0 => ?_) (fun hc0 => ?_)
   ·try simp only [hyZ] at hc0
    have hA : tolA x r = true := by unfold tolA; simpa using hc0
    refine Hd.region <| yv y_mv <| yv (y_addn rfl rfl (by simp only [InK]; omega)) ?_; refine yv y_as <| Hd.nil <| slots [(5, _), (6, _), (8, _), (9, _), (10, _)] sbq ?_; refine thenN ?_; exact Hd.meet () ⟨congrArg (fun z => some (Value.int .i64 z)) (by rw [if_pos hA]; rfl), by repeat (first | exact trivial | refine ⟨rfl, ?_⟩)⟩ sq
   ·try simp only [hyZ] at hc0
    have hA : ¬ tolA x r = true := by
     unfold tolA
     revert hc0
     generalize hasT x.ev 1 = p1
     generalize x.i = p2
     generalize hasT x.ev 32 = p3
     generalize r.i = p4
     generalize r.h = p5
     generalize r.e = p6
     cases p1 <;> cases p2 <;> cases p3 <;> cases p4 <;> cases p5 <;> cases p6 <;> simp
    refine Hd.skip <| thenN ?_; exact Hd.meet () ⟨congrArg (fun z => some (Value.int .i64 z)) (by rw [if_neg hA]), by repeat (first | exact trivial | refine ⟨rfl, ?_⟩)⟩ sq
  ·intro _
   obtain ⟨nA, hnA⟩ : ∃ n : Int, (if tolA x r = true then (1 : Int) else 0) = n := ⟨_, rfl⟩
   have hnA2 : 0 ≤ nA ∧ nA ≤ 1 := by rw [← hnA]; split <;> omega
   rw [hnA]; refine Hd.cutK (ι := Unit) [(5, _), (6, _)] (fun _ => [(9, .int .i64 (tolN x r))]) (fun _ => pt b5 (encR r) 105 :: pt b3 (encRi x) 65 :: RlP eb rb lim ad c l (Rf.RwP rb w :: L)) ?_ ?_ ⟨rfl, rfl, trivial⟩
   ·refine sr fun _ hK8 => ?_
    refine yv y_mv <| yv y_mv ?_; apply Hd.andg 6 63 69 [(5, _), (6, _), (9, _)] rfl sbq
    ·intro hg9_63
     try simp only [hyZ] at hg9_63
     simp only [List.take]; refine y2 (y_f 2 4 Tryz.underlying105 sz4) ?_; refine y2 (y_l1 ag4 rfl) ?_; refine y2 y_mv ?_; apply Hd.org 2 66 68 [(5, _), (6, _), (9, _), (63, _)] rfl sbq
     ·intro _
      simp only [List.take]; refine n1 <| y2 (y_pickT rfl rfl) ?_; refine Hd.nil ?_; exact Hd.mq
     ·intro _
      simp only [List.take]; refine y2 y_mv <| y2 (y_pickF rfl rfl) ?_; refine Hd.nil ?_; exact Hd.mq
     simp only [List.drop]; refine yv (y_pickT rfl rfl) ?_; refine Hd.nil ?_; exact Hd.mq
    ·intro _
     simp only [List.take]; refine n1 <| n1 <| n1 <| n1 <| n1 <| yv (y_pickF rfl rfl) ?_; refine Hd.nil ?_; exact Hd.mq
    simp only [List.drop]; refine fk [(5, _), (6, _), (9, _), (69, _)] hK8 ?_; refine Hd.cond rfl (fun hc1 => ?_) (fun hc1 => ?_)
    ·try simp only [hyZ] at hc1
     have hB : tolB x r = true := by unfold tolB; simpa using hc1
     refine Hd.region <| yv y_mv <| yv (y_addn rfl rfl (by simp only [InK]; omega)) ?_; refine yv y_as <| Hd.nil <| slots [(5, _), (6, _), (9, _)] sbq ?_; refine thenN ?_; exact Hd.meet () ⟨congrArg (fun z => some (Value.int .i64 z)) (by unfold tolN; rw [hnA, if_pos hB]), by repeat (first | exact trivial | refine ⟨rfl, ?_⟩)⟩ sq
    ·try simp only [hyZ] at hc1
     have hB : ¬ tolB x r = true := by
      unfold tolB
      revert hc1
      generalize hasT x.ev 4 = p1
      generalize x.o = p2
      generalize hasT x.ev 32 = p3
      generalize r.o = p4
      generalize r.h = p5
      generalize r.e = p6
      cases p1 <;> cases p2 <;> cases p3 <;> cases p4 <;> cases p5 <;> cases p6 <;> simp
     refine Hd.skip <| thenN ?_; exact Hd.meet () ⟨congrArg (fun z => some (Value.int .i64 z)) (by unfold tolN; rw [hnA, if_neg hB, Int.add_zero]), by repeat (first | exact trivial | refine ⟨rfl, ?_⟩)⟩ sq
   ·intro _
    have hN := tolN_in x r
    obtain ⟨nN, hnN⟩ : ∃ n : Int, tolN x r = n := ⟨_, rfl⟩
    rw [hnN] at hN; rw [hnN]; refine Hd.seq fun _ hK9 => ?_
    refine sr fun _ hK10 => ?_
    refine yv y_mv <| yv (y_eql rfl rfl) ?_; refine yv y_mv ?_; apply Hd.andg 3 74 77 [(5, _), (9, _)] rfl sbq
    ·intro _
     simp only [List.take]; refine y2 y_mv <| y2 (y_not rfl) ?_; refine yv (y_pickT rfl rfl) ?_; refine Hd.nil ?_; exact Hd.mq
    ·intro _
     simp only [List.take]; refine n1 <| n1 <| yv (y_pickF rfl rfl) ?_; refine Hd.nil ?_; exact Hd.mq
    simp only [List.drop]; refine fk [(5, _), (9, _), (77, _)] hK10 ?_; refine Hd.cond rfl (fun hc2 => ?_) (fun hc2 => ?_)
    ·try simp only [hyZ] at hc2
     have hv : tolT x r = 0 := by unfold tolT; rw [hnN]; exact if_pos (by simpa using hc2)
     refine sr fun _ hK11 => ?_
     refine yv y_as <| fk [(4, _)] hK11 ?_; refine Hd.ret <| Hd.thenRet ?_; exact Hd.ret1 rfl () (by rw [hr, hv]; rfl) sq
    ·try simp only [hyZ] at hc2
     have h2 : ¬nN = 0 ∨ hasT x.ev 32 = false := by simpa using hc2
     have hv : tolT x r = nN + (if r.h = true then 16 else 0) + (if r.e = true then 8 else 0) := by unfold tolT; rw [hnN]; exact if_neg (fun h => h2.elim (fun g => g h.1) (fun g => by rw [h.2] at g; cases g))
     refine Hd.skip <| Hd.toK hK9 ?_; refine Hd.cutK (ι := Unit) [(5, _)] (fun _ => [(9, .int .i64 (nN + (if r.h = true then 16 else 0)))]) (fun _ => pt b5 (encR r) 105 :: pt b3 (encRi x) 65 :: RlP eb rb lim ad c l (Rf.RwP rb w :: L)) ?_ ?_ ⟨rfl, trivial⟩
     ·refine sr fun _ hK12 => ?_
      refine yv (y_f 3 4 Tryz.underlying105 sz4) ?_; refine yv (y_l1 ag4 rfl) ?_; refine fk [(5, _), (9, _), (79, _)] hK12 ?_; refine Hd.cond rfl (fun hc3 => ?_) (fun hc3 => ?_)
      ·try simp only [hyZ] at hc3
       refine Hd.region <| yv y_mv <| yv (y_addn rfl rfl (by simp only [InK]; omega)) ?_; refine yv y_as <| Hd.nil <| slots [(5, _), (9, _)] sbq ?_; refine thenN ?_; exact Hd.meet () ⟨congrArg (fun z => some (Value.int .i64 z)) (by rw [if_pos hc3]), by repeat (first | exact trivial | refine ⟨rfl, ?_⟩)⟩ sq
      ·try simp only [hyZ] at hc3
       refine Hd.skip <| thenN ?_; exact Hd.meet () ⟨congrArg (fun z => some (Value.int .i64 z)) (by rw [if_neg (by simpa using hc3), Int.add_zero]), by repeat (first | exact trivial | refine ⟨rfl, ?_⟩)⟩ sq
     ·intro _
      obtain ⟨nH, hnH⟩ : ∃ n : Int, nN + (if r.h = true then (16 : Int) else 0) = n := ⟨_, rfl⟩
      have hnH2 : 0 ≤ nH ∧ nH ≤ 21 := by rw [← hnH]; split <;> omega
      rw [hnH] at hv; rw [hnH]; refine Hd.cutK (ι := Unit) [] (fun _ => [(9, .int .i64 (tolT x r))]) (fun _ => pt b5 (encR r) 105 :: pt b3 (encRi x) 65 :: RlP eb rb lim ad c l (Rf.RwP rb w :: L)) ?_ ?_ trivial
      ·refine sr fun _ hK13 => ?_
       refine yv (y_f 4 4 Tryz.underlying105 sz4) ?_; refine yv (y_l1 ag4 rfl) ?_; refine fk [(9, _), (83, _)] hK13 ?_; refine Hd.cond rfl (fun hc4 => ?_) (fun hc4 => ?_)
       ·try simp only [hyZ] at hc4
        refine Hd.region <| yv y_mv <| yv (y_addn rfl rfl (by simp only [InK]; omega)) ?_; refine yv y_as <| Hd.nil <| slots [(9, _)] sbq ?_; refine thenN ?_; exact Hd.meet () ⟨congrArg (fun z => some (Value.int .i64 z)) (by rw [hv, if_pos hc4]), by repeat (first | exact trivial | refine ⟨rfl, ?_⟩)⟩ sq
       ·try simp only [hyZ] at hc4
        refine Hd.skip <| thenN ?_; exact Hd.meet () ⟨congrArg (fun z => some (Value.int .i64 z)) (by rw [hv, if_neg (by simpa using hc4), Int.add_zero]), by repeat (first | exact trivial | refine ⟨rfl, ?_⟩)⟩ sq
      ·intro _
       refine sr fun _ hK14 => ?_
       refine yv y_mv <| yv y_as <| fk [(4, _)] hK14 ?_; refine Hd.ret ?_; exact Hd.ret1 rfl () (by rw [hr]; rfl) sq
theorem tidyL_succ (w : WA) {l : List RiA} {i : Nat} {y : RiA} (h : l[i]? = some y) : tidyL w (l.take (i + 1)) = tidyL w (l.take i) ++ (tidy1 w y).toList := by
 unfold tidyL; rw [List.take_add_one, h, Option.toList_some, List.filterMap_append, List.filterMap_cons, List.filterMap_nil]
 cases tidy1 w y <;> rfl
theorem tidyL_le (w : WA) (l : List RiA) (i : Nat) : (tidyL w (l.take i)).length ≤ i := by
 have h1 := List.length_filterMap_le (tidy1 w) (l.take i)
 rw [List.length_take] at h1; unfold tidyL; omega
theorem rtidy15_ct (L : List SP) (eb rb : Nat) (lim : Int) (ad : Option Addr) (c : Nat) (l : List RiA) (w : WA) (hw : WOk w) (hl : l.length ≤ 1000000) : Ct Tryz.prog 78 #[.pointer (some ⟨eb, 0, none⟩)] (RlP eb rb lim ad c l (Rf.RwP rb w :: L)) (fun q_ : Option Addr × Nat => .tuple #[]) (fun q_ : Option Addr × Nat => RlP eb rb lim q_.1 q_.2 (tidyL w l) (Rf.RwP rb w :: L)) := by
 refine Ct.o1 Tryz.func78 ?_; intro E
 show Hd E 83 _ _ _ _
 refine sr fun _ hK1 => ?_
 refine yv y_as <| fk [(0, _), (2, _)] hK1 ?_; refine Hd.seq fun _ hK2 => ?_
 refine sr fun _ hK3 => ?_
 refine yv y_as <| fk [(0, _), (2, _), (3, _)] hK3 ?_; refine Hd.block <| Hd.loopK (ι := Nat × Option Addr × Nat) [(0, _)] (fun q_ => [(2, .slice q_.2.1 (tidyL w (l.take q_.1)).length q_.2.2), (3, .int .i64 (q_.1 : Int))]) (fun q_ => pu (q_.1 ≤ l.length) :: own 65 7 q_.2.1 (tidyL w (l.take q_.1)).length q_.2.2 ((tidyL w (l.take q_.1)).flatMap encRi) :: RlP eb rb lim ad c l (Rf.RwP rb w :: L)) (fun q_ => l.length - q_.1) (0, none, 0) sbq sbq (fun q t => Ent.sep (.pure (Nat.zero_le _) (.ownNil enn)) q t) ?_; rintro ⟨i, la, lc⟩
 try dsimp only
 refine Hd.pure (fun hp0 => ?_)
 try dsimp only at hp0
 refine Hd.seq fun _ hK4 => ?_
 refine sr fun _ hK5 => ?_
 refine yv y_mv <| yv y_mv <| yv y_np <| yv (y_f 2 58 Tryz.underlying60 sz58) ?_; refine yv (y_l1 ag58 rfl) ?_; refine yv (y_len Tryz.underlying58 rfl) ?_; refine yv (y_lss rfl rfl) ?_; refine fk [(0, _), (2, _), (3, _), (14, _)] hK5 ?_; refine Hd.cond rfl (fun hc0 => ?_) (fun hc0 => ?_)
 ·try simp only [hyZ] at hc0
  have hi : i < l.length := by omega
  obtain ⟨y, hy⟩ : ∃ y, l[i]? = some y := ⟨_, List.getElem?_eq_getElem hi⟩
  have hts := tidyL_succ w hy
  have htl := tidyL_le w l i
  obtain ⟨D, hD⟩ : ∃ D, tidyL w (l.take i) = D := ⟨_, rfl⟩
  rw [hD] at hts htl; rw [hD]
  obtain ⟨r, hr⟩ : ∃ r, readyR w y.fd = r := ⟨_, rfl⟩
  refine Hd.skip <| Hd.toK hK4 ?_; refine Hd.seq fun _ hK6 => ?_
  refine Hd.block <| sr fun _ hK7 => ?_
  refine yv y_mv <| yv y_np <| yv (y_f 2 58 Tryz.underlying60 sz58) ?_; refine yv (y_l1 ag58 rfl) ?_; refine yv y_mv <| yv (y_idxR Tryz.underlying58 sz65 rfl rfl (by omega) (by exact RdS.own pkk)) ?_; refine yv (y_loadRn (vs := encRi y) ag65 rfl (RdS.own (ad := ad) (us := l.flatMap encRi) pkk) (flat_cells encRi 7 (fun _ => rfl) hy) sz65 (by simp)) ?_; refine Hd.alloc zr65 (fun b4 => ?_); refine Hd.storeA (us := encRi y) sz65 rfl rfl rfl (by simp [Value.oneCell']) pkk (by exact rfl) ?_; refine fk [(0, _), (2, _), (3, _), (4, _)] hK7 ?_; refine Hd.seq fun _ hK8 => ?_
  refine Hd.drawsH ([RlH eb rb lim ad l.length c, pt b4 (encRi y) 65]) (fun _ => true) mixed ?_; simp only [List.length, Nat.zero_add, Nat.reduceAdd]; refine tH 0 rfl y_mv ?_; refine tH 1 rfl y_np ?_; refine tH 2 rfl (y_f 0 39 Tryz.underlying60 sz39) ?_; refine tH 3 rfl (y_l1 ag39 rfl) ?_; refine tH 4 rfl (y_f 0 3 Tryz.underlying65 sz3) ?_; refine tH 5 rfl (y_l1 ag3 rfl) ?_; refine onlyH 6 rfl kq ?_; refine callE rfl fk79 (Rf.rWire_ct _ rb w hw y.fd) sq ?_; intro _; refine Hd.nil <| thenN <| heldK (J := (fun _ => true)) (i := 6) sq ?_; refine tH 7 rfl y_mv ?_; refine tH 8 rfl y_ex ?_; refine tH 9 rfl y_ex ?_; refine tH 10 rfl y_as ?_; refine tH 11 rfl y_as ?_; refine endH kq ?_; refine sk [(0, _), (2, _), (3, _), (4, _), (5, _), (6, _)] hK8 ?_; refine Hd.seq fun _ hK9 => ?_
  refine sr fun _ hK10 => ?_
  refine yv y_mv <| yv (y_neq rfl rfl) ?_; refine yv y_mv ?_; apply Hd.org 5 36 41 [(0, _), (2, _), (3, _), (4, _)] rfl sbq
  ·intro _
   simp only [List.take]; refine n1 <| n1 <| n1 <| n1 <| yv (y_pickT rfl rfl) ?_; refine Hd.nil ?_; exact Hd.mq
  ·intro _
   simp only [List.take]; refine y2 y_mv <| y2 (y_f 1 3 Tryz.underlying65 sz3) ?_; refine y2 (y_l1 ag3 rfl) ?_; refine y2 (y_neq rfl rfl) ?_; refine yv (y_pickF rfl rfl) ?_; refine Hd.nil ?_; exact Hd.mq
  simp only [List.drop]; refine fk [(0, _), (2, _), (3, _), (4, _), (41, _)] hK10 ?_; refine Hd.cond rfl (fun hc1 => ?_) (fun hc1 => ?_)
  ·try simp only [hyZ] at hc1
   have hno : tidy1 w y = none := by
    unfold tidy1; refine if_neg (fun h => ?_)
    have h2 : ¬fdErr (w.at y.fd) = 0 ∨ ¬wireN (w.at y.fd) = y.wire := by simpa using hc1
    rcases h2 with g | g
    ·rw [fdErr_no.1 g] at h; exact absurd h.1 (by decide)
    ·exact g h.2
   rw [hno, Option.toList_none, List.append_nil] at hts; refine Hd.exit <| Hd.thenExit <| Hd.inBexit <| Hd.toK hK6 ?_; refine Hd.region <| yv y_mv <| yv (y_addn rfl rfl (by simp only [InK]; omega)) ?_; refine yv y_as <| Hd.nil <| slots [(0, _), (2, _), (3, _)] sbq ?_; refine thenN <| Hd.again (i + 1, la, lc) (by show l.length - (i + 1) < l.length - i; omega) (by (try dsimp only); rw [hts]; repeat (first | exact trivial | refine ⟨rfl, ?_⟩)) (fun q t => ?_); rw [hts]; exact Ent.sep (.pure (show i + 1 ≤ l.length by omega) enn) q t
  ·try simp only [hyZ] at hc1
   have hyes : tidy1 w y = some { y with i := y.i || decide (r.r > y.r), o := y.o || decide (r.w > y.w), r := r.r, w := r.w } := by
    have h2 : fdErr (w.at y.fd) = 0 ∧ wireN (w.at y.fd) = y.wire := by simpa using hc1
    unfold tidy1; rw [hr]; refine if_pos ⟨?_, h2.2⟩
    cases h : w.at y.fd with
    | none => exact absurd h2.1 (fdErr_no.2 h)
    | some _ => rfl
   obtain ⟨y', hy'⟩ : ∃ y' : RiA, { y with i := y.i || decide (r.r > y.r), o := y.o || decide (r.w > y.w), r := r.r, w := r.w } = y' := ⟨_, rfl⟩
   rw [hy'] at hyes; rw [hyes, Option.toList_some] at hts; refine Hd.skip <| Hd.toK hK9 ?_; refine Hd.cutK (ι := Nat) [(0, _), (2, _), (3, _), (4, _)] (fun b7 => [(7, .pointer (some ⟨b7, 0, none⟩))]) (fun b7 => pt b7 (encR r) 105 :: pt b4 (encRi y) 65 :: own 65 7 la D.length lc (D.flatMap encRi) :: RlP eb rb lim ad c l (Rf.RwP rb w :: L)) ?_ ?_ ⟨rfl, rfl, rfl, rfl, trivial⟩
   ·refine Hd.drawsH ([RlH eb rb lim ad l.length c, pt b4 (encRi y) 65]) (fun j => !([8].contains j)) mixed ?_
    simp only [List.length, Nat.zero_add, Nat.reduceAdd]; refine tH 0 rfl y_mv ?_; refine tH 1 rfl y_np ?_; refine tH 2 rfl (y_f 0 39 Tryz.underlying60 sz39) ?_; refine tH 3 rfl (y_l1 ag39 rfl) ?_; refine tH 4 rfl (y_f 0 3 Tryz.underlying65 sz3) ?_; refine tH 5 rfl (y_l1 ag3 rfl) ?_; refine Hd.eitherH 6 7 rfl rfl kq ?_ ?_
    ·refine callE rfl fk81 (Rf.rReady_ct _ rb w hw y.fd) sq ?_
     intro _; rw [hr]; refine Hd.nil <| thenN <| heldK (J := (fun j => !([8].contains j))) (i := 6) sq ?_; refine onlyH 7 rfl kq ?_; refine Hd.alloc zr105 (fun b7 => ?_); refine Hd.nil <| thenN <| heldK (J := (fun j => !([8].contains j))) (i := 7) sq ?_; refine onlyH 8 rfl kq ?_; refine Hd.storeA (us := encR r) sz105 rfl rfl rfl (by simp [Value.oneCell']) pkk (by exact rfl) ?_; refine Hd.nil <| thenN <| Hd.heldN (J := (fun j => !([8].contains j))) (i := 8) rfl ?_; refine endH kq ?_; refine slots [(0, _), (2, _), (3, _), (4, _), (7, _)] sbq ?_; refine thenN ?_; exact Hd.meet b7 sbq sq
    ·refine Hd.alloc zr105 (fun b7 => ?_)
     refine Hd.nil <| thenN <| heldK (J := (fun j => !([8].contains j))) (i := 7) sq ?_; refine onlyH 6 rfl kq ?_; refine callE rfl fk81 (Rf.rReady_ct _ rb w hw y.fd) sq ?_; intro _; rw [hr]; refine Hd.nil <| thenN <| heldK (J := (fun j => !([8].contains j))) (i := 6) sq ?_; refine onlyH 8 rfl kq ?_; refine Hd.storeA (us := encR r) sz105 rfl rfl rfl (by simp [Value.oneCell']) pkk (by exact rfl) ?_; refine Hd.nil <| thenN <| Hd.heldN (J := (fun j => !([8].contains j))) (i := 8) rfl ?_; refine endH kq ?_; refine slots [(0, _), (2, _), (3, _), (4, _), (7, _)] sbq ?_; refine thenN ?_; exact Hd.meet b7 sbq sq
   ·intro b7
    refine sr fun _ hK11 => ?_
    refine yv (y_f 3 4 Tryz.underlying65 sz4) ?_; refine yv (y_l1 ag4 rfl) ?_; refine yv y_mv ?_; apply Hd.org 6 51 57 [(0, _), (2, _), (3, _), (4, _), (7, _)] rfl sbq
    ·intro _
     simp only [List.take]; refine n1 <| n1 <| n1 <| n1 <| n1 <| yv (y_pickT rfl rfl) ?_; refine Hd.nil ?_; exact Hd.mq
    ·intro _
     simp only [List.take]; refine y2 (y_f 5 30 Tryz.underlying105 sz30) ?_; refine y2 (y_l1 ag30 rfl) ?_; refine y2 (y_f 5 30 Tryz.underlying65 sz30) ?_; refine y2 (y_l1 ag30 rfl) ?_; refine y2 (y_gtr rfl rfl) ?_; refine yv (y_pickF rfl rfl) ?_; refine Hd.nil ?_; exact Hd.mq
    simp only [List.drop]; refine yv (y_f 3 4 Tryz.underlying65 sz4) ?_; refine Hd.store1 sz4 rfl rfl rfl pkk (by simp; done) ?_
    try simp only [hyS]
    refine fk [(0, _), (2, _), (3, _), (4, _), (7, _)] hK11 ?_; refine sr fun _ hK12 => ?_
    refine yv (y_f 4 4 Tryz.underlying65 sz4) ?_; refine yv (y_l1 ag4 rfl) ?_; refine yv y_mv ?_; apply Hd.org 6 61 67 [(0, _), (2, _), (3, _), (4, _), (7, _)] rfl sbq
    ·intro _
     simp only [List.take]; refine n1 <| n1 <| n1 <| n1 <| n1 <| yv (y_pickT rfl rfl) ?_; refine Hd.nil ?_; exact Hd.mq
    ·intro _
     simp only [List.take]; refine y2 (y_f 6 30 Tryz.underlying105 sz30) ?_; refine y2 (y_l1 ag30 rfl) ?_; refine y2 (y_f 6 30 Tryz.underlying65 sz30) ?_; refine y2 (y_l1 ag30 rfl) ?_; refine y2 (y_gtr rfl rfl) ?_; refine yv (y_pickF rfl rfl) ?_; refine Hd.nil ?_; exact Hd.mq
    simp only [List.drop]; refine yv (y_f 4 4 Tryz.underlying65 sz4) ?_; refine Hd.store1 sz4 rfl rfl rfl pkk (by simp; done) ?_
    try simp only [hyS]
    refine fk [(0, _), (2, _), (3, _), (4, _), (7, _)] hK12 ?_; refine sr fun _ hK13 => ?_
    refine yv (y_f 5 30 Tryz.underlying105 sz30) ?_; refine yv (y_l1 ag30 rfl) ?_; refine yv (y_f 5 30 Tryz.underlying65 sz30) ?_; refine Hd.store1 sz30 rfl rfl rfl pkk (by simp; done) ?_
    try simp only [hyS]
    refine fk [(0, _), (2, _), (3, _), (4, _), (7, _)] hK13 ?_; refine sr fun _ hK14 => ?_
    refine yv (y_f 6 30 Tryz.underlying105 sz30) ?_; refine yv (y_l1 ag30 rfl) ?_; refine yv (y_f 6 30 Tryz.underlying65 sz30) ?_; refine Hd.store1 sz30 rfl rfl rfl pkk (by simp; done) ?_
    try simp only [hyS]
    refine fk [(0, _), (2, _), (3, _), (4, _)] hK14 ?_; refine Hd.region <| yv y_mv <| yv (y_loadn (us := [_, _, _, _, _, _, _]) ag65 rfl (Rd.pt pkk (by (first | (intro j v e; rcases j with _|_|_|_|_|_|_|_|_|_|_|_|j <;> first | exact e | exact absurd e (by simp))))) (by exact sz65)) ?_; refine Hd.bslice (vs := [(0, _)]) rfl (by exact bs78_77 ..) (fun b77 => ?_); refine Hd.append Tryz.underlying58 ty65 rfl rfl rfl pkk (by exact RdS.rd (Rd.pt pkk (fun j v e => by simpa using e)) rfl) (by simp [Value.oneCell']; done) (by simp only [maxLen]; omega) (by omega) (fun ad78 cap78 => ?_); refine yv y_as <| Hd.nil <| slots [(0, _), (2, _), (3, _)] sbq ?_; refine Hd.inB <| Hd.toK hK6 ?_; refine Hd.region <| yv y_mv <| yv (y_addn rfl rfl (by simp only [InK]; omega)) ?_; refine yv y_as <| Hd.nil <| slots [(0, _), (2, _), (3, _)] sbq ?_
    refine thenN <| Hd.again (i + 1, ad78, cap78) (by show l.length - (i + 1) < l.length - i; omega) (by (try dsimp only); rw [hts, List.length_append]; repeat (first | exact trivial | refine ⟨rfl, ?_⟩)) (fun q t => ?_); rw [hts]; exact Ent.sep (.pure (show i + 1 ≤ l.length by omega) (.eq pkk (own_eq3 (by rw [List.length_append]; rfl) rfl (by rw [List.flatMap_append, ← hy']; rfl)) enn)) q t
 ·try simp only [hyZ] at hc0
  obtain rfl : i = l.length := by omega
  rw [List.take_of_length_le (Nat.le_refl _)]; refine Hd.exit <| Hd.thenExit <| Hd.thenExit <| Hd.inBexit <| Hd.toK hK2 ?_; refine Hd.region <| yv y_mv <| yv y_mv <| yv y_np <| yv (y_f 2 58 Tryz.underlying60 sz58) ?_; refine Hd.store1 sz58 rfl rfl rfl pkk (by simp; done) ?_
  try simp only [hyS]
  refine Hd.nil <| slots [] sbq ?_; exact Hd.ret0 rfl (la, lc) rfl sq
def dueR1 (w : WA) (x : RiA) : Option (Int × Int) := if 0 < tolT x (readyR w x.fd) then some (x.fd, tolT x (readyR w x.fd)) else none
def dueR (w : WA) (l : List RiA) : List (Int × Int) := l.filterMap (dueR1 w)
theorem dueR_succ (w : WA) {l : List RiA} {i : Nat} {y : RiA} (h : l[i]? = some y) : dueR w (l.take (i + 1)) = dueR w (l.take i) ++ (dueR1 w y).toList := by
 unfold dueR; rw [List.take_add_one, h, Option.toList_some, List.filterMap_append, List.filterMap_cons, List.filterMap_nil]
 cases dueR1 w y <;> rfl
theorem dueR_le (w : WA) (l : List RiA) (i : Nat) : (dueR w (l.take i)).length ≤ i := by
 have h1 := List.length_filterMap_le (dueR1 w) (l.take i)
 rw [List.length_take] at h1; unfold dueR; omega
theorem rdue15_ct (L : List SP) (eb rb : Nat) (lim : Int) (ad : Option Addr) (c : Nat) (l : List RiA) (w : WA) (hw : WOk w) (hl : l.length ≤ 1000000) (hev : ∀ x ∈ tidyL w l, InK .i64 x.ev) : Ct Tryz.prog 26 #[.pointer (some ⟨eb, 0, none⟩)] (RlP eb rb lim ad c l (Rf.RwP rb w :: L)) (fun q_ : Option Addr × Nat × Option Addr × Nat => .slice q_.1 (dueR w (tidyL w l)).length q_.2.1) (fun q_ : Option Addr × Nat × Option Addr × Nat => own 51 2 q_.1 (dueR w (tidyL w l)).length q_.2.1 ((dueR w (tidyL w l)).flatMap encPo) :: RlP eb rb lim q_.2.2.1 q_.2.2.2 (tidyL w l) (Rf.RwP rb w :: L)) := by
 refine Ct.o1 Tryz.func26 ?_; intro E
 show Hd E 42 _ _ _ _
 have hlt := tidyL_le w l l.length
 rw [List.take_of_length_le (Nat.le_refl _)] at hlt; refine sr fun _ hK1 => ?_
 refine yv y_as <| fk [(0, _)] hK1 ?_; refine sr fun _ hK2 => ?_
 refine yv y_mv <| callE rfl fk78 (rtidy15_ct _ eb rb lim ad c l w hw hl) sq ?_; rintro ⟨la, lc⟩; dsimp only
 obtain ⟨T, hT⟩ : ∃ T, tidyL w l = T := ⟨_, rfl⟩
 rw [hT] at hlt hev ⊢; refine fk [(0, _)] hK2 ?_; refine sr fun _ hK3 => ?_
 refine yv y_as <| fk [(0, _), (3, _)] hK3 ?_; refine Hd.seq fun _ hK4 => ?_
 refine sr fun _ hK5 => ?_
 refine yv y_as <| fk [(0, _), (3, _), (4, _)] hK5 ?_; refine Hd.block <| Hd.loopK (ι := Nat × Option Addr × Nat) [(0, _)] (fun q_ => [(3, .slice q_.2.1 (dueR w (T.take q_.1)).length q_.2.2), (4, .int .i64 (q_.1 : Int))]) (fun q_ => pu (q_.1 ≤ T.length) :: own 51 2 q_.2.1 (dueR w (T.take q_.1)).length q_.2.2 ((dueR w (T.take q_.1)).flatMap encPo) :: RlP eb rb lim la lc T (Rf.RwP rb w :: L)) (fun q_ => T.length - q_.1) (0, none, 0) sbq sbq (fun q t => Ent.sep (.pure (Nat.zero_le _) (.ownNil enn)) q t) ?_; rintro ⟨i, da, dc⟩
 try dsimp only
 refine Hd.pure (fun hp0 => ?_)
 try dsimp only at hp0
 refine Hd.seq fun _ hK6 => ?_
 refine sr fun _ hK7 => ?_
 refine yv y_mv <| yv y_mv <| yv y_np <| yv (y_f 2 58 Tryz.underlying60 sz58) ?_; refine yv (y_l1 ag58 rfl) ?_; refine yv (y_len Tryz.underlying58 rfl) ?_; refine yv (y_lss rfl rfl) ?_; refine fk [(0, _), (3, _), (4, _), (14, _)] hK7 ?_; refine Hd.cond rfl (fun hc0 => ?_) (fun hc0 => ?_)
 ·try simp only [hyZ] at hc0
  have hi : i < T.length := by omega
  obtain ⟨y, hy⟩ : ∃ y, T[i]? = some y := ⟨_, List.getElem?_eq_getElem hi⟩
  have hye := hev y (List.mem_of_getElem? hy)
  have hts := dueR_succ w hy
  have htl := dueR_le w T i
  obtain ⟨D, hD⟩ : ∃ D, dueR w (T.take i) = D := ⟨_, rfl⟩
  rw [hD] at hts htl; rw [hD]; refine Hd.skip <| Hd.toK hK6 ?_; refine Hd.seq fun _ hK8 => ?_
  refine Hd.block <| sr fun _ hK9 => ?_
  refine yv y_mv <| yv y_mv <| yv y_np <| yv (y_f 2 58 Tryz.underlying60 sz58) ?_; refine yv (y_l1 ag58 rfl) ?_; refine yv y_mv <| yv (y_idxR Tryz.underlying58 sz65 rfl rfl (by omega) (by exact RdS.own pkk)) ?_; refine yv (y_loadRn (vs := encRi y) ag65 rfl (RdS.own (ad := la) (us := T.flatMap encRi) pkk) (flat_cells encRi 7 (fun _ => rfl) hy) sz65 (by simp)) ?_; refine callE rfl fk84 (rtold15_ct _ eb rb lim la lc T w hw y hye) sq ?_; intro _
  obtain ⟨n, hn⟩ : ∃ n, tolT y (readyR w y.fd) = n := ⟨_, rfl⟩
  have hd1 : dueR1 w y = if 0 < n then some (y.fd, n) else none := by unfold dueR1; rw [hn]
  rw [hn]; refine yv y_as <| fk [(0, _), (3, _), (4, _), (5, _)] hK9 ?_; refine sr fun _ hK10 => ?_
  refine yv y_mv <| yv (y_gtr rfl rfl) ?_; refine fk [(0, _), (3, _), (4, _), (5, _), (27, _)] hK10 ?_; refine Hd.cond rfl (fun hc1 => ?_) (fun hc1 => ?_)
  ·try simp only [hyZ] at hc1
   rw [if_pos (by simpa using hc1)] at hd1; rw [hd1, Option.toList_some] at hts; refine Hd.region <| yv y_mv <| yv y_mv <| yv y_np <| yv (y_f 2 58 Tryz.underlying60 sz58) ?_; refine yv (y_l1 ag58 rfl) ?_; refine yv y_mv <| yv (y_idxR Tryz.underlying58 sz65 rfl rfl (by omega) (by exact RdS.own pkk)) ?_; refine yv (y_fR 0 3 Tryz.underlying65 sz3) ?_; refine yv (y_loadR1 ag3 rfl (RdS.own (ad := la) (us := T.flatMap encRi) pkk) (flat_cells encRi 7 (fun _ => rfl) hy 0 _ rfl)) ?_; refine yv y_mv <| yv (y_build (vs := [(0, _), (1, _)]) rfl (by exact bd26_38 ..)) ?_; refine Hd.bslice (vs := [(0, _)]) rfl (by exact bs26_39 ..) (fun b39 => ?_); refine Hd.append Tryz.underlying47 ty51 rfl rfl rfl pkk (by exact RdS.rd (Rd.pt pkk (fun j v e => by simpa using e)) rfl) (by simp [Value.oneCell']; done) (by simp only [maxLen]; omega) (by omega) (fun ad40 cap40 => ?_)
   refine yv y_as <| Hd.nil <| slots [(0, _), (3, _), (4, _)] sbq ?_; refine Hd.inB <| Hd.toK hK8 ?_; refine Hd.region <| yv y_mv <| yv (y_addn rfl rfl (by simp only [InK]; omega)) ?_; refine yv y_as <| Hd.nil <| slots [(0, _), (3, _), (4, _)] sbq ?_; refine thenN <| Hd.again (i + 1, ad40, cap40) (by show T.length - (i + 1) < T.length - i; omega) (by (try dsimp only); rw [hts, List.length_append]; repeat (first | exact trivial | refine ⟨rfl, ?_⟩)) (fun q t => ?_); rw [hts]; exact Ent.sep (.pure (show i + 1 ≤ T.length by omega) (.eq pkk (own_eq3 (by rw [List.length_append]; rfl) rfl (by rw [List.flatMap_append]; rfl)) enn)) q t
  ·try simp only [hyZ] at hc1
   rw [if_neg (by simpa using hc1)] at hd1; rw [hd1, Option.toList_none, List.append_nil] at hts; refine Hd.skip <| Hd.inB <| Hd.toK hK8 ?_; refine Hd.region <| yv y_mv <| yv (y_addn rfl rfl (by simp only [InK]; omega)) ?_; refine yv y_as <| Hd.nil <| slots [(0, _), (3, _), (4, _)] sbq ?_; refine thenN <| Hd.again (i + 1, da, dc) (by show T.length - (i + 1) < T.length - i; omega) (by (try dsimp only); rw [hts]; repeat (first | exact trivial | refine ⟨rfl, ?_⟩)) (fun q t => ?_); rw [hts]; exact Ent.sep (.pure (show i + 1 ≤ T.length by omega) enn) q t
 ·try simp only [hyZ] at hc0
  obtain rfl : i = T.length := by omega
  rw [List.take_of_length_le (Nat.le_refl _)]; refine Hd.exit <| Hd.thenExit <| Hd.thenExit <| Hd.inBexit <| Hd.toK hK4 ?_; refine sr fun _ hK11 => ?_
  refine yv y_mv <| yv y_as <| fk [(2, _)] hK11 ?_; refine Hd.ret ?_; rw [hT]; exact Hd.ret1 rfl (da, dc, la, lc) rfl sq
theorem tol_t : ∀ c1 c2 c3 c4 c5 c6 c7 c8 c9 : Bool,
  (if ((if (c1 && (c4 || !c3) && (c6 || !!c3 && (c8 || c9))) = true then (1 : Int) else 0) + (if (c2 && (c5 || !c3) && (c7 || !!c3 && (c8 || c9))) = true then (4 : Int) else 0)) = 0 ∧ c3 = true then (0 : Int)
   else (((if (c1 && (c4 || !c3) && (c6 || !!c3 && (c8 || c9))) = true then (1 : Int) else 0) + (if (c2 && (c5 || !c3) && (c7 || !!c3 && (c8 || c9))) = true then (4 : Int) else 0)) + (if c8 = true then (16 : Int) else 0)) + (if c9 = true then (8 : Int) else 0)) =
   if c3 = true ∧ (c1 && (c6 || c3 && (c8 || c9)) && (!c3 || c4)) = false ∧ (c2 && (c7 || c3 && (c8 || c9)) && (!c3 || c5)) = false then (0 : Int)
   else b2 (c1 && (c6 || c3 && (c8 || c9)) && (!c3 || c4)) 1 + b2 (c2 && (c7 || c3 && (c8 || c9)) && (!c3 || c5)) 4 + b2 c8 16 + b2 c9 8 := by decide +kernel
theorem tol_p (a : Int) (p : PxA) (r : RdyA) (n m : Int) : tolT ⟨a, p.wire, evA p.i p.o p.e, p.ra r, p.rb r, n, m⟩ r = p.now r := by
 unfold tolT tolN tolA tolB PxA.now PxA.p PxA.q PxA.end; dsimp only; rw [has1, has4, has32]; exact tol_t p.i p.o p.e (p.ra r) (p.rb r) r.i r.o r.h r.e
theorem tolT_nn (x : RiA) (r : RdyA) : 0 ≤ tolT x r := by
 have := tolN_in x r
 unfold tolT
 split
 ·exact Int.le_refl _
 ·split <;> split <;> omega
theorem due_ref (g : Int → Option PxA) (w : WA) : dueR w (refL g w) = dueL (ixF g) w := by
 unfold dueR refL
 show _ = dueT (ixF g) w (allL (ixF g) w)
 unfold dueT allL; rw [List.filterMap_filterMap, List.filterMap_map, List.filterMap_filter]; refine fm_congr fun n _ => ?_
 show (entP g w (n : Int)).bind (dueR1 w) = _
 unfold entP; rw [livP_eq]
 cases hv : livP g w (n : Int) with
 | false => rw [if_neg (by decide), if_neg (by decide)]; rfl
 | true =>
  rw [if_pos rfl, if_pos rfl]
  obtain ⟨p, k, j, hg, _⟩ := livP_at hv
  have hn : nwF (ixF g) w (n : Int) = tolT (riP w (n : Int) p) (readyR w (n : Int)) := by
   unfold nwF ixF; rw [hg]
   show nwE p.ix _ = _
   rw [nw_p]; exact (tol_p _ _ _ _ _).symm
  rw [hg]
  show dueR1 w (riP w (n : Int) p) = (if nwF (ixF g) w (n : Int) = 0 then none else some ((n : Int), nwF (ixF g) w (n : Int)))
  unfold dueR1; rw [hn]
  show (if 0 < tolT (riP w (n : Int) p) (readyR w (n : Int)) then some ((n : Int), tolT (riP w (n : Int) p) (readyR w (n : Int))) else none) = _
  have h0 := tolT_nn (riP w (n : Int) p) (readyR w (n : Int))
  by_cases h : tolT (riP w (n : Int) p) (readyR w (n : Int)) = 0
  ·rw [if_pos h, if_neg (by omega)]
  ·rw [if_neg h, if_pos (by omega)]
def offP (p : PxA) (r : RdyA) (ev : Int) : PxA := { p with a := p.ra r && !hasT ev 1, b := p.rb r && !hasT ev 4, reads := r.r, writes := r.w }
theorem offQ_t : ∀ c d, ∀ k : Nat, k < 64 → bits .andNot .i64 (arA c d) (k : Int) = arA (c && !hasT (k : Int) 1) (d && !hasT (k : Int) 4) := by decide +kernel
theorem offQ_p (p : PxA) (r : RdyA) {ev : Int} (h : 0 ≤ ev ∧ ev < 64) : offX p.ix r ev = (offP p r ev).ix := by
 obtain ⟨k, rfl⟩ : ∃ k : Nat, ev = (k : Int) := ⟨ev.toNat, by omega⟩
 unfold offX; rw [rs_p, offQ_t _ _ k (by omega)]
 rfl
def offG (w : WA) (g : Int → Option PxA) : List (Int × Int) → (Int → Option PxA)
 | [] => g
 | x :: t => offG w (updP g x.1 ((g x.1).map fun p => offP p (readyR w x.1) x.2)) t
theorem offG_eq (w : WA) : ∀ (T : List (Int × Int)) (g : Int → Option PxA), (∀ x ∈ T, (g x.1).isSome = true ∧ 0 ≤ x.2 ∧ x.2 < 64) → offF w (ixF g) T = ixF (offG w g T)
 | [], _, _ => rfl
 | x :: t, g, h => by
  obtain ⟨hs, hb⟩ := h x List.mem_cons_self
  obtain ⟨p, hp⟩ := Option.isSome_iff_exists.1 hs
  show offF w (updF (ixF g) x.1 (some (offX ((ixF g x.1).getD zIx) (readyR w x.1) x.2))) t = ixF (offG w (updP g x.1 ((g x.1).map fun p => offP p (readyR w x.1) x.2)) t)
  have e1 : (ixF g x.1).getD zIx = p.ix := by unfold ixF; rw [hp]; rfl
  have e2 : updF (ixF g) x.1 (some (offX ((ixF g x.1).getD zIx) (readyR w x.1) x.2)) = ixF (updP g x.1 ((g x.1).map fun p => offP p (readyR w x.1) x.2)) := by
   rw [e1, offQ_p p _ hb, hp, ← ixF_upd]
   rfl
  rw [e2]; refine offG_eq w t _ fun y hy => ⟨?_, (h y (List.mem_cons_of_mem _ hy)).2⟩
  by_cases e : y.1 = x.1
  ·rw [e, updP_eq, hp]; rfl
  ·rw [updP_ne e]; exact (h y (List.mem_cons_of_mem _ hy)).1
def offE (y : Int × Int) (x : RiA) : RiA := if x.fd = y.1 then { x with i := x.i && !hasT y.2 1, o := x.o && !hasT y.2 4 } else x
theorem off_ref {g : Int → Option PxA} {w : WA} (y : Int × Int) {p : PxA} (hp : g y.1 = some p) : refL (updP g y.1 (some (offP p (readyR w y.1) y.2))) w = (refL g w).map (offE y) := by
 unfold refL; rw [List.map_filterMap]; refine fm_congr fun n _ => ?_
 by_cases e : (n : Int) = y.1
 ·unfold entP livP
  rw [e, updP_eq, hp]; dsimp only
  show (if decide ((w.at y.1).isSome = true ∧ wireN (w.at y.1) = p.wire) = true then some (riP w y.1 (offP p (readyR w y.1) y.2)) else none) = Option.map (offE y) (if decide ((w.at y.1).isSome = true ∧ wireN (w.at y.1) = p.wire) = true then some (riP w y.1 p) else none)
  by_cases h : (w.at y.1).isSome = true ∧ wireN (w.at y.1) = p.wire
  ·rw [if_pos (by simpa using h), if_pos (by simpa using h)]
   show some (riP w y.1 (offP p (readyR w y.1) y.2)) = some (offE y (riP w y.1 p))
   unfold offE; rw [if_pos (show (riP w y.1 p).fd = y.1 from rfl)]
   have h1 : (offP p (readyR w y.1) y.2).ra (readyR w y.1) = (p.ra (readyR w y.1) && !hasT y.2 1) := by
    show (_ || decide ((readyR w y.1).r > (readyR w y.1).r)) = _
    rw [decide_eq_false (Int.lt_irrefl _), Bool.or_false]; rfl
   have h2 : (offP p (readyR w y.1) y.2).rb (readyR w y.1) = (p.rb (readyR w y.1) && !hasT y.2 4) := by
    show (_ || decide ((readyR w y.1).w > (readyR w y.1).w)) = _
    rw [decide_eq_false (Int.lt_irrefl _), Bool.or_false]; rfl
   unfold riP; rw [h1, h2]; rfl
  ·rw [if_neg (by simpa using h), if_neg (by simpa using h)]; rfl
 ·have e1 : entP (updP g y.1 (some (offP p (readyR w y.1) y.2))) w (n : Int) = entP g w (n : Int) := by unfold entP livP; rw [updP_ne e]
  rw [e1]
  cases h : entP g w (n : Int) with
  | none => rfl
  | some x =>
   have hx := ent_fd h
   show some x = some (offE y x)
   unfold offE; rw [if_neg (by rw [hx]; exact e)]
end Ep
end Go.Proofs.YtbfddabjbkohdaaGreat
namespace Go.Proofs.YtbfddabjbkohdaaGreat
set_option maxHeartbeats 2000000
open Go.RX.Hd (yv y2 n1 fk sk sr tH callE heldK onlyH endH thenN slots)
open Go.RX Fx
namespace Sh
set_option maxRecDepth 8000
theorem place_eq' {ord : List Int} {n i : Nat} (h : i < n) {o : Int} (ho : ord[i % ord.length]? = some o) : (i : Int) + (bif decide (o < 0) then 0 else o) % ((n : Int) - i) = (place ord n i : Int) := by
 rw [← place_eq h ho]
 congr 2
 by_cases h : o < 0 <;> simp [h] <;> omega
theorem places_ct (L : List SP) (ao : Option Addr) (co : Nat) (m : Nat) (ord : List Int) (ho : RdS L 1 ao ord.length (ord.map V)) (hb : m ≤ 1000) (hob : ord.length ≤ 200) :
  Ct Tryz.prog 83 #[.int .i64 (m : Int), .slice ao ord.length co] L (fun i : Option Addr × Nat => .slice i.1 m i.2) (fun i => own 3 1 i.1 m i.2 ((shufTo ord (List.range m) m).map VN) :: L) := by
 refine Ct.of (vs := [.int .i64 (m : Int), .slice ao ord.length co]) Tryz.func83 rfl rfl [(0, .int .i64 (m : Int)), (1, .slice ao ord.length co)] ⟨rfl, rfl, trivial⟩ ?_; intro E
 show Hd E 61 _ _ _ _
 refine sr fun _ hK1 => ?_
 refine yv y_as <| fk [(0, _), (1, _)] hK1 ?_; refine sr fun _ hK2 => ?_
 refine yv y_as <| fk [(0, _), (1, _), (5, _)] hK2 ?_; refine Hd.seq fun _ hK3 => ?_
 refine sr fun _ hK4 => ?_
 refine yv y_as <| fk [(0, _), (1, _), (5, _), (6, _)] hK4 ?_; refine Hd.block <| Hd.loop (ι := Nat × Option Addr × Nat) (fun i => [(0, .int .i64 (m : Int)), (1, .slice ao ord.length co), (5, .slice i.2.1 i.1 i.2.2), (6, .int .i64 (i.1 : Int))])
  (fun i => pu (i.1 ≤ m) :: own 3 1 i.2.1 i.1 i.2.2 ((List.range i.1).map VN) :: L) (fun i => m - i.1) (0, none, 0) ⟨rfl, rfl, rfl, rfl, trivial⟩ (Ent.sep (.pure (by simp) (.ownNil enn))) ?_
 rintro ⟨i, a1, c1⟩; refine Hd.pure (fun hi => ?_)
 have hi' : i ≤ m := hi
 refine Hd.seq fun _ hK5 => ?_
 refine sr fun _ hK6 => ?_
 refine yv y_mv <| yv y_mv <| yv (y_lss rfl rfl) ?_; refine fk [(0, _), (1, _), (5, _), (6, _), (12, _)] hK6 ?_; refine Hd.cond rfl (fun hc0 => ?_) (fun hc0 => ?_)
 ·try simp only [hyZ] at hc0
  refine Hd.skip <| Hd.toK hK5 ?_; refine Hd.seq fun _ hK7 => ?_
  refine Hd.block <| Hd.region <| yv y_mv <| yv y_mv <| Hd.bslice (vs := [(0, _)]) rfl (by exact bs83_17 ..) (fun b17 => ?_); refine Hd.append Tryz.underlying44 ty3 rfl rfl rfl pkk (by exact RdS.rd (Rd.pt pkk (fun j v e => by simpa using e)) rfl) (by simp [Value.oneCell']; done) (by simp only [maxLen]; omega) (by omega) (fun ad18 cap18 => ?_); refine yv y_as <| Hd.nil <| slots [(0, _), (1, _), (5, _), (6, _)] sbq ?_; refine Hd.inB <| Hd.toK hK7 ?_; refine Hd.region <| yv y_mv <| yv (y_addn rfl rfl (by simp only [InK]; omega)) ?_; refine yv y_as <| Hd.nil <| slots [(0, _), (1, _), (5, _), (6, _)] sbq ?_; refine thenN <| Hd.again (i + 1, ad18, cap18) (by simp only; omega) ⟨rfl, rfl, rfl, rfl, trivial⟩ (Ent.sep (.pure (by simp only; omega) (.eq pkk (own_eq rfl (by simp [List.range_succ])) enn)))
 ·try simp only [hyZ] at hc0
  obtain rfl : i = m := by omega
  refine Hd.exit <| Hd.thenExit <| Hd.thenExit <| Hd.inBexit <| Hd.toK hK3 ?_; refine Hd.seq fun _ hK8 => ?_
  refine sr fun _ hK9 => ?_
  refine yv y_as <| fk [(0, _), (1, _), (5, _), (7, _)] hK9 ?_; refine Hd.block <| Hd.loop (ι := Nat) (fun j => [(0, .int .i64 (i : Int)), (1, .slice ao ord.length co), (5, .slice a1 i c1), (7, .int .i64 (j : Int))])
   (fun j => pu (j ≤ i ∧ (ord = [] → j = 0)) :: own 3 1 a1 i c1 ((shufTo ord (List.range i) j).map VN) :: L) (fun j => i - j) 0 ⟨rfl, rfl, rfl, rfl, trivial⟩ (Ent.sep (.pure (by omega) enn)) ?_
  intro j; refine Hd.pure (fun hj => ?_)
  have hl := shuf_len ord (List.range i) j
  rw [List.length_range] at hl; refine Hd.seq fun _ hK10 => ?_
  refine sr fun _ hK11 => ?_
  refine yv y_mv <| yv y_mv <| yv (y_lss rfl rfl) ?_; refine yv y_mv ?_; apply Hd.andg 4 22 26 [(0, _), (1, _), (5, _), (7, _)] rfl sbq
  ·intro _
   simp only [List.take]; refine y2 y_mv <| y2 (y_len Tryz.underlying44 rfl) ?_; refine y2 (y_gtr rfl rfl) ?_; refine yv (y_pickT rfl rfl) ?_; refine Hd.nil ?_; exact Hd.mq
  ·intro _
   simp only [List.take]; refine n1 <| n1 <| n1 <| yv (y_pickF rfl rfl) ?_; refine Hd.nil ?_; exact Hd.mq
  simp only [List.drop]; refine fk [(0, _), (1, _), (5, _), (7, _), (26, _)] hK11 ?_; refine Hd.cond rfl (fun hc1 => ?_) (fun hc1 => ?_)
  ·try simp only [hyZ] at hc1
   have hji : j < i := by omega
   have hol : 0 < ord.length := by omega
   have hml : j % ord.length < ord.length := Nat.mod_lt _ hol
   obtain ⟨o, hoi⟩ : ∃ o, ord[j % ord.length]? = some o := ⟨_, List.getElem?_eq_getElem hml⟩
   refine Hd.skip <| Hd.toK hK10 ?_; refine Hd.seq fun _ hK12 => ?_
   refine Hd.block <| sr fun _ hK13 => ?_
   refine yv y_mv <| yv y_mv <| yv y_mv <| yv (y_len Tryz.underlying44 rfl) ?_; refine yv (y_remN rfl rfl (by omega)) ?_; refine yv (y_idxR Tryz.underlying44 sz3 rfl rfl (by omega) (by exact RdS.mono ho sq)) ?_; refine yv (y_loadR1 ag3 rfl (by exact RdS.mono ho sq) (by simp [hoi]; rfl)) ?_; refine yv y_as <| fk [(0, _), (1, _), (5, _), (7, _), (8, _)] hK13 ?_; refine Hd.seq fun _ hK14 => ?_
   refine sr fun _ hK15 => ?_
   refine yv y_mv <| yv (y_lss rfl rfl) ?_; refine fk [(0, _), (1, _), (5, _), (7, _), (8, _), (37, _)] hK15 ?_; apply Hd.mergeK (L' := _) [(0, _), (1, _), (5, _), (7, _), (8, .int .i64 _)] [(0, _), (1, _), (5, _), (7, _), (8, .int .i64 _)] rfl
   ·intro hc2
    try simp only [hyZ] at hc2
    refine Hd.region <| yv y_as <| Hd.nil <| slots [(0, _), (1, _), (5, _), (7, _), (8, _)] sbq ?_; exact Hd.mend ⟨rfl, rfl, rfl, rfl, rfl, trivial⟩ (fun _ h => h)
   ·intro hc2
    try simp only [hyZ] at hc2
    refine Hd.skip ?_; exact Hd.mend ⟨rfl, rfl, rfl, rfl, rfl, trivial⟩ (fun _ h => h)
   ·repeat (first | exact Mrg.nil | apply Mrg.same | apply Mrg.int | apply Mrg.bool)
   refine Hd.toK0 hK14 ?_; refine sr fun _ hK16 => ?_
   refine yv y_mv <| yv y_mv <| yv y_mv <| yv y_mv <| yv (y_subn rfl rfl (by simp only [InK]; omega)) ?_
   have hmx : 0 ≤ (bif decide (o < 0) then 0 else o) := by by_cases h : o < 0 <;> simp [h]; omega
   refine yv (y_remn rfl rfl (by omega) (by omega)) ?_; refine yv (y_add rfl rfl) ?_; rw [wrapIn (by rw [place_eq' hji hoi]; have hp := place_lt (ord := ord) hji; simp only [InK]; omega)]; refine Hd.name (b := (place ord i j : Int)) 44 rfl (place_eq' hji hoi) ?_
   have hp := place_lt (ord := ord) hji
   refine yv y_as <| fk [(0, _), (1, _), (5, _), (7, _), (8, _)] hK16 ?_; refine sr fun _ hK17 => ?_
   refine yv y_mv <| yv y_mv <| yv (y_idxR Tryz.underlying44 sz3 rfl rfl (by omega) (by exact RdS.own pkk)) ?_; refine yv (y_loadR1 ag3 rfl (by exact RdS.own pkk) (by simp [List.getElem?_eq_getElem, *]; rfl)) ?_; refine yv y_as <| fk [(0, _), (1, _), (5, _), (7, _), (8, _), (9, _)] hK17 ?_; refine sr fun _ hK18 => ?_
   refine yv y_mv <| yv y_mv <| yv y_mv <| yv y_mv <| yv (y_idxR Tryz.underlying44 sz3 rfl rfl (by omega) (by exact RdS.own pkk)) ?_; refine yv (y_loadR1 ag3 rfl (by exact RdS.own pkk) (by simp [List.getElem?_eq_getElem, *]; rfl)) ?_; refine yv (y_idxR Tryz.underlying44 sz3 rfl rfl (by omega) (by exact RdS.own pkk)) ?_; refine Hd.storeO1 sz3 rfl rfl rfl pkk (by simp; omega) ?_
   try simp only [hyS]
   refine fk [(0, _), (1, _), (5, _), (7, _), (8, _), (9, _)] hK18 ?_; refine Hd.region <| yv y_mv <| yv y_mv <| yv y_mv <| yv (y_idxR Tryz.underlying44 sz3 rfl rfl (by omega) (by exact RdS.own pkk)) ?_; refine Hd.storeO1 sz3 rfl rfl rfl pkk (by simp; omega) ?_
   try simp only [hyS]
   refine Hd.nil <| slots [(0, _), (1, _), (5, _), (7, _)] sbq ?_; refine Hd.inB <| Hd.toK hK12 ?_; refine Hd.region <| yv y_mv <| yv (y_addn rfl rfl (by simp only [InK]; omega)) ?_; refine yv y_as <| Hd.nil <| slots [(0, _), (1, _), (5, _), (7, _)] sbq ?_; refine thenN <| Hd.again (j + 1) (by omega) ⟨rfl, rfl, rfl, rfl, trivial⟩ (Ent.sep (.pure ⟨by omega, fun e => by rw [e] at hol; simp at hol⟩ (.eq pkk (own_eq rfl ?_) enn))); simp only [shufTo]; rw [if_neg (by intro e; rw [e] at hol; simp at hol), List.length_range, swp_eq (by omega) (by omega)]; simp [List.map_set]
  ·try simp only [hyZ] at hc1
   refine Hd.exit <| Hd.thenExit <| Hd.thenExit <| Hd.inBexit <| Hd.toK hK8 ?_; refine sr fun _ hK19 => ?_
   refine yv y_mv <| yv y_as <| fk [(4, _)] hK19 ?_; refine Hd.ret <| Hd.ret1 rfl (a1, c1) rfl (Ent.sep (.eq pkk (own_eq rfl ?_) enn))
   rcases Nat.lt_or_ge j i with h | h
   ·have h0 : ord = [] := List.eq_nil_of_length_eq_zero (by rcases hc1 with h1 | h1 <;> omega)
    rw [shuf_nil h0, shuf_nil h0]
   ·rw [show j = i by omega]
end Sh
end Go.Proofs.YtbfddabjbkohdaaGreat
namespace Go.Proofs.YtbfddabjbkohdaaGreat
set_option maxHeartbeats 2000000
open Go.RX.Hd (yv y2 n1 fk sk sr tH callE heldK onlyH endH thenN slots)
open Go.RX Fx
namespace Ep
open Wo
set_option maxRecDepth 8000
def offL (l : List RiA) (T : List (Int × Int)) : List RiA := T.foldl (fun l y => l.map (offE y)) l
theorem offL_app (l : List RiA) (T : List (Int × Int)) (y : Int × Int) : offL l (T ++ [y]) = (offL l T).map (offE y) := by unfold offL; rw [List.foldl_append]; rfl
theorem offL_ref (w : WA) : ∀ (T : List (Int × Int)) (g : Int → Option PxA), (∀ x ∈ T, (g x.1).isSome = true) → refL (offG w g T) w = offL (refL g w) T
 | [], _, _ => rfl
 | y :: t, g, h => by
  obtain ⟨p, hp⟩ := Option.isSome_iff_exists.1 (h y List.mem_cons_self)
  show refL (offG w (updP g y.1 ((g y.1).map fun p => offP p (readyR w y.1) y.2)) t) w = offL ((refL g w).map (offE y)) t
  rw [offL_ref w t _ fun x hx => ?_, hp]
  ·show offL (refL (updP g y.1 (some (offP p (readyR w y.1) y.2))) w) t = _
   rw [off_ref y hp]
  ·by_cases e : x.1 = y.1
   ·rw [e, updP_eq, hp]; rfl
   ·rw [updP_ne e]; exact h x (List.mem_cons_of_mem _ hx)
theorem offE_fd (y : Int × Int) (x : RiA) : (offE y x).fd = x.fd := by unfold offE; split <;> rfl
theorem offL_fd (T : List (Int × Int)) : ∀ l : List RiA, (offL l T).map RiA.fd = l.map RiA.fd := by
 induction T with
 | nil => intro l; rfl
 | cons y t ih =>
  intro l
  show (offL (l.map (offE y)) t).map RiA.fd = _
  rw [ih, List.map_map]; exact List.map_congr_left fun x _ => offE_fd y x
theorem rpollbad15_ct (L : List SP) (eb : Nat) (most : Int) (h1 : most < 1) (v : Value) : Ct Tryz.prog 25 #[.pointer (some ⟨eb, 0, none⟩), .int .i64 most, v] (L) (fun _ : Unit => .tuple #[.slice none 0 0, .int .i64 2]) (fun _ : Unit => L) := by
 refine Ct.o3 Tryz.func25 ?_; intro E
 show Hd E 91 _ _ _ _
 refine sr fun _ hK1 => ?_
 refine yv y_as <| yv y_as <| fk [(0, _), (1, _), (2, _)] hK1 ?_; refine Hd.seq fun _ hK2 => ?_
 refine sr fun _ hK3 => ?_
 refine yv y_mv <| yv (y_lss rfl rfl) ?_; refine fk [(0, _), (1, _), (2, _), (15, _)] hK3 ?_; refine Hd.cond rfl (fun hc0 => ?_) (fun hc0 => ?_)
 ·try simp only [hyZ] at hc0
  refine sr fun _ hK4 => ?_
  refine yv y_as <| yv y_as <| fk [(6, _), (7, _)] hK4 ?_; refine Hd.ret <| Hd.thenRet ?_; exact Hd.ret2 rfl () rfl rfl rfl sq
 ·try simp only [hyZ] at hc0
  omega
theorem map_offE {l : List RiA} (hn : (l.map RiA.fd).Nodup) {k : Nat} {x : RiA} {y : Int × Int} (hk : l[k]? = some x) (hx : x.fd = y.1) : l.map (offE y) = l.set k { x with i := x.i && !hasT y.2 1, o := x.o && !hasT y.2 4 } := by
 apply List.ext_getElem?; intro q; rw [List.getElem?_map, List.getElem?_set]
 obtain ⟨hkl, rfl⟩ := List.getElem?_eq_some_iff.1 hk
 by_cases hq : k = q
 ·subst hq
  rw [if_pos rfl, if_pos hkl, hk]
  show some (offE y l[k]) = _
  unfold offE; rw [if_pos hx]
 ·rw [if_neg hq]
  cases hz : l[q]? with
  | none => rfl
  | some z =>
   show some (offE y z) = some z
   unfold offE; rw [if_neg]; intro e
   obtain ⟨hql, rfl⟩ := List.getElem?_eq_some_iff.1 hz
   have h1 : (l.map RiA.fd)[k]'(by simpa using hkl) = (l.map RiA.fd)[q]'(by simpa using hql) := by simp [hx, e]
   exact hq ((List.getElem_inj hn).1 h1)
theorem posR_at {l : List RiA} (hn : (l.map RiA.fd).Nodup) {k : Nat} {x : RiA} {fd : Int} (hk : l[k]? = some x) (hx : x.fd = fd) : posR l fd = (k : Int) := by
 unfold posR
 obtain ⟨hkl, rfl⟩ := List.getElem?_eq_some_iff.1 hk
 have : l.findIdx? (fun x => x.fd == fd) = some k := by
  rw [List.findIdx?_eq_some_iff_getElem]; refine ⟨hkl, by simpa using hx, fun j hj => ?_⟩; intro h
  have hjl : j < l.length := Nat.lt_trans hj hkl
  have h0 : l[j].fd = fd := by simpa using h
  have h1 : (l.map RiA.fd)[j]'(by simpa using hjl) = (l.map RiA.fd)[k]'(by simpa using hkl) := by simp [hx, h0]
  exact Nat.ne_of_lt hj ((List.getElem_inj hn).1 h1)
 rw [this]
theorem due_pos {w : WA} {T : List RiA} {y : Int × Int} (h : y ∈ dueR w T) (S : List (Int × Int)) : ∃ (q : Nat) (z : RiA), (offL T S)[q]? = some z ∧ z.fd = y.1 := by
 obtain ⟨x, hx, e⟩ := List.mem_filterMap.1 h
 have hf : x.fd = y.1 := by
  unfold dueR1 at e
  split at e
  ·rw [← Option.some.inj e]
  ·cases e
 have hm : y.1 ∈ (offL T S).map RiA.fd := by rw [offL_fd]; exact List.mem_map.2 ⟨x, hx, hf⟩
 obtain ⟨z, hz, e2⟩ := List.mem_map.1 hm
 obtain ⟨q, hq⟩ := List.getElem?_of_mem hz
 exact ⟨q, z, hq, e2⟩
theorem offL_len (T : List RiA) (S : List (Int × Int)) : (offL T S).length = T.length := by
 have := congrArg List.length (offL_fd S T)
 simpa using this
theorem due_ink {w : WA} {T : List RiA} {y : Int × Int} (h : y ∈ dueR w T) : InK .i64 y.2 := by
 obtain ⟨x, hx, e⟩ := List.mem_filterMap.1 h
 unfold dueR1 at e
 split at e
 ·rw [← Option.some.inj e]
  have hb := tolN_in x (readyR w x.fd)
  show InK .i64 (tolT x (readyR w x.fd))
  simp only [InK]; unfold tolT
  split
  ·omega
  ·split <;> split <;> omega
 ·cases e
theorem rpoll15_ct (L : List SP) (eb rb : Nat) (lim : Int) (ad : Option Addr) (c : Nat) (l : List RiA) (w : WA) (hw : WOk w) (hl : l.length ≤ 96) (hev : ∀ x ∈ tidyL w l, InK .i64 x.ev) (hnd : ((tidyL w l).map RiA.fd).Nodup) (most : Int) (h1 : 1 ≤ most) (ao : Option Addr) (co : Nat) (ord : List Int) (ho : RdS L 1 ao ord.length (vi ord)) (hol : ord.length ≤ 200) : Ct Tryz.prog 25 #[.pointer (some ⟨eb, 0, none⟩), .int .i64 most, .slice ao ord.length co] (RlP eb rb lim ad c l (Rf.RwP rb w :: L)) (fun q_ : Option Addr × Nat × Option Addr × Nat => .tuple #[.slice q_.1 ((Sh.shufTo ord (dueR w (tidyL w l)) (dueR w (tidyL w l)).length).take most.toNat).length q_.2.1, .int .i64 0]) (fun q_ : Option Addr × Nat × Option Addr × Nat => own 51 2 q_.1 ((Sh.shufTo ord (dueR w (tidyL w l)) (dueR w (tidyL w l)).length).take most.toNat).length q_.2.1 (((Sh.shufTo ord (dueR w (tidyL w l)) (dueR w (tidyL w l)).length).take most.toNat).flatMap encPo) :: RlP eb rb lim q_.2.2.1 q_.2.2.2 (offL (tidyL w l) ((Sh.shufTo ord (dueR w (tidyL w l)) (dueR w (tidyL w l)).length).take most.toNat)) (Rf.RwP rb w :: L)) := by
 refine Ct.o3 Tryz.func25 ?_; intro E
 show Hd E 91 _ _ _ _
 refine sr fun _ hK1 => ?_
 refine yv y_as <| yv y_as <| fk [(0, _), (1, _), (2, _)] hK1 ?_; refine Hd.seq fun _ hK2 => ?_
 refine sr fun _ hK3 => ?_
 refine yv y_mv <| yv (y_lss rfl rfl) ?_; refine fk [(0, _), (1, _), (2, _), (15, _)] hK3 ?_; refine Hd.cond rfl (fun hc0 => ?_) (fun hc0 => ?_)
 ·try simp only [hyZ] at hc0
  omega
 ·try simp only [hyZ] at hc0
  refine Hd.skip <| Hd.toK hK2 ?_; refine sr fun _ hK4 => ?_
  refine yv y_mv <| callE rfl fk26 (rdue15_ct _ eb rb lim ad c l w hw (by omega) hev) sq ?_; rintro ⟨da, dc, la, lc⟩; dsimp only
  have hlt := tidyL_le w l l.length
  rw [List.take_of_length_le (Nat.le_refl _)] at hlt
  obtain ⟨T, hT⟩ : ∃ T, tidyL w l = T := ⟨_, rfl⟩
  rw [hT] at hlt hev hnd ⊢
  have hdl := dueR_le w T T.length
  rw [List.take_of_length_le (Nat.le_refl _)] at hdl
  obtain ⟨D, hD⟩ : ∃ D, dueR w T = D := ⟨_, rfl⟩
  rw [hD] at hdl ⊢; refine yv y_as <| fk [(0, _), (1, _), (2, _), (8, _)] hK4 ?_; refine sr fun _ hK5 => ?_
  refine yv y_mv <| yv (y_len Tryz.underlying47 rfl) ?_; refine yv y_mv <| callE rfl fk83 (Sh.places_ct _ ao co D.length ord ?hD (by omega) hol) sq ?_
  case hD => exact RdS.mono ho sq
  rintro ⟨pa, pc⟩; dsimp only
  obtain ⟨X, hX⟩ : ∃ X, Sh.shufTo ord D D.length = X := ⟨_, rfl⟩
  have hXl : X.length = D.length := by rw [← hX, Sh.shuf_len]
  obtain ⟨PL, hPL⟩ : ∃ PL, Sh.shufTo ord (List.range D.length) D.length = PL := ⟨_, rfl⟩
  have hPl : PL.length = D.length := by rw [← hPL, Sh.shuf_len, List.length_range]
  have hPX : X = PL.map (fun k => D.getD k (0, 0)) := by
   rw [← hX, ← hPL, ← Sh.shuf_map]
   congr 1
   apply List.ext_getElem?; intro q; rw [List.getElem?_map]
   by_cases hq : q < D.length
   ·rw [List.getElem?_range hq, List.getElem?_eq_getElem hq]; simp [hq]
   ·rw [List.getElem?_eq_none (by omega), List.getElem?_eq_none (by simp; omega)]; rfl
  have hPm : ∀ k ∈ PL, k < D.length := fun k hk => by rw [← hPL] at hk; exact List.mem_range.1 (Sh.shuf_mem hk)
  rw [hPL]; refine yv y_as <| fk [(0, _), (1, _), (8, _), (9, _)] hK5 ?_; refine sr fun _ hK6 => ?_
  refine yv y_as <| fk [(0, _), (1, _), (8, _), (9, _), (10, _)] hK6 ?_; refine Hd.seq fun _ hK7 => ?_
  refine sr fun _ hK8 => ?_
  refine yv y_as <| fk [(0, _), (1, _), (8, _), (9, _), (10, _), (11, _)] hK8 ?_; refine Hd.block <| Hd.loopK (ι := Nat × Option Addr × Nat) [(0, _), (1, _), (8, _), (9, _)] (fun q_ => [(10, .slice q_.2.1 (X.take q_.1).length q_.2.2), (11, .int .i64 (q_.1 : Int))]) (fun q_ => pu (q_.1 ≤ X.length ∧ (q_.1 : Int) ≤ most) :: own 51 2 q_.2.1 (X.take q_.1).length q_.2.2 ((X.take q_.1).flatMap encPo) :: own 51 2 da D.length dc (D.flatMap encPo) :: own 3 1 pa D.length pc (PL.map Sh.VN) :: RlP eb rb lim la lc (offL T (X.take q_.1)) (Rf.RwP rb w :: L)) (fun q_ => X.length - q_.1) (0, none, 0) sbq sbq (fun q t => Ent.sep (.pure ⟨Nat.zero_le _, (show (0 : Int) ≤ most by omega)⟩ (.ownNil enn)) q t) ?_; rintro ⟨j, ta, tc⟩
  try dsimp only
  refine Hd.pure (fun hp0 => ?_)
  try dsimp only at hp0
  refine Hd.seq fun _ hK9 => ?_
  refine sr fun _ hK10 => ?_
  refine yv y_mv <| yv y_mv <| yv (y_len Tryz.underlying44 rfl) ?_; refine yv (y_lss rfl rfl) ?_; refine yv y_mv ?_; apply Hd.andg 4 26 30 [(0, _), (1, _), (8, _), (9, _), (10, _), (11, _)] rfl sbq
  ·intro _
   simp only [List.take]; refine y2 y_mv <| y2 y_mv <| y2 (y_lss rfl rfl) ?_; refine yv (y_pickT rfl rfl) ?_; refine Hd.nil ?_; exact Hd.mq
  ·intro _
   simp only [List.take]; refine n1 <| n1 <| n1 <| yv (y_pickF rfl rfl) ?_; refine Hd.nil ?_; exact Hd.mq
  simp only [List.drop]; refine fk [(0, _), (1, _), (8, _), (9, _), (10, _), (11, _), (30, _)] hK10 ?_; refine Hd.cond rfl (fun hc1 => ?_) (fun hc1 => ?_)
  ·try simp only [hyZ] at hc1
   have hj : j < D.length ∧ (j : Int) < most := by have h := hc1; omega
   obtain ⟨k, hk⟩ : ∃ k, PL[j]? = some k := ⟨_, List.getElem?_eq_getElem (by omega)⟩
   have hkD := hPm k (List.mem_of_getElem? hk)
   obtain ⟨y, hy⟩ : ∃ y, D[k]? = some y := ⟨_, List.getElem?_eq_getElem hkD⟩
   have hXj : X[j]? = some y := by rw [hPX, List.getElem?_map, hk]; simp [hy]
   have hXl2 : (X.take j).length ≤ j := by rw [List.length_take]; omega
   have hXs : X.take (j + 1) = X.take j ++ [y] := by rw [List.take_add_one, hXj]; rfl
   have hyD : y ∈ dueR w T := by rw [hD]; exact List.mem_of_getElem? hy
   obtain ⟨q, z, hq, hz⟩ := due_pos hyD (X.take j)
   have hol2 := offL_len T (X.take j)
   have hpos := posR_at (by rw [offL_fd]; exact hnd) hq hz
   have hset := map_offE (by rw [offL_fd]; exact hnd) hq hz
   have hle := offL_app T (X.take j) y
   rw [← hXs] at hle
   obtain ⟨l2, hl2⟩ : ∃ l2, offL T (X.take j) = l2 := ⟨_, rfl⟩
   rw [hl2] at hq hol2 hpos hset hle; rw [hl2]
   have hql : q < l2.length := (List.getElem?_eq_some_iff.1 hq).1
   have hy2 : InK .i64 y.2 := due_ink hyD
   refine Hd.skip <| Hd.toK hK9 ?_; refine Hd.cutK (ι := Option Addr × Nat) [(0, _), (1, _), (8, _), (9, _), (11, _)] (fun p => [(10, .slice p.1 (X.take (j + 1)).length p.2)]) (fun p => own 51 2 p.1 (X.take (j + 1)).length p.2 ((X.take (j + 1)).flatMap encPo) :: own 51 2 da D.length dc (D.flatMap encPo) :: own 3 1 pa D.length pc (PL.map Sh.VN) :: RlP eb rb lim la lc (offL T (X.take (j + 1))) (Rf.RwP rb w :: L)) ?_ ?_ ⟨rfl, rfl, rfl, rfl, rfl, trivial⟩
   ·refine Hd.block ?_
    refine sr fun _ hK11 => ?_
    refine yv y_mv <| yv y_mv <| yv y_mv <| yv (y_idxR Tryz.underlying44 sz3 rfl rfl (by omega) (by exact RdS.own pkk)) ?_; refine yv (y_loadR1 ag3 rfl (RdS.own (ad := pa) (us := PL.map Sh.VN) pkk) (by rw [Nat.mul_one, List.getElem?_map, hk]; rfl)) ?_; refine yv (y_idxR Tryz.underlying47 sz51 rfl rfl (by omega) (by exact RdS.own pkk)) ?_; refine yv (y_loadRn (vs := encPo y) ag51 rfl (RdS.own (ad := da) (us := D.flatMap encPo) pkk) (flat_cells encPo 2 (fun _ => rfl) hy) sz51 (by simp)) ?_; refine Hd.alloc zr51 (fun b12 => ?_); refine Hd.storeA (us := encPo y) sz51 rfl rfl rfl (encPo_one _) pkk (by exact rfl) ?_; refine fk [(0, _), (1, _), (8, _), (9, _), (10, _), (11, _), (12, _)] hK11 ?_; refine sr fun _ hK12 => ?_
    refine yv y_mv <| yv (y_loadn (us := [_, _]) ag51 rfl (Rd.pt pkk (by (first | (intro j v e; rcases j with _|_|_|_|_|_|_|_|_|_|_|_|j <;> first | exact e | exact absurd e (by simp))))) (by exact sz51)) ?_; refine Hd.bslice (vs := [(0, _)]) rfl (by exact bs25_42 ..) (fun b42 => ?_); refine Hd.append Tryz.underlying47 ty51 rfl rfl rfl pkk (by exact RdS.rd (Rd.pt pkk (fun j v e => by simpa using e)) rfl) (by simp [Value.oneCell']; done) (by simp only [maxLen]; omega) (by omega) (fun ad43 cap43 => ?_); refine yv y_as <| fk [(0, _), (1, _), (8, _), (9, _), (10, _), (11, _), (12, _)] hK12 ?_; refine sr fun _ hK13 => ?_
    refine yv y_mv <| yv (y_f 0 3 Tryz.underlying51 sz3) ?_; refine yv (y_l1 ag3 rfl) ?_; refine callE rfl fk80 (rfind15_ct _ eb rb lim la lc l2 y.1 (by omega)) sq ?_; intro _; rw [hpos]; refine yv y_as <| fk [(0, _), (1, _), (8, _), (9, _), (10, _), (11, _), (12, _), (13, _)] hK13 ?_
    obtain ⟨l3, hl3⟩ : ∃ l3, l2.set q { z with i := z.i && !hasT y.2 1 } = l3 := ⟨_, rfl⟩
    refine Hd.cutK (ι := Option Addr × Nat) [(0, _), (1, _), (8, _), (9, _), (11, _), (12, _), (13, _)] (fun p => [(10, .slice p.1 (X.take (j + 1)).length p.2)]) (fun p => own 51 2 p.1 (X.take (j + 1)).length p.2 ((X.take (j + 1)).flatMap encPo) :: own 51 2 da D.length dc (D.flatMap encPo) :: own 3 1 pa D.length pc (PL.map Sh.VN) :: pt b12 (encPo y) 51 :: RlH eb rb lim la l2.length lc :: own 65 7 la l2.length lc (l3.flatMap encRi) :: Rf.RwP rb w :: L) ?_ ?_ ⟨rfl, rfl, rfl, rfl, rfl, rfl, rfl, trivial⟩
    ·refine Hd.drawsH ([RlH eb rb lim la l2.length lc, own 65 7 la l2.length lc (l2.flatMap encRi), pt b12 (encPo y) 51]) (fun j => !([21].contains j)) mixed ?_
     simp only [List.length, Nat.zero_add, Nat.reduceAdd]; refine tH 0 rfl y_mv ?_; refine tH 1 rfl y_np ?_; refine tH 2 rfl (y_f 2 58 Tryz.underlying60 sz58) ?_; refine tH 3 rfl (y_l1 ag58 rfl) ?_; refine tH 4 rfl y_mv ?_; refine tH 5 rfl y_mv ?_; refine tH 6 rfl y_np ?_; refine tH 7 rfl (y_f 2 58 Tryz.underlying60 sz58) ?_; refine tH 8 rfl (y_l1 ag58 rfl) ?_; refine tH 9 rfl y_mv ?_; refine tH 10 rfl (y_idxR (j := q) (ad := la) Tryz.underlying58 sz65 rfl rfl hql (RdS.own (ad := la) (us := l2.flatMap encRi) pkk)) ?_; refine tH 11 rfl (y_fR 3 4 Tryz.underlying65 sz4) ?_; refine tH 12 rfl (y_loadR1 ag4 rfl (RdS.own (ad := la) (us := l2.flatMap encRi) pkk) (flat_cells encRi 7 (fun _ => rfl) hq 3 _ rfl)) ?_; refine tH 13 rfl y_mv ?_; refine Hd.part (gd := 61) rfl (fun hg12_61 => ?_) (fun hg12_61 => ?_)
     ·try simp only [hyZ] at hg12_61
      refine Hd.takegH 14 rfl kq kq kq kq rfl rfl (y_f 1 3 Tryz.underlying51 sz3) fq sq ?_; refine Hd.takegH 15 rfl kq kq kq kq rfl rfl (y_l1 ag3 rfl) fq sq ?_; refine onlyH 16 rfl kq ?_; refine Hd.unguard rfl rfl ?_; refine callE rfl fk82 (rhas_ct _ y.2 1 (by decide) hy2) sq ?_; intro _; refine Hd.nil <| thenN <| heldK (J := (fun j => !([21].contains j))) (i := 16) sq ?_; refine Hd.takegH 17 rfl kq kq kq kq rfl rfl (y_not rfl) fq sq ?_; refine tH 18 rfl (y_pickT rfl rfl) ?_; refine onlyH 19 rfl kq ?_; refine yv (y_idxR (j := q) (ad := la) Tryz.underlying58 sz65 rfl rfl hql (RdS.own (ad := la) (us := l2.flatMap encRi) pkk)) ?_; refine Hd.nil <| thenN <| heldK (J := (fun j => !([21].contains j))) (i := 19) sq ?_; refine tH 20 rfl (y_fR 3 4 Tryz.underlying65 sz4) ?_; refine onlyH 21 rfl kq ?_; refine Hd.storeO1 (ad := la) (q := q * 7 + 3) sz4 rfl rfl rfl pkk (by rw [rows_len (k := 7) (fun _ => rfl)]; omega) ?_
      rw [rows_set (enc := encRi) (k := 7) (j := 3) (fun _ => rfl) (by decide) (x' := { z with i := z.i && !hasT y.2 1 }) (by simp [encRi, hg12_61]) hq rfl]; refine Hd.nil <| thenN <| Hd.heldN (J := (fun j => !([21].contains j))) (i := 21) rfl ?_; refine endH kq ?_; refine slots [(0, _), (1, _), (8, _), (9, _), (10, _), (11, _), (12, _), (13, _)] sbq ?_; refine thenN ?_; rw [hl3]; exact Hd.meet (ad43, cap43) ⟨by rw [hXs, List.length_append]; rfl, by repeat (first | exact trivial | refine ⟨rfl, ?_⟩)⟩ (Ent.sep (.eq pkk (own_eq3 (by rw [hXs, List.length_append]; rfl) rfl (by rw [hXs, List.flatMap_append]; rfl)) enn))
     ·try simp only [hyZ] at hg12_61
      refine Hd.takenH 14 rfl kq kq kq kq rfl rfl rfl fq sq ?_; refine Hd.takenH 15 rfl kq kq kq kq rfl rfl rfl fq sq ?_; refine onlyH 16 rfl kq ?_; refine n1 <| Hd.nil <| thenN <| heldK (J := (fun j => !([21].contains j))) (i := 16) sq ?_; refine Hd.takenH 17 rfl kq kq kq kq rfl rfl rfl fq sq ?_; refine tH 18 rfl (y_pickF rfl rfl) ?_; refine onlyH 19 rfl kq ?_; refine yv (y_idxR (j := q) (ad := la) Tryz.underlying58 sz65 rfl rfl hql (RdS.own (ad := la) (us := l2.flatMap encRi) pkk)) ?_; refine Hd.nil <| thenN <| heldK (J := (fun j => !([21].contains j))) (i := 19) sq ?_; refine tH 20 rfl (y_fR 3 4 Tryz.underlying65 sz4) ?_; refine onlyH 21 rfl kq ?_; refine Hd.storeO1 (ad := la) (q := q * 7 + 3) sz4 rfl rfl rfl pkk (by rw [rows_len (k := 7) (fun _ => rfl)]; omega) ?_; rw [rows_set (enc := encRi) (k := 7) (j := 3) (fun _ => rfl) (by decide) (x' := { z with i := z.i && !hasT y.2 1 }) (by simp [encRi, hg12_61]) hq rfl]
      refine Hd.nil <| thenN <| Hd.heldN (J := (fun j => !([21].contains j))) (i := 21) rfl ?_; refine endH kq ?_; refine slots [(0, _), (1, _), (8, _), (9, _), (10, _), (11, _), (12, _), (13, _)] sbq ?_; refine thenN ?_; rw [hl3]; exact Hd.meet (ad43, cap43) ⟨by rw [hXs, List.length_append]; rfl, by repeat (first | exact trivial | refine ⟨rfl, ?_⟩)⟩ (Ent.sep (.eq pkk (own_eq3 (by rw [hXs, List.length_append]; rfl) rfl (by rw [hXs, List.flatMap_append]; rfl)) enn))
    ·rintro ⟨ta2, tc2⟩
     dsimp only
     have hl3l : l3.length = l2.length := by rw [← hl3, List.length_set]
     have hq3 : l3[q]? = some { z with i := z.i && !hasT y.2 1 } := by rw [← hl3, List.getElem?_set_self hql]
     refine Hd.drawsH ([RlH eb rb lim la l2.length lc, own 65 7 la l2.length lc (l3.flatMap encRi), pt b12 (encPo y) 51]) (fun j => !([21].contains j)) mixed ?_; simp only [List.length, Nat.zero_add, Nat.reduceAdd]; refine tH 0 rfl y_mv ?_; refine tH 1 rfl y_np ?_; refine tH 2 rfl (y_f 2 58 Tryz.underlying60 sz58) ?_; refine tH 3 rfl (y_l1 ag58 rfl) ?_; refine tH 4 rfl y_mv ?_; refine tH 5 rfl y_mv ?_; refine tH 6 rfl y_np ?_; refine tH 7 rfl (y_f 2 58 Tryz.underlying60 sz58) ?_; refine tH 8 rfl (y_l1 ag58 rfl) ?_; refine tH 9 rfl y_mv ?_; refine tH 10 rfl (y_idxR (j := q) (ad := la) Tryz.underlying58 sz65 rfl rfl hql (RdS.own (ad := la) (us := l3.flatMap encRi) pkk)) ?_; refine tH 11 rfl (y_fR 4 4 Tryz.underlying65 sz4) ?_; refine tH 12 rfl (y_loadR1 ag4 rfl (RdS.own (ad := la) (us := l3.flatMap encRi) pkk) (flat_cells encRi 7 (fun _ => rfl) hq3 4 _ rfl)) ?_; refine tH 13 rfl y_mv ?_; refine Hd.part (gd := 82) rfl (fun hg13_82 => ?_) (fun hg13_82 => ?_)
     ·try simp only [hyZ] at hg13_82
      refine Hd.takegH 14 rfl kq kq kq kq rfl rfl (y_f 1 3 Tryz.underlying51 sz3) fq sq ?_; refine Hd.takegH 15 rfl kq kq kq kq rfl rfl (y_l1 ag3 rfl) fq sq ?_; refine onlyH 16 rfl kq ?_; refine Hd.unguard rfl rfl ?_; refine callE rfl fk82 (rhas_ct _ y.2 4 (by decide) hy2) sq ?_; intro _; refine Hd.nil <| thenN <| heldK (J := (fun j => !([21].contains j))) (i := 16) sq ?_; refine Hd.takegH 17 rfl kq kq kq kq rfl rfl (y_not rfl) fq sq ?_; refine tH 18 rfl (y_pickT rfl rfl) ?_; refine onlyH 19 rfl kq ?_; refine yv (y_idxR (j := q) (ad := la) Tryz.underlying58 sz65 rfl rfl hql (RdS.own (ad := la) (us := l3.flatMap encRi) pkk)) ?_; refine Hd.nil <| thenN <| heldK (J := (fun j => !([21].contains j))) (i := 19) sq ?_; refine tH 20 rfl (y_fR 4 4 Tryz.underlying65 sz4) ?_; refine onlyH 21 rfl kq ?_; refine Hd.storeO1 (ad := la) (q := q * 7 + 4) sz4 rfl rfl rfl pkk (by rw [rows_len (k := 7) (fun _ => rfl)]; omega) ?_
      rw [rows_set (enc := encRi) (k := 7) (j := 4) (fun _ => rfl) (by decide) (x' := { z with i := z.i && !hasT y.2 1, o := z.o && !hasT y.2 4 }) (by simp [encRi, hg13_82]) hq3 rfl]; refine Hd.nil <| thenN <| Hd.heldN (J := (fun j => !([21].contains j))) (i := 21) rfl ?_; refine endH kq ?_; refine slots [(0, _), (1, _), (8, _), (9, _), (10, _), (11, _)] sbq ?_; refine Hd.inB <| thenN ?_
      have hfin : l3.set q { z with i := z.i && !hasT y.2 1, o := z.o && !hasT y.2 4 } = offL T (X.take (j + 1)) := by rw [hle, hset, ← hl3, List.set_set]
      rw [hfin]
      have hfl : (offL T (X.take (j + 1))).length = l2.length := by rw [← hfin, List.length_set, hl3l]
      rw [← hfl]; exact Hd.meet (ta2, tc2) sbq sq
     ·try simp only [hyZ] at hg13_82
      refine Hd.takenH 14 rfl kq kq kq kq rfl rfl rfl fq sq ?_; refine Hd.takenH 15 rfl kq kq kq kq rfl rfl rfl fq sq ?_; refine onlyH 16 rfl kq ?_; refine n1 <| Hd.nil <| thenN <| heldK (J := (fun j => !([21].contains j))) (i := 16) sq ?_; refine Hd.takenH 17 rfl kq kq kq kq rfl rfl rfl fq sq ?_; refine tH 18 rfl (y_pickF rfl rfl) ?_; refine onlyH 19 rfl kq ?_; refine yv (y_idxR (j := q) (ad := la) Tryz.underlying58 sz65 rfl rfl hql (RdS.own (ad := la) (us := l3.flatMap encRi) pkk)) ?_; refine Hd.nil <| thenN <| heldK (J := (fun j => !([21].contains j))) (i := 19) sq ?_; refine tH 20 rfl (y_fR 4 4 Tryz.underlying65 sz4) ?_; refine onlyH 21 rfl kq ?_; refine Hd.storeO1 (ad := la) (q := q * 7 + 4) sz4 rfl rfl rfl pkk (by rw [rows_len (k := 7) (fun _ => rfl)]; omega) ?_; rw [rows_set (enc := encRi) (k := 7) (j := 4) (fun _ => rfl) (by decide) (x' := { z with i := z.i && !hasT y.2 1, o := z.o && !hasT y.2 4 }) (by simp [encRi, hg13_82]) hq3 rfl]
      refine Hd.nil <| thenN <| Hd.heldN (J := (fun j => !([21].contains j))) (i := 21) rfl ?_; refine endH kq ?_; refine slots [(0, _), (1, _), (8, _), (9, _), (10, _), (11, _)] sbq ?_; refine Hd.inB <| thenN ?_
      have hfin : l3.set q { z with i := z.i && !hasT y.2 1, o := z.o && !hasT y.2 4 } = offL T (X.take (j + 1)) := by rw [hle, hset, ← hl3, List.set_set]
      rw [hfin]
      have hfl : (offL T (X.take (j + 1))).length = l2.length := by rw [← hfin, List.length_set, hl3l]
      rw [← hfl]; exact Hd.meet (ta2, tc2) sbq sq
   ·rintro ⟨ta2, tc2⟩
    dsimp only; refine Hd.region <| yv y_mv <| yv (y_addn rfl rfl (by simp only [InK]; omega)) ?_; refine yv y_as <| Hd.nil <| slots [(0, _), (1, _), (8, _), (9, _), (10, _), (11, _)] sbq ?_; refine thenN ?_; exact Hd.again (j + 1, ta2, tc2) (by omega) sbq (Ent.sep (.pure ⟨(show j + 1 ≤ X.length by omega), (show ((j + 1 : Nat) : Int) ≤ most by omega)⟩ enn))
  ·try simp only [hyZ] at hc1
   have hj : X.take j = X.take most.toNat := by
    rcases hc1 with h | h
    ·rw [List.take_of_length_le (by omega), List.take_of_length_le (by omega)]
    ·congr 1; omega
   rw [hj]; refine Hd.exit <| Hd.thenExit <| Hd.thenExit <| Hd.inBexit <| Hd.toK hK7 ?_; refine sr fun _ hK14 => ?_
   refine yv y_mv <| yv y_as <| yv y_as <| fk [(6, _), (7, _)] hK14 ?_; refine Hd.ret ?_; rw [hT, hD, hX]; exact Hd.ret2 rfl (ta, tc, la, lc) rfl rfl rfl sq
theorem ref_fd (g : Int → Option PxA) (w : WA) : (refL g w).map RiA.fd = allP g w := by
 unfold refL
 show _ = allL (ixF g) w
 unfold allL; rw [List.map_filterMap, ← List.filterMap_eq_map, List.filterMap_filter]; refine fm_congr fun n _ => ?_
 rw [livP_eq]; unfold entP
 cases hv : livP g w (n : Int) with
 | false => rw [if_neg (by decide), if_neg (by decide)]; rfl
 | true =>
  rw [if_pos rfl, if_pos rfl]
  obtain ⟨p, k, j, hg, _⟩ := livP_at hv
  rw [hg]; rfl
theorem ref_nd (g : Int → Option PxA) (w : WA) : ((refL g w).map RiA.fd).Nodup := by
 rw [ref_fd]
 show (allL (ixF g) w).Nodup
 unfold allL
 have h0 : ((List.range 96).filter fun n : Nat => qE (ixF g) w (n : Int)).Nodup := List.nodup_range.filter _
 exact List.Pairwise.map (R := fun a b => a ≠ b) _ (fun a b h e => h (Int.ofNat.inj e)) h0
theorem ref_len (g : Int → Option PxA) (w : WA) : (refL g w).length = (allP g w).length := by rw [← ref_fd, List.length_map]
theorem ref_le (g : Int → Option PxA) (w : WA) : (refL g w).length ≤ 96 := by
 unfold refL; exact Nat.le_trans (List.length_filterMap_le _ _) (by rw [List.length_range]; exact Nat.le_refl _)
theorem ref_mem {g : Int → Option PxA} {w : WA} {x : RiA} (h : x ∈ refL g w) : ∃ p, livP g w x.fd = true ∧ g x.fd = some p ∧ x = riP w x.fd p := by
 obtain ⟨n, _, e⟩ := List.mem_filterMap.1 h
 have hfd := ent_fd e
 unfold entP at e
 split at e
 ·rename_i hl
  obtain ⟨p, k, j, hg, _⟩ := livP_at hl
  rw [hg] at e; refine ⟨p, by rw [hfd]; exact hl, by rw [hfd]; exact hg, ?_⟩; rw [hfd]; exact (Option.some.inj e).symm
 ·cases e
theorem ref_at {g : Int → Option PxA} {w : WA} (hw : WOk w) {a : Int} (h : livP g w a = true) : ∃ (k : Nat) (p : PxA), g a = some p ∧ (refL g w)[k]? = some (riP w a p) := by
 obtain ⟨p, n, j, hg, ha, hp⟩ := livP_at h
 have hb := hw.at_lt ha
 have hm : riP w a p ∈ refL g w := by
  unfold refL; refine List.mem_filterMap.2 ⟨a.toNat, List.mem_range.2 (by omega), ?_⟩; rw [show ((a.toNat : Nat) : Int) = a by omega]; unfold entP; rw [if_pos h, hg]; rfl
 obtain ⟨k, hk⟩ := List.getElem?_of_mem hm
 exact ⟨k, p, hg, hk⟩
theorem ref_pos {g : Int → Option PxA} {w : WA} (hw : WOk w) (a : Int) : 0 ≤ posR (refL g w) a ↔ livP g w a = true := by
 constructor
 ·intro h
  unfold posR at h
  split at h
  ·rename_i i hi
   obtain ⟨hlt, h1, _⟩ := List.findIdx?_eq_some_iff_getElem.1 hi
   have h2 : (refL g w)[i].fd = a := by simpa using h1
   obtain ⟨p, hl, _⟩ := ref_mem (List.getElem_mem hlt)
   rw [h2] at hl; exact hl
  ·omega
 ·intro h
  obtain ⟨k, p, _, hk⟩ := ref_at hw h
  rw [posR_at (fd := a) (ref_nd g w) hk rfl]; omega
theorem ev_in (i o e : Bool) : InK .i64 (evA i o e) := by cases i <;> cases o <;> cases e <;> (simp only [InK]; decide)
theorem ref_ev {g : Int → Option PxA} {w : WA} : ∀ x ∈ refL g w, InK .i64 x.ev := fun x hx => by
 obtain ⟨p, _, _, e⟩ := ref_mem hx
 rw [e]; exact ev_in _ _ _
theorem ev_sum {n : Int} (hn : InK .i64 n) (h : ¬(n < 0 ∨ n ≠ sumT n)) : n = evA (hasT n 1) (hasT n 4) (hasT n 32) := by
 have h0 : bits .andNot .i64 n 37 = 0 := by
  by_cases e : bits .andNot .i64 n 37 = 0
  ·exact e
  ·exact absurd ((bad_ev hn).2 e) h
 obtain ⟨i, o, d, rfl⟩ := ev_of hn h0
 rw [has1, has4, has32]
theorem InvP.upd {g : Int → Option PxA} {w : WA} (hI : InvP g w) {a : Int} {o : Option PxA} (h : ∀ p, o = some p → (∃ (n : Nat) (y : WireA), p.wire = (n : Int) ∧ w.ws[n]? = some y ∧ (y.e 0).what ≠ 0) ∧ p.reads ≤ (readyR w a).r ∧ p.writes ≤ (readyR w a).w) : InvP (updP g a o) w where
 wr b p hp := by
  by_cases e : b = a
  ·subst e; rw [updP_eq] at hp; exact (h p hp).1
  ·rw [updP_ne e] at hp; exact hI.wr b p hp
 le b p hp hl := by
  by_cases e : b = a
  ·subst e; rw [updP_eq] at hp; exact (h p hp).2
  ·rw [updP_ne e] at hp
   refine hI.le b p hp ?_; unfold livP at hl ⊢; rw [updP_ne e] at hl; exact hl
theorem InvP.ctl {K : Nat} {g : Int → Option PxA} {w : WA} (hw : WOk w) (hl : Lo K w) (hI : InvP g w) (limit op fd ev : Int) : InvP (ctlG limit g w op fd ev).2 w := by
 unfold ctlG
 split
 ·exact hI
 split
 ·exact hI
 rename_i hat
 have hwr : ∃ (n : Nat) (y : WireA), wireN (w.at fd) = (n : Int) ∧ w.ws[n]? = some y ∧ (y.e 0).what ≠ 0 := by
  obtain ⟨q, hq⟩ := Option.ne_none_iff_exists'.1 hat
  obtain ⟨n, k⟩ := q
  obtain ⟨x, hx, _, _, _, h0⟩ := opn0 hw hl hq
  exact ⟨n, x, by rw [hq]; rfl, hx, h0⟩
 split
 ·exact hI
 split
 ·exact hI
 split
 ·exact hI.upd fun p hp => by
   obtain rfl := Option.some.inj hp
   exact ⟨hwr, Int.le_refl _, Int.le_refl _⟩
 split
 ·exact hI
 split
 ·exact hI.upd fun p hp => by cases hp
 ·exact hI.upd fun p hp => by
   obtain rfl := Option.some.inj hp
   exact ⟨hwr, Int.le_refl _, Int.le_refl _⟩
theorem InvP.off {w : WA} : ∀ (T : List (Int × Int)) {g : Int → Option PxA}, InvP g w → InvP (offG w g T) w
 | [], _, hI => hI
 | x :: t, g, hI => by
  show InvP (offG w (updP g x.1 ((g x.1).map fun p => offP p (readyR w x.1) x.2)) t) w
  refine InvP.off t (hI.upd fun p hp => ?_)
  cases hg : g x.1 with
  | none => rw [hg] at hp; cases hp
  | some q =>
   rw [hg] at hp
   obtain rfl := Option.some.inj hp
   exact ⟨hI.wr _ q hg, Int.le_refl _, Int.le_refl _⟩
theorem due_in {g : Int → Option PxA} {w : WA} {y : Int × Int} (h : y ∈ dueL (ixF g) w) : (g y.1).isSome = true ∧ 0 ≤ y.2 ∧ y.2 < 64 := by
 rw [← due_ref] at h
 obtain ⟨x, hx, e⟩ := List.mem_filterMap.1 h
 obtain ⟨p, _, hg, _⟩ := ref_mem hx
 unfold dueR1 at e
 split at e
 ·rw [← Option.some.inj e]
  refine ⟨by show (g x.fd).isSome = true; rw [hg]; rfl, ?_⟩
  show 0 ≤ tolT x (readyR w x.fd) ∧ tolT x (readyR w x.fd) < 64
  have hb := tolN_in x (readyR w x.fd)
  unfold tolT
  split
  ·omega
  ·split <;> split <;> omega
 ·cases e
def newT (w : WA) (fd ev : Int) : RiA := ⟨fd, wireN (w.at fd), ev, hasT ev 1, hasT ev 4, (readyR w fd).r, (readyR w fd).w⟩
def modT (x : RiA) (y : RiA) : RiA := { x with i := x.i && (y.i || !hasT y.ev 32 || !hasT y.ev 1), o := x.o && (y.o || !hasT y.ev 32 || !hasT y.ev 4) }
def zRi : RiA := ⟨0, 0, 0, false, false, 0, 0⟩
def xT (w : WA) (T : List RiA) (op fd ev : Int) : RiA := if op = 2 then modT (newT w fd ev) (T.getD (posR T fd).toNat zRi) else newT w fd ev
def ctlT (lim : Int) (w : WA) (T : List RiA) (op fd ev : Int) : Int × List RiA :=
 if w.at fd = none then (110, T)
 else if op = 1 ∧ 0 ≤ posR T fd then (150, T)
 else if op = 1 ∧ lim ≤ (T.length : Int) then (152, T)
 else if 1 < op ∧ posR T fd < 0 then (151, T)
 else (0, insR (xT w T op fd ev) (decide (op = 3)) T)
theorem ctl_ref {lim : Int} {g : Int → Option PxA} {w : WA} (hw : WOk w) {op fd ev : Int} (hev : InK .i64 ev) (h : ¬badT op ev) : ctlT lim w (refL g w) op fd ev = ((ctlG lim g w op fd ev).1, refL (ctlG lim g w op fd ev).2 w) := by
 have hp := ref_pos (g := g) hw fd
 have hop : 1 ≤ op ∧ op ≤ 3 := by unfold badT at h; omega
 have hsm : op < 3 → ev = evA (hasT ev 1) (hasT ev 4) (hasT ev 32) := fun h3 => ev_sum hev fun hb => h (.inr ⟨h3, hb⟩)
 unfold ctlT ctlG; rw [if_neg h]
 by_cases h2 : w.at fd = none
 ·rw [if_pos h2, if_pos h2]
 rw [if_neg h2, if_neg h2]
 by_cases h3 : op = 1 ∧ livP g w fd = true
 ·rw [if_pos ⟨h3.1, hp.2 h3.2⟩, if_pos h3]
 rw [if_neg (fun e => h3 ⟨e.1, hp.1 e.2⟩), if_neg h3, ref_len]
 by_cases h4 : op = 1 ∧ lim ≤ ((allP g w).length : Int)
 ·rw [if_pos h4, if_pos h4]
 rw [if_neg h4, if_neg h4]
 by_cases h5 : op = 1
 ·rw [if_neg (by omega), if_pos h5]
  refine Prod.ext rfl ?_
  show insR (xT w (refL g w) op fd ev) (decide (op = 3)) (refL g w) = refL (updP g fd (some (newP w fd ev))) w
  rw [decide_eq_false (by omega), ← ins_new g hw h2 rfl]
  congr 1
  unfold xT; rw [if_neg (by omega)]; unfold newT riP PxA.ra PxA.rb newP; dsimp only; rw [← hsm (by omega), decide_eq_false (Int.lt_irrefl _), decide_eq_false (Int.lt_irrefl _), Bool.or_false, Bool.or_false]
 rw [if_neg h5]
 by_cases h6 : livP g w fd = false
 ·rw [if_pos h6, if_pos ⟨by omega, by
   by_cases hc : posR (refL g w) fd < 0
   ·exact hc
   ·rw [hp.1 (by omega)] at h6; cases h6⟩]
 have h6' : livP g w fd = true := by simpa using h6
 rw [if_neg h6, if_neg (by have := hp.2 h6'; omega)]
 by_cases h7 : op = 3
 ·rw [if_pos h7]
  refine Prod.ext rfl ?_
  show insR (xT w (refL g w) op fd ev) (decide (op = 3)) (refL g w) = refL (updP g fd none) w
  rw [decide_eq_true h7]; refine ins_del g hw ?_ h2; unfold xT; rw [if_neg (by omega)]; rfl
 ·rw [if_neg h7]
  refine Prod.ext rfl ?_
  obtain ⟨k, p, hg, hk⟩ := ref_at hw h6'
  show insR (xT w (refL g w) op fd ev) (decide (op = 3)) (refL g w) = refL (updP g fd (some (modP ((g fd).getD _) w fd ev))) w
  rw [decide_eq_false h7, hg]
  show _ = refL (updP g fd (some (modP p w fd ev))) w
  rw [← ins_new g hw h2 rfl]
  congr 1
  unfold xT; rw [if_pos (by omega), posR_at (fd := fd) (ref_nd g w) hk rfl, Int.toNat_natCast, List.getD_eq_getElem?_getD, hk]
  show modT (newT w fd ev) (riP w fd p) = _
  unfold modT newT riP modP newP; dsimp only; rw [has1, has4, has32]; unfold PxA.ra PxA.rb; dsimp only; rw [← hsm (by omega), decide_eq_false (Int.lt_irrefl _ : ¬ (readyR w fd).r < (readyR w fd).r), decide_eq_false (Int.lt_irrefl _ : ¬ (readyR w fd).w < (readyR w fd).w), Bool.or_false, Bool.or_false]
end Ep
end Go.Proofs.YtbfddabjbkohdaaGreat
