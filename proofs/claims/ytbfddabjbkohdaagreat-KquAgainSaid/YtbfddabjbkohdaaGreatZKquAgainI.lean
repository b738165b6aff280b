/-
  The document's world: at, rise, shut, close, outer. The document's world: get, fill, free. The document's world: Shut, PeerShut, PeerClose, Wire, Put, Take. The document's world: Read, Write. Worlds: Pass, Reset, Close. The document's world: Pass, Reset. The document's world: Pending, noticed. The document's world: free. The document's world: Close. Regions with a memory that is held: operations taken ahead that others wait for only through others. No program is named here. The document's world: noticed.
-/
import Derived.Test.YtbfddabjbkohdaaGreatZKquAgainH
namespace Go.Proofs.YtbfddabjbkohdaaGreat
set_option maxHeartbeats 2000000
open Go.RX.Hd (yv y2 n1 fk sk sr tH callE heldK onlyH endH thenN slots)
set_option linter.unusedSimpArgs false
set_option linter.unusedVariables false
set_option linter.unnecessarySimpa false
open Go.RX Fx
namespace Rf
open Wo
set_option maxRecDepth 8000
theorem rw_head {b n : Nat} {w : WA} {i : Rows_} {x x' : WireA} {j : RwI} {L : List SP} (hi : i.1.map Prod.fst = w.ws) (hn : i.1[n]? = some (x, j)) (hb : ∀ k, k < 2 → (x'.e k).b = (x.e k).b) (hw : x'.wt = x.wt) :
  ∀ h, sep (RwH b w i.1.length i.2.1 i.2.2 :: own 221 20 i.2.1 i.1.length i.2.2 ((i.1.set n (x', j)).flatMap encRW) :: Bag Sd i.1 :: L) h → sep (RwP b (w.setW n x') :: L) h := fun h s => by
 have e1 : Bag Sd i.1 = Bag Sd (i.1.set n (x', j)) := (bag_set hn (sd_same (p := (x, j)) (p' := (x', j)) hb hw rfl)).symm
 have hl : (i.1.set n (x', j)).length = i.1.length := List.length_set ..
 refine rw_fold (i := (i.1.set n (x', j), i.2)) (by show (i.1.set n (x', j)).map Prod.fst = w.ws.set n x'; rw [List.map_set, hi]) h (Ent.sep ?_ h s); exact .eq pkk (pt_eq (by show _ = RwC (w.setW n x') (i.1.set n (x', j)).length i.2.1 i.2.2; rw [hl]; rfl)) (.eq pkk (own_eq3 hl.symm rfl rfl) (.eq pkk e1 enn))
theorem rw_put {b n : Nat} {w : WA} {i : Rows_} {x' : WireA} {j' : RwI} {L : List SP} (hi : i.1.map Prod.fst = w.ws) (hn : n < i.1.length) :
  ∀ h, sep (Sd (x', j') :: RwH b w i.1.length i.2.1 i.2.2 :: own 221 20 i.2.1 i.1.length i.2.2 ((i.1.set n (x', j')).flatMap encRW) :: Bag Sd (i.1.take n) :: Bag Sd (i.1.drop (n + 1)) :: L) h → sep (RwP b (w.setW n x') :: L) h := fun h s => by
 have hl : (i.1.set n (x', j')).length = i.1.length := List.length_set ..
 have h1 : sep (Sd (x', j') :: Bag Sd (i.1.take n) :: Bag Sd (i.1.drop (n + 1)) :: RwH b w i.1.length i.2.1 i.2.2 :: own 221 20 i.2.1 i.1.length i.2.2 ((i.1.set n (x', j')).flatMap encRW) :: L) h := Ent.sep enn h s
 have h2 := bag_in hn h1
 refine rw_fold (i := (i.1.set n (x', j'), i.2)) (by show (i.1.set n (x', j')).map Prod.fst = w.ws.set n x'; rw [List.map_set, hi]) h (Ent.sep ?_ h h2); exact .eq pkk (pt_eq (by show _ = RwC (w.setW n x') (i.1.set n (x', j')).length i.2.1 i.2.2; rw [hl]; rfl)) (.eq pkk (own_eq3 hl.symm rfl rfl) enn)
def atN : Option (Nat × Nat) → Int
 | none => -1
 | some p => (p.1 : Int)
def atK : Option (Nat × Nat) → Int
 | none => -1
 | some p => (p.2 : Int)
theorem rat_ct (L : List SP) (b : Nat) (w : WA) (hw : WOk w) (fd : Int) : Ct Tryz.prog 116 #[.pointer (some ⟨b, 0, none⟩), .int .i64 fd] (RwP b w :: L) (fun _ : Unit => .tuple #[.int .i64 (atN (w.at fd)), .int .i64 (atK (w.at fd))]) (fun _ : Unit => RwP b w :: L) := by
 refine Ct.o2 Tryz.func116 ?_; intro E
 show Hd E 50 _ _ _ _
 refine Hd.rw .here (fun i hi => ?_)
 have hrl := rows_n hi
 have hwl := hw.len
 refine sr fun _ hK1 => ?_
 refine yv y_as <| yv y_as <| fk [(0, _), (1, _)] hK1 ?_; refine Hd.seq fun _ hK2 => ?_
 refine sr fun _ hK3 => ?_
 refine yv y_as <| fk [(0, _), (1, _), (6, _)] hK3 ?_; refine Hd.block <| Hd.loopK (ι := Nat) [(0, _), (1, _)] (fun n => [(6, .int .i64 (n : Int))]) (fun n => pu (n ≤ w.ws.length ∧ ∀ m y, m < n → w.ws[m]? = some y → atE y fd = none) :: RwL b w i L) (fun n => w.ws.length - n) 0 sbq sbq (Ent.sep (.pure ⟨Nat.zero_le _, fun _ _ h => absurd h (Nat.not_lt_zero _)⟩ enn)) ?_; intro n
 try dsimp only
 refine Hd.pure (fun hp0 => ?_)
 try dsimp only at hp0
 refine Hd.seq fun _ hK4 => ?_
 refine sr fun _ hK5 => ?_
 refine yv y_mv <| yv y_mv <| yv y_np <| yv (y_f 0 129 Tryz.underlying133 sz129) ?_; refine yv (y_l1 ag129 rfl) ?_; refine yv (y_len Tryz.underlying129 rfl) ?_; refine yv (y_lss rfl rfl) ?_; refine fk [(0, _), (1, _), (6, _), (14, _)] hK5 ?_; refine Hd.cond rfl (fun hc0 => ?_) (fun hc0 => ?_)
 ·try simp only [hyA, hyB, hyC, ne_eq] at hc0
  have hn : n < w.ws.length := by omega
  obtain ⟨x, hx⟩ : ∃ x, w.ws[n]? = some x := ⟨_, List.getElem?_eq_getElem hn⟩
  obtain ⟨j, hrow⟩ := row_at hi hx
  refine Hd.skip <| Hd.toK hK4 ?_; refine Hd.seq fun _ hK6 => ?_
  refine Hd.block <| sr fun _ hK7 => ?_
  refine yv y_as <| fk [(0, _), (1, _), (6, _), (7, _)] hK7 ?_; refine Hd.block <| Hd.loopK (ι := Nat) [(0, _), (1, _), (6, _)] (fun k => [(7, .int .i64 (k : Int))]) (fun k => pu (k ≤ 2 ∧ ∀ q, q < k → ¬ ((x.e q).what = 1 ∧ (x.e q).fd = fd)) :: RwL b w i L) (fun k => 2 - k) 0 sbq sbq (Ent.sep (.pure ⟨Nat.zero_le _, fun _ h => absurd h (Nat.not_lt_zero _)⟩ enn)) ?_; intro k
  try dsimp only
  refine Hd.pure (fun hp1 => ?_)
  try dsimp only at hp1
  refine Hd.seq fun _ hK8 => ?_
  refine sr fun _ hK9 => ?_
  refine yv y_mv <| yv (y_lss rfl rfl) ?_; refine fk [(0, _), (1, _), (6, _), (7, _), (18, _)] hK9 ?_; refine Hd.cond rfl (fun hc1 => ?_) (fun hc1 => ?_)
  ·try simp only [hyA, hyB, hyC, ne_eq] at hc1
   have hk : k < 2 := by omega
   refine Hd.skip <| Hd.toK hK8 ?_; refine Hd.seq fun _ hK10 => ?_
   refine Hd.block <| sr fun _ hK11 => ?_
   refine yv y_mv <| yv y_np <| yv (y_f 0 129 Tryz.underlying133 sz129) ?_; refine yv (y_l1 ag129 rfl) ?_; refine yv y_mv <| yv y_mv <| yv (y_idxR Tryz.underlying129 sz221 rfl rfl (by omega) (by exact RdS.own pkk)) ?_; refine yv (y_fR 0 219 Tryz.underlying221 sz219) ?_; refine yv (y_idxAR Tryz.underlying219 sz218 rfl rfl (by omega)) ?_; refine yv (y_fR 0 3 Tryz.underlying218 sz3) ?_; refine yv (y_rc ag3 rfl hrow hk 0 rfl) ?_; refine yv (y_eql rfl rfl) ?_; refine yv y_mv ?_; apply Hd.andg 14 33 47 [(0, _), (1, _), (6, _), (7, _)] rfl sbq
   ·intro hg7_33
    try simp only [hyA, hyB, hyC, ne_eq] at hg7_33
    simp only [List.take]; refine y2 y_mv <| y2 y_np <| y2 (y_f 0 129 Tryz.underlying133 sz129) ?_; refine y2 (y_l1 ag129 rfl) ?_; refine y2 y_mv <| y2 y_mv <| y2 (y_idxR Tryz.underlying129 sz221 rfl rfl (by omega) (by exact RdS.own pkk)) ?_; refine y2 (y_fR 0 219 Tryz.underlying221 sz219) ?_; refine y2 (y_idxAR Tryz.underlying219 sz218 rfl rfl (by omega)) ?_; refine y2 (y_fR 1 3 Tryz.underlying218 sz3) ?_; refine y2 (y_rc ag3 rfl hrow hk 1 rfl) ?_; refine y2 y_mv <| y2 (y_eql rfl rfl) ?_; refine yv (y_pickT rfl rfl) ?_; refine Hd.nil ?_; exact Hd.mq
   ·intro _
    simp only [List.take]; refine n1 <| n1 <| n1 <| n1 <| n1 <| n1 <| n1 <| n1 <| n1 <| n1 <| n1 <| n1 <| n1 <| yv (y_pickF rfl rfl) ?_; refine Hd.nil ?_; exact Hd.mq
   simp only [List.drop]; refine fk [(0, _), (1, _), (6, _), (7, _), (47, _)] hK11 ?_; refine Hd.cond rfl (fun hc2 => ?_) (fun hc2 => ?_)
   ·try simp only [hyA, hyB, hyC, ne_eq] at hc2
    refine sr fun _ hK12 => ?_
    refine yv y_mv <| yv y_mv <| yv y_as <| yv y_as <| fk [(4, _), (5, _)] hK12 ?_; refine Hd.ret <| Hd.inBret <| Hd.thenRet <| Hd.thenRet <| Hd.inBret <| Hd.inBret <| Hd.thenRet <| Hd.thenRet <| Hd.inBret <| Hd.thenRet ?_
    have e : w.at fd = some (n, k) := (atW_iff hw.uq).2 ⟨hk, x, hx, hc2⟩
    rw [e]; exact Hd.ret2 rfl () rfl rfl rfl (rw_fold hi)
   ·try simp only [hyA, hyB, hyC, ne_eq] at hc2
    refine Hd.skip <| Hd.inB <| Hd.toK hK10 ?_; refine Hd.region <| yv y_mv <| yv (y_addn rfl rfl (by simp only [InK]; omega)) ?_; refine yv y_as <| Hd.nil <| slots [(0, _), (1, _), (6, _), (7, _)] sbq ?_; refine thenN ?_
    have hne : ∀ q, q < k + 1 → ¬ ((x.e q).what = 1 ∧ (x.e q).fd = fd) := by
     intro q hq
     rcases (show q < k ∨ q = k by omega) with h | rfl
     ·exact hp1.2 q h
     ·rintro ⟨h1, h2⟩
      rcases hc2 with h | h
      ·exact h h1
      ·exact h h2
    exact Hd.again (k + 1) (by omega) sbq (Ent.sep (.pure ⟨hk, hne⟩ enn))
  ·try simp only [hyA, hyB, hyC, ne_eq] at hc1
   have hk2 : k = 2 := by omega
   refine Hd.exit <| Hd.thenExit <| Hd.thenExit <| Hd.inBexit <| Hd.inB <| Hd.toK hK6 ?_; refine Hd.region <| yv y_mv <| yv (y_addn rfl rfl (by simp only [InK]; omega)) ?_; refine yv y_as <| Hd.nil <| slots [(0, _), (1, _), (6, _)] sbq ?_; refine thenN ?_
   have hne : ∀ m y, m < n + 1 → w.ws[m]? = some y → atE y fd = none := by
    intro m y hm hy
    rcases (show m < n ∨ m = n by omega) with h | rfl
    ·exact hp0.2 m y h hy
    ·rw [hx] at hy; obtain rfl := Option.some.inj hy
     exact atE_no fun q hq => hp1.2 q (by omega)
   exact Hd.again (n + 1) (by omega) sbq (Ent.sep (.pure ⟨hn, hne⟩ enn))
 ·try simp only [hyA, hyB, hyC, ne_eq] at hc0
  refine Hd.exit <| Hd.thenExit <| Hd.thenExit <| Hd.inBexit <| Hd.toK hK2 ?_; refine sr fun _ hK13 => ?_
  refine yv y_as <| yv y_as <| fk [(4, _), (5, _)] hK13 ?_; refine Hd.ret ?_
  have e : w.at fd = none := atW_none.2 fun y hy => by
   obtain ⟨m, hm, e⟩ := List.getElem_of_mem hy
   exact hp0.2 m y (by omega) (by rw [List.getElem?_eq_getElem hm, e])
  rw [e]; exact Hd.ret2 rfl () rfl rfl rfl (rw_fold hi)
theorem rset_inn {rs : List Row} {n k o : Nat} {x : WireA} {j : RwI} {v : Int} (h : rs[n]? = some (x, j)) (hk : k < 2) (ho : o = n * 20 + k * 8 + 6) : (rs.flatMap encRW).set o (.int .u64 v) = (rs.set n (x.up k fun e => { e with inn := v }, j)).flatMap encRW :=
 rset h hk (j := 6) (by decide) ho (by rw [up_at]; rfl) (by rw [up_ne _ _ (by omega)]) rfl
theorem rset_out {rs : List Row} {n k o : Nat} {x : WireA} {j : RwI} {v : Int} (h : rs[n]? = some (x, j)) (hk : k < 2) (ho : o = n * 20 + k * 8 + 7) : (rs.flatMap encRW).set o (.int .u64 v) = (rs.set n (x.up k fun e => { e with out := v }, j)).flatMap encRW :=
 rset h hk (j := 7) (by decide) ho (by rw [up_at]; rfl) (by rw [up_ne _ _ (by omega)]) rfl
theorem rset_shut {rs : List Row} {n k o : Nat} {x : WireA} {j : RwI} {v : Bool} (h : rs[n]? = some (x, j)) (hk : k < 2) (ho : o = n * 20 + k * 8 + 5) : (rs.flatMap encRW).set o (.bool v) = (rs.set n (x.up k fun e => { e with shut := v }, j)).flatMap encRW :=
 rset h hk (j := 5) (by decide) ho (by rw [up_at]; rfl) (by rw [up_ne _ _ (by omega)]) rfl
theorem rset_what {rs : List Row} {n k o : Nat} {x : WireA} {j : RwI} {v : Int} (h : rs[n]? = some (x, j)) (hk : k < 2) (ho : o = n * 20 + k * 8 + 0) : (rs.flatMap encRW).set o (.int .i64 v) = (rs.set n (x.up k fun e => { e with what := v }, j)).flatMap encRW :=
 rset h hk (j := 0) (by decide) ho (by rw [up_at]; rfl) (by rw [up_ne _ _ (by omega)]) rfl
theorem row_set {rs : List Row} {n : Nat} {p q : Row} (h : rs[n]? = some p) : (rs.set n q)[n]? = some q := by
 rw [List.getElem?_set_self (List.getElem?_eq_some_iff.1 h).1]
theorem up_b (x : WireA) (k : Nat) {f : EndA → EndA} (hf : ∀ e, (f e).b = e.b) (j : Nat) : ((x.up k f).e j).b = (x.e j).b := by
 by_cases e : j = k
 ·subst e; rw [up_at]; exact hf _
 ·rw [up_ne _ _ e]
abbrev OwS (i : Rows_) (rs : List Row) : SP := own 221 20 i.2.1 i.1.length i.2.2 (rs.flatMap encRW)
theorem rrise_ct (L : List SP) (b : Nat) (w : WA) (n : Nat) (x : WireA) (hx : w.ws[n]? = some x) (k : Nat) (hk : k < 2) (vi vo : Bool) : Ct Tryz.prog 176 #[.pointer (some ⟨b, 0, none⟩), .int .i64 (n : Int), .int .i64 (k : Int), .bool vi, .bool vo] (RwP b w :: L) (fun _ : Unit => .tuple #[]) (fun _ : Unit => RwP b (w.setW n (x.up k (riseE vi vo))) :: L) := by
 refine Ct.o5 Tryz.func176 ?_; intro E
 show Hd E 70 _ _ _ _
 refine Hd.rw .here (fun i hi => ?_)
 have hrl := rows_n hi
 obtain ⟨j, hrow⟩ := row_at hi hx
 have hn : n < i.1.length := (List.getElem?_eq_some_iff.1 hrow).1
 have hrow2 : (i.1.set n (x.up k (riseE vi false), j))[n]? = some (x.up k (riseE vi false), j) := row_set hrow
 refine Hd.cutK (ι := Unit) [(0, _), (1, _), (2, _), (4, _)] (fun _ => []) (fun _ => RwH b w i.1.length i.2.1 i.2.2 :: OwS i (i.1.set n (x.up k (riseE vi false), j)) :: Bag Sd i.1 :: L) ?_ ?_ ⟨rfl, rfl, rfl, rfl, trivial⟩
 ·refine sr fun _ hK1 => ?_
  refine yv y_mv <| yv y_mv ?_; apply Hd.andg 12 11 23 [(0, _), (1, _), (2, _), (4, _)] rfl sbq
  ·intro hg0_11
   try simp only [hyA, hyB, hyC, ne_eq] at hg0_11
   simp only [List.take]; refine y2 y_mv <| y2 y_np <| y2 (y_f 0 129 Tryz.underlying133 sz129) ?_; refine y2 (y_l1 ag129 rfl) ?_; refine y2 y_mv <| y2 y_mv <| y2 (y_idxR Tryz.underlying129 sz221 rfl rfl (by omega) (by exact RdS.own pkk)) ?_; refine y2 (y_fR 0 219 Tryz.underlying221 sz219) ?_; refine y2 (y_idxAR Tryz.underlying219 sz218 rfl rfl (by omega)) ?_; refine y2 (y_fR 2 4 Tryz.underlying218 sz4) ?_; refine y2 (y_rc ag4 rfl hrow hk 2 rfl) ?_; refine yv (y_pickT rfl rfl) ?_; refine Hd.nil ?_; exact Hd.mq
  ·intro _
   simp only [List.take]; refine n1 <| n1 <| n1 <| n1 <| n1 <| n1 <| n1 <| n1 <| n1 <| n1 <| n1 <| yv (y_pickF rfl rfl) ?_; refine Hd.nil ?_; exact Hd.mq
  simp only [List.drop]; refine fk [(0, _), (1, _), (2, _), (4, _), (23, _)] hK1 ?_; refine Hd.cond rfl (fun hc0 => ?_) (fun hc0 => ?_)
  ·try simp only [hyA, hyB, hyC, ne_eq] at hc0
   have h2 : x.up k (fun e => { e with inn := IntKind.u64.wrap ((x.e k).inn + 1) }) = x.up k (riseE vi false) := up_eq (by simp [riseE, hc0.1, hc0.2])
   refine Hd.drawsH ([RwH b w i.1.length i.2.1 i.2.2, OwR i]) (fun j => !([16].contains j)) mixed ?_; simp only [List.length, Nat.zero_add, Nat.reduceAdd]; refine tH 0 rfl y_mv ?_; refine tH 1 rfl y_np ?_; refine tH 2 rfl (y_f 0 129 Tryz.underlying133 sz129) ?_; refine tH 3 rfl (y_l1 ag129 rfl) ?_; refine tH 4 rfl y_mv ?_; refine tH 5 rfl y_mv ?_; refine tH 6 rfl (y_idxR Tryz.underlying129 sz221 rfl rfl (by omega) (by exact RdS.own pkk)) ?_; refine tH 7 rfl (y_fR 0 219 Tryz.underlying221 sz219) ?_; refine tH 8 rfl (y_idxAR Tryz.underlying219 sz218 rfl rfl (by omega)) ?_; refine tH 9 rfl (y_fR 6 30 Tryz.underlying218 sz30) ?_; refine tH 10 rfl (y_rc ag30 rfl hrow hk 6 rfl) ?_; refine tH 11 rfl (y_add rfl rfl) ?_; refine onlyH 12 rfl kq ?_; refine yv (y_idxR Tryz.underlying129 sz221 rfl rfl (by omega) (by exact RdS.own pkk)) ?_; refine Hd.nil <| thenN <| heldK (J := (fun j => !([16].contains j))) (i := 12) sq ?_
   refine onlyH 13 rfl kq ?_; refine yv (y_fR 0 219 Tryz.underlying221 sz219) ?_; refine Hd.nil <| thenN <| heldK (J := (fun j => !([16].contains j))) (i := 13) sq ?_; refine onlyH 14 rfl kq ?_; refine yv (y_idxAR Tryz.underlying219 sz218 rfl rfl (by omega)) ?_; refine Hd.nil <| thenN <| heldK (J := (fun j => !([16].contains j))) (i := 14) sq ?_; refine tH 15 rfl (y_fR 6 30 Tryz.underlying218 sz30) ?_; refine onlyH 16 rfl kq ?_; refine Hd.storeO1 sz30 rfl rfl rfl pkk (by rw [rows_len encRW_len]; omega) ?_
   try simp only [List.set_cons_zero, List.set_cons_succ]
   refine Hd.nil <| thenN <| Hd.heldN (J := (fun j => !([16].contains j))) (i := 16) rfl ?_; refine endH kq ?_; rw [rset_inn hrow hk (by omega)]; refine slots [(0, _), (1, _), (2, _), (4, _)] sbq ?_; refine thenN ?_; exact Hd.meet () sbq (Ent.sep (.pick pkk (.eq pkk (own_eq3 rfl rfl (by rw [h2])) enn)))
  ·try simp only [hyA, hyB, hyC, ne_eq] at hc0
   have h2 : x.up k (riseE vi false) = x := up_id (by
    have h : (vi && (x.e k).rd) = false := by rcases hc0 with h | h <;> simp [h]
    unfold riseE; rw [if_neg (by rw [h]; simp), if_neg (by simp)])
   have h3 : i.1.set n (x, j) = i.1 := by
    obtain ⟨hl, e⟩ := List.getElem?_eq_some_iff.1 hrow
    rw [← e, List.set_getElem_self]
   refine Hd.skip <| thenN ?_; exact Hd.meet () sbq (Ent.sep (.pick pkk (.eq pkk (own_eq3 rfl rfl (by rw [h2, h3])) enn)))
 ·intro _
  refine sr fun _ hK2 => ?_
  refine yv y_mv <| yv y_mv ?_; apply Hd.andg 12 41 53 [(0, _), (1, _), (2, _)] rfl sbq
  ·intro hg2_41
   try simp only [hyA, hyB, hyC, ne_eq] at hg2_41
   simp only [List.take]; refine y2 y_mv <| y2 y_np <| y2 (y_f 0 129 Tryz.underlying133 sz129) ?_; refine y2 (y_l1 ag129 rfl) ?_; refine y2 y_mv <| y2 y_mv <| y2 (y_idxR Tryz.underlying129 sz221 rfl rfl (by omega) (by exact RdS.own pkk)) ?_; refine y2 (y_fR 0 219 Tryz.underlying221 sz219) ?_; refine y2 (y_idxAR Tryz.underlying219 sz218 rfl rfl (by omega)) ?_; refine y2 (y_fR 3 4 Tryz.underlying218 sz4) ?_; refine y2 (y_to (v' := .bool (x.e k).wr) (y_rc ag4 rfl hrow2 hk 3 rfl) (by (rw [up_at]; rfl))) ?_; refine yv (y_pickT rfl rfl) ?_; refine Hd.nil ?_; exact Hd.mq
  ·intro _
   simp only [List.take]; refine n1 <| n1 <| n1 <| n1 <| n1 <| n1 <| n1 <| n1 <| n1 <| n1 <| n1 <| yv (y_pickF rfl rfl) ?_; refine Hd.nil ?_; exact Hd.mq
  simp only [List.drop]; refine fk [(0, _), (1, _), (2, _), (53, _)] hK2 ?_; refine Hd.cond rfl (fun hc1 => ?_) (fun hc1 => ?_)
  ·try simp only [hyA, hyB, hyC, ne_eq] at hc1
   refine Hd.drawsH ([RwH b w i.1.length i.2.1 i.2.2, OwS i (i.1.set n (x.up k (riseE vi false), j))]) (fun j => !([16].contains j)) mixed ?_; simp only [List.length, Nat.zero_add, Nat.reduceAdd]; refine tH 0 rfl y_mv ?_; refine tH 1 rfl y_np ?_; refine tH 2 rfl (y_f 0 129 Tryz.underlying133 sz129) ?_; refine tH 3 rfl (y_l1 ag129 rfl) ?_; refine tH 4 rfl y_mv ?_; refine tH 5 rfl y_mv ?_; refine tH 6 rfl (y_idxR Tryz.underlying129 sz221 rfl rfl (by omega) (by exact RdS.own pkk)) ?_; refine tH 7 rfl (y_fR 0 219 Tryz.underlying221 sz219) ?_; refine tH 8 rfl (y_idxAR Tryz.underlying219 sz218 rfl rfl (by omega)) ?_; refine tH 9 rfl (y_fR 7 30 Tryz.underlying218 sz30) ?_; refine tH 10 rfl (y_to (v' := .int .u64 (x.e k).out) (y_rc ag30 rfl hrow2 hk 7 rfl) (by (rw [up_at]; simp [riseE]))) ?_; refine tH 11 rfl (y_add rfl rfl) ?_; refine onlyH 12 rfl kq ?_; refine yv (y_idxR Tryz.underlying129 sz221 rfl rfl (by omega) (by exact RdS.own pkk)) ?_
   refine Hd.nil <| thenN <| heldK (J := (fun j => !([16].contains j))) (i := 12) sq ?_; refine onlyH 13 rfl kq ?_; refine yv (y_fR 0 219 Tryz.underlying221 sz219) ?_; refine Hd.nil <| thenN <| heldK (J := (fun j => !([16].contains j))) (i := 13) sq ?_; refine onlyH 14 rfl kq ?_; refine yv (y_idxAR Tryz.underlying219 sz218 rfl rfl (by omega)) ?_; refine Hd.nil <| thenN <| heldK (J := (fun j => !([16].contains j))) (i := 14) sq ?_; refine tH 15 rfl (y_fR 7 30 Tryz.underlying218 sz30) ?_; refine onlyH 16 rfl kq ?_; refine Hd.storeO1 sz30 rfl rfl rfl pkk (by rw [rows_len encRW_len, List.length_set]; omega) ?_
   try simp only [List.set_cons_zero, List.set_cons_succ]
   refine Hd.nil <| thenN <| Hd.heldN (J := (fun j => !([16].contains j))) (i := 16) rfl ?_; refine endH kq ?_; rw [rset_out hrow2 hk (by omega), List.set_set, up_up]; refine slots [] sbq ?_
   have h2 : (x.up k fun e => { riseE vi false e with out := IntKind.u64.wrap ((x.e k).out + 1) }) = x.up k (riseE vi vo) := up_eq (by simp [riseE, hc1.1, hc1.2])
   rw [h2]; exact Hd.end0 rfl () rfl (fun q s => rw_head (x' := x.up k (riseE vi vo)) hi hrow (fun j _ => up_b x k (f := riseE vi vo) (fun _ => rfl) j) rfl q (Ent.sep enn q s))
  ·try simp only [hyA, hyB, hyC, ne_eq] at hc1
   refine Hd.skip ?_
   have h2 : x.up k (riseE vi false) = x.up k (riseE vi vo) := up_eq (by
    have h : (vo && (x.e k).wr) = false := by rcases hc1 with h | h <;> simp [h]
    unfold riseE; congr 1; rw [if_neg (by simp), if_neg (by rw [h]; simp)])
   rw [h2]; exact Hd.end0 rfl () rfl (fun q s => rw_head (x' := x.up k (riseE vi vo)) hi hrow (fun j _ => up_b x k (f := riseE vi vo) (fun _ => rfl) j) rfl q (Ent.sep enn q s))
theorem setW_setW {w : WA} {n : Nat} {x y : WireA} : (w.setW n x).setW n y = w.setW n y := by
 show ({ w with ws := _ } : WA) = { w with ws := _ }
 congr 1
 show (w.ws.set n x).set n y = _
 rw [List.set_set]
theorem rshut_ct (L : List SP) (b : Nat) (w : WA) (n : Nat) (x : WireA) (hx : w.ws[n]? = some x) (k : Nat) (hk : k < 2) : Ct Tryz.prog 121 #[.pointer (some ⟨b, 0, none⟩), .int .i64 (n : Int), .int .i64 (k : Int)] (RwP b w :: L) (fun _ : Unit => .tuple #[]) (fun _ : Unit => RwP b (w.setW n (shutW x k)) :: L) := by
 refine Ct.o3 Tryz.func121 ?_; intro E
 show Hd E 33 _ _ _ _
 refine Hd.rw .here (fun i hi => ?_)
 have hrl := rows_n hi
 obtain ⟨j, hrow⟩ := row_at hi hx
 have hn : n < i.1.length := (List.getElem?_eq_some_iff.1 hrow).1
 have hk1 : 1 - k < 2 := by omega
 refine sr fun _ hK1 => ?_
 refine yv y_mv <| yv y_np <| yv (y_f 0 129 Tryz.underlying133 sz129) ?_; refine yv (y_l1 ag129 rfl) ?_; refine yv y_mv <| yv y_mv <| yv (y_idxR Tryz.underlying129 sz221 rfl rfl (by omega) (by exact RdS.own pkk)) ?_; refine yv (y_fR 0 219 Tryz.underlying221 sz219) ?_; refine yv (y_idxAR Tryz.underlying219 sz218 rfl rfl (by omega)) ?_; refine yv (y_fR 5 4 Tryz.underlying218 sz4) ?_; refine yv (y_rc ag4 rfl hrow hk 5 rfl) ?_; refine yv (y_not rfl) ?_; refine fk [(0, _), (1, _), (2, _), (17, _)] hK1 ?_; refine Hd.cond rfl (fun hc0 => ?_) (fun hc0 => ?_)
 ·try simp only [hyA, hyB, hyC, ne_eq] at hc0
  refine sr fun _ hK2 => ?_
  refine yv y_mv <| yv y_np <| yv (y_f 0 129 Tryz.underlying133 sz129) ?_; refine yv (y_l1 ag129 rfl) ?_; refine yv y_mv <| yv y_mv <| yv (y_idxR Tryz.underlying129 sz221 rfl rfl (by omega) (by exact RdS.own pkk)) ?_; refine yv (y_fR 0 219 Tryz.underlying221 sz219) ?_; refine yv (y_idxAR Tryz.underlying219 sz218 rfl rfl (by omega)) ?_; refine yv (y_fR 5 4 Tryz.underlying218 sz4) ?_; refine Hd.storeO1 sz4 rfl rfl rfl pkk (by rw [rows_len encRW_len]; omega) ?_
  try simp only [List.set_cons_zero, List.set_cons_succ]
  refine Hd.nil ?_; rw [rset_shut hrow hk (by omega)]; refine Hd.heap (RwP b (w.setW n (x.up k fun e => { e with shut := true })) :: L) (fun q s => rw_head (x' := x.up k fun e => { e with shut := true }) hi hrow (fun j _ => up_b x k (f := fun e => { e with shut := true }) (fun _ => rfl) j) rfl q (Ent.sep enn q s)) ?_; refine sk [(0, _), (1, _), (2, _)] hK2 ?_; refine Hd.region <| yv y_mv <| yv y_mv <| yv y_mv <| yv (y_to (v' := .int .i64 ((1 - k : Nat) : Int)) (y_subn rfl rfl (by simp only [InK]; omega)) (by (congr 1; omega))) ?_; refine callE rfl fk176 (rrise_ct _ b _ n _ (setW_self hx) (1 - k) hk1 true false) sq ?_; intro _; rw [setW_setW]; refine Hd.nil <| slots [] sbq ?_; rw [show shutW x k = (x.up k fun e => { e with shut := true }).up (1 - k) (riseE true false) from if_neg (by simpa using hc0)]; exact Hd.end0 rfl () rfl sq
 ·try simp only [hyA, hyB, hyC, ne_eq] at hc0
  refine Hd.skip ?_; rw [show shutW x k = x from if_pos (by simpa using hc0), setW_same hx]; exact Hd.end0 rfl () rfl (rw_fold hi)
theorem rclose_ct (L : List SP) (b : Nat) (w : WA) (n : Nat) (x : WireA) (hx : w.ws[n]? = some x) (k : Nat) (hk : k < 2) : Ct Tryz.prog 123 #[.pointer (some ⟨b, 0, none⟩), .int .i64 (n : Int), .int .i64 (k : Int)] (RwP b w :: L) (fun _ : Unit => .tuple #[]) (fun _ : Unit => RwP b (w.setW n (closeW x k)) :: L) := by
 refine Ct.o3 Tryz.func123 ?_; intro E
 show Hd E 33 _ _ _ _
 refine Hd.rw .here (fun i hi => ?_)
 have hrl := rows_n hi
 obtain ⟨j, hrow⟩ := row_at hi hx
 have hn : n < i.1.length := (List.getElem?_eq_some_iff.1 hrow).1
 have hk1 : 1 - k < 2 := by omega
 refine sr fun _ hK1 => ?_
 refine yv y_mv <| yv y_mv <| yv y_mv <| yv (y_to (v' := .int .i64 ((1 - k : Nat) : Int)) (y_subn rfl rfl (by simp only [InK]; omega)) (by (congr 1; omega))) ?_; refine yv y_mv <| yv y_np <| yv (y_f 0 129 Tryz.underlying133 sz129) ?_; refine yv (y_l1 ag129 rfl) ?_; refine yv y_mv <| yv y_mv <| yv (y_idxR Tryz.underlying129 sz221 rfl rfl (by omega) (by exact RdS.own pkk)) ?_; refine yv (y_fR 0 219 Tryz.underlying221 sz219) ?_; refine yv (y_idxAR Tryz.underlying219 sz218 rfl rfl (by omega)) ?_; refine yv (y_fR 5 4 Tryz.underlying218 sz4) ?_; refine yv (y_rc ag4 rfl hrow hk 5 rfl) ?_; refine yv (y_not rfl) ?_; refine Hd.heap (RwP b w :: L) (rw_fold hi) ?_; refine callE rfl fk176 (rrise_ct _ b w n x hx (1 - k) hk1 (!(x.e k).shut) true) sq ?_; intro _; refine fk [(0, _), (1, _), (2, _)] hK1 ?_; refine Hd.rw .here (fun i' hi' => ?_)
 have hx1 : (w.setW n (x.up (1 - k) (riseE (!(x.e k).shut) true))).ws[n]? = some (x.up (1 - k) (riseE (!(x.e k).shut) true)) := setW_self hx
 have hrl' := rows_n hi'
 obtain ⟨j', hrow'⟩ := row_at hi' hx1
 have hn' : n < i'.1.length := (List.getElem?_eq_some_iff.1 hrow').1
 refine Hd.region <| yv y_mv <| yv y_np <| yv (y_f 0 129 Tryz.underlying133 sz129) ?_; refine yv (y_l1 ag129 rfl) ?_; refine yv y_mv <| yv y_mv <| yv (y_idxR Tryz.underlying129 sz221 rfl rfl (by omega) (by exact RdS.own pkk)) ?_; refine yv (y_fR 0 219 Tryz.underlying221 sz219) ?_; refine yv (y_idxAR Tryz.underlying219 sz218 rfl rfl (by omega)) ?_; refine yv (y_fR 0 3 Tryz.underlying218 sz3) ?_; refine Hd.storeO1 sz3 rfl rfl rfl pkk (by rw [rows_len encRW_len]; omega) ?_
 try simp only [List.set_cons_zero, List.set_cons_succ]
 refine Hd.nil <| slots [] sbq ?_; rw [rset_what hrow' hk (by omega)]
 have e : w.setW n (closeW x k) = (w.setW n (x.up (1 - k) (riseE (!(x.e k).shut) true))).setW n ((x.up (1 - k) (riseE (!(x.e k).shut) true)).up k fun e => { e with what := 3 }) := by rw [setW_setW]; rfl
 rw [e]; exact Hd.end0 rfl () rfl (fun q s => rw_head (x' := (x.up (1 - k) (riseE (!(x.e k).shut) true)).up k fun e => { e with what := 3 }) hi' hrow' (fun j _ => up_b _ k (f := fun e => { e with what := 3 }) (fun _ => rfl) j) rfl q (Ent.sep enn q s))
theorem router1_ct (L : List SP) (b : Nat) (w : WA) (n : Nat) (x : WireA) (hx : w.ws[n]? = some x) : Ct Tryz.prog 177 #[.pointer (some ⟨b, 0, none⟩), .int .i64 (n : Int)] (RwP b w :: L) (fun _ : Unit => .bool (decide ((x.e 1).what = 2))) (fun _ : Unit => RwP b w :: L) := by
 refine Ct.o2 Tryz.func177 ?_; intro E
 show Hd E 29 _ _ _ _
 refine Hd.rw .here (fun i hi => ?_)
 have hrl := rows_n hi
 obtain ⟨j, hrow⟩ := row_at hi hx
 have hn : n < i.1.length := (List.getElem?_eq_some_iff.1 hrow).1
 refine sr fun _ hK1 => ?_
 refine yv y_as <| fk [(0, _), (1, _)] hK1 ?_; refine sr fun _ hK2 => ?_
 refine yv y_mv <| yv (y_geq rfl rfl) ?_; refine yv y_mv ?_; apply Hd.andg 8 7 15 [(0, _), (1, _)] rfl sbq
 ·intro _
  simp only [List.take]; refine y2 y_mv <| y2 y_mv <| y2 y_np <| y2 (y_f 0 129 Tryz.underlying133 sz129) ?_; refine y2 (y_l1 ag129 rfl) ?_; refine y2 (y_len Tryz.underlying129 rfl) ?_; refine y2 (y_lss rfl rfl) ?_; refine yv (y_pickT rfl rfl) ?_; refine Hd.nil ?_; exact Hd.mq
 ·intro _
  simp only [List.take]; refine n1 <| n1 <| n1 <| n1 <| n1 <| n1 <| n1 <| yv (y_pickF rfl rfl) ?_; refine Hd.nil ?_; exact Hd.mq
 simp only [List.drop]; refine yv y_mv ?_; apply Hd.andg (q := decide ((x.e 1).what = 2)) 12 16 28 [] rfl sbq
 ·intro hg1_16
  try simp only [hyA, hyB, hyC, ne_eq] at hg1_16
  simp only [List.take]; refine y2 y_mv <| y2 y_np <| y2 (y_f 0 129 Tryz.underlying133 sz129) ?_; refine y2 (y_l1 ag129 rfl) ?_; refine y2 y_mv <| y2 (y_idxR Tryz.underlying129 sz221 rfl rfl (by omega) (by exact RdS.own pkk)) ?_; refine y2 (y_fR 0 219 Tryz.underlying221 sz219) ?_; refine y2 (y_idxAR Tryz.underlying219 sz218 rfl rfl (by decide)) ?_; refine y2 (y_f 0 3 Tryz.underlying218 sz3) ?_; refine y2 (y_rc (o := n * 20 + 0 + 1 * 8 + 0) ag3 rfl hrow (show 1 < 2 from Nat.lt_succ_self 1) 0 rfl) ?_; refine y2 (y_eql rfl rfl) ?_; refine yv (y_pickT rfl rfl) ?_; refine Hd.nil ?_; exact Hd.mq
 ·intro _
  simp only [List.take]; refine n1 <| n1 <| n1 <| n1 <| n1 <| n1 <| n1 <| n1 <| n1 <| n1 <| n1 <| yv (y_pickF rfl rfl) ?_; refine Hd.nil ?_; exact Hd.mq
 simp only [List.drop]; refine yv (y_to (v' := .bool (decide ((x.e 1).what = 2))) y_as (by (congr 1; simp; omega))) ?_; refine fk [(4, _)] hK2 ?_; refine Hd.ret ?_; exact Hd.ret1 rfl () rfl (rw_fold hi)
theorem router0_ct (L : List SP) (b : Nat) (w : WA) (n : Int) (hn : n < 0 ∨ (w.ws.length : Int) ≤ n) : Ct Tryz.prog 177 #[.pointer (some ⟨b, 0, none⟩), .int .i64 n] (RwP b w :: L) (fun _ : Unit => .bool false) (fun _ : Unit => RwP b w :: L) := by
 refine Ct.o2 Tryz.func177 ?_; intro E
 show Hd E 29 _ _ _ _
 refine Hd.rw .here (fun i hi => ?_)
 have hrl := rows_n hi
 refine sr fun _ hK1 => ?_
 refine yv y_as <| fk [(0, _), (1, _)] hK1 ?_; refine sr fun _ hK2 => ?_
 refine yv y_mv <| yv (y_geq rfl rfl) ?_; refine yv y_mv <| Hd.part (gd := 7) rfl (fun hg1_7 => ?_) (fun hg1_7 => ?_)
 ·try simp only [hyA, hyB, hyC, ne_eq] at hg1_7
  refine y2 y_mv <| y2 y_mv <| y2 y_np <| y2 (y_f 0 129 Tryz.underlying133 sz129) ?_; refine y2 (y_l1 ag129 rfl) ?_; refine y2 (y_len Tryz.underlying129 rfl) ?_; refine y2 (y_lss rfl rfl) ?_; refine yv (y_pickT rfl rfl) ?_; refine yv y_mv <| Hd.part (gd := 16) rfl (fun hg1_16 => ?_) (fun hg1_16 => ?_)
  ·try simp only [hyA, hyB, hyC, ne_eq] at hg1_16
   exfalso; omega
  ·try simp only [hyA, hyB, hyC, ne_eq] at hg1_16
   refine n1 <| n1 <| n1 <| n1 <| n1 <| n1 <| n1 <| n1 <| n1 <| n1 <| n1 <| yv (y_pickF rfl rfl) ?_; refine yv y_as <| fk [(4, _)] hK2 ?_; refine Hd.ret ?_; exact Hd.ret1 rfl () rfl (rw_fold hi)
 ·try simp only [hyA, hyB, hyC, ne_eq] at hg1_7
  refine n1 <| n1 <| n1 <| n1 <| n1 <| n1 <| n1 <| yv (y_pickF rfl rfl) ?_; refine yv y_mv <| Hd.part (gd := 16) rfl (fun hg1_16 => ?_) (fun hg1_16 => ?_)
  ·try simp only [hyA, hyB, hyC, ne_eq] at hg1_16
   exfalso; simp at hg1_16; done
  ·try simp only [hyA, hyB, hyC, ne_eq] at hg1_16
   refine n1 <| n1 <| n1 <| n1 <| n1 <| n1 <| n1 <| n1 <| n1 <| n1 <| n1 <| yv (y_pickF rfl rfl) ?_; refine yv y_as <| fk [(4, _)] hK2 ?_; refine Hd.ret ?_; exact Hd.ret1 rfl () rfl (rw_fold hi)
theorem router_ct (L : List SP) (b : Nat) (w : WA) (n : Int) :
  Ct Tryz.prog 177 #[.pointer (some ⟨b, 0, none⟩), .int .i64 n] (RwP b w :: L) (fun _ : Unit => .bool (outW w n).isSome) (fun _ => RwP b w :: L) := by
 by_cases h : n < 0 ∨ (w.ws.length : Int) ≤ n
 ·rw [outW_off h]
  exact router0_ct L b w n h
 ·obtain ⟨k, rfl⟩ : ∃ k : Nat, n = (k : Int) := ⟨n.toNat, by omega⟩
  have hx : w.ws[k]? = some w.ws[k] := List.getElem?_eq_getElem (by omega)
  have := router1_ct L b w k _ hx
  rw [outW_nat hx]
  by_cases h2 : (w.ws[k].e 1).what = 2
  ·rw [if_pos h2]; rw [decide_eq_true h2] at this; exact this
  ·rw [if_neg h2]; rw [decide_eq_false h2] at this; exact this
def RwI.upB (j : RwI) (k : Nat) (a : Option Addr) (c : Nat) : RwI := { j with a := fun q => if q = k then a else j.a q, c := fun q => if q = k then c else j.c q }
theorem upB_a (j : RwI) (k : Nat) (a : Option Addr) (c : Nat) : (j.upB k a c).a k = a ∧ (j.upB k a c).c k = c := ⟨if_pos rfl, if_pos rfl⟩
theorem upB_ne (j : RwI) {k q : Nat} (a : Option Addr) (c : Nat) (h : q ≠ k) : (j.upB k a c).a q = j.a q ∧ (j.upB k a c).c q = j.c q := ⟨if_neg h, if_neg h⟩
theorem rset_b {rs : List Row} {n k o m c : Nat} {x : WireA} {j : RwI} {l : List UInt8} {a : Option Addr} (h : rs[n]? = some (x, j)) (hk : k < 2) (ho : o = n * 20 + k * 8 + 4) (hl : l.length = m) : (rs.flatMap encRW).set o (.slice a m c) = (rs.set n (x.up k fun e => { e with b := l }, j.upB k a c)).flatMap encRW := by
 refine rset h hk (j := 4) (by decide) ho ?_ ?_ rfl
 ·rw [up_at, (upB_a j k a c).1, (upB_a j k a c).2, ← hl]; rfl
 ·rw [up_ne _ _ (by omega), (upB_ne j a c (by omega : 1 - k ≠ k)).1, (upB_ne j a c (by omega : 1 - k ≠ k)).2]
theorem sd_b {k c : Nat} {x : WireA} {j : RwI} {l : List UInt8} {a : Option Addr} {L : List SP} (hk : k < 2) : ∀ h, sep (own 5 1 a l.length c (bsl l) :: SdB (x, j) (1 - k) :: SdW (x, j) :: L) h → sep (Sd (x.up k fun e => { e with b := l }, j.upB k a c) :: L) h := fun h s => by
 refine sd_fold hk h ?_; unfold SdL SdB; dsimp only; rw [up_at, up_ne _ _ (by omega : 1 - k ≠ k), (upB_a j k a c).1, (upB_a j k a c).2, (upB_ne j a c (by omega : 1 - k ≠ k)).1, (upB_ne j a c (by omega : 1 - k ≠ k)).2]; exact s
theorem rget_ct (L : List SP) (b : Nat) (w : WA) (n : Nat) (x : WireA) (hx : w.ws[n]? = some x) (k : Nat) (hk : k < 2) (many : Int) (hm : 0 ≤ many) : Ct Tryz.prog 118 #[.pointer (some ⟨b, 0, none⟩), .int .i64 (n : Int), .int .i64 (k : Int), .int .i64 many] (RwP b w :: L) (fun q_ : Option Addr × Nat => .slice q_.1 ((x.e k).b.take many.toNat).length q_.2) (fun q_ : Option Addr × Nat => own 5 1 q_.1 ((x.e k).b.take many.toNat).length ((x.e k).b.take many.toNat).length (bsl ((x.e k).b.take many.toNat)) :: RwP b (w.setW n (takeW x k many.toNat)) :: L) := by
 refine Ct.o4 Tryz.func118 ?_; intro E
 show Hd E 50 _ _ _ _
 refine Hd.rw .here (fun i hi => ?_)
 have hrl := rows_n hi
 obtain ⟨j, hrow⟩ := row_at hi hx
 have hn : n < i.1.length := (List.getElem?_eq_some_iff.1 hrow).1
 have hk1 : 1 - k < 2 := by omega
 refine Hd.bagOut pkk hrow ?_; refine Hd.sd .here k hk ?_
 obtain ⟨bs, hbs⟩ : ∃ bs, bs = (x.e k).b := ⟨_, rfl⟩
 obtain ⟨kn, hkn⟩ : ∃ q, q = min many.toNat bs.length := ⟨_, rfl⟩
 have htk : bs.take many.toNat = bs.take kn := by
  rw [hkn]
  rcases Nat.le_total many.toNat bs.length with h | h
  ·rw [Nat.min_eq_left h]
  ·rw [Nat.min_eq_right h, List.take_length, List.take_of_length_le h]
 have hdk : bs.drop many.toNat = bs.drop kn := by
  rw [hkn]
  rcases Nat.le_total many.toNat bs.length with h | h
  ·rw [Nat.min_eq_left h]
  ·rw [Nat.min_eq_right h, List.drop_length, List.drop_of_length_le h]
 have hkl : kn ≤ bs.length := by omega
 have htl : (bs.take kn).length = kn := by rw [List.length_take]; omega
 refine Hd.ownCap (e := 5) (ad := j.a k) (m := (x.e k).b.length) (cap := j.c k) pkk (fun hcap => ?_); rw [← hbs] at hcap
 have hkc : kn ≤ j.c k := by omega
 have ex : takeW x k many.toNat = (x.up k fun e => { e with b := bs.drop kn }).up (1 - k) (riseE false (decide (0 < kn))) := by
  unfold takeW; rw [← hbs, htk, htl, show (x.up k fun e => { e with b := e.b.drop many.toNat }) = x.up k fun e => { e with b := bs.drop kn } from up_eq (by rw [← hbs, hdk])]
 rw [← hbs, htk, htl, ex]; refine sr fun _ hK1 => ?_
 refine yv y_as <| fk [(0, _), (1, _), (2, _), (3, _)] hK1 ?_; refine sr fun _ hK2 => ?_
 refine yv y_mv <| yv y_np <| yv (y_f 0 129 Tryz.underlying133 sz129) ?_; refine yv (y_l1 ag129 rfl) ?_; refine yv y_mv <| yv y_mv <| yv (y_idxR Tryz.underlying129 sz221 rfl rfl (by omega) (by exact RdS.own pkk)) ?_; refine yv (y_fR 0 219 Tryz.underlying221 sz219) ?_; refine yv (y_idxAR Tryz.underlying219 sz218 rfl rfl (by omega)) ?_; refine yv (y_fR 4 31 Tryz.underlying218 sz31) ?_; refine yv (y_to (v' := .slice (j.a k) bs.length (j.c k)) (y_rc ag31 rfl hrow hk 4 rfl) (by (rw [hbs]))) ?_; refine yv y_as <| fk [(0, _), (1, _), (2, _), (3, _), (9, _)] hK2 ?_; refine Hd.cutK (ι := Unit) [(0, _), (1, _), (2, _), (9, _)] (fun _ => [(3, .int .i64 (kn : Int))]) (fun _ => SdL (x, j) k (Bag Sd (i.1.take n) :: Bag Sd (i.1.drop (n + 1)) :: RwH b w i.1.length i.2.1 i.2.2 :: OwR i :: L)) ?_ ?_ ⟨rfl, rfl, rfl, rfl, trivial⟩
 ·refine sr fun _ hK3 => ?_
  refine yv y_mv <| yv y_mv <| yv (y_len Tryz.underlying31 rfl) ?_; refine yv (y_gtr rfl rfl) ?_; refine fk [(0, _), (1, _), (2, _), (3, _), (9, _), (24, _)] hK3 ?_; refine Hd.cond rfl (fun hc0 => ?_) (fun hc0 => ?_)
  ·try simp only [hyA, hyB, hyC, ne_eq] at hc0
   refine Hd.region <| yv y_mv <| yv (y_len Tryz.underlying31 rfl) ?_; refine yv y_as <| Hd.nil <| slots [(0, _), (1, _), (2, _), (3, _), (9, _)] sbq ?_; refine thenN ?_; exact Hd.meet () ⟨congrArg (fun z => some (Value.int .i64 z)) (by omega), by repeat (first | exact trivial | refine ⟨rfl, ?_⟩)⟩ sq
  ·try simp only [hyA, hyB, hyC, ne_eq] at hc0
   refine Hd.skip <| thenN ?_; exact Hd.meet () ⟨congrArg (fun z => some (Value.int .i64 z)) (by omega), by repeat (first | exact trivial | refine ⟨rfl, ?_⟩)⟩ sq
 ·intro _
  refine Hd.seq fun _ hK4 => ?_
  refine Hd.drawsH ([RwH b w i.1.length i.2.1 i.2.2, OwR i]) (fun j => !([13].contains j)) mixed ?_; simp only [List.length, Nat.zero_add, Nat.reduceAdd]; refine tH 0 rfl y_mv ?_; refine tH 1 rfl y_np ?_; refine tH 2 rfl (y_f 0 129 Tryz.underlying133 sz129) ?_; refine tH 3 rfl (y_l1 ag129 rfl) ?_; refine tH 4 rfl y_mv ?_; refine tH 5 rfl y_mv ?_; refine tH 6 rfl y_mv ?_; refine tH 7 rfl y_mv ?_; refine tH 8 rfl (y_slo_oxxN Tryz.underlying31 sz5 rfl rfl (by omega)) ?_; refine onlyH 9 rfl kq ?_; refine yv (y_idxR Tryz.underlying129 sz221 rfl rfl (by omega) (by exact RdS.own pkk)) ?_; refine Hd.nil <| thenN <| heldK (J := (fun j => !([13].contains j))) (i := 9) sq ?_; refine onlyH 10 rfl kq ?_; refine yv (y_fR 0 219 Tryz.underlying221 sz219) ?_; refine Hd.nil <| thenN <| heldK (J := (fun j => !([13].contains j))) (i := 10) sq ?_; refine onlyH 11 rfl kq ?_; refine yv (y_idxAR Tryz.underlying219 sz218 rfl rfl (by omega)) ?_
  refine Hd.nil <| thenN <| heldK (J := (fun j => !([13].contains j))) (i := 11) sq ?_; refine tH 12 rfl (y_fR 4 31 Tryz.underlying218 sz31) ?_; refine onlyH 13 rfl kq ?_; refine Hd.storeO1 sz31 rfl rfl rfl pkk (by rw [rows_len encRW_len]; omega) ?_
  try simp only [List.set_cons_zero, List.set_cons_succ]
  refine Hd.nil <| thenN <| Hd.heldN (J := (fun j => !([13].contains j))) (i := 13) rfl ?_; refine endH kq ?_; rw [rset_b (l := bs.drop kn) hrow hk (by omega) (by rw [List.length_drop])]; refine Hd.ownSplit (e := 5) (ad := j.a k) (m := (x.e k).b.length) (cap := j.c k) (us := bsl (x.e k).b) pkk kn (bsl (bs.take kn)) (bsl (bs.drop kn)) (by rw [← hbs]; exact hkl) (by rw [← hbs]; unfold bsl; rw [← List.map_append, List.take_append_drop]) (by unfold bsl; rw [List.length_map, htl, Nat.mul_one]) ?_; refine Hd.heap (RwP b (w.setW n (x.up k fun e => { e with b := bs.drop kn })) :: own 5 1 (j.a k) kn kn (bsl (bs.take kn)) :: L) (sep_trans (sep_trans (Ent.sep (.eq pkk (own_eq3 (by rw [List.length_drop, ← hbs]) rfl rfl) enn)) (sd_b (l := bs.drop kn) (a := cutA (j.a k) 1 kn (j.c k)) (c := j.c k - kn) hk)) (sep_trans sq (rw_put hi hn))) ?_; refine sk [(0, _), (1, _), (2, _), (3, _), (9, _)] hK4 ?_
  refine sr fun _ hK5 => ?_
  refine yv y_mv <| yv y_mv <| yv y_mv <| yv (y_to (v' := .int .i64 ((1 - k : Nat) : Int)) (y_subn rfl rfl (by simp only [InK]; omega)) (by (congr 1; omega))) ?_; refine yv y_mv <| yv (y_to (v' := .bool (decide (0 < kn))) (y_gtr rfl rfl) (by (congr 1; simp only [decide_eq_decide]; omega))) ?_; refine callE rfl fk176 (rrise_ct _ b _ n _ (setW_self hx) (1 - k) hk1 false (decide (0 < kn))) sq ?_; intro _; rw [setW_setW]; refine fk [(3, _), (9, _)] hK5 ?_; refine sr fun _ hK6 => ?_
  refine yv y_mv <| yv y_mv <| yv (y_slo_xoxN Tryz.underlying31 sz5 rfl rfl (by omega)) ?_; refine yv y_as <| fk [(8, _)] hK6 ?_; refine Hd.ret ?_; exact Hd.ret1 rfl (j.a k, j.c k) rfl sq
theorem rfill_ct (L : List SP) (b : Nat) (w : WA) (n : Nat) (x : WireA) (hx : w.ws[n]? = some x) (hwf : WfW x) (k : Nat) (hk : k < 2) (ad : Option Addr) (m c : Nat) (bs : List UInt8) (hm : bs.length = m) (hR : RdS L 1 ad m (bsl bs)) (hml : m ≤ 70368744177664) (hmc : m ≤ c) : Ct Tryz.prog 119 #[.pointer (some ⟨b, 0, none⟩), .int .i64 (n : Int), .int .i64 (k : Int), .slice ad m c] (RwP b w :: L) (fun _ : Unit => .int .i64 (putN x k bs : Nat)) (fun _ : Unit => RwP b (w.setW n (putW x k bs)) :: L) := by
 refine Ct.o4 Tryz.func119 ?_; intro E
 show Hd E 78 _ _ _ _
 refine Hd.rw .here (fun i hi => ?_)
 have hrl := rows_n hi
 obtain ⟨j, hrow⟩ := row_at hi hx
 have hn : n < i.1.length := (List.getElem?_eq_some_iff.1 hrow).1
 have hk1 : 1 - k < 2 := by omega
 have hle := hwf.le (1 - k) hk1
 have hcp := hwf.cap
 refine Hd.bagOut pkk hrow ?_; refine Hd.sd .here (1 - k) hk1 ?_
 obtain ⟨kn, hkn⟩ : ∃ q, q = putN x k bs := ⟨_, rfl⟩
 have hkn2 : kn = min m (x.cap - (x.e (1 - k)).b.length) := by rw [hkn, ← hm]; rfl
 have htl : (bs.take kn).length = kn := by rw [List.length_take, hm]; omega
 have hRk : RdS L 1 ad kn (bsl (bs.take kn)) := by
  have := RdS.head (l := kn) hR (by omega)
  rwa [Nat.mul_one, bsl_take] at this
 have ex : putW x k bs = (x.up (1 - k) fun e => { e with b := (x.e (1 - k)).b ++ bs.take kn }).up (1 - k) (riseE (decide (0 < kn)) false) := by
  unfold putW; rw [← hkn, show (x.up (1 - k) fun e => { e with b := e.b ++ bs.take kn }) = x.up (1 - k) fun e => { e with b := (x.e (1 - k)).b ++ bs.take kn } from up_eq rfl]
 rw [← hkn, ex]; refine sr fun _ hK1 => ?_
 refine yv y_as <| fk [(0, _), (1, _), (2, _), (3, _)] hK1 ?_; refine Hd.seq fun _ hK2 => ?_
 refine Hd.quiet mixed kq ?_; refine Hq.yv y_mv ?_; refine Hq.yv y_np ?_; refine Hq.yv (y_f 0 129 Tryz.underlying133 sz129) ?_; refine Hq.yv (y_l1 ag129 rfl) ?_; refine Hq.yv y_mv ?_; refine Hq.yv (y_idxR Tryz.underlying129 sz221 rfl rfl (by omega) (by exact RdS.own pkk)) ?_; refine Hq.yv (y_fR 16 3 Tryz.underlying221 sz3) ?_; refine Hq.yv (y_to (v' := .int .i64 (x.cap : Int)) (y_rw ag3 rfl hrow 16 rfl) (by rfl)) ?_; refine Hq.yv y_mv ?_; refine Hq.yv y_np ?_; refine Hq.yv (y_f 0 129 Tryz.underlying133 sz129) ?_; refine Hq.yv (y_l1 ag129 rfl) ?_; refine Hq.yv y_mv ?_; refine Hq.yv y_mv ?_; refine Hq.yv (y_to (v' := .int .i64 ((1 - k : Nat) : Int)) (y_subn rfl rfl (by simp only [InK]; omega)) (by (congr 1; omega))) ?_; refine Hq.yv (y_idxR Tryz.underlying129 sz221 rfl rfl (by omega) (by exact RdS.own pkk)) ?_; refine Hq.yv (y_fR 0 219 Tryz.underlying221 sz219) ?_; refine Hq.yv (y_idxAR Tryz.underlying219 sz218 rfl rfl (by omega)) ?_
 refine Hq.yv (y_fR 4 31 Tryz.underlying218 sz31) ?_; refine Hq.yv (y_rc ag31 rfl hrow hk1 4 rfl) ?_; refine Hq.yv (y_len Tryz.underlying31 rfl) ?_; refine Hq.yv (y_to (v' := .int .i64 ((x.cap - (x.e (1 - k)).b.length : Nat) : Int)) (y_subn rfl rfl (by simp only [InK]; omega)) (by (congr 1; omega))) ?_; refine Hq.yv y_as ?_; refine Hq.nil ?_; refine sk [(0, _), (1, _), (2, _), (3, _), (9, _)] hK2 ?_; refine sr fun _ hK3 => ?_
 refine yv y_mv <| yv (y_len Tryz.underlying31 rfl) ?_; refine yv y_as <| fk [(0, _), (1, _), (2, _), (3, _), (9, _), (10, _)] hK3 ?_; refine Hd.cutK (ι := Unit) [(0, _), (1, _), (2, _), (3, _)] (fun _ => [(10, .int .i64 (kn : Int))]) (fun _ => SdL (x, j) (1 - k) (Bag Sd (i.1.take n) :: Bag Sd (i.1.drop (n + 1)) :: RwH b w i.1.length i.2.1 i.2.2 :: OwR i :: L)) ?_ ?_ ⟨rfl, rfl, rfl, rfl, trivial⟩
 ·refine sr fun _ hK4 => ?_
  refine yv y_mv <| yv y_mv <| yv (y_gtr rfl rfl) ?_; refine fk [(0, _), (1, _), (2, _), (3, _), (9, _), (10, _), (38, _)] hK4 ?_; refine Hd.cond rfl (fun hc0 => ?_) (fun hc0 => ?_)
  ·try simp only [hyA, hyB, hyC, ne_eq] at hc0
   refine Hd.region <| yv y_mv <| yv y_as <| Hd.nil <| slots [(0, _), (1, _), (2, _), (3, _), (10, _)] sbq ?_; refine thenN ?_; exact Hd.meet () ⟨congrArg (fun z => some (Value.int .i64 z)) (by omega), by repeat (first | exact trivial | refine ⟨rfl, ?_⟩)⟩ sq
  ·try simp only [hyA, hyB, hyC, ne_eq] at hc0
   refine Hd.skip <| thenN ?_; exact Hd.meet () ⟨congrArg (fun z => some (Value.int .i64 z)) (by omega), by repeat (first | exact trivial | refine ⟨rfl, ?_⟩)⟩ sq
 ·intro _
  refine sr fun _ hK5 => ?_
  refine yv y_as <| fk [(0, _), (1, _), (2, _), (3, _), (10, _), (11, _)] hK5 ?_; refine Hd.seq fun _ hK6 => ?_
  refine Hd.ownNil 5 1 none ?_; refine Hd.region <| yv y_mv <| yv y_mv <| yv y_np <| yv (y_f 0 129 Tryz.underlying133 sz129) ?_; refine yv (y_l1 ag129 rfl) ?_; refine yv y_mv <| yv y_mv <| yv (y_to (v' := .int .i64 ((1 - k : Nat) : Int)) (y_subn rfl rfl (by simp only [InK]; omega)) (by (congr 1; omega))) ?_; refine yv (y_idxR Tryz.underlying129 sz221 rfl rfl (by omega) (by exact RdS.own pkk)) ?_; refine yv (y_fR 0 219 Tryz.underlying221 sz219) ?_; refine yv (y_idxAR Tryz.underlying219 sz218 rfl rfl (by omega)) ?_; refine yv (y_fR 4 31 Tryz.underlying218 sz31) ?_; refine yv (y_rc ag31 rfl hrow hk1 4 rfl) ?_; refine Hd.append Tryz.underlying31 ty5 rfl rfl rfl pkk (by first | exact RdS.rd (Rd.pt pkk (fun j v e => by simpa using e)) rfl | (exact RdS.own pkk)) (by simp [Value.oneCell']; done) (by simp only [maxLen]; omega) (by omega) (fun ad53 cap53 => ?_)
  refine yv y_as <| fk [(0, _), (1, _), (2, _), (3, _), (10, _), (11, _)] hK6 ?_; refine Hd.seq fun _ hK7 => ?_
  refine Hd.drawsH ([RwH b w i.1.length i.2.1 i.2.2, OwR i]) (fun j => !([16].contains j)) mixed ?_; simp only [List.length, Nat.zero_add, Nat.reduceAdd]; refine tH 0 rfl y_mv ?_; refine tH 1 rfl y_np ?_; refine tH 2 rfl (y_f 0 129 Tryz.underlying133 sz129) ?_; refine tH 3 rfl (y_l1 ag129 rfl) ?_; refine tH 4 rfl y_mv ?_; refine tH 5 rfl y_mv ?_; refine tH 6 rfl (y_to (v' := .int .i64 ((1 - k : Nat) : Int)) (y_subn rfl rfl (by simp only [InK]; omega)) (by (congr 1; omega))) ?_; refine tH 7 rfl y_mv ?_; refine tH 8 rfl y_mv ?_; refine tH 9 rfl y_mv ?_; refine tH 10 rfl (y_slo_xoxN Tryz.underlying31 sz5 rfl rfl (by omega)) ?_; refine Hd.eitherH 11 12 rfl rfl kq ?_ ?_
  ·refine Hd.append Tryz.underlying31 ty5 rfl rfl rfl pkk (by exact RdS.mono hRk sq) (by exact B_one) (by simp only [maxLen]; omega) (by omega) (fun ad65 cap65 => ?_)
   refine Hd.nil <| thenN <| heldK (J := (fun j => !([16].contains j))) (i := 11) sq ?_; refine onlyH 12 rfl kq ?_; refine yv (y_idxR Tryz.underlying129 sz221 rfl rfl (by omega) (by exact RdS.own pkk)) ?_; refine Hd.nil <| thenN <| heldK (J := (fun j => !([16].contains j))) (i := 12) sq ?_; refine onlyH 13 rfl kq ?_; refine yv (y_fR 0 219 Tryz.underlying221 sz219) ?_; refine Hd.nil <| thenN <| heldK (J := (fun j => !([16].contains j))) (i := 13) sq ?_; refine onlyH 14 rfl kq ?_; refine yv (y_idxAR Tryz.underlying219 sz218 rfl rfl (by omega)) ?_; refine Hd.nil <| thenN <| heldK (J := (fun j => !([16].contains j))) (i := 14) sq ?_; refine tH 15 rfl (y_fR 4 31 Tryz.underlying218 sz31) ?_; refine onlyH 16 rfl kq ?_; refine Hd.storeO1 sz31 rfl rfl rfl pkk (by rw [rows_len encRW_len]; omega) ?_
   try simp only [List.set_cons_zero, List.set_cons_succ]
   refine Hd.nil <| thenN <| Hd.heldN (J := (fun j => !([16].contains j))) (i := 16) rfl ?_; refine endH kq ?_; rw [rset_b (l := (x.e (1 - k)).b ++ bs.take kn) hrow hk1 (by omega) (by rw [List.length_append, htl])]; refine Hd.heap (RwP b (w.setW n (x.up (1 - k) fun e => { e with b := (x.e (1 - k)).b ++ bs.take kn })) :: L) (sep_trans (sep_trans (Ent.sep (.eq pkk (own_eq3 (by rw [List.length_append, htl]) rfl (by unfold bsl; simp)) (.pick pkk (.pick pkk .same)))) (sd_b (l := (x.e (1 - k)).b ++ bs.take kn) (a := ad65) (c := cap65) hk1)) (sep_trans sq (rw_put hi hn))) ?_; refine sk [(0, _), (1, _), (2, _), (10, _)] hK7 ?_; refine sr fun _ hK8 => ?_
   refine yv y_mv <| yv y_mv <| yv y_mv <| yv (y_to (v' := .int .i64 ((1 - k : Nat) : Int)) (y_subn rfl rfl (by simp only [InK]; omega)) (by (congr 1; omega))) ?_; refine yv y_mv <| yv (y_to (v' := .bool (decide (0 < kn))) (y_gtr rfl rfl) (by (congr 1; simp only [decide_eq_decide]; omega))) ?_; refine callE rfl fk176 (rrise_ct _ b _ n _ (setW_self hx) (1 - k) hk1 (decide (0 < kn)) false) sq ?_; intro _; rw [setW_setW]; refine fk [(10, _)] hK8 ?_; refine sr fun _ hK9 => ?_
   refine yv y_mv <| yv y_as <| fk [(8, _)] hK9 ?_; refine Hd.ret ?_; exact Hd.ret1 rfl () rfl sq
  ·refine yv (y_idxR Tryz.underlying129 sz221 rfl rfl (by omega) (by exact RdS.own pkk)) ?_
   refine Hd.nil <| thenN <| heldK (J := (fun j => !([16].contains j))) (i := 12) sq ?_; refine Hd.eitherH 11 13 rfl rfl kq ?_ ?_
   ·refine Hd.append Tryz.underlying31 ty5 rfl rfl rfl pkk (by exact RdS.mono hRk sq) (by exact B_one) (by simp only [maxLen]; omega) (by omega) (fun ad65 cap65 => ?_)
    refine Hd.nil <| thenN <| heldK (J := (fun j => !([16].contains j))) (i := 11) sq ?_; refine onlyH 13 rfl kq ?_; refine yv (y_fR 0 219 Tryz.underlying221 sz219) ?_; refine Hd.nil <| thenN <| heldK (J := (fun j => !([16].contains j))) (i := 13) sq ?_; refine onlyH 14 rfl kq ?_; refine yv (y_idxAR Tryz.underlying219 sz218 rfl rfl (by omega)) ?_; refine Hd.nil <| thenN <| heldK (J := (fun j => !([16].contains j))) (i := 14) sq ?_; refine tH 15 rfl (y_fR 4 31 Tryz.underlying218 sz31) ?_; refine onlyH 16 rfl kq ?_; refine Hd.storeO1 sz31 rfl rfl rfl pkk (by rw [rows_len encRW_len]; omega) ?_
    try simp only [List.set_cons_zero, List.set_cons_succ]
    refine Hd.nil <| thenN <| Hd.heldN (J := (fun j => !([16].contains j))) (i := 16) rfl ?_; refine endH kq ?_; rw [rset_b (l := (x.e (1 - k)).b ++ bs.take kn) hrow hk1 (by omega) (by rw [List.length_append, htl])]; refine Hd.heap (RwP b (w.setW n (x.up (1 - k) fun e => { e with b := (x.e (1 - k)).b ++ bs.take kn })) :: L) (sep_trans (sep_trans (Ent.sep (.eq pkk (own_eq3 (by rw [List.length_append, htl]) rfl (by unfold bsl; simp)) (.pick pkk (.pick pkk .same)))) (sd_b (l := (x.e (1 - k)).b ++ bs.take kn) (a := ad65) (c := cap65) hk1)) (sep_trans sq (rw_put hi hn))) ?_; refine sk [(0, _), (1, _), (2, _), (10, _)] hK7 ?_; refine sr fun _ hK10 => ?_
    refine yv y_mv <| yv y_mv <| yv y_mv <| yv (y_to (v' := .int .i64 ((1 - k : Nat) : Int)) (y_subn rfl rfl (by simp only [InK]; omega)) (by (congr 1; omega))) ?_; refine yv y_mv <| yv (y_to (v' := .bool (decide (0 < kn))) (y_gtr rfl rfl) (by (congr 1; simp only [decide_eq_decide]; omega))) ?_; refine callE rfl fk176 (rrise_ct _ b _ n _ (setW_self hx) (1 - k) hk1 (decide (0 < kn)) false) sq ?_; intro _; rw [setW_setW]; refine fk [(10, _)] hK10 ?_; refine sr fun _ hK11 => ?_
    refine yv y_mv <| yv y_as <| fk [(8, _)] hK11 ?_; refine Hd.ret ?_; exact Hd.ret1 rfl () rfl sq
   ·refine yv (y_fR 0 219 Tryz.underlying221 sz219) ?_
    refine Hd.nil <| thenN <| heldK (J := (fun j => !([16].contains j))) (i := 13) sq ?_; refine onlyH 11 rfl kq ?_; refine Hd.append Tryz.underlying31 ty5 rfl rfl rfl pkk (by exact RdS.mono hRk sq) (by exact B_one) (by simp only [maxLen]; omega) (by omega) (fun ad65 cap65 => ?_); refine Hd.nil <| thenN <| heldK (J := (fun j => !([16].contains j))) (i := 11) sq ?_; refine onlyH 14 rfl kq ?_; refine yv (y_idxAR Tryz.underlying219 sz218 rfl rfl (by omega)) ?_; refine Hd.nil <| thenN <| heldK (J := (fun j => !([16].contains j))) (i := 14) sq ?_; refine tH 15 rfl (y_fR 4 31 Tryz.underlying218 sz31) ?_; refine onlyH 16 rfl kq ?_; refine Hd.storeO1 sz31 rfl rfl rfl pkk (by rw [rows_len encRW_len]; omega) ?_
    try simp only [List.set_cons_zero, List.set_cons_succ]
    refine Hd.nil <| thenN <| Hd.heldN (J := (fun j => !([16].contains j))) (i := 16) rfl ?_; refine endH kq ?_; rw [rset_b (l := (x.e (1 - k)).b ++ bs.take kn) hrow hk1 (by omega) (by rw [List.length_append, htl])]; refine Hd.heap (RwP b (w.setW n (x.up (1 - k) fun e => { e with b := (x.e (1 - k)).b ++ bs.take kn })) :: L) (sep_trans (sep_trans (Ent.sep (.eq pkk (own_eq3 (by rw [List.length_append, htl]) rfl (by unfold bsl; simp)) (.pick pkk (.pick pkk .same)))) (sd_b (l := (x.e (1 - k)).b ++ bs.take kn) (a := ad65) (c := cap65) hk1)) (sep_trans sq (rw_put hi hn))) ?_; refine sk [(0, _), (1, _), (2, _), (10, _)] hK7 ?_; refine sr fun _ hK12 => ?_
    refine yv y_mv <| yv y_mv <| yv y_mv <| yv (y_to (v' := .int .i64 ((1 - k : Nat) : Int)) (y_subn rfl rfl (by simp only [InK]; omega)) (by (congr 1; omega))) ?_; refine yv y_mv <| yv (y_to (v' := .bool (decide (0 < kn))) (y_gtr rfl rfl) (by (congr 1; simp only [decide_eq_decide]; omega))) ?_; refine callE rfl fk176 (rrise_ct _ b _ n _ (setW_self hx) (1 - k) hk1 (decide (0 < kn)) false) sq ?_; intro _; rw [setW_setW]; refine fk [(10, _)] hK12 ?_; refine sr fun _ hK13 => ?_
    refine yv y_mv <| yv y_as <| fk [(8, _)] hK13 ?_; refine Hd.ret ?_; exact Hd.ret1 rfl () rfl sq
theorem atN_no {o : Option (Nat × Nat)} (h : atN o < 0) : o = none := by
 cases o with
 | none => rfl
 | some p => simp only [atN] at h; omega
theorem atN_yes {o : Option (Nat × Nat)} (h : 0 ≤ atN o) : ∃ n k, o = some (n, k) := by
 cases o with
 | none => simp only [atN] at h; omega
 | some p => exact ⟨p.1, p.2, rfl⟩
theorem rShut_ct (L : List SP) (b : Nat) (w : WA) (hw : WOk w) (fd : Int) : Ct Tryz.prog 66 #[.pointer (some ⟨b, 0, none⟩), .int .i64 fd] (RwP b w :: L) (fun _ : Unit => .int .i64 (shutR w fd).1) (fun _ : Unit => RwP b (shutR w fd).2 :: L) := by
 refine Ct.o2 Tryz.func66 ?_; intro E
 show Hd E 45 _ _ _ _
 refine sr fun _ hK1 => ?_
 refine yv y_as <| fk [(0, _), (1, _)] hK1 ?_; refine sr fun _ hK2 => ?_
 refine yv y_mv <| yv y_mv <| callE rfl fk116 (rat_ct _ b w hw fd) sq ?_; intro _; refine yv y_mv <| yv y_ex <| yv y_ex <| yv y_as <| yv y_as <| fk [(0, _), (5, _), (6, _)] hK2 ?_; refine Hd.seq fun _ hK3 => ?_
 refine sr fun _ hK4 => ?_
 refine yv y_mv <| yv (y_lss rfl rfl) ?_; refine fk [(0, _), (5, _), (6, _), (14, _)] hK4 ?_; refine Hd.cond rfl (fun hc0 => ?_) (fun hc0 => ?_)
 ·try simp only [hyA, hyB, hyC, ne_eq] at hc0
  have hno := atN_no hc0
  refine sr fun _ hK5 => ?_
  refine yv y_as <| fk [(4, _)] hK5 ?_; refine Hd.ret <| Hd.thenRet ?_; rw [show shutR w fd = (110, w) by unfold shutR; rw [hno]]; exact Hd.ret1 rfl () rfl sq
 ·try simp only [hyA, hyB, hyC, ne_eq] at hc0
  obtain ⟨n, k, hnk⟩ := atN_yes (by omega)
  obtain ⟨_, _, hk, _, x, hx, _, _⟩ := hw.at_lt hnk
  rw [show atN (w.at fd) = (n : Int) by rw [hnk]; rfl, show atK (w.at fd) = (k : Int) by rw [hnk]; rfl]; refine Hd.rw .here (fun i hi => ?_)
  have hrl := rows_n hi
  obtain ⟨j, hrow⟩ := row_at hi hx
  have hn : n < i.1.length := (List.getElem?_eq_some_iff.1 hrow).1
  refine Hd.skip <| Hd.toK hK3 ?_; refine Hd.seq fun _ hK6 => ?_
  refine sr fun _ hK7 => ?_
  refine yv y_mv <| yv y_np <| yv (y_f 0 129 Tryz.underlying133 sz129) ?_; refine yv (y_l1 ag129 rfl) ?_; refine yv y_mv <| yv y_mv <| yv (y_idxR Tryz.underlying129 sz221 rfl rfl (by omega) (by exact RdS.own pkk)) ?_; refine yv (y_fR 0 219 Tryz.underlying221 sz219) ?_; refine yv (y_idxAR Tryz.underlying219 sz218 rfl rfl (by omega)) ?_; refine yv (y_fR 2 4 Tryz.underlying218 sz4) ?_; refine yv (y_rc ag4 rfl hrow hk 2 rfl) ?_; refine yv (y_not rfl) ?_; refine yv y_mv ?_; apply Hd.org 13 27 40 [(0, _), (5, _), (6, _)] rfl sbq
  ·intro _
   simp only [List.take]; refine n1 <| n1 <| n1 <| n1 <| n1 <| n1 <| n1 <| n1 <| n1 <| n1 <| n1 <| n1 <| yv (y_pickT rfl rfl) ?_; refine Hd.nil ?_; exact Hd.mq
  ·intro hg4_27
   try simp only [hyA, hyB, hyC, ne_eq] at hg4_27
   simp only [List.take]; refine y2 y_mv <| y2 y_np <| y2 (y_f 0 129 Tryz.underlying133 sz129) ?_; refine y2 (y_l1 ag129 rfl) ?_; refine y2 y_mv <| y2 y_mv <| y2 (y_idxR Tryz.underlying129 sz221 rfl rfl (by omega) (by exact RdS.own pkk)) ?_; refine y2 (y_fR 0 219 Tryz.underlying221 sz219) ?_; refine y2 (y_idxAR Tryz.underlying219 sz218 rfl rfl (by omega)) ?_; refine y2 (y_fR 3 4 Tryz.underlying218 sz4) ?_; refine y2 (y_rc ag4 rfl hrow hk 3 rfl) ?_; refine y2 (y_not rfl) ?_; refine yv (y_pickF rfl rfl) ?_; refine Hd.nil ?_; exact Hd.mq
  simp only [List.drop]; refine fk [(0, _), (5, _), (6, _), (40, _)] hK7 ?_; refine Hd.cond rfl (fun hc1 => ?_) (fun hc1 => ?_)
  ·try simp only [hyA, hyB, hyC, ne_eq] at hc1
   have h1 : (x.e k).rd = false ∨ (x.e k).wr = false := by simpa using hc1
   refine sr fun _ hK8 => ?_
   refine yv y_as <| fk [(4, _)] hK8 ?_; refine Hd.ret <| Hd.thenRet ?_; rw [show shutR w fd = (111, w) by unfold shutR; rw [hnk]; dsimp only; rw [hx]; exact if_pos h1]; exact Hd.ret1 rfl () rfl (rw_fold hi)
  ·try simp only [hyA, hyB, hyC, ne_eq] at hc1
   have h1 : ¬ ((x.e k).rd = false ∨ (x.e k).wr = false) := by
    rintro (h | h) <;> simp [h] at hc1
   refine Hd.skip <| Hd.toK hK6 ?_; refine sr fun _ hK9 => ?_
   refine yv y_mv <| yv y_mv <| yv y_mv <| Hd.heap (RwP b w :: L) (rw_fold hi) ?_; refine callE rfl fk121 (rshut_ct _ b w n x hx k hk) sq ?_; intro _; refine fk [] hK9 ?_; refine sr fun _ hK10 => ?_
   refine yv y_as <| fk [(4, _)] hK10 ?_; refine Hd.ret ?_; rw [show shutR w fd = (0, w.setW n (shutW x k)) by unfold shutR; rw [hnk]; dsimp only; rw [hx]; exact if_neg h1]; exact Hd.ret1 rfl () rfl sq
theorem rPshut_ct (L : List SP) (b : Nat) (w : WA) (n : Int) : Ct Tryz.prog 128 #[.pointer (some ⟨b, 0, none⟩), .int .i64 n] (RwP b w :: L) (fun _ : Unit => .int .i64 (pshutR w n).1) (fun _ : Unit => RwP b (pshutR w n).2 :: L) := by
 refine Ct.o2 Tryz.func128 ?_; intro E
 show Hd E 14 _ _ _ _
 refine sr fun _ hK1 => ?_
 refine yv y_as <| fk [(0, _), (1, _)] hK1 ?_; refine sr fun _ hK2 => ?_
 refine yv y_mv <| yv y_mv <| callE rfl fk177 (router_ct _ b w n) sq ?_; intro _; refine yv y_as <| fk [(0, _), (1, _), (5, _)] hK2 ?_; refine Hd.seq fun _ hK3 => ?_
 refine sr fun _ hK4 => ?_
 refine yv y_mv <| yv (y_not rfl) ?_; refine fk [(0, _), (1, _), (10, _)] hK4 ?_; refine Hd.cond rfl (fun hc0 => ?_) (fun hc0 => ?_)
 ·try simp only [hyA, hyB, hyC, ne_eq] at hc0
  refine sr fun _ hK5 => ?_
  refine yv y_as <| fk [(4, _)] hK5 ?_; refine Hd.ret <| Hd.thenRet ?_
  have hno : outW w n = none := by cases h : outW w n with | none => rfl | some y => rw [h] at hc0; simp at hc0
  rw [show pshutR w n = (116, w) by unfold pshutR; rw [hno]]; exact Hd.ret1 rfl () rfl sq
 ·try simp only [hyA, hyB, hyC, ne_eq] at hc0
  obtain ⟨x, ho⟩ : ∃ x, outW w n = some x := by cases h : outW w n with | none => rw [h] at hc0; simp at hc0 | some y => exact ⟨y, rfl⟩
  obtain ⟨h0, hx, _⟩ := outW_some ho
  obtain ⟨k, rfl⟩ : ∃ k : Nat, n = (k : Int) := ⟨n.toNat, by omega⟩
  rw [Int.toNat_natCast] at hx; refine Hd.skip <| Hd.toK hK3 ?_; refine sr fun _ hK6 => ?_
  refine yv y_mv <| yv y_mv <| callE rfl fk121 (rshut_ct _ b w k x hx 1 (by decide)) sq ?_; intro _; refine fk [] hK6 ?_; refine sr fun _ hK7 => ?_
  refine yv y_as <| fk [(4, _)] hK7 ?_; refine Hd.ret ?_; rw [show pshutR w (k : Int) = (0, w.setW k (shutW x 1)) by unfold pshutR; rw [ho]; rfl]; exact Hd.ret1 rfl () rfl sq
theorem rPclose_ct (L : List SP) (b : Nat) (w : WA) (n : Int) : Ct Tryz.prog 130 #[.pointer (some ⟨b, 0, none⟩), .int .i64 n] (RwP b w :: L) (fun _ : Unit => .int .i64 (pcloseR w n).1) (fun _ : Unit => RwP b (pcloseR w n).2 :: L) := by
 refine Ct.o2 Tryz.func130 ?_; intro E
 show Hd E 14 _ _ _ _
 refine sr fun _ hK1 => ?_
 refine yv y_as <| fk [(0, _), (1, _)] hK1 ?_; refine sr fun _ hK2 => ?_
 refine yv y_mv <| yv y_mv <| callE rfl fk177 (router_ct _ b w n) sq ?_; intro _; refine yv y_as <| fk [(0, _), (1, _), (5, _)] hK2 ?_; refine Hd.seq fun _ hK3 => ?_
 refine sr fun _ hK4 => ?_
 refine yv y_mv <| yv (y_not rfl) ?_; refine fk [(0, _), (1, _), (10, _)] hK4 ?_; refine Hd.cond rfl (fun hc0 => ?_) (fun hc0 => ?_)
 ·try simp only [hyA, hyB, hyC, ne_eq] at hc0
  refine sr fun _ hK5 => ?_
  refine yv y_as <| fk [(4, _)] hK5 ?_; refine Hd.ret <| Hd.thenRet ?_
  have hno : outW w n = none := by cases h : outW w n with | none => rfl | some y => rw [h] at hc0; simp at hc0
  rw [show pcloseR w n = (116, w) by unfold pcloseR; rw [hno]]; exact Hd.ret1 rfl () rfl sq
 ·try simp only [hyA, hyB, hyC, ne_eq] at hc0
  obtain ⟨x, ho⟩ : ∃ x, outW w n = some x := by cases h : outW w n with | none => rw [h] at hc0; simp at hc0 | some y => exact ⟨y, rfl⟩
  obtain ⟨h0, hx, _⟩ := outW_some ho
  obtain ⟨k, rfl⟩ : ∃ k : Nat, n = (k : Int) := ⟨n.toNat, by omega⟩
  rw [Int.toNat_natCast] at hx; refine Hd.skip <| Hd.toK hK3 ?_; refine sr fun _ hK6 => ?_
  refine yv y_mv <| yv y_mv <| callE rfl fk123 (rclose_ct _ b w k x hx 1 (by decide)) sq ?_; intro _; refine fk [] hK6 ?_; refine sr fun _ hK7 => ?_
  refine yv y_as <| fk [(4, _)] hK7 ?_; refine Hd.ret ?_; rw [show pcloseR w (k : Int) = (0, w.setW k (closeW x 1)) by unfold pcloseR; rw [ho]; rfl]; exact Hd.ret1 rfl () rfl sq
theorem rWire_ct (L : List SP) (b : Nat) (w : WA) (hw : WOk w) (fd : Int) : Ct Tryz.prog 79 #[.pointer (some ⟨b, 0, none⟩), .int .i64 fd] (RwP b w :: L) (fun _ : Unit => .tuple #[.int .i64 (wireN (w.at fd)), .int .i64 (fdErr (w.at fd))]) (fun _ : Unit => RwP b w :: L) := by
 refine Ct.o2 Tryz.func79 ?_; intro E
 show Hd E 17 _ _ _ _
 refine sr fun _ hK1 => ?_
 refine yv y_as <| yv y_as <| fk [(0, _), (1, _)] hK1 ?_; refine sr fun _ hK2 => ?_
 refine yv y_mv <| yv y_mv <| callE rfl fk116 (rat_ct _ b w hw fd) sq ?_; intro _; refine yv y_mv <| yv y_ex <| yv y_ex <| yv y_as <| yv y_as <| fk [(6, _)] hK2 ?_; refine Hd.seq fun _ hK3 => ?_
 refine sr fun _ hK4 => ?_
 refine yv y_mv <| yv (y_lss rfl rfl) ?_; refine fk [(6, _), (15, _)] hK4 ?_; refine Hd.cond rfl (fun hc0 => ?_) (fun hc0 => ?_)
 ·try simp only [hyA, hyB, hyC, ne_eq] at hc0
  refine sr fun _ hK5 => ?_
  refine yv y_as <| yv y_as <| fk [(4, _), (5, _)] hK5 ?_; refine Hd.ret <| Hd.thenRet ?_
  have hno := atN_no hc0
  rw [hno]; exact Hd.ret2 rfl () rfl rfl rfl sq
 ·try simp only [hyA, hyB, hyC, ne_eq] at hc0
  refine Hd.skip <| Hd.toK hK3 ?_; refine sr fun _ hK6 => ?_
  refine yv y_mv <| yv y_as <| yv y_as <| fk [(4, _), (5, _)] hK6 ?_; refine Hd.ret ?_
  obtain ⟨n, k, hnk⟩ := atN_yes (by omega)
  rw [hnk]; exact Hd.ret2 rfl () rfl rfl rfl sq
theorem rPut_ct (L : List SP) (b : Nat) (w : WA) (hw : WOk w) (n : Int) (ad : Option Addr) (m c : Nat) (bs : List UInt8) (hm : bs.length = m) (hR : RdS L 1 ad m (bsl bs)) (hml : m ≤ 70368744177664) (hmc : m ≤ c) : Ct Tryz.prog 124 #[.pointer (some ⟨b, 0, none⟩), .int .i64 n, .slice ad m c] (RwP b w :: L) (fun _ : Unit => .tuple #[.int .i64 (putR w n bs).1.1, .int .i64 (putR w n bs).1.2]) (fun _ : Unit => RwP b (putR w n bs).2 :: L) := by
 refine Ct.o3 Tryz.func124 ?_; intro E
 show Hd E 49 _ _ _ _
 refine sr fun _ hK1 => ?_
 refine yv y_as <| yv y_as <| fk [(0, _), (1, _), (2, _)] hK1 ?_; refine sr fun _ hK2 => ?_
 refine yv y_mv <| yv y_mv <| callE rfl fk177 (router_ct _ b w n) sq ?_; intro _; refine yv y_as <| fk [(0, _), (1, _), (2, _), (8, _)] hK2 ?_; refine Hd.seq fun _ hK3 => ?_
 refine sr fun _ hK4 => ?_
 refine yv y_mv <| yv (y_not rfl) ?_; refine fk [(0, _), (1, _), (2, _), (13, _)] hK4 ?_; refine Hd.cond rfl (fun hc0 => ?_) (fun hc0 => ?_)
 ·try simp only [hyA, hyB, hyC, ne_eq] at hc0
  refine sr fun _ hK5 => ?_
  refine yv y_as <| yv y_as <| fk [(6, _), (7, _)] hK5 ?_; refine Hd.ret <| Hd.thenRet ?_
  have hno : outW w n = none := by cases h : outW w n with | none => rfl | some y => rw [h] at hc0; simp at hc0
  rw [show putR w n bs = ((0, 116), w) by unfold putR; rw [hno]]; exact Hd.ret2 rfl () rfl rfl rfl sq
 ·try simp only [hyA, hyB, hyC, ne_eq] at hc0
  obtain ⟨x, ho⟩ : ∃ x, outW w n = some x := by cases h : outW w n with | none => rw [h] at hc0; simp at hc0 | some y => exact ⟨y, rfl⟩
  obtain ⟨h0, hx, _⟩ := outW_some ho
  obtain ⟨k, rfl⟩ : ∃ k : Nat, n = (k : Int) := ⟨n.toNat, by omega⟩
  rw [Int.toNat_natCast] at hx
  have hwf := hw.wf x (List.mem_of_getElem? hx)
  refine Hd.rw .here (fun i hi => ?_)
  have hrl := rows_n hi
  obtain ⟨j, hrow⟩ := row_at hi hx
  have hn : k < i.1.length := (List.getElem?_eq_some_iff.1 hrow).1
  refine Hd.skip <| Hd.toK hK3 ?_; refine Hd.seq fun _ hK6 => ?_
  refine sr fun _ hK7 => ?_
  refine yv y_mv <| yv y_np <| yv (y_f 0 129 Tryz.underlying133 sz129) ?_; refine yv (y_l1 ag129 rfl) ?_; refine yv y_mv <| yv (y_idxR Tryz.underlying129 sz221 rfl rfl (by omega) (by exact RdS.own pkk)) ?_; refine yv (y_fR 17 4 Tryz.underlying221 sz4) ?_; refine yv (y_rw ag4 rfl hrow 17 rfl) ?_; refine fk [(0, _), (1, _), (2, _), (21, _)] hK7 ?_; refine Hd.cond rfl (fun hc1 => ?_) (fun hc1 => ?_)
  ·try simp only [hyA, hyB, hyC, ne_eq] at hc1
   refine sr fun _ hK8 => ?_
   refine yv y_as <| yv y_as <| fk [(6, _), (7, _)] hK8 ?_; refine Hd.ret <| Hd.thenRet ?_; rw [show putR w (k : Int) bs = ((0, 115), w) by unfold putR; rw [ho]; exact if_pos hc1]; exact Hd.ret2 rfl () rfl rfl rfl (rw_fold hi)
  ·try simp only [hyA, hyB, hyC, ne_eq] at hc1
   refine Hd.skip <| Hd.toK hK6 ?_; refine Hd.seq fun _ hK9 => ?_
   refine sr fun _ hK10 => ?_
   refine yv y_mv <| yv y_np <| yv (y_f 0 129 Tryz.underlying133 sz129) ?_; refine yv (y_l1 ag129 rfl) ?_; refine yv y_mv <| yv (y_idxR Tryz.underlying129 sz221 rfl rfl (by omega) (by exact RdS.own pkk)) ?_; refine yv (y_fR 0 219 Tryz.underlying221 sz219) ?_; refine yv (y_idxAR Tryz.underlying219 sz218 rfl rfl (by decide)) ?_; refine yv (y_f 5 4 Tryz.underlying218 sz4) ?_; refine yv (y_rc (o := k * 20 + 0 + 1 * 8 + 5) ag4 rfl hrow (show 1 < 2 from Nat.lt_succ_self 1) 5 rfl) ?_; refine yv y_mv ?_; apply Hd.org 12 32 44 [(0, _), (1, _), (2, _)] rfl sbq
   ·intro _
    simp only [List.take]; refine n1 <| n1 <| n1 <| n1 <| n1 <| n1 <| n1 <| n1 <| n1 <| n1 <| n1 <| yv (y_pickT rfl rfl) ?_; refine Hd.nil ?_; exact Hd.mq
   ·intro hg6_32
    try simp only [hyA, hyB, hyC, ne_eq] at hg6_32
    simp only [List.take]; refine y2 y_mv <| y2 y_np <| y2 (y_f 0 129 Tryz.underlying133 sz129) ?_; refine y2 (y_l1 ag129 rfl) ?_; refine y2 y_mv <| y2 (y_idxR Tryz.underlying129 sz221 rfl rfl (by omega) (by exact RdS.own pkk)) ?_; refine y2 (y_fR 0 219 Tryz.underlying221 sz219) ?_; refine y2 (y_idxAR Tryz.underlying219 sz218 rfl rfl (by decide)) ?_; refine y2 (y_fR 0 3 Tryz.underlying218 sz3) ?_; refine y2 (y_rc (o := k * 20 + 0 + 0 * 8 + 0) ag3 rfl hrow (show 0 < 2 from Nat.succ_pos 1) 0 rfl) ?_; refine y2 (y_eql rfl rfl) ?_; refine yv (y_pickF rfl rfl) ?_; refine Hd.nil ?_; exact Hd.mq
   simp only [List.drop]; refine fk [(0, _), (1, _), (2, _), (44, _)] hK10 ?_; refine Hd.cond rfl (fun hc2 => ?_) (fun hc2 => ?_)
   ·try simp only [hyA, hyB, hyC, ne_eq] at hc2
    have h2 : (x.e 1).shut = true ∨ (x.e 0).what = 3 := by simpa using hc2
    refine sr fun _ hK11 => ?_
    refine yv y_as <| yv y_as <| fk [(6, _), (7, _)] hK11 ?_; refine Hd.ret <| Hd.thenRet ?_; rw [show putR w (k : Int) bs = ((0, 114), w) by unfold putR; rw [ho]; dsimp only; rw [if_neg (by rw [hc1]; decide), if_pos h2]]; exact Hd.ret2 rfl () rfl rfl rfl (rw_fold hi)
   ·try simp only [hyA, hyB, hyC, ne_eq] at hc2
    have h2 : ¬ ((x.e 1).shut = true ∨ (x.e 0).what = 3) := by
     rintro (h | h) <;> simp [h] at hc2
    refine Hd.skip <| Hd.toK hK9 ?_; refine sr fun _ hK12 => ?_
    refine yv y_mv <| yv y_mv <| yv y_mv <| Hd.heap (RwP b w :: L) (rw_fold hi) ?_; refine callE rfl fk119 (rfill_ct L b w k x hx hwf 1 (by decide) ad m c bs hm hR hml hmc) sq ?_; intro _; refine yv y_as <| yv y_as <| fk [(6, _), (7, _)] hK12 ?_; refine Hd.ret ?_; rw [show putR w (k : Int) bs = ((((putN x 1 bs : Nat) : Int), 0), w.setW k (putW x 1 bs)) by unfold putR; rw [ho]; dsimp only; rw [if_neg (by rw [hc1]; decide), if_neg h2]; rfl]; exact Hd.ret2 rfl () rfl rfl rfl sq
theorem rTake_ct (L : List SP) (b : Nat) (w : WA) (n many : Int) : Ct Tryz.prog 126 #[.pointer (some ⟨b, 0, none⟩), .int .i64 n, .int .i64 many] (RwP b w :: L) (fun q_ : Option Addr × Nat => .tuple #[.slice q_.1 (takR w n many).1.1.length q_.2, .int .i64 (takR w n many).1.2]) (fun q_ : Option Addr × Nat => own 5 1 q_.1 (takR w n many).1.1.length (takR w n many).1.1.length (bsl (takR w n many).1.1) :: RwP b (takR w n many).2 :: L) := by
 refine Ct.o3 Tryz.func126 ?_; intro E
 show Hd E 28 _ _ _ _
 refine sr fun _ hK1 => ?_
 refine yv y_as <| yv y_as <| fk [(0, _), (1, _), (2, _)] hK1 ?_; refine sr fun _ hK2 => ?_
 refine yv y_mv <| yv y_mv <| callE rfl fk177 (router_ct _ b w n) sq ?_; intro _; refine yv y_as <| fk [(0, _), (1, _), (2, _), (8, _)] hK2 ?_; refine Hd.seq fun _ hK3 => ?_
 refine sr fun _ hK4 => ?_
 refine yv y_mv <| yv (y_not rfl) ?_; refine fk [(0, _), (1, _), (2, _), (13, _)] hK4 ?_; refine Hd.cond rfl (fun hc0 => ?_) (fun hc0 => ?_)
 ·try simp only [hyA, hyB, hyC, ne_eq] at hc0
  refine sr fun _ hK5 => ?_
  refine yv y_as <| yv y_as <| fk [(6, _), (7, _)] hK5 ?_; refine Hd.ret <| Hd.thenRet ?_
  have hno : outW w n = none := by cases h : outW w n with | none => rfl | some y => rw [h] at hc0; simp at hc0
  rw [show takR w n many = (([], 116), w) by unfold takR; rw [hno]]; exact Hd.ret2 rfl (none, 0) rfl rfl rfl (Ent.sep (.ownNil .same))
 ·try simp only [hyA, hyB, hyC, ne_eq] at hc0
  obtain ⟨x, ho⟩ : ∃ x, outW w n = some x := by cases h : outW w n with | none => rw [h] at hc0; simp at hc0 | some y => exact ⟨y, rfl⟩
  obtain ⟨h0, hx, _⟩ := outW_some ho
  obtain ⟨k, rfl⟩ : ∃ k : Nat, n = (k : Int) := ⟨n.toNat, by omega⟩
  rw [Int.toNat_natCast] at hx; refine Hd.skip <| Hd.toK hK3 ?_; refine Hd.seq fun _ hK6 => ?_
  refine sr fun _ hK7 => ?_
  refine yv y_mv <| yv (y_lss rfl rfl) ?_; refine fk [(0, _), (1, _), (2, _), (15, _)] hK7 ?_; refine Hd.cond rfl (fun hc1 => ?_) (fun hc1 => ?_)
  ·try simp only [hyA, hyB, hyC, ne_eq] at hc1
   refine sr fun _ hK8 => ?_
   refine yv y_as <| yv y_as <| fk [(6, _), (7, _)] hK8 ?_; refine Hd.ret <| Hd.thenRet ?_; rw [show takR w (k : Int) many = (([], 2), w) by unfold takR; rw [ho]; exact if_pos hc1]; exact Hd.ret2 rfl (none, 0) rfl rfl rfl (Ent.sep (.ownNil .same))
  ·try simp only [hyA, hyB, hyC, ne_eq] at hc1
   refine Hd.rw .here (fun i hi => ?_)
   have hrl := rows_n hi
   obtain ⟨j, hrow⟩ := row_at hi hx
   have hn : k < i.1.length := (List.getElem?_eq_some_iff.1 hrow).1
   refine Hd.skip <| Hd.toK hK6 ?_; refine Hd.seq fun _ hK9 => ?_
   refine sr fun _ hK10 => ?_
   refine yv y_mv <| yv y_np <| yv (y_f 0 129 Tryz.underlying133 sz129) ?_; refine yv (y_l1 ag129 rfl) ?_; refine yv y_mv <| yv (y_idxR Tryz.underlying129 sz221 rfl rfl (by omega) (by exact RdS.own pkk)) ?_; refine yv (y_fR 17 4 Tryz.underlying221 sz4) ?_; refine yv (y_rw ag4 rfl hrow 17 rfl) ?_; refine fk [(0, _), (1, _), (2, _), (23, _)] hK10 ?_; refine Hd.cond rfl (fun hc2 => ?_) (fun hc2 => ?_)
   ·try simp only [hyA, hyB, hyC, ne_eq] at hc2
    refine sr fun _ hK11 => ?_
    refine yv y_as <| yv y_as <| fk [(6, _), (7, _)] hK11 ?_; refine Hd.ret <| Hd.thenRet ?_; rw [show takR w (k : Int) many = (([], 115), w) by unfold takR; rw [ho]; dsimp only; rw [if_neg (by omega), if_pos hc2]]; exact Hd.ret2 rfl (none, 0) rfl rfl rfl (fun q s => Ent.sep (.ownNil .same) q (rw_fold hi q s))
   ·try simp only [hyA, hyB, hyC, ne_eq] at hc2
    refine Hd.skip <| Hd.toK hK9 ?_; refine sr fun _ hK12 => ?_
    refine yv y_mv <| yv y_mv <| yv y_mv <| Hd.heap (RwP b w :: L) (rw_fold hi) ?_; refine callE rfl fk118 (rget_ct _ b w k x hx 1 (by decide) many (by omega)) sq ?_; rintro ⟨ad, c⟩; dsimp only; refine yv y_as <| yv y_as <| fk [(6, _), (7, _)] hK12 ?_; refine Hd.ret ?_; rw [show takR w (k : Int) many = (((x.e 1).b.take many.toNat, 0), w.setW k (takeW x 1 many.toNat)) by unfold takR; rw [ho]; dsimp only; rw [if_neg (by omega), if_neg (by rw [hc2]; decide)]; rfl]; exact Hd.ret2 rfl (ad, c) rfl rfl rfl sq
theorem rRead_ct (L : List SP) (b : Nat) (w : WA) (hw : WOk w) (fd many : Int) : Ct Tryz.prog 62 #[.pointer (some ⟨b, 0, none⟩), .int .i64 fd, .int .i64 many] (RwP b w :: L) (fun q_ : Option Addr × Nat => .tuple #[.slice q_.1 (readR w fd many).1.1.length q_.2, .bool (readR w fd many).1.2.1, .int .i64 (readR w fd many).1.2.2]) (fun q_ : Option Addr × Nat => own 5 1 q_.1 (readR w fd many).1.1.length (readR w fd many).1.1.length (bsl (readR w fd many).1.1) :: RwP b (readR w fd many).2 :: L) := by
 refine Ct.o3 Tryz.func62 ?_; intro E
 show Hd E 86 _ _ _ _
 refine sr fun _ hK1 => ?_
 refine yv y_as <| yv y_as <| yv y_as <| fk [(0, _), (1, _), (2, _)] hK1 ?_; refine sr fun _ hK2 => ?_
 refine yv y_mv <| yv y_mv <| callE rfl fk116 (rat_ct _ b w hw fd) sq ?_; intro _; refine yv y_mv <| yv y_ex <| yv y_ex <| yv y_as <| yv y_as <| fk [(0, _), (2, _), (9, _), (10, _)] hK2 ?_; refine Hd.seq fun _ hK3 => ?_
 refine sr fun _ hK4 => ?_
 refine yv y_mv <| yv (y_lss rfl rfl) ?_; refine fk [(0, _), (2, _), (9, _), (10, _), (18, _)] hK4 ?_; refine Hd.cond rfl (fun hc0 => ?_) (fun hc0 => ?_)
 ·try simp only [hyA, hyB, hyC, ne_eq] at hc0
  have hno := atN_no hc0
  refine sr fun _ hK5 => ?_
  refine yv y_as <| yv y_as <| yv y_as <| fk [(6, _), (7, _), (8, _)] hK5 ?_; refine Hd.ret <| Hd.thenRet ?_; rw [show readR w fd many = (([], false, 110), w) by unfold readR; rw [hno]]; exact Hd.ret3 rfl (none, 0) rfl rfl rfl rfl (Ent.sep (.ownNil .same))
 ·try simp only [hyA, hyB, hyC, ne_eq] at hc0
  obtain ⟨n, k, hnk⟩ := atN_yes (by omega)
  obtain ⟨_, _, hk, _, x, hx, _, _⟩ := hw.at_lt hnk
  rw [show atN (w.at fd) = (n : Int) by rw [hnk]; rfl, show atK (w.at fd) = (k : Int) by rw [hnk]; rfl]
  have hk1 : 1 - k < 2 := by omega
  refine Hd.rw .here (fun i hi => ?_)
  have hrl := rows_n hi
  obtain ⟨j, hrow⟩ := row_at hi hx
  have hn : n < i.1.length := (List.getElem?_eq_some_iff.1 hrow).1
  have hr : readR w fd many = (if (x.e k).rd = false then (([], false, 111), w) else if many < 1 then (([], false, 2), w) else if x.rs = true then (([], false, 115), w)
    else if (x.e k).b ≠ [] then (((x.e k).b.take many.toNat, false, 0), w.setW n (takeW x k many.toNat))
    else if silentW x k = true then (([], true, 0), w) else (([], false, 113), w)) := by unfold readR; rw [hnk]; dsimp only; rw [hx]
  refine Hd.skip <| Hd.toK hK3 ?_; refine Hd.seq fun _ hK6 => ?_
  refine sr fun _ hK7 => ?_
  refine yv y_mv <| yv y_np <| yv (y_f 0 129 Tryz.underlying133 sz129) ?_; refine yv (y_l1 ag129 rfl) ?_; refine yv y_mv <| yv y_mv <| yv (y_idxR Tryz.underlying129 sz221 rfl rfl (by omega) (by exact RdS.own pkk)) ?_; refine yv (y_fR 0 219 Tryz.underlying221 sz219) ?_; refine yv (y_idxAR Tryz.underlying219 sz218 rfl rfl (by omega)) ?_; refine yv (y_fR 2 4 Tryz.underlying218 sz4) ?_; refine yv (y_rc ag4 rfl hrow hk 2 rfl) ?_; refine yv (y_not rfl) ?_; refine fk [(0, _), (2, _), (9, _), (10, _), (30, _)] hK7 ?_; refine Hd.cond rfl (fun hc1 => ?_) (fun hc1 => ?_)
  ·try simp only [hyA, hyB, hyC, ne_eq] at hc1
   have h1 : (x.e k).rd = false := by simpa using hc1
   refine sr fun _ hK8 => ?_
   refine yv y_as <| yv y_as <| yv y_as <| fk [(6, _), (7, _), (8, _)] hK8 ?_; refine Hd.ret <| Hd.thenRet ?_; rw [hr, if_pos h1]; exact Hd.ret3 rfl (none, 0) rfl rfl rfl rfl (fun q s => Ent.sep (.ownNil .same) q (rw_fold hi q s))
  ·try simp only [hyA, hyB, hyC, ne_eq] at hc1
   have h1 : ¬ ((x.e k).rd = false) := by simpa using hc1
   refine Hd.skip <| Hd.toK hK6 ?_; refine Hd.seq fun _ hK9 => ?_
   refine sr fun _ hK10 => ?_
   refine yv y_mv <| yv (y_lss rfl rfl) ?_; refine fk [(0, _), (2, _), (9, _), (10, _), (32, _)] hK10 ?_; refine Hd.cond rfl (fun hc2 => ?_) (fun hc2 => ?_)
   ·try simp only [hyA, hyB, hyC, ne_eq] at hc2
    refine sr fun _ hK11 => ?_
    refine yv y_as <| yv y_as <| yv y_as <| fk [(6, _), (7, _), (8, _)] hK11 ?_; refine Hd.ret <| Hd.thenRet ?_; rw [hr, if_neg h1, if_pos hc2]; exact Hd.ret3 rfl (none, 0) rfl rfl rfl rfl (fun q s => Ent.sep (.ownNil .same) q (rw_fold hi q s))
   ·try simp only [hyA, hyB, hyC, ne_eq] at hc2
    have h2 : ¬ (many < 1) := by omega
    refine Hd.skip <| Hd.toK hK9 ?_; refine Hd.seq fun _ hK12 => ?_
    refine sr fun _ hK13 => ?_
    refine yv y_mv <| yv y_np <| yv (y_f 0 129 Tryz.underlying133 sz129) ?_; refine yv (y_l1 ag129 rfl) ?_; refine yv y_mv <| yv (y_idxR Tryz.underlying129 sz221 rfl rfl (by omega) (by exact RdS.own pkk)) ?_; refine yv (y_fR 17 4 Tryz.underlying221 sz4) ?_; refine yv (y_rw ag4 rfl hrow 17 rfl) ?_; refine fk [(0, _), (2, _), (9, _), (10, _), (40, _)] hK13 ?_; refine Hd.cond rfl (fun hc3 => ?_) (fun hc3 => ?_)
    ·try simp only [hyA, hyB, hyC, ne_eq] at hc3
     refine sr fun _ hK14 => ?_
     refine yv y_as <| yv y_as <| yv y_as <| fk [(6, _), (7, _), (8, _)] hK14 ?_; refine Hd.ret <| Hd.thenRet ?_; rw [hr, if_neg h1, if_neg h2, if_pos hc3]; exact Hd.ret3 rfl (none, 0) rfl rfl rfl rfl (fun q s => Ent.sep (.ownNil .same) q (rw_fold hi q s))
    ·try simp only [hyA, hyB, hyC, ne_eq] at hc3
     have h3 : ¬ (x.rs = true) := by rw [hc3]; decide
     refine Hd.skip <| Hd.toK hK12 ?_; refine Hd.seq fun _ hK15 => ?_
     refine sr fun _ hK16 => ?_
     refine yv y_mv <| yv y_np <| yv (y_f 0 129 Tryz.underlying133 sz129) ?_; refine yv (y_l1 ag129 rfl) ?_; refine yv y_mv <| yv y_mv <| yv (y_idxR Tryz.underlying129 sz221 rfl rfl (by omega) (by exact RdS.own pkk)) ?_; refine yv (y_fR 0 219 Tryz.underlying221 sz219) ?_; refine yv (y_idxAR Tryz.underlying219 sz218 rfl rfl (by omega)) ?_; refine yv (y_fR 4 31 Tryz.underlying218 sz31) ?_; refine yv (y_rc ag31 rfl hrow hk 4 rfl) ?_; refine yv (y_len Tryz.underlying31 rfl) ?_; refine yv (y_gtr rfl rfl) ?_; refine fk [(0, _), (2, _), (9, _), (10, _), (53, _)] hK16 ?_; refine Hd.cond rfl (fun hc4 => ?_) (fun hc4 => ?_)
     ·try simp only [hyA, hyB, hyC, ne_eq] at hc4
      have h4 : (x.e k).b ≠ [] := fun h => by rw [h] at hc4; simp at hc4
      refine sr fun _ hK17 => ?_
      refine yv y_mv <| yv y_mv <| yv y_mv <| yv y_mv <| Hd.heap (RwP b w :: L) (rw_fold hi) ?_; refine callE rfl fk118 (rget_ct _ b w n x hx k hk many (by omega)) sq ?_; rintro ⟨ad, c⟩; dsimp only; refine yv y_as <| yv y_as <| yv y_as <| fk [(6, _), (7, _), (8, _)] hK17 ?_; refine Hd.ret <| Hd.thenRet ?_; rw [hr, if_neg h1, if_neg h2, if_neg h3, if_pos h4]; exact Hd.ret3 rfl (ad, c) rfl rfl rfl rfl sq
     ·try simp only [hyA, hyB, hyC, ne_eq] at hc4
      have h4 : ¬ ((x.e k).b ≠ []) := fun h => h (List.eq_nil_of_length_eq_zero (by omega))
      refine Hd.skip <| Hd.toK hK15 ?_; refine Hd.seq fun _ hK18 => ?_
      refine sr fun _ hK19 => ?_
      refine yv y_mv <| yv y_np <| yv (y_f 0 129 Tryz.underlying133 sz129) ?_; refine yv (y_l1 ag129 rfl) ?_; refine yv y_mv <| yv y_mv <| yv (y_to (v' := .int .i64 ((1 - k : Nat) : Int)) (y_subn rfl rfl (by simp only [InK]; omega)) (by (congr 1; omega))) ?_; refine yv (y_idxR Tryz.underlying129 sz221 rfl rfl (by omega) (by exact RdS.own pkk)) ?_; refine yv (y_fR 0 219 Tryz.underlying221 sz219) ?_; refine yv (y_idxAR Tryz.underlying219 sz218 rfl rfl (by omega)) ?_; refine yv (y_fR 0 3 Tryz.underlying218 sz3) ?_; refine yv (y_rc ag3 rfl hrow hk1 0 rfl) ?_; refine yv (y_eql rfl rfl) ?_; refine yv y_mv ?_; apply Hd.org 13 72 85 [] rfl sbq
      ·intro _
       simp only [List.take]; refine n1 <| n1 <| n1 <| n1 <| n1 <| n1 <| n1 <| n1 <| n1 <| n1 <| n1 <| n1 <| yv (y_pickT rfl rfl) ?_; refine Hd.nil ?_; exact Hd.mq
      ·intro hg12_72
       try simp only [hyA, hyB, hyC, ne_eq] at hg12_72
       simp only [List.take]; refine y2 y_mv <| y2 y_np <| y2 (y_f 0 129 Tryz.underlying133 sz129) ?_; refine y2 (y_l1 ag129 rfl) ?_; refine y2 y_mv <| y2 y_mv <| y2 (y_to (v' := .int .i64 ((1 - k : Nat) : Int)) (y_subn rfl rfl (by simp only [InK]; omega)) (by (congr 1; omega))) ?_; refine y2 (y_idxR Tryz.underlying129 sz221 rfl rfl (by omega) (by exact RdS.own pkk)) ?_; refine y2 (y_fR 0 219 Tryz.underlying221 sz219) ?_; refine y2 (y_idxAR Tryz.underlying219 sz218 rfl rfl (by omega)) ?_; refine y2 (y_fR 5 4 Tryz.underlying218 sz4) ?_; refine y2 (y_rc ag4 rfl hrow hk1 5 rfl) ?_; refine yv (y_pickF rfl rfl) ?_; refine Hd.nil ?_; exact Hd.mq
      simp only [List.drop]; refine fk [(85, _)] hK19 ?_; refine Hd.cond rfl (fun hc5 => ?_) (fun hc5 => ?_)
      ·try simp only [hyA, hyB, hyC, ne_eq] at hc5
       have h5 : silentW x k = true := by unfold silentW; simpa using hc5
       refine sr fun _ hK20 => ?_
       refine yv y_as <| yv y_as <| yv y_as <| fk [(6, _), (7, _), (8, _)] hK20 ?_; refine Hd.ret <| Hd.thenRet ?_; rw [hr, if_neg h1, if_neg h2, if_neg h3, if_neg h4, if_pos h5]; exact Hd.ret3 rfl (none, 0) rfl rfl rfl rfl (fun q s => Ent.sep (.ownNil .same) q (rw_fold hi q s))
      ·try simp only [hyA, hyB, hyC, ne_eq] at hc5
       have h5 : ¬ (silentW x k = true) := by unfold silentW; simp [hc5.1, hc5.2]
       refine Hd.skip <| Hd.toK hK18 ?_; refine sr fun _ hK21 => ?_
       refine yv y_as <| yv y_as <| yv y_as <| fk [(6, _), (7, _), (8, _)] hK21 ?_; refine Hd.ret ?_; rw [hr, if_neg h1, if_neg h2, if_neg h3, if_neg h4, if_neg h5]; exact Hd.ret3 rfl (none, 0) rfl rfl rfl rfl (fun q s => Ent.sep (.ownNil .same) q (rw_fold hi q s))
theorem rWrite_ct (L : List SP) (b : Nat) (w : WA) (hw : WOk w) (fd : Int) (ad : Option Addr) (m c : Nat) (bs : List UInt8) (hm : bs.length = m) (hR : RdS L 1 ad m (bsl bs)) (hml : m ≤ 70368744177664) (hmc : m ≤ c) : Ct Tryz.prog 64 #[.pointer (some ⟨b, 0, none⟩), .int .i64 fd, .slice ad m c] (RwP b w :: L) (fun _ : Unit => .tuple #[.int .i64 (writeR w fd bs).1.1, .int .i64 (writeR w fd bs).1.2]) (fun _ : Unit => RwP b (writeR w fd bs).2 :: L) := by
 refine Ct.o3 Tryz.func64 ?_; intro E
 show Hd E 76 _ _ _ _
 refine sr fun _ hK1 => ?_
 refine yv y_as <| yv y_as <| fk [(0, _), (1, _), (2, _)] hK1 ?_; refine sr fun _ hK2 => ?_
 refine yv y_mv <| yv y_mv <| callE rfl fk116 (rat_ct _ b w hw fd) sq ?_; intro _; refine yv y_mv <| yv y_ex <| yv y_ex <| yv y_as <| yv y_as <| fk [(0, _), (2, _), (8, _), (9, _)] hK2 ?_; refine Hd.seq fun _ hK3 => ?_
 refine sr fun _ hK4 => ?_
 refine yv y_mv <| yv (y_lss rfl rfl) ?_; refine fk [(0, _), (2, _), (8, _), (9, _), (18, _)] hK4 ?_; refine Hd.cond rfl (fun hc0 => ?_) (fun hc0 => ?_)
 ·try simp only [hyA, hyB, hyC, ne_eq] at hc0
  have hno := atN_no hc0
  refine sr fun _ hK5 => ?_
  refine yv y_as <| yv y_as <| fk [(6, _), (7, _)] hK5 ?_; refine Hd.ret <| Hd.thenRet ?_; rw [show writeR w fd bs = ((0, 110), w) by unfold writeR; rw [hno]]; exact Hd.ret2 rfl () rfl rfl rfl sq
 ·try simp only [hyA, hyB, hyC, ne_eq] at hc0
  obtain ⟨n, k, hnk⟩ := atN_yes (by omega)
  obtain ⟨_, _, hk, _, x, hx, _, _⟩ := hw.at_lt hnk
  have hwf := hw.wf x (List.mem_of_getElem? hx)
  rw [show atN (w.at fd) = (n : Int) by rw [hnk]; rfl, show atK (w.at fd) = (k : Int) by rw [hnk]; rfl]
  have hk1 : 1 - k < 2 := by omega
  refine Hd.rw .here (fun i hi => ?_)
  have hrl := rows_n hi
  obtain ⟨j, hrow⟩ := row_at hi hx
  have hn : n < i.1.length := (List.getElem?_eq_some_iff.1 hrow).1
  have hr : writeR w fd bs = (if (x.e k).wr = false then ((0, 111), w) else if x.rs = true then ((0, 115), w) else if (x.e k).shut = true ∨ (x.e (1 - k)).what = 3 then ((0, 114), w)
    else if bs.length = 0 then ((0, 0), w) else if putN x k bs = 0 then ((0, 113), w) else ((((putN x k bs : Nat) : Int), 0), w.setW n (putW x k bs))) := by unfold writeR; rw [hnk]; dsimp only; rw [hx]
  refine Hd.skip <| Hd.toK hK3 ?_; refine Hd.seq fun _ hK6 => ?_
  refine sr fun _ hK7 => ?_
  refine yv y_mv <| yv y_np <| yv (y_f 0 129 Tryz.underlying133 sz129) ?_; refine yv (y_l1 ag129 rfl) ?_; refine yv y_mv <| yv y_mv <| yv (y_idxR Tryz.underlying129 sz221 rfl rfl (by omega) (by exact RdS.own pkk)) ?_; refine yv (y_fR 0 219 Tryz.underlying221 sz219) ?_; refine yv (y_idxAR Tryz.underlying219 sz218 rfl rfl (by omega)) ?_; refine yv (y_fR 3 4 Tryz.underlying218 sz4) ?_; refine yv (y_rc ag4 rfl hrow hk 3 rfl) ?_; refine yv (y_not rfl) ?_; refine fk [(0, _), (2, _), (8, _), (9, _), (30, _)] hK7 ?_; refine Hd.cond rfl (fun hc1 => ?_) (fun hc1 => ?_)
  ·try simp only [hyA, hyB, hyC, ne_eq] at hc1
   have h1 : (x.e k).wr = false := by simpa using hc1
   refine sr fun _ hK8 => ?_
   refine yv y_as <| yv y_as <| fk [(6, _), (7, _)] hK8 ?_; refine Hd.ret <| Hd.thenRet ?_; rw [hr, if_pos h1]; exact Hd.ret2 rfl () rfl rfl rfl (rw_fold hi)
  ·try simp only [hyA, hyB, hyC, ne_eq] at hc1
   have h1 : ¬ ((x.e k).wr = false) := by simpa using hc1
   refine Hd.skip <| Hd.toK hK6 ?_; refine Hd.seq fun _ hK9 => ?_
   refine sr fun _ hK10 => ?_
   refine yv y_mv <| yv y_np <| yv (y_f 0 129 Tryz.underlying133 sz129) ?_; refine yv (y_l1 ag129 rfl) ?_; refine yv y_mv <| yv (y_idxR Tryz.underlying129 sz221 rfl rfl (by omega) (by exact RdS.own pkk)) ?_; refine yv (y_fR 17 4 Tryz.underlying221 sz4) ?_; refine yv (y_rw ag4 rfl hrow 17 rfl) ?_; refine fk [(0, _), (2, _), (8, _), (9, _), (38, _)] hK10 ?_; refine Hd.cond rfl (fun hc2 => ?_) (fun hc2 => ?_)
   ·try simp only [hyA, hyB, hyC, ne_eq] at hc2
    refine sr fun _ hK11 => ?_
    refine yv y_as <| yv y_as <| fk [(6, _), (7, _)] hK11 ?_; refine Hd.ret <| Hd.thenRet ?_; rw [hr, if_neg h1, if_pos hc2]; exact Hd.ret2 rfl () rfl rfl rfl (rw_fold hi)
   ·try simp only [hyA, hyB, hyC, ne_eq] at hc2
    have h2 : ¬ (x.rs = true) := by rw [hc2]; decide
    refine Hd.skip <| Hd.toK hK9 ?_; refine Hd.seq fun _ hK12 => ?_
    refine sr fun _ hK13 => ?_
    refine yv y_mv <| yv y_np <| yv (y_f 0 129 Tryz.underlying133 sz129) ?_; refine yv (y_l1 ag129 rfl) ?_; refine yv y_mv <| yv y_mv <| yv (y_idxR Tryz.underlying129 sz221 rfl rfl (by omega) (by exact RdS.own pkk)) ?_; refine yv (y_fR 0 219 Tryz.underlying221 sz219) ?_; refine yv (y_idxAR Tryz.underlying219 sz218 rfl rfl (by omega)) ?_; refine yv (y_fR 5 4 Tryz.underlying218 sz4) ?_; refine yv (y_rc ag4 rfl hrow hk 5 rfl) ?_; refine yv y_mv ?_; apply Hd.org 14 50 64 [(0, _), (2, _), (8, _), (9, _)] rfl sbq
    ·intro _
     simp only [List.take]; refine n1 <| n1 <| n1 <| n1 <| n1 <| n1 <| n1 <| n1 <| n1 <| n1 <| n1 <| n1 <| n1 <| yv (y_pickT rfl rfl) ?_; refine Hd.nil ?_; exact Hd.mq
    ·intro hg8_50
     try simp only [hyA, hyB, hyC, ne_eq] at hg8_50
     simp only [List.take]; refine y2 y_mv <| y2 y_np <| y2 (y_f 0 129 Tryz.underlying133 sz129) ?_; refine y2 (y_l1 ag129 rfl) ?_; refine y2 y_mv <| y2 y_mv <| y2 (y_to (v' := .int .i64 ((1 - k : Nat) : Int)) (y_subn rfl rfl (by simp only [InK]; omega)) (by (congr 1; omega))) ?_; refine y2 (y_idxR Tryz.underlying129 sz221 rfl rfl (by omega) (by exact RdS.own pkk)) ?_; refine y2 (y_fR 0 219 Tryz.underlying221 sz219) ?_; refine y2 (y_idxAR Tryz.underlying219 sz218 rfl rfl (by omega)) ?_; refine y2 (y_fR 0 3 Tryz.underlying218 sz3) ?_; refine y2 (y_rc ag3 rfl hrow hk1 0 rfl) ?_; refine y2 (y_eql rfl rfl) ?_; refine yv (y_pickF rfl rfl) ?_; refine Hd.nil ?_; exact Hd.mq
    simp only [List.drop]; refine fk [(0, _), (2, _), (8, _), (9, _), (64, _)] hK13 ?_; refine Hd.cond rfl (fun hc3 => ?_) (fun hc3 => ?_)
    ·try simp only [hyA, hyB, hyC, ne_eq] at hc3
     have h3 : (x.e k).shut = true ∨ (x.e (1 - k)).what = 3 := by simpa using hc3
     refine sr fun _ hK14 => ?_
     refine yv y_as <| yv y_as <| fk [(6, _), (7, _)] hK14 ?_; refine Hd.ret <| Hd.thenRet ?_; rw [hr, if_neg h1, if_neg h2, if_pos h3]; exact Hd.ret2 rfl () rfl rfl rfl (rw_fold hi)
    ·try simp only [hyA, hyB, hyC, ne_eq] at hc3
     have h3 : ¬ ((x.e k).shut = true ∨ (x.e (1 - k)).what = 3) := by
      rintro (h | h) <;> simp [h] at hc3
     refine Hd.skip <| Hd.toK hK12 ?_; refine Hd.seq fun _ hK15 => ?_
     refine sr fun _ hK16 => ?_
     refine yv y_mv <| yv (y_len Tryz.underlying31 rfl) ?_; refine yv (y_eql rfl rfl) ?_; refine fk [(0, _), (2, _), (8, _), (9, _), (67, _)] hK16 ?_; refine Hd.cond rfl (fun hc4 => ?_) (fun hc4 => ?_)
     ·try simp only [hyA, hyB, hyC, ne_eq] at hc4
      have h4 : bs.length = 0 := by omega
      refine sr fun _ hK17 => ?_
      refine yv y_as <| yv y_as <| fk [(6, _), (7, _)] hK17 ?_; refine Hd.ret <| Hd.thenRet ?_; rw [hr, if_neg h1, if_neg h2, if_neg h3, if_pos h4]; exact Hd.ret2 rfl () rfl rfl rfl (rw_fold hi)
     ·try simp only [hyA, hyB, hyC, ne_eq] at hc4
      have h4 : ¬ (bs.length = 0) := by omega
      refine Hd.skip <| Hd.toK hK15 ?_; refine sr fun _ hK18 => ?_
      refine yv y_mv <| yv y_mv <| yv y_mv <| yv y_mv <| Hd.heap (RwP b w :: L) (rw_fold hi) ?_; refine callE rfl fk119 (rfill_ct L b w n x hx hwf k hk ad m c bs hm hR hml hmc) sq ?_; intro _; refine yv y_as <| fk [(10, _)] hK18 ?_; refine Hd.seq fun _ hK19 => ?_
      refine sr fun _ hK20 => ?_
      refine yv y_mv <| yv (y_eql rfl rfl) ?_; refine fk [(10, _), (74, _)] hK20 ?_; refine Hd.cond rfl (fun hc5 => ?_) (fun hc5 => ?_)
      ·try simp only [hyA, hyB, hyC, ne_eq] at hc5
       have h5 : putN x k bs = 0 := by omega
       refine sr fun _ hK21 => ?_
       refine yv y_as <| yv y_as <| fk [(6, _), (7, _)] hK21 ?_; refine Hd.ret <| Hd.thenRet ?_; rw [hr, if_neg h1, if_neg h2, if_neg h3, if_neg h4, if_pos h5]; exact Hd.ret2 rfl () rfl rfl rfl (Ent.sep (.eq pkk (by rw [putW_zero h5, setW_same hx]) enn))
      ·try simp only [hyA, hyB, hyC, ne_eq] at hc5
       have h5 : ¬ (putN x k bs = 0) := by omega
       refine Hd.skip <| Hd.toK hK19 ?_; refine sr fun _ hK22 => ?_
       refine yv y_mv <| yv y_as <| yv y_as <| fk [(6, _), (7, _)] hK22 ?_; refine Hd.ret ?_; rw [hr, if_neg h1, if_neg h2, if_neg h3, if_neg h4, if_neg h5]; exact Hd.ret2 rfl () rfl rfl rfl sq
end Rf
end Go.Proofs.YtbfddabjbkohdaaGreat
namespace Go.Proofs.YtbfddabjbkohdaaGreat
set_option maxHeartbeats 2000000
open Go.RX.Hd (yv y2 n1 fk sk sr tH callE heldK onlyH endH thenN slots)
set_option linter.unusedSimpArgs false
set_option linter.unusedVariables false
set_option linter.unnecessarySimpa false
open Go.RX Fx
namespace Wo
set_option maxRecDepth 8000
theorem pass_ct (L : List SP) (wb : Nat) (w : WA) (n : Int) (hn : 0 ≤ n ∧ n ≤ 18446744073709551615) (h0 : 0 ≤ w.now ∧ w.now ≤ 18446744073709551615) : Ct Tryz.prog 135 #[.pointer (some ⟨wb, 0, none⟩), .int .u64 n] (WorldP wb w :: L) (fun _ : Unit => .tuple #[]) (fun _ : Unit => WorldP wb (passR w n) :: L) := by
 refine Ct.o2 Tryz.func135 ?_; intro E
 show Hd E 21 _ _ _ _
 refine Hd.world .here (fun i hw hrs => ?_); refine sr fun _ hK1 => ?_
 refine yv y_mv <| callE rfl fk113 (wnone_ct _ wb w.at w i.rs.length i) sq ?_; intro _; refine yv (y_not rfl) ?_; refine fk [(0, _), (1, _), (6, _)] hK1 ?_; refine Hd.condT rfl ?_; refine Hd.tail 14 mixed kq ?_; simp only [List.take, List.drop]; refine Ht.yv y_mv ?_; refine Ht.yv y_np ?_; refine Ht.yv (y_f 290 30 Tryz.underlying210 sz30) ?_; refine Ht.yv (y_load1 ag30 rfl (Rd.pt1 pkk (by exact woT_at (j := 2) (by omega) rfl))) ?_; refine Ht.yv y_mv ?_; refine Ht.yv y_mv ?_; refine Ht.yv y_np ?_; refine Ht.yv (y_f 290 30 Tryz.underlying210 sz30) ?_; refine Ht.yv (y_load1 ag30 rfl (Rd.pt1 pkk (by exact woT_at (j := 2) (by omega) rfl))) ?_; refine Ht.yv (y_subn rfl rfl (by simp only [InK]; omega)) ?_; refine Ht.yv (y_min rfl rfl) ?_; refine Ht.yv (y_to (v' := .int .u64 (w.now + min n (18446744073709551615 - w.now))) (y_addn rfl rfl (by simp only [InK]; omega)) (by (congr 1))) ?_; refine Ht.yv y_np ?_
 refine Ht.yv (y_f 290 30 Tryz.underlying210 sz30) ?_; refine Ht.nil ?_; refine Hd.store1 sz30 rfl rfl rfl pkk (by rw [List.length_append, fdC_len]; simp; omega) ?_
 try simp only [List.set_cons_zero, List.set_cons_succ]
 refine Hd.nil <| slots [] sbq ?_
 have e : (fdC w.at ++ woT w i.rs.length i).set (0 + 290) (.int .u64 (w.now + min n (18446744073709551615 - w.now))) = fdC (passR w n).at ++ woT (passR w n) i.rs.length i := by
  rw [List.set_append_right _ _ (by rw [fdC_len]; decide), fdC_len]; rfl
 exact Hd.end0 rfl () rfl (fun q s => Ent.sep (.ex i (.pure ⟨(pass_ok hw n hn.1).1, hrs⟩ (.eq pkk (pt_eq e) enn))) q s)
def rstW (x : WireA) (k : Nat) : WireA := { x with rs := true, e := fun j => if j < k then riseE true true { x.e j with b := [] } else x.e j }
theorem rst_same (x : WireA) (k j : Nat) : ((rstW x k).e j).rd = (x.e j).rd := by
 show (if j < k then riseE true true { x.e j with b := [] } else x.e j).rd = _
 split <;> rfl
theorem rst_up {x : WireA} {k : Nat} : ((rstW x k).up k fun e => { e with b := [] }).up k (riseE true true) = rstW x (k + 1) := by
 rw [up_up]; unfold rstW WireA.up; dsimp only
 congr 1
 funext j
 by_cases h : j = k
 ·subst h
  rw [if_pos rfl, if_neg (Nat.lt_irrefl j), if_pos (Nat.lt_succ_self j)]
 ·rw [if_neg h]
  by_cases h2 : j < k
  ·rw [if_pos h2, if_pos (by omega)]
  ·rw [if_neg h2, if_neg (by omega)]
theorem wreset_ct (L : List SP) (wb : Nat) (w : WA) (n : Int) : Ct Tryz.prog 131 #[.pointer (some ⟨wb, 0, none⟩), .int .i64 n] (WorldP wb w :: L) (fun _ : Unit => .int .i64 (resetR w n).1) (fun _ : Unit => WorldP wb (resetR w n).2 :: L) := by
 refine Ct.o2 Tryz.func131 ?_; intro E
 show Hd E 41 _ _ _ _
 refine Hd.world .here (fun i hw hrs => ?_); refine sr fun _ hK1 => ?_
 refine yv y_as <| fk [(0, _), (1, _)] hK1 ?_; refine sr fun _ hK2 => ?_
 refine yv y_mv <| yv y_mv <| callE rfl fk111 (outer_ct _ wb w i hw hrs n) sq ?_; intro _; refine yv y_mv <| yv (y_to (v' := ptr (outB i w n)) y_ex (by rfl)) ?_; refine yv (y_to (v' := .int .i64 (outE w n)) y_ex (by rfl)) ?_; refine yv y_as <| yv y_as <| fk [(5, _), (6, _)] hK2 ?_; refine Hd.seq fun _ hK3 => ?_
 refine sr fun _ hK4 => ?_
 refine yv y_mv <| yv (y_neq rfl rfl) ?_; refine yv y_mv <| Hd.part (gd := 16) rfl (fun hg2_16 => ?_) (fun hg2_16 => ?_)
 ·try simp only [hyA, hyB, hyC, ne_eq] at hg2_16
  have e := outE_no hg2_16
  refine n1 <| n1 <| n1 <| n1 <| yv (y_pickT rfl rfl) ?_; refine fk [(5, _), (6, _), (21, _)] hK4 ?_; refine Hd.condT rfl ?_; refine sr fun _ hK5 => ?_
  refine yv y_mv <| yv y_as <| fk [(4, _)] hK5 ?_; refine Hd.ret <| Hd.thenRet ?_; rw [show resetR w n = (116, w) by unfold resetR; rw [e]]; exact Hd.ret1 rfl () (by unfold outE; rw [e]; rfl) (Ent.sep (.ex i (.pure ⟨hw, hrs⟩ enn)))
 ·try simp only [hyA, hyB, hyC, ne_eq] at hg2_16
  obtain ⟨k, b, x, rfl, hox, hx, hb, h2, hob⟩ := outE_yes hrs hg2_16
  have hwf := hw.wf x (List.mem_of_getElem? hx)
  have hrd : resetR w k = (0, if x.rs = true then w else w.setW k (resetW x)) := by unfold resetR; rw [hox]; rfl
  rw [hob]; refine Hd.wOut pkk hb ?_; refine Hd.wire .here 0 (by omega) (fun i2 hi => ?_); refine y2 y_mv <| y2 y_np <| y2 (y_f 14 4 Tryz.underlying199 sz4) ?_; refine y2 (y_l1 ag4 rfl) ?_; refine yv (y_pickF rfl rfl) ?_; refine fk [(5, _), (6, _), (21, _)] hK4 ?_; refine Hd.cond rfl (fun hc0 => ?_) (fun hc0 => ?_)
  ·try simp only [hyA, hyB, hyC, ne_eq] at hc0
   refine sr fun _ hK6 => ?_
   refine yv y_mv <| yv y_as <| fk [(4, _)] hK6 ?_; refine Hd.ret <| Hd.thenRet ?_; rw [hrd, if_pos hc0]; exact Hd.ret1 rfl () (by rw [hg2_16]; rfl) (fun q s => world_back (k := 0) hw hrs hb hi (by omega) q (Ent.sep enn q s))
  ·try simp only [hyA, hyB, hyC, ne_eq] at hc0
   rw [if_neg (by rw [hc0]; simp)] at hrd; refine Hd.skip <| Hd.toK hK3 ?_; refine sr fun _ hK7 => ?_
   refine yv y_mv <| yv y_np <| yv (y_f 14 4 Tryz.underlying199 sz4) ?_; refine Hd.store1 sz4 rfl rfl rfl pkk (by simp; done) ?_
   try simp only [List.set_cons_zero, List.set_cons_succ]
   refine Hd.nil <| Hd.heap (WireP b (rstW x 0) :: WoR wb k w i L) (fun q s => Ent.sep (.ex (i2, 0) (.pure ⟨⟨fun j hj => by rw [rst_same]; exact hi.rd j hj⟩, by omega⟩ (.eq pkk (pt_eq (by rfl)) (.eq pkk (show RgO (i2.p 0) x.cap (x.e 0).b = RgO (i2.p 0) (rstW x 0).cap ((rstW x 0).e 0).b from rfl) (.eq pkk (show RgO (i2.p (1 - 0)) x.cap (x.e (1 - 0)).b = RgO (i2.p (1 - 0)) (rstW x 0).cap ((rstW x 0).e (1 - 0)).b from rfl) (.eq pkk (show own 3 1 i2.wa x.wt.length i2.wc (nats x.wt) = own 3 1 i2.wa (rstW x 0).wt.length i2.wc (nats (rstW x 0).wt) from rfl) enn)))))) q s) ?_; refine sk [(5, _)] hK7 ?_; refine Hd.seq fun _ hK8 => ?_
   refine sr fun _ hK9 => ?_
   refine yv y_mv <| fk [(5, _), (26, _)] hK9 ?_; refine Hd.block <| Hd.loopK (ι := Nat) [(5, _)] (fun j => [(26, .int .i64 (j : Int))]) (fun j => pu (j ≤ 2) :: WireP b (rstW x j) :: WoR wb k w i L) (fun j => 2 - j) 0 sbq sbq (Ent.sep (.pure (by omega) enn)) ?_; intro j
   try dsimp only
   refine Hd.pure (fun hp0 => ?_)
   try dsimp only at hp0
   refine sr fun _ hK10 => ?_
   refine yv (y_lss rfl rfl) ?_; refine fk [(5, _), (26, _), (27, _)] hK10 ?_; refine Hd.seq fun _ hK11 => ?_
   refine Hd.cond rfl (fun hc1 => ?_) (fun hc1 => ?_)
   ·try simp only [hyA, hyB, hyC, ne_eq] at hc1
    have hj : j < 2 := by omega
    have hrj : ((rstW x j).e j).rd = true := by
     rw [rst_same]
     rcases (show j = 0 ∨ j = 1 by omega) with rfl | rfl
     ·exact (hwf.ou h2).1
     ·exact (hwf.ou h2).2
    refine Hd.skip <| Hd.toK hK11 ?_; refine Hd.seq fun _ hK12 => ?_
    refine Hd.block <| sr fun _ hK13 => ?_
    refine yv y_mv <| yv y_as <| fk [(5, _), (7, _), (26, _)] hK13 ?_; refine Hd.seq fun _ hK14 => ?_
    refine Hd.wireR .here j hj hrj (fun i3 rb hi3 hrb => ?_); refine Hd.region <| yv y_mv <| yv y_mv <| yv y_np <| yv (y_f 0 197 Tryz.underlying199 sz197) ?_; refine yv (y_idxA Tryz.underlying197 sz196 rfl rfl (by omega)) ?_; refine yv (y_f 2 194 Tryz.underlying196 sz194) ?_; refine yv (y_to (v' := .pointer (some ⟨rb, 0, none⟩)) (y_load1 ag194 rfl (Rd.pt1 pkk (by exact enc_at 2 hj (by omega) (by omega) rfl))) (by (show ptr (i3.p j) = _; rw [hrb]; rfl))) ?_; refine callE rfl fk178 (rclear_ct _ rb (rstW x j).cap ((rstW x j).e j).b) sq ?_; intro _; refine Hd.heap (WireP b ((rstW x j).up j fun e => { e with b := [] }) :: WoR wb k w i L) (fun q s => wire_ring (l' := []) hi3 hj hrb q (Ent.sep enn q s)) ?_; refine fk [(5, _), (7, _), (26, _)] hK14 ?_; refine Hd.region <| yv y_mv <| yv y_mv <| callE rfl fk173 (came_ct _ b ((rstW x j).up j fun e => { e with b := [] }) j hj true true) sq ?_
    intro _; rw [rst_up]; refine Hd.nil <| slots [(5, _), (26, _)] sbq ?_; refine Hd.inB <| Hd.toK hK12 ?_; refine Hd.region <| yv (y_addn rfl rfl (by simp only [InK]; omega)) ?_; refine yv y_mv <| Hd.nil <| slots [(5, _), (26, _)] sbq ?_; refine thenN ?_; exact Hd.again (j + 1) (by omega) sbq (Ent.sep (.pure (by omega) enn))
   ·try simp only [hyA, hyB, hyC, ne_eq] at hc1
    obtain rfl : j = 2 := by omega
    refine Hd.exit <| Hd.thenExit <| Hd.thenExit <| Hd.inBexit <| Hd.toK hK8 ?_; refine sr fun _ hK15 => ?_
    refine yv y_as <| fk [(4, _)] hK15 ?_; refine Hd.ret ?_; rw [hrd]; exact Hd.ret1 rfl () rfl (fun q s => world_fold' hw hrs hb (smW_reset x) q (Ent.sep enn q s))
end Wo
end Go.Proofs.YtbfddabjbkohdaaGreat
namespace Go.Proofs.YtbfddabjbkohdaaGreat
set_option maxHeartbeats 2000000
open Go.RX.Hd (yv y2 n1 fk sk sr tH callE heldK onlyH endH thenN slots)
set_option linter.unusedSimpArgs false
set_option linter.unusedVariables false
set_option linter.unnecessarySimpa false
open Go.RX Fx
namespace Rf
open Wo
set_option maxRecDepth 8000
theorem rPass_ct (L : List SP) (b : Nat) (w : WA) (n : Int) (hn : 0 ≤ n ∧ n ≤ 18446744073709551615) (h0 : 0 ≤ w.now ∧ w.now ≤ 18446744073709551615) : Ct Tryz.prog 136 #[.pointer (some ⟨b, 0, none⟩), .int .u64 n] (RwP b w :: L) (fun _ : Unit => .tuple #[]) (fun _ : Unit => RwP b (passR w n) :: L) := by
 refine Ct.o2 Tryz.func136 ?_; intro E
 show Hd E 23 _ _ _ _
 refine Hd.rw .here (fun i hi => ?_); refine Hd.seq fun _ hK1 => ?_
 refine sr fun _ hK2 => ?_
 refine yv y_mv <| yv y_mv <| yv y_np <| yv (y_f 1 30 Tryz.underlying133 sz30) ?_; refine yv (y_l1 ag30 rfl) ?_; refine yv (y_subn rfl rfl (by simp only [InK]; omega)) ?_; refine yv (y_gtr rfl rfl) ?_; refine fk [(0, _), (1, _), (10, _)] hK2 ?_; refine Hd.cond rfl (fun hc0 => ?_) (fun hc0 => ?_)
 ·try simp only [hyA, hyB, hyC, ne_eq] at hc0
  refine sr fun _ hK3 => ?_
  refine yv y_mv <| yv y_np <| yv (y_f 1 30 Tryz.underlying133 sz30) ?_; refine Hd.store1 sz30 rfl rfl rfl pkk (by simp; done) ?_
  try simp only [List.set_cons_zero, List.set_cons_succ]
  refine fk [] hK3 ?_; refine Hd.ret <| Hd.thenRet ?_
  have e : (18446744073709551615 : Int) = w.now + min n (18446744073709551615 - w.now) := by omega
  exact Hd.ret0 rfl () rfl (fun q s => rw_fold (w := passR w n) hi q (Ent.sep (.eq pkk (pt_eq (by show _ = RwC (passR w n) i.1.length i.2.1 i.2.2; unfold passR; rw [← e]; rfl)) enn) q s))
 ·try simp only [hyA, hyB, hyC, ne_eq] at hc0
  refine Hd.skip <| Hd.toK hK1 ?_; refine Hd.region <| yv y_mv <| yv y_mv <| yv y_np <| yv (y_f 1 30 Tryz.underlying133 sz30) ?_; refine yv (y_l1 ag30 rfl) ?_; refine yv y_mv <| yv (y_addn rfl rfl (by simp only [InK]; omega)) ?_; refine yv y_np <| yv (y_f 1 30 Tryz.underlying133 sz30) ?_; refine Hd.store1 sz30 rfl rfl rfl pkk (by simp; done) ?_
  try simp only [List.set_cons_zero, List.set_cons_succ]
  refine Hd.nil <| slots [] sbq ?_
  have e : w.now + n = w.now + min n (18446744073709551615 - w.now) := by omega
  exact Hd.end0 rfl () rfl (fun q s => rw_fold (w := passR w n) hi q (Ent.sep (.eq pkk (pt_eq (by show _ = RwC (passR w n) i.1.length i.2.1 i.2.2; unfold passR; rw [← e]; rfl)) enn) q s))
theorem rst0_e (x : WireA) (k : Nat) : (rstW x 0).e k = x.e k := by unfold rstW; simp
theorem rset_rs {rs : List Row} {n o : Nat} {x : WireA} {j : RwI} (h : rs[n]? = some (x, j)) (ho : o = n * 20 + 17) : (rs.flatMap encRW).set o (.bool true) = (rs.set n (rstW x 0, j)).flatMap encRW := by
 subst ho; refine rows_set (j := 17) encRW_len (by omega) ?_ h (by omega)
 rfl
theorem rReset_ct (L : List SP) (b : Nat) (w : WA) (n : Int) : Ct Tryz.prog 132 #[.pointer (some ⟨b, 0, none⟩), .int .i64 n] (RwP b w :: L) (fun _ : Unit => .int .i64 (resetR w n).1) (fun _ : Unit => RwP b (resetR w n).2 :: L) := by
 refine Ct.o2 Tryz.func132 ?_; intro E
 show Hd E 45 _ _ _ _
 refine sr fun _ hK1 => ?_
 refine yv y_as <| fk [(0, _), (1, _)] hK1 ?_; refine sr fun _ hK2 => ?_
 refine yv y_mv <| yv y_mv <| callE rfl fk177 (router_ct _ b w n) sq ?_; intro _; refine yv y_as <| fk [(0, _), (1, _), (5, _)] hK2 ?_; refine Hd.seq fun _ hK3 => ?_
 refine sr fun _ hK4 => ?_
 refine yv y_mv <| yv (y_not rfl) ?_; refine fk [(0, _), (1, _), (11, _)] hK4 ?_; refine Hd.cond rfl (fun hc0 => ?_) (fun hc0 => ?_)
 ·try simp only [hyA, hyB, hyC, ne_eq] at hc0
  refine sr fun _ hK5 => ?_
  refine yv y_as <| fk [(4, _)] hK5 ?_; refine Hd.ret <| Hd.thenRet ?_
  have hno : outW w n = none := by cases h : outW w n with | none => rfl | some y => rw [h] at hc0; simp at hc0
  rw [show resetR w n = (116, w) by unfold resetR; rw [hno]]; exact Hd.ret1 rfl () rfl sq
 ·try simp only [hyA, hyB, hyC, ne_eq] at hc0
  obtain ⟨x, ho⟩ : ∃ x, outW w n = some x := by cases h : outW w n with | none => rw [h] at hc0; simp at hc0 | some y => exact ⟨y, rfl⟩
  obtain ⟨h0, hx, _⟩ := outW_some ho
  obtain ⟨q, rfl⟩ : ∃ q : Nat, n = (q : Int) := ⟨n.toNat, by omega⟩
  rw [Int.toNat_natCast] at hx; refine Hd.rw .here (fun i hi => ?_)
  have hrl := rows_n hi
  obtain ⟨j, hrow⟩ := row_at hi hx
  have hn : q < i.1.length := (List.getElem?_eq_some_iff.1 hrow).1
  refine Hd.skip <| Hd.toK hK3 ?_; refine Hd.seq fun _ hK6 => ?_
  refine sr fun _ hK7 => ?_
  refine yv y_mv <| yv y_np <| yv (y_f 0 129 Tryz.underlying133 sz129) ?_; refine yv (y_l1 ag129 rfl) ?_; refine yv y_mv <| yv (y_idxR Tryz.underlying129 sz221 rfl rfl (by omega) (by exact RdS.own pkk)) ?_; refine yv (y_fR 17 4 Tryz.underlying221 sz4) ?_; refine yv (y_rw ag4 rfl hrow 17 rfl) ?_; refine fk [(0, _), (1, _), (19, _)] hK7 ?_; refine Hd.cond rfl (fun hc1 => ?_) (fun hc1 => ?_)
  ·try simp only [hyA, hyB, hyC, ne_eq] at hc1
   refine sr fun _ hK8 => ?_
   refine yv y_as <| fk [(4, _)] hK8 ?_; refine Hd.ret <| Hd.thenRet ?_; rw [show resetR w (q : Int) = (0, w) by unfold resetR; rw [ho]; show (0, if x.rs = true then w else _) = _; rw [if_pos hc1]]; exact Hd.ret1 rfl () rfl (rw_fold hi)
  ·try simp only [hyA, hyB, hyC, ne_eq] at hc1
   refine Hd.skip <| Hd.toK hK6 ?_; refine sr fun _ hK9 => ?_
   refine yv y_mv <| yv y_np <| yv (y_f 0 129 Tryz.underlying133 sz129) ?_; refine yv (y_l1 ag129 rfl) ?_; refine yv y_mv <| yv (y_idxR Tryz.underlying129 sz221 rfl rfl (by omega) (by exact RdS.own pkk)) ?_; refine yv (y_fR 17 4 Tryz.underlying221 sz4) ?_; refine Hd.storeO1 sz4 rfl rfl rfl pkk (by rw [rows_len encRW_len]; omega) ?_
   try simp only [List.set_cons_zero, List.set_cons_succ]
   refine Hd.nil ?_; rw [rset_rs hrow (by omega)]; refine Hd.heap (RwP b (w.setW q (rstW x 0)) :: L) (fun p s => rw_head (x' := rstW x 0) hi hrow (fun k _ => by rw [rst0_e]) rfl p (Ent.sep enn p s)) ?_; refine sk [(0, _), (1, _)] hK9 ?_; refine Hd.seq fun _ hK10 => ?_
   refine sr fun _ hK11 => ?_
   refine yv y_as <| fk [(0, _), (1, _), (6, _)] hK11 ?_; refine Hd.block <| Hd.loopK (ι := Nat) [(0, _), (1, _)] (fun k => [(6, .int .i64 (k : Int))]) (fun k => pu (k ≤ 2) :: RwP b (w.setW q (rstW x k)) :: L) (fun k => 2 - k) 0 sbq sbq (Ent.sep (.pure (by omega) enn)) ?_; intro k
   try dsimp only
   refine Hd.pure (fun hp0 => ?_)
   try dsimp only at hp0
   refine Hd.seq fun _ hK12 => ?_
   refine sr fun _ hK13 => ?_
   refine yv y_mv <| yv (y_lss rfl rfl) ?_; refine fk [(0, _), (1, _), (6, _), (28, _)] hK13 ?_; refine Hd.cond rfl (fun hc2 => ?_) (fun hc2 => ?_)
   ·try simp only [hyA, hyB, hyC, ne_eq] at hc2
    have hk : k < 2 := by omega
    have hx2 : (w.setW q (rstW x k)).ws[q]? = some (rstW x k) := setW_self hx
    refine Hd.rw .here (fun i' hi' => ?_)
    have hrl' := rows_n hi'
    obtain ⟨j', hrow'⟩ := row_at hi' hx2
    have hn' : q < i'.1.length := (List.getElem?_eq_some_iff.1 hrow').1
    refine Hd.bagOut pkk hrow' ?_; refine Hd.sd .here k hk ?_; refine Hd.skip <| Hd.toK hK12 ?_; refine Hd.seq fun _ hK14 => ?_
    refine Hd.block <| sr fun _ hK15 => ?_
    refine yv y_mv <| yv y_np <| yv (y_f 0 129 Tryz.underlying133 sz129) ?_; refine yv (y_l1 ag129 rfl) ?_; refine yv y_mv <| yv y_mv <| yv (y_idxR Tryz.underlying129 sz221 rfl rfl (by omega) (by exact RdS.own pkk)) ?_; refine yv (y_fR 0 219 Tryz.underlying221 sz219) ?_; refine yv (y_idxAR Tryz.underlying219 sz218 rfl rfl (by omega)) ?_; refine yv (y_fR 4 31 Tryz.underlying218 sz31) ?_; refine Hd.storeO1 sz31 rfl rfl rfl pkk (by rw [rows_len encRW_len]; omega) ?_
    try simp only [List.set_cons_zero, List.set_cons_succ]
    refine Hd.nil ?_; rw [rset_b (l := []) (m := 0) (o := q * 20 + 0 + k * 8 + 4) hrow' hk (by omega) rfl]; refine Hd.heap (RwP b ((w.setW q (rstW x k)).setW q ((rstW x k).up k fun e => { e with b := [] })) :: L) (sep_trans (sep_trans (Ent.sep (.ownNil (.pick pkk (.pick pkk .same)))) (sd_b (l := []) (a := none) (c := 0) hk)) (sep_trans sq (rw_put hi' hn'))) ?_; rw [setW_setW]; refine sk [(0, _), (1, _), (6, _)] hK15 ?_; refine Hd.region <| yv y_mv <| yv y_mv <| yv y_mv <| callE rfl fk176 (rrise_ct _ b _ q _ (setW_self hx) k hk true true) sq ?_; intro _; rw [setW_setW, rst_up]; refine Hd.nil <| slots [(0, _), (1, _), (6, _)] sbq ?_; refine Hd.inB <| Hd.toK hK14 ?_; refine Hd.region <| yv y_mv <| yv (y_addn rfl rfl (by simp only [InK]; omega)) ?_; refine yv y_as <| Hd.nil <| slots [(0, _), (1, _), (6, _)] sbq ?_; refine thenN ?_
    exact Hd.again (k + 1) (by omega) sbq (Ent.sep (.pure (by omega) enn))
   ·try simp only [hyA, hyB, hyC, ne_eq] at hc2
    obtain rfl : k = 2 := by omega
    refine Hd.exit <| Hd.thenExit <| Hd.thenExit <| Hd.inBexit <| Hd.toK hK10 ?_; refine sr fun _ hK16 => ?_
    refine yv y_as <| fk [(4, _)] hK16 ?_; refine Hd.ret ?_
    have e : rstW x 2 = resetW x := rfl
    rw [show resetR w (q : Int) = (0, w.setW q (resetW x)) by unfold resetR; rw [ho]; show (0, if x.rs = true then w else _) = _; rw [if_neg (by rw [hc1]; decide)]; rfl, ← e]; exact Hd.ret1 rfl () rfl sq
theorem rc_hd {w : WA} {n c s o : Nat} {ad : Option Addr} (hl : w.hd.length = 32) (hs : s < 32) (ho : o = 2 + s) : (RwC w n ad c)[o]? = some (.bool (w.hd.getD s false)) := by
 subst ho; rw [List.getElem?_append_right (by simp), List.getElem?_append_left (by simp; omega), List.getElem?_map, List.getD_eq_getElem?_getD]
 have e : 2 + s - ([Value.slice ad n c, Value.int .u64 w.now] : List Value).length = s := by simp
 rw [e, List.getElem?_eq_getElem (by omega)]; rfl
theorem rc_ct {w : WA} {n c s o : Nat} {ad : Option Addr} (hl : w.hd.length = 32) (hc : w.ct.length = 32) (hs : s < 32) (ho : o = 34 + s) : (RwC w n ad c)[o]? = some (.int .i64 (w.ct.getD s 0)) := by
 subst ho; rw [List.getElem?_append_right (by simp; omega), List.getElem?_append_right (by simp; omega), List.getElem?_append_left (by simp; omega), List.getElem?_map, List.getD_eq_getElem?_getD]
 have e : 34 + s - ([Value.slice ad n c, Value.int .u64 w.now] : List Value).length - (w.hd.map Value.bool).length = s := by simp; omega
 rw [e, List.getElem?_eq_getElem (by omega)]; rfl
theorem rc_nt {w : WA} {n c j o : Nat} {ad : Option Addr} {v : Value} (hl : w.hd.length = 32) (hc : w.ct.length = 32) (hv : (ntV w.nt)[j]? = some v) (ho : o = 66 + j) : (RwC w n ad c)[o]? = some v := by
 subst ho; rw [List.getElem?_append_right (by simp; omega), List.getElem?_append_right (by simp; omega), List.getElem?_append_right (by simp; omega)]
 have e : 66 + j - ([Value.slice ad n c, Value.int .u64 w.now] : List Value).length - (w.hd.map Value.bool).length - (w.ct.map (Value.int .i64)).length = j := by simp; omega
 rw [e]; exact hv
theorem sum_take_bd {l : List Int} {K : Int} (h : ∀ c ∈ l, 0 ≤ c ∧ c ≤ K) (s : Nat) : 0 ≤ (l.take s).sum ∧ (l.take s).sum ≤ (l.take s).length * K := by
 have h' : ∀ c ∈ l.take s, 0 ≤ c ∧ c ≤ K := fun c hc => h c (List.mem_of_mem_take hc)
 generalize l.take s = t at h'
 induction t with
 | nil => simp
 | cons c t ih =>
  have h1 := h' c List.mem_cons_self
  have h2 := ih fun q hq => h' q (List.mem_cons_of_mem _ hq)
  simp only [List.sum_cons, List.length_cons]
  have : ((t.length + 1 : Nat) : Int) * K = (t.length : Int) * K + K := by
   rw [Int.natCast_add, Int.add_mul]; simp
  omega
theorem rPending_ct (L : List SP) (b : Nat) (w : WA) (hw : WOk w) (hb : ∀ c ∈ w.ct, 0 ≤ c ∧ c ≤ 2000000000) : Ct Tryz.prog 199 #[.pointer (some ⟨b, 0, none⟩)] (RwP b w :: L) (fun _ : Unit => .int .i64 (pendN w)) (fun _ : Unit => RwP b w :: L) := by
 refine Ct.o1 Tryz.func199 ?_; intro E
 show Hd E 18 _ _ _ _
 refine Hd.rw .here (fun i hi => ?_)
 have hl := hw.hdl
 have hcl := hw.ctl
 have hdb : ∀ c ∈ w.ct.drop 1, 0 ≤ c ∧ c ≤ 2000000000 := fun c hc => hb c (List.mem_of_mem_drop hc)
 have hdl : (w.ct.drop 1).length = 31 := by rw [List.length_drop, hcl]
 refine sr fun _ hK1 => ?_
 refine yv y_as <| fk [(0, _)] hK1 ?_; refine sr fun _ hK2 => ?_
 refine yv y_as <| fk [(0, _), (3, _)] hK2 ?_; refine Hd.seq fun _ hK3 => ?_
 refine sr fun _ hK4 => ?_
 refine yv y_as <| fk [(0, _), (3, _), (4, _)] hK4 ?_; refine Hd.block <| Hd.loopK (ι := Nat) [(0, _)] (fun s => [(3, .int .i64 ((w.ct.drop 1).take s).sum), (4, .int .i64 ((s + 1 : Nat) : Int))]) (fun s => pu (s ≤ 31) :: RwL b w i L) (fun s => 31 - s) 0 sbq sbq (Ent.sep (.pure (by omega) enn)) ?_; intro s
 try dsimp only
 refine Hd.pure (fun hp0 => ?_)
 try dsimp only at hp0
 refine Hd.seq fun _ hK5 => ?_
 refine sr fun _ hK6 => ?_
 refine yv y_mv <| yv (y_leq rfl rfl) ?_; refine fk [(0, _), (3, _), (4, _), (6, _)] hK6 ?_; refine Hd.cond rfl (fun hc0 => ?_) (fun hc0 => ?_)
 ·try simp only [hyA, hyB, hyC, ne_eq] at hc0
  have hs : s < 31 := by omega
  have hbd := sum_take_bd hdb s
  have htl : ((w.ct.drop 1).take s).length = s := by rw [List.length_take]; omega
  have hsc : ((w.ct.drop 1).take (s + 1)).sum = ((w.ct.drop 1).take s).sum + w.ct.getD (s + 1) 0 := by
   rw [List.take_add_one, List.getElem?_drop, List.getD_eq_getElem?_getD, Nat.add_comm 1 s, List.getElem?_eq_getElem (show s + 1 < w.ct.length by omega)]; simp
  have hcb : 0 ≤ w.ct.getD (s + 1) 0 ∧ w.ct.getD (s + 1) 0 ≤ 2000000000 := by
   rw [List.getD_eq_getElem?_getD, List.getElem?_eq_getElem (show s + 1 < w.ct.length by omega)]; exact hb _ (List.getElem_mem _)
  rw [htl] at hbd; refine Hd.skip <| Hd.toK hK5 ?_; refine Hd.seq fun _ hK7 => ?_
  refine Hd.block <| Hd.region <| yv y_mv <| yv y_mv <| yv y_mv <| yv y_np <| yv (y_f 34 131 Tryz.underlying133 sz131) ?_; refine yv (y_idxA Tryz.underlying131 sz3 rfl rfl (by omega)) ?_; refine yv (y_load1 ag3 rfl (Rd.pt1 pkk (rc_ct hl hcl (show s + 1 < 32 by omega) (by omega)))) ?_; refine yv (y_addn rfl rfl (by simp only [InK]; omega)) ?_; refine yv y_as <| Hd.nil <| slots [(0, _), (3, _), (4, _)] sbq ?_; refine Hd.inB <| Hd.toK hK7 ?_; refine Hd.region <| yv y_mv <| yv (y_addn rfl rfl (by simp only [InK]; omega)) ?_; refine yv y_as <| Hd.nil <| slots [(0, _), (3, _), (4, _)] sbq ?_; refine thenN ?_; rw [← hsc]; exact Hd.again (s + 1) (by omega) sbq (Ent.sep (.pure (by omega) enn))
 ·try simp only [hyA, hyB, hyC, ne_eq] at hc0
  obtain rfl : s = 31 := by omega
  refine Hd.exit <| Hd.thenExit <| Hd.thenExit <| Hd.inBexit <| Hd.toK hK3 ?_; refine sr fun _ hK8 => ?_
  refine yv y_mv <| yv y_as <| fk [(2, _)] hK8 ?_; refine Hd.ret ?_
  have e : ((w.ct.drop 1).take 31).sum = pendN w := by unfold pendN; rw [List.take_of_length_le (by omega)]
  rw [← e]; exact Hd.ret1 rfl () rfl (rw_fold hi)
abbrev frN (w : WA) (i : Nat) : List Nat := (List.range i).filter fun fd : Nat => (w.at (fd : Int)).isNone
theorem rfree_ct (L : List SP) (b : Nat) (w : WA) (hw : WOk w) : Ct Tryz.prog 114 #[.pointer (some ⟨b, 0, none⟩)] (RwP b w :: L) (fun q_ : Option Addr × Nat => .slice q_.1 (frees w.at).length q_.2) (fun q_ : Option Addr × Nat => own 3 1 q_.1 (frees w.at).length q_.2 (nats (frees w.at)) :: RwP b w :: L) := by
 refine Ct.o1 Tryz.func114 ?_; intro E
 show Hd E 24 _ _ _ _
 refine sr fun _ hK1 => ?_
 refine yv y_as <| fk [(0, _)] hK1 ?_; refine sr fun _ hK2 => ?_
 refine yv y_as <| fk [(0, _), (3, _)] hK2 ?_; refine Hd.seq fun _ hK3 => ?_
 refine sr fun _ hK4 => ?_
 refine yv y_as <| fk [(0, _), (3, _), (4, _)] hK4 ?_; refine Hd.block <| Hd.loopK (ι := Nat × Option Addr × Nat) [(0, _)] (fun q_ => [(3, .slice q_.2.1 (frN w q_.1).length q_.2.2), (4, .int .i64 (q_.1 : Int))]) (fun q_ => pu (q_.1 ≤ 96) :: own 3 1 q_.2.1 (frN w q_.1).length q_.2.2 (nats (frN w q_.1)) :: RwP b w :: L) (fun q_ => 96 - q_.1) (0, none, 0) sbq sbq (fun q t => Ent.sep (.pure (Nat.zero_le _) (.ownNil .same)) q t) ?_; rintro ⟨i, ad, c⟩
 try dsimp only
 refine Hd.pure (fun hp0 => ?_)
 try dsimp only at hp0
 refine Hd.seq fun _ hK5 => ?_
 refine sr fun _ hK6 => ?_
 refine yv y_mv <| yv (y_leq rfl rfl) ?_; refine fk [(0, _), (3, _), (4, _), (8, _)] hK6 ?_; refine Hd.cond rfl (fun hc0 => ?_) (fun hc0 => ?_)
 ·try simp only [hyA, hyB, hyC, ne_eq] at hc0
  have hi : i < 96 := by omega
  have hsf := range_succ_filter (fun fd : Nat => (w.at (fd : Int)).isNone) i
  have hll : (frN w i).length ≤ i := by
   have := List.length_filter_le (fun fd : Nat => (w.at (fd : Int)).isNone) (List.range i)
   rwa [List.length_range] at this
  obtain ⟨g, hg⟩ : ∃ g, g = frN w i := ⟨_, rfl⟩
  rw [← hg] at hll ⊢
  have hsg : frN w (i + 1) = g ++ (if (w.at (i : Int)).isNone = true then [i] else []) := by rw [hg]; refine Eq.trans hsf ?_; split <;> simp
  refine Hd.skip <| Hd.toK hK5 ?_; refine Hd.seq fun _ hK7 => ?_
  refine Hd.block <| sr fun _ hK8 => ?_
  refine yv y_mv <| yv y_mv <| callE rfl fk116 (rat_ct _ b w hw (i : Int)) sq ?_; intro _; refine yv y_mv <| yv y_ex <| yv y_ex <| yv y_as <| yv y_as <| fk [(0, _), (3, _), (4, _), (5, _)] hK8 ?_; refine sr fun _ hK9 => ?_
  refine yv y_mv <| yv (y_lss rfl rfl) ?_; refine fk [(0, _), (3, _), (4, _), (18, _)] hK9 ?_; refine Hd.cond rfl (fun hc1 => ?_) (fun hc1 => ?_)
  ·try simp only [hyA, hyB, hyC, ne_eq] at hc1
   refine Hd.region <| yv y_mv <| yv y_mv <| Hd.bslice (vs := [(0, _)]) rfl (by exact bs114_21 ..) (fun b21 => ?_); refine Hd.append Tryz.underlying44 ty3 rfl rfl rfl pkk (by exact RdS.rd (Rd.pt pkk (fun j v e => by simpa using e)) rfl) (by simp [Value.oneCell']; done) (by simp only [maxLen]; omega) (by omega) (fun ad22 cap22 => ?_); refine yv y_as <| Hd.nil <| slots [(0, _), (3, _), (4, _)] sbq ?_; refine Hd.inB <| Hd.toK hK7 ?_; refine Hd.region <| yv y_mv <| yv (y_addn rfl rfl (by simp only [InK]; omega)) ?_; refine yv y_as <| Hd.nil <| slots [(0, _), (3, _), (4, _)] sbq ?_; refine thenN ?_
   have hfr : (w.at (i : Int)).isNone = true := by rw [atN_no hc1]; rfl
   rw [if_pos hfr] at hsg; refine Hd.again (i + 1, ad22, cap22) (by show 96 - (i + 1) < 96 - i; omega) (by rw [hsg]; simp only [List.length_append, List.length_singleton]; repeat (first | exact trivial | refine ⟨rfl, ?_⟩)) (fun q t => ?_); rw [hsg]; exact Ent.sep (.pure (show i + 1 ≤ 96 by omega) (.eq pkk (own_eq3 (by simp) rfl (by simp [nats])) enn)) q t
  ·try simp only [hyA, hyB, hyC, ne_eq] at hc1
   refine Hd.skip <| Hd.inB <| Hd.toK hK7 ?_; refine Hd.region <| yv y_mv <| yv (y_addn rfl rfl (by simp only [InK]; omega)) ?_; refine yv y_as <| Hd.nil <| slots [(0, _), (3, _), (4, _)] sbq ?_; refine thenN ?_
   have hfr : ¬ ((w.at (i : Int)).isNone = true) := by
    obtain ⟨n, k, hnk⟩ := atN_yes (by omega : 0 ≤ atN (w.at (i : Int)))
    rw [hnk]; simp
   rw [if_neg hfr, List.append_nil] at hsg; refine Hd.again (i + 1, ad, c) (by show 96 - (i + 1) < 96 - i; omega) (by rw [hsg]; repeat (first | exact trivial | refine ⟨rfl, ?_⟩)) (fun q t => ?_); rw [hsg]; exact Ent.sep (.pure (show i + 1 ≤ 96 by omega) enn) q t
 ·try simp only [hyA, hyB, hyC, ne_eq] at hc0
  obtain rfl : i = 96 := by omega
  refine Hd.exit <| Hd.thenExit <| Hd.thenExit <| Hd.inBexit <| Hd.toK hK3 ?_; refine sr fun _ hK10 => ?_
  refine yv y_mv <| yv y_as <| fk [(2, _)] hK10 ?_; refine Hd.ret ?_; exact Hd.ret1 rfl (ad, c) rfl sq
theorem closeAll_snoc : ∀ (l : List Nat) (ws : List WireA) (a : Nat), closeAll ws (l ++ [a]) = (match (closeAll ws l)[a]? with | some y => (closeAll ws l).set a (closeW y 0) | none => closeAll ws l)
 | [], _, _ => rfl
 | n :: t, ws, a => closeAll_snoc t _ a
theorem closeAll_len : ∀ (l : List Nat) (ws : List WireA), (closeAll ws l).length = ws.length
 | [], _ => rfl
 | n :: t, ws => by
  show (closeAll (match ws[n]? with | some y => ws.set n (closeW y 0) | none => ws) t).length = _
  rw [closeAll_len t]
  split <;> simp
def clI (w : WA) (n : Nat) (X : WireA) (l : List Nat) : WA := { w with ws := (closeAll w.ws l).set n X }
theorem clI_nil (w : WA) (n : Nat) (X : WireA) : clI w n X [] = w.setW n X := rfl
theorem clI_at {w : WA} {n : Nat} {X : WireA} (l : List Nat) (hn : n < w.ws.length) : (clI w n X l).ws[n]? = some X := by
 show ((closeAll w.ws l).set n X)[n]? = _
 rw [List.getElem?_set_self (by rw [closeAll_len]; exact hn)]
theorem clI_some {w : WA} {n a : Nat} {X : WireA} (l : List Nat) (ha : a < w.ws.length) : ∃ y, (clI w n X l).ws[a]? = some y := by
 refine ⟨_, List.getElem?_eq_getElem (?_ : a < ((closeAll w.ws l).set n X).length)⟩; rw [List.length_set, closeAll_len]; exact ha
theorem clI_step {w : WA} {n a : Nat} {X y : WireA} {l : List Nat} (hna : n ≠ a) (hy : (clI w n X l).ws[a]? = some y) : (clI w n X l).setW a (closeW y 0) = clI w n X (l ++ [a]) := by
 have hy2 : (closeAll w.ws l)[a]? = some y := by
  have : ((closeAll w.ws l).set n X)[a]? = some y := hy
  rwa [List.getElem?_set_ne hna] at this
 show ({ w with ws := ((closeAll w.ws l).set n X).set a (closeW y 0) } : WA) = { w with ws := (closeAll w.ws (l ++ [a])).set n X }
 rw [closeAll_snoc, hy2, List.set_comm _ _ hna]
theorem clI_end {w : WA} {n : Nat} {X : WireA} {l : List Nat} (hn : n ∉ l) : (clI w n X l).setW n (X.wts []) = { w with ws := closeAll (w.ws.set n (X.wts [])) l } := by
 show ({ w with ws := ((closeAll w.ws l).set n X).set n (X.wts []) } : WA) = _
 rw [List.set_set, closeAll_set l w.ws hn]
theorem rset_wt {rs : List Row} {n o : Nat} {x : WireA} {j : RwI} (h : rs[n]? = some (x, j)) (ho : o = n * 20 + 19) : (rs.flatMap encRW).set o (.slice none 0 0) = (rs.set n (x.wts [], { j with wa := none, wc := 0 })).flatMap encRW := by
 subst ho; refine rows_set (j := 19) encRW_len (by omega) ?_ h (by omega)
 rfl
theorem bag_back {α : Type} {f : α → SP} {rs : List α} {j : Nat} {x : α} {L : List SP} {h : PH} (hj : rs[j]? = some x) (s : sep (f x :: Bag f (rs.take j) :: Bag f (rs.drop (j + 1)) :: L) h) : sep (Bag f rs :: L) h := by
 obtain ⟨hl, e⟩ := List.getElem?_eq_some_iff.1 hj
 have := bag_in hl s
 rwa [← e, List.set_getElem_self] at this
theorem sd_wt {X : WireA} {j : RwI} {L : List SP} : ∀ h, sep (SdL (X, j) 0 L) h → sep (Sd (X.wts [], { j with wa := none, wc := 0 }) :: L) h := fun h s =>
 sd_fold (p := (X.wts [], { j with wa := none, wc := 0 })) (k := 0) (by decide) h (show sep (SdB (X, j) 0 :: SdB (X, j) (1 - 0) :: own 3 1 none 0 0 [] :: L) h from
  Ent.sep (show Ent (SdB (X, j) 0 :: SdB (X, j) (1 - 0) :: SdW (X, j) :: L) (SdB (X, j) 0 :: SdB (X, j) (1 - 0) :: own 3 1 none 0 0 [] :: L) from .pick pkk (.pick pkk (.ownNil enn))) h s)
theorem rClose_ct (L : List SP) (b : Nat) (w : WA) (hw : WOk w) (fd : Int) : Ct Tryz.prog 68 #[.pointer (some ⟨b, 0, none⟩), .int .i64 fd] (RwP b w :: L) (fun _ : Unit => .int .i64 (closeF w fd).1) (fun _ : Unit => RwP b (closeF w fd).2 :: L) := by
 refine Ct.o2 Tryz.func68 ?_; intro E
 show Hd E 53 _ _ _ _
 refine sr fun _ hK1 => ?_
 refine yv y_as <| fk [(0, _), (1, _)] hK1 ?_; refine sr fun _ hK2 => ?_
 refine yv y_mv <| yv y_mv <| callE rfl fk116 (rat_ct _ b w hw fd) sq ?_; intro _; refine yv y_mv <| yv y_ex <| yv y_ex <| yv y_as <| yv y_as <| fk [(0, _), (5, _), (6, _)] hK2 ?_; refine Hd.seq fun _ hK3 => ?_
 refine sr fun _ hK4 => ?_
 refine yv y_mv <| yv (y_lss rfl rfl) ?_; refine fk [(0, _), (5, _), (6, _), (15, _)] hK4 ?_; refine Hd.cond rfl (fun hc0 => ?_) (fun hc0 => ?_)
 ·try simp only [hyA, hyB, hyC, ne_eq] at hc0
  have hno := atN_no hc0
  refine sr fun _ hK5 => ?_
  refine yv y_as <| fk [(4, _)] hK5 ?_; refine Hd.ret <| Hd.thenRet ?_; rw [show closeF w fd = (110, w) by unfold closeF; rw [hno]]; exact Hd.ret1 rfl () rfl sq
 ·try simp only [hyA, hyB, hyC, ne_eq] at hc0
  obtain ⟨n, k, hnk⟩ := atN_yes (by omega)
  obtain ⟨_, _, hk, hnl, x, hx, _, _⟩ := hw.at_lt hnk
  rw [show atN (w.at fd) = (n : Int) by rw [hnk]; rfl, show atK (w.at fd) = (k : Int) by rw [hnk]; rfl]
  obtain ⟨X, hX⟩ : ∃ X, X = closeW x k := ⟨_, rfl⟩
  have hXw : X.wt = x.wt := by rw [hX]; rfl
  have hns := hw.ns n x hx
  have hwl : ∀ a ∈ x.wt, a < w.ws.length := fun a ha => by
   obtain ⟨y, hy, _⟩ := hw.wm a (List.mem_flatMap.2 ⟨x, List.mem_of_getElem? hx, ha⟩)
   exact (List.getElem?_eq_some_iff.1 hy).1
  have hlen := hw.len
  have hwf := hw.wf x (List.mem_of_getElem? hx)
  have hwt := wt_le hw hx
  refine Hd.skip <| Hd.toK hK3 ?_; refine sr fun _ hK6 => ?_
  refine yv y_mv <| yv y_mv <| yv y_mv <| callE rfl fk123 (rclose_ct _ b w n x hx k hk) sq ?_; intro _; rw [← hX, ← clI_nil]; refine fk [(0, _), (5, _)] hK6 ?_; refine Hd.seq fun _ hK7 => ?_
  refine sr fun _ hK8 => ?_
  refine yv y_as <| fk [(0, _), (5, _), (7, _)] hK8 ?_; refine Hd.block <| Hd.loopK (ι := Nat) [(0, _), (5, _)] (fun i => [(7, .int .i64 (i : Int))]) (fun i => pu (i ≤ x.wt.length) :: RwP b (clI w n X (x.wt.take i)) :: L) (fun i => x.wt.length - i) 0 sbq sbq (Ent.sep (.pure (by omega) enn)) ?_; intro i
  try dsimp only
  refine Hd.pure (fun hp0 => ?_)
  try dsimp only at hp0
  refine Hd.seq fun _ hK9 => ?_
  refine sr fun _ hK10 => ?_
  have hx2 := clI_at (w := w) (X := X) (x.wt.take i) hnl
  refine Hd.rw .here (fun i' hi' => ?_)
  have hrl' := rows_n hi'
  obtain ⟨j', hrow'⟩ := row_at hi' hx2
  have hn' : n < i'.1.length := (List.getElem?_eq_some_iff.1 hrow').1
  refine yv y_mv <| yv y_mv <| yv y_np <| yv (y_f 0 129 Tryz.underlying133 sz129) ?_; refine yv (y_l1 ag129 rfl) ?_; refine yv y_mv <| yv (y_idxR Tryz.underlying129 sz221 rfl rfl (by omega) (by exact RdS.own pkk)) ?_; refine yv (y_fR 19 44 Tryz.underlying221 sz44) ?_; refine yv (y_to (v' := .slice j'.wa x.wt.length j'.wc) (y_rw ag44 rfl hrow' 19 rfl) (by (rw [← hXw]))) ?_; refine yv (y_len Tryz.underlying44 rfl) ?_; refine yv (y_lss rfl rfl) ?_; refine fk [(0, _), (5, _), (7, _), (30, _)] hK10 ?_; refine Hd.cond rfl (fun hc1 => ?_) (fun hc1 => ?_)
  ·try simp only [hyA, hyB, hyC, ne_eq] at hc1
   have hi : i < x.wt.length := by omega
   have hiX : i < X.wt.length := by rw [hXw]; exact hi
   obtain ⟨a, ha⟩ : ∃ a, a = x.wt[i] := ⟨_, rfl⟩
   have hga : x.wt[i]? = some a := by rw [ha]; exact List.getElem?_eq_getElem hi
   have hma : a ∈ x.wt := List.mem_of_getElem? hga
   have hna : n ≠ a := fun e => hns (e ▸ hma)
   obtain ⟨y, hy⟩ := clI_some (w := w) (n := n) (X := X) (x.wt.take i) (hwl a hma)
   have htk : x.wt.take (i + 1) = x.wt.take i ++ [a] := by rw [List.take_add_one, hga]; rfl
   have hgv : (nats X.wt)[i * 1]? = some (.int .i64 (a : Int)) := by rw [hXw, Nat.mul_one, List.getElem?_map, hga]; rfl
   refine Hd.bagOut pkk hrow' ?_; refine Hd.sd .here 0 (by decide) ?_; refine Hd.skip <| Hd.toK hK9 ?_; refine Hd.seq fun _ hK11 => ?_
   refine Hd.block <| Hd.region <| yv y_mv <| yv y_mv <| yv y_np <| yv (y_f 0 129 Tryz.underlying133 sz129) ?_; refine yv (y_l1 ag129 rfl) ?_; refine yv y_mv <| yv (y_idxR Tryz.underlying129 sz221 rfl rfl (by omega) (by exact RdS.own pkk)) ?_; refine yv (y_fR 19 44 Tryz.underlying221 sz44) ?_; refine yv (y_rw ag44 rfl hrow' 19 rfl) ?_; refine yv y_mv <| yv (y_idxR Tryz.underlying44 sz3 rfl rfl (by omega) (by exact RdS.own pkk)) ?_; refine yv (y_loadR1 ag3 rfl (RdS.own (ad := j'.wa) (us := nats X.wt) pkk) hgv) ?_; refine Hd.heap (RwP b (clI w n X (x.wt.take i)) :: L) (sep_trans (sep_trans sq (sd_fold (p := (X, j')) (k := 0) (by decide) (L := Bag Sd (i'.1.take n) :: Bag Sd (i'.1.drop (n + 1)) :: RwH b (clI w n X (x.wt.take i)) i'.1.length i'.2.1 i'.2.2 :: OwR i' :: L))) (fun q s => rw_fold hi' q (Ent.sep enn q (bag_back hrow' s)))) ?_; refine callE rfl fk123 (rclose_ct _ b _ a y hy 0 (by decide)) sq ?_
   intro _; rw [clI_step hna hy, ← htk]; refine Hd.nil <| slots [(0, _), (5, _), (7, _)] sbq ?_; refine Hd.inB <| Hd.toK hK11 ?_; refine Hd.region <| yv y_mv <| yv (y_addn rfl rfl (by simp only [InK]; omega)) ?_; refine yv y_as <| Hd.nil <| slots [(0, _), (5, _), (7, _)] sbq ?_; refine thenN ?_; exact Hd.again (i + 1) (by omega) sbq (Ent.sep (.pure (by omega) enn))
  ·try simp only [hyA, hyB, hyC, ne_eq] at hc1
   obtain rfl : i = x.wt.length := by omega
   rw [List.take_length] at *; refine Hd.bagOut pkk hrow' ?_; refine Hd.sd .here 0 (by decide) ?_; refine Hd.exit <| Hd.thenExit <| Hd.thenExit <| Hd.inBexit <| Hd.toK hK7 ?_; refine sr fun _ hK12 => ?_
   refine yv y_mv <| yv y_np <| yv (y_f 0 129 Tryz.underlying133 sz129) ?_; refine yv (y_l1 ag129 rfl) ?_; refine yv y_mv <| yv (y_idxR Tryz.underlying129 sz221 rfl rfl (by omega) (by exact RdS.own pkk)) ?_; refine yv (y_fR 19 44 Tryz.underlying221 sz44) ?_; refine Hd.storeO1 sz44 rfl rfl rfl pkk (by rw [rows_len encRW_len]; omega) ?_
   try simp only [List.set_cons_zero, List.set_cons_succ]
   refine Hd.nil ?_; rw [rset_wt hrow' (by omega)]; refine sk [] hK12 ?_; refine sr fun _ hK13 => ?_
   refine yv y_as <| fk [(4, _)] hK13 ?_; refine Hd.ret ?_
   have e := clI_end (w := w) (X := X) hns
   rw [show closeF w fd = (0, { w with ws := closeAll (w.ws.set n (X.wts [])) x.wt }) by unfold closeF; rw [hnk]; dsimp only; rw [hx, hX], ← e]; refine Hd.heap (RwP b ((clI w n X x.wt).setW n (X.wts [])) :: L) (fun q s => ?_) (Hd.ret1 rfl () rfl sq)
   have s1 : sep (SdL (X, j') 0 (Bag Sd (i'.1.take n) :: Bag Sd (i'.1.drop (n + 1)) :: RwH b (clI w n X x.wt) i'.1.length i'.2.1 i'.2.2 :: own 221 20 i'.2.1 i'.1.length i'.2.2 ((i'.1.set n (X.wts [], { j' with wa := none, wc := 0 })).flatMap encRW) :: L)) q := Ent.sep enn q s
   exact rw_put hi' hn' q (Ent.sep enn q (sd_wt q s1))
end Rf
end Go.Proofs.YtbfddabjbkohdaaGreat
namespace Go.RX
set_option linter.unusedSimpArgs false
set_option linter.unusedVariables false
set_option linter.unnecessarySimpa false
section
variable {E : World} {n : Nat} {ds : List Deferred} {st st' : List (Nat × Value)} {L L' M : List SP} {r : Option Nat} {P : Program} {Q : Exit → Act → World → Prop} {ops : Array Oper} {rest : List Oper}
variable {d : Nat} {ty t t2 : TypeId} {pos : String} {af : Array Edge} {g : Option (Nat × Bool)} {x y z : Operand} {v u : Value} {k : IntKind} {p q : Bool}
variable {md : Region.Mode} {S : World → Prop} {J : Nat → Bool}
structure Waits (md : Region.Mode) (ops : Array Oper) (i : Nat) (D : List Nat) : Prop where
 up : ∀ (j : Nat) oj, ops[j]? = some oj → j ∈ D → ∃ e ∈ oj.after, Region.binds md e = true ∧ (e.on = i ∨ e.on ∈ D)
 dn : ∀ (j : Nat) oj, ops[j]? = some oj → j ∉ D → ∀ e ∈ oj.after, Region.binds md e = true → e.on ≠ i
theorem wpAnyHz_firstT {i : Nat} {oi : Oper} {v : Value} {D : List Nat} (hi : ops[i]? = some oi) (hsel : ∀ (j : Nat) (o : Oper) cs b, ops[j]? = some o → o.op ≠ .select cs b) (hW : Waits md ops i D)
  (hJ : ∀ (j : Nat) oj, ops[j]? = some oj → j ∉ D → J j = true) (hnd : ∀ (j : Nat) (o : Oper), ops[j]? = some o → ∀ c, o.op ≠ .defer c) :
  ∀ (fuel : Nat) (listed : Array Bool) (a : Act) (w : World),
   (∀ j oj, ops[j]? = some oj → j ≠ i → listed.getD j true = false → (∀ e ∈ oj.after, Region.binds md e = true → e.on ≠ i) → oi.apart ops oj = true) →
   (∀ j ∈ D, listed[j]? ≠ some true) →
   i ∈ Region.ready md ops listed → YieldsIn P ops S oi v a → S w →
   wpAnyHz r P md ops Q S J fuel (listed.setIfInBounds i true) (a.put oi.dst v) w → wpAnyHz r P md ops Q S J (fuel + 1) listed a w := by
 intro fuel
 induction fuel with
 | zero =>
  intro listed a w _ _ hr hy hS H; refine ⟨fun h => (by rw [h] at hr; cases hr), fun j hj => ?_⟩
  by_cases hji : j = i
  ·subst hji; exact hy.wpOpIn hi (hnd _ _ hi) hS ⟨fun _ => hS, H⟩
  ·have := ready_mono hj hji
   rw [H.1] at this
   cases this
 | succ fuel ih =>
  intro listed a w hfree hD hr hy hS H; refine ⟨fun h => (by rw [h] at hr; cases hr), fun j hj => ?_⟩
  by_cases hji : j = i
  ·subst hji; exact hy.wpOpIn hi (hnd _ _ hi) hS ⟨fun _ => hS, H⟩
  ·have h1 := H.2 j (ready_mono hj hji)
   obtain ⟨hjun, oj, hoj, hall⟩ := mem_ready.1 hj
   have hlist : ∀ q, listed[q]? ≠ some true → q < listed.size → ∀ e ∈ oj.after, Region.binds md e = true → e.on ≠ q := fun q hq hql e he hb heq => by
    have h1 := hall e he hb
    rw [heq] at h1; rw [Array.getElem?_eq_getElem hql] at hq; simp [hql] at h1; exact hq (by rw [h1])
   have hnoti : ∀ e ∈ oj.after, Region.binds md e = true → e.on ≠ i := fun e he hb heq => by
    have h1 := hall e he hb
    have h0 := (mem_ready.1 hr).1
    rw [heq] at h1
    rcases Nat.lt_or_ge i listed.size with h' | h'
    ·simp [h'] at h0 h1; rw [h0] at h1; cases h1
    ·simp [Array.getElem?_eq_none h'] at h1
   have hjD : j ∉ D := fun hjD => by
    obtain ⟨e, he, hb, h2⟩ := hW.up j oj hoj hjD
    rcases h2 with h2 | h2
    ·exact hnoti e he hb h2
    ·have h3 := hall e he hb
     have h4 := hD e.on h2
     rcases Nat.lt_or_ge e.on listed.size with h' | h'
     ·rw [Array.getElem?_eq_getElem h'] at h4
      simp [h'] at h3; exact h4 (by rw [h3])
     ·simp [Array.getElem?_eq_none h'] at h3
   have h2 := wpOpIn_putIn hoj (hnd _ _ hoj) (hfree j oj hoj hji hjun hnoti) (fun cs b => hsel i oi cs b hi) (fun cs b => hsel j oj cs b hoj) hy h1
   have hfree' : ∀ k ok, ops[k]? = some ok → k ≠ i → (listed.setIfInBounds j true).getD k true = false →
     (∀ e ∈ ok.after, Region.binds md e = true → e.on ≠ i) → oi.apart ops ok = true := fun k ok hk hki hun hno => by
    refine hfree k ok hk hki ?_ hno
    by_cases hjk : j = k
    ·subst hjk; exact hjun
    ·rw [getD_set_ne true hjk] at hun; exact hun
   have hD' : ∀ q ∈ D, (listed.setIfInBounds j true)[q]? ≠ some true := fun q hq => by
    have hne : j ≠ q := fun e => hjD (e ▸ hq)
    rw [Array.getElem?_setIfInBounds_ne hne]; exact hD q hq
   have hJj := hJ j oj hoj hjD
   refine wpOpIn_mono (fun a' w' h3 => ⟨fun _ => h3.2.1 hJj, ih (listed.setIfInBounds j true) a' w' hfree' hD' (ready_mono hr (Ne.symm hji)) h3.1 (h3.2.1 hJj) ?_⟩) h2; rw [Array.setIfInBounds_comm _ _ hji]; exact h3.2.2
def jOkT (md : Region.Mode) (ops : Array Oper) (J : Nat → Bool) (i : Nat) (D : List Nat) (listed : Array Bool) : Bool :=
 (ops.all fun o => !isDefer o.op) && ((List.range ops.size).all fun j => J j || D.contains j) &&
 ((List.range ops.size).all fun j => match ops[j]? with
  | some oj => bif D.contains j then oj.after.any (fun e => Region.binds md e && (Nat.beq e.on i || D.contains e.on)) else oj.after.all fun e => !(Region.binds md e && Nat.beq e.on i)
  | none => true) && D.all fun j => match listed[j]? with
  | some b => !b
  | none => true
theorem jOkT_J {i : Nat} {D : List Nat} {listed : Array Bool} (h : jOkT md ops J i D listed = true) : ∀ (j : Nat) oj, ops[j]? = some oj → j ∉ D → J j = true := fun j oj hj hn => by
 simp only [jOkT, Bool.and_eq_true] at h
 have := List.all_eq_true.1 h.1.1.2 j (List.mem_range.2 (Array.getElem?_eq_some_iff.1 hj).1)
 simp only [Bool.or_eq_true, List.contains_iff_mem] at this; exact this.resolve_right hn
theorem jOkT_nd {i : Nat} {D : List Nat} {listed : Array Bool} (h : jOkT md ops J i D listed = true) : ∀ (j : Nat) (o : Oper), ops[j]? = some o → ∀ c, o.op ≠ .defer c := fun j o hj c hc => by
 simp only [jOkT, Bool.and_eq_true] at h
 have := Array.all_eq_true'.1 h.1.1.1 o (Array.mem_of_getElem? hj)
 rw [hc] at this; cases this
theorem jOkT_W {i : Nat} {D : List Nat} {listed : Array Bool} (h : jOkT md ops J i D listed = true) : Waits md ops i D := by
 simp only [jOkT, Bool.and_eq_true] at h
 have hh : ∀ (j : Nat) oj, ops[j]? = some oj → (bif D.contains j then oj.after.any (fun e => Region.binds md e && (Nat.beq e.on i || D.contains e.on)) else oj.after.all fun e => !(Region.binds md e && Nat.beq e.on i)) = true := fun j oj hj => by
  have := List.all_eq_true.1 h.1.2 j (List.mem_range.2 (Array.getElem?_eq_some_iff.1 hj).1)
  simpa only [hj] using this
 constructor
 ·intro j oj hj hD
  have := hh j oj hj
  rw [List.contains_iff_mem.2 hD, cond_true] at this
  obtain ⟨e, he, h2⟩ := Array.any_eq_true'.1 this
  simp only [Bool.and_eq_true, Bool.or_eq_true, List.contains_iff_mem] at h2; exact ⟨e, he, h2.1, h2.2.imp Nat.eq_of_beq_eq_true id⟩
 ·intro j oj hj hD e he hb heq
  have := hh j oj hj
  have hc : D.contains j = false := by
   cases hcc : D.contains j with
   | false => rfl
   | true => exact absurd (List.contains_iff_mem.1 hcc) hD
  rw [hc, cond_false] at this
  have h2 := Array.all_eq_true'.1 this e he
  rw [hb, heq] at h2; simp at h2
theorem jOkT_D {i : Nat} {D : List Nat} {listed : Array Bool} (h : jOkT md ops J i D listed = true) : ∀ j ∈ D, listed[j]? ≠ some true := fun j hj hl => by
 simp only [jOkT, Bool.and_eq_true] at h
 have := List.all_eq_true.1 h.2 j hj
 rw [hl] at this
 cases this
theorem Hd.takeT (D : List Nat) (i : Nat) {op : Op} {f : Nat} {listed : Array Bool} (hi : ops[i]? = some ⟨some d, op, ty, pos, af, none⟩) (hs : Region.noSelect ops = true) (hf : Region.free .any ops listed i = true)
  (hr : (Region.ready .any ops listed).contains i = true) (hJ : jOkT .any ops J i D listed = true) (hx : Yv E n ds st M P ⟨some d, op, ty, pos, af, none⟩ v) (hab : ∀ (a : Act) w, (⟨some d, op, ty, pos, af, none⟩ : Oper).about P w a.eval = none)
  (hM : ∀ k, sep L k → sep M k) (K : Hd E n ds ((d, v) :: st) L (ZW r P ops Q (Sat E M) J f (listed.setIfInBounds i true))) (hd : d < n := by decide) :
  Hd E n ds st L (ZW r P ops Q (Sat E M) J (f + 1) listed) := fun a w fr s => by
 refine wpAnyHz_firstT hi (Region.noSelect_spec hs) (jOkT_W hJ) (jOkT_J hJ) (jOkT_nd hJ) f listed a w (Region.free_spec hi hf) (jOkT_D hJ) (by simpa using hr) ?_ (s.mp hM) (K _ w (fr.put hd v) s); exact ⟨.inl ⟨by simp [Region.wanted], fun w sw => hx a w fr sw⟩, fun w => hab a w⟩
end
end Go.RX
namespace Go.Proofs.YtbfddabjbkohdaaGreat
set_option maxHeartbeats 2000000
open Go.RX.Hd (yv y2 n1 fk sk sr tH callE heldK onlyH endH thenN slots)
set_option linter.unusedSimpArgs false
set_option linter.unusedVariables false
set_option linter.unnecessarySimpa false
open Go.RX Fx
namespace Rf
open Wo
set_option maxRecDepth 8000
theorem ntV0 (o : Option (Nat × Nat)) : (ntV o)[0]? = some (.int .i64 (atN o)) := by cases o <;> rfl
theorem rnoticed_ct (L : List SP) (b : Nat) (w : WA) (hw : WOk w) (hb : ∀ c ∈ w.ct, 0 ≤ c ∧ c ≤ 2000000000) : Ct Tryz.prog 182 #[.pointer (some ⟨b, 0, none⟩)] (RwP b w :: L) (fun _ : Unit => .tuple #[]) (fun _ : Unit => RwP b (ntcR w) :: L) := by
 refine Ct.o1 Tryz.func182 ?_; intro E
 show Hd E 73 _ _ _ _
 have hl := hw.hdl
 have hcl := hw.ctl
 refine Hd.rw .here (fun i hi => ?_); refine Hd.seq fun _ hK1 => ?_
 refine sr fun _ hK2 => ?_
 refine yv y_mv <| yv y_np <| yv (y_f 66 3 Tryz.underlying133 sz3) ?_; refine yv (y_load1 (v := .int .i64 (atN w.nt)) ag3 rfl (Rd.pt1 pkk (rc_nt (j := 0) hl hcl (ntV0 _) (by omega)))) ?_; refine yv (y_lss rfl rfl) ?_; refine fk [(0, _), (8, _)] hK2 ?_; refine Hd.cond rfl (fun hc0 => ?_) (fun hc0 => ?_)
 ·try simp only [hyA, hyB, hyC, ne_eq] at hc0
  refine Hd.ret <| Hd.thenRet ?_
  have hn := atN_no hc0
  rw [show ntcR w = w by unfold ntcR; rw [hn]]; exact Hd.ret0 rfl () rfl (rw_fold hi)
 ·try simp only [hyA, hyB, hyC, ne_eq] at hc0
  obtain ⟨n, k, hnt⟩ := atN_yes (by omega : 0 ≤ atN w.nt)
  obtain ⟨hk, x, hx, z0, z1⟩ := hw.nt n k hnt
  have hwf := hw.wf x (List.mem_of_getElem? hx)
  have hk1 : 1 - k < 2 := by omega
  have hR : ntcR w = if pendN w = 0 then w.setW n (takeW x k (x.e k).b.length) else if (x.e k).b = [] then w.setW n (putW x (1 - k) [1]) else w := by
   unfold ntcR; rw [hnt]; dsimp only; rw [hx]
  refine Hd.heap (RwP b w :: L) (rw_fold hi) ?_; refine Hd.skip <| Hd.toK hK1 ?_; refine sr fun _ hK3 => ?_
  refine yv y_mv <| callE rfl fk199 (rPending_ct _ b w hw hb) sq ?_; intro _; refine yv y_as <| fk [(0, _), (2, _)] hK3 ?_; refine Hd.seq fun _ hK4 => ?_
  refine Hd.seq fun _ hK5 => ?_
  refine Hd.rw .here (fun i hi => ?_)
  have hrl := rows_n hi
  obtain ⟨j, hrow⟩ := row_at hi hx
  have hn : n < i.1.length := (List.getElem?_eq_some_iff.1 hrow).1
  refine Hd.region <| yv y_mv <| yv (y_eql rfl rfl) ?_; refine fk [(0, _), (12, _)] hK5 ?_; refine Hd.cond rfl (fun hc1 => ?_) (fun hc1 => ?_)
  ·try simp only [hyA, hyB, hyC, ne_eq] at hc1
   rw [if_pos (show pendN w = 0 from hc1)] at hR; refine Hd.seq fun _ hK6 => ?_
   refine Hd.quiet mixed kq ?_; refine Hq.yv y_mv ?_; refine Hq.yv y_np ?_; refine Hq.yv (y_f 0 129 Tryz.underlying133 sz129) ?_; refine Hq.yv (y_l1 ag129 rfl) ?_; refine Hq.yv y_mv ?_; refine Hq.yv y_np ?_; refine Hq.yv (y_f 66 3 Tryz.underlying133 sz3) ?_; refine Hq.yv (y_load1 (v := .int .i64 (n : Int)) ag3 rfl (Rd.pt1 pkk (rc_nt (j := 0) hl hcl (by rw [hnt]; rfl) (by omega)))) ?_; refine Hq.yv y_mv ?_; refine Hq.yv y_np ?_; refine Hq.yv (y_f 67 3 Tryz.underlying133 sz3) ?_; refine Hq.yv (y_load1 (v := .int .i64 (k : Int)) ag3 rfl (Rd.pt1 pkk (rc_nt (j := 1) hl hcl (by rw [hnt]; rfl) (by omega)))) ?_; refine Hq.yv (y_idxR Tryz.underlying129 sz221 rfl rfl (by omega) (by exact RdS.own pkk)) ?_; refine Hq.yv (y_fR 0 219 Tryz.underlying221 sz219) ?_; refine Hq.yv (y_idxAR Tryz.underlying219 sz218 rfl rfl (by omega)) ?_; refine Hq.yv (y_fR 4 31 Tryz.underlying218 sz31) ?_; refine Hq.yv (y_rc ag31 rfl hrow hk 4 rfl) ?_
   refine Hq.yv (y_len Tryz.underlying31 rfl) ?_; refine Hq.yv y_as ?_; refine Hq.nil ?_; refine sk [(0, _), (3, _)] hK6 ?_; refine Hd.seq fun _ hK7 => ?_
   refine Hd.drawsH ([RwH b w i.1.length i.2.1 i.2.2]) (fun j => !([10].contains j)) mixed ?_; simp only [List.length, Nat.zero_add, Nat.reduceAdd]; refine tH 0 rfl y_mv ?_; refine Hd.takeT [2, 3, 4, 10] 1 rfl kq kq kq kq y_mv fq sq ?_; refine Hd.takeT [3, 4, 10] 2 rfl kq kq kq kq y_np fq sq ?_; refine Hd.takeT [4, 10] 3 rfl kq kq kq kq (y_f 66 3 Tryz.underlying133 sz3) fq sq ?_; refine tH 4 rfl (y_load1 (v := .int .i64 (n : Int)) ag3 rfl (Rd.pt1 pkk (rc_nt (j := 0) hl hcl (by rw [hnt]; rfl) (by omega)))) ?_; refine Hd.takeT [6, 7, 8, 10] 5 rfl kq kq kq kq y_mv fq sq ?_; refine Hd.takeT [7, 8, 10] 6 rfl kq kq kq kq y_np fq sq ?_; refine Hd.takeT [8, 10] 7 rfl kq kq kq kq (y_f 67 3 Tryz.underlying133 sz3) fq sq ?_; refine tH 8 rfl (y_load1 (v := .int .i64 (k : Int)) ag3 rfl (Rd.pt1 pkk (rc_nt (j := 1) hl hcl (by rw [hnt]; rfl) (by omega)))) ?_; refine tH 9 rfl y_mv ?_; refine onlyH 10 rfl kq ?_
   refine Hd.heap (RwP b w :: L) (rw_fold hi) ?_; refine callE rfl fk118 (rget_ct _ b w n x hx k hk ((x.e k).b.length : Int) (by omega)) sq ?_; rintro ⟨ad, c⟩; refine Hd.nil <| thenN <| Hd.heldN (J := (fun j => !([10].contains j))) (i := 10) rfl ?_; refine endH kq ?_; refine sk [] hK7 ?_; refine Hd.ret <| Hd.thenRet ?_; rw [hR]; exact Hd.ret0 rfl () rfl sq
  ·try simp only [hyA, hyB, hyC, ne_eq] at hc1
   rw [if_neg (show ¬ pendN w = 0 from hc1)] at hR; refine Hd.skip <| Hd.toK hK4 ?_; refine Hd.seq fun _ hK8 => ?_
   refine Hd.quiet mixed kq ?_; refine Hq.yv y_mv ?_; refine Hq.yv y_np ?_; refine Hq.yv (y_f 0 129 Tryz.underlying133 sz129) ?_; refine Hq.yv (y_l1 ag129 rfl) ?_; refine Hq.yv y_mv ?_; refine Hq.yv y_np ?_; refine Hq.yv (y_f 66 3 Tryz.underlying133 sz3) ?_; refine Hq.yv (y_load1 (v := .int .i64 (n : Int)) ag3 rfl (Rd.pt1 pkk (rc_nt (j := 0) hl hcl (by rw [hnt]; rfl) (by omega)))) ?_; refine Hq.yv y_mv ?_; refine Hq.yv y_np ?_; refine Hq.yv (y_f 67 3 Tryz.underlying133 sz3) ?_; refine Hq.yv (y_load1 (v := .int .i64 (k : Int)) ag3 rfl (Rd.pt1 pkk (rc_nt (j := 1) hl hcl (by rw [hnt]; rfl) (by omega)))) ?_; refine Hq.yv (y_idxR Tryz.underlying129 sz221 rfl rfl (by omega) (by exact RdS.own pkk)) ?_; refine Hq.yv (y_fR 0 219 Tryz.underlying221 sz219) ?_; refine Hq.yv (y_idxAR Tryz.underlying219 sz218 rfl rfl (by omega)) ?_; refine Hq.yv (y_fR 4 31 Tryz.underlying218 sz31) ?_; refine Hq.yv (y_rc ag31 rfl hrow hk 4 rfl) ?_
   refine Hq.yv (y_len Tryz.underlying31 rfl) ?_; refine Hq.yv (y_eql rfl rfl) ?_; refine Hq.nil ?_; refine sk [(0, _), (60, _)] hK8 ?_; refine Hd.cond rfl (fun hc2 => ?_) (fun hc2 => ?_)
   ·try simp only [hyA, hyB, hyC, ne_eq] at hc2
    have hnil : (x.e k).b = [] := List.eq_nil_of_length_eq_zero (by omega)
    rw [if_pos hnil] at hR; refine Hd.drawsH ([RwH b w i.1.length i.2.1 i.2.2]) (fun j => !([11].contains j)) mixed ?_; simp only [List.length, Nat.zero_add, Nat.reduceAdd]; refine tH 0 rfl y_mv ?_; refine Hd.takeT [2, 3, 4, 11] 1 rfl kq kq kq kq y_mv fq sq ?_; refine Hd.takeT [3, 4, 11] 2 rfl kq kq kq kq y_np fq sq ?_; refine Hd.takeT [4, 11] 3 rfl kq kq kq kq (y_f 66 3 Tryz.underlying133 sz3) fq sq ?_; refine tH 4 rfl (y_load1 (v := .int .i64 (n : Int)) ag3 rfl (Rd.pt1 pkk (rc_nt (j := 0) hl hcl (by rw [hnt]; rfl) (by omega)))) ?_; refine Hd.takeT [6, 7, 8, 9, 11] 5 rfl kq kq kq kq y_mv fq sq ?_; refine Hd.takeT [7, 8, 9, 11] 6 rfl kq kq kq kq y_np fq sq ?_; refine Hd.takeT [8, 9, 11] 7 rfl kq kq kq kq (y_f 67 3 Tryz.underlying133 sz3) fq sq ?_; refine Hd.takeT [9, 11] 8 rfl kq kq kq kq (y_load1 (v := .int .i64 (k : Int)) ag3 rfl (Rd.pt1 pkk (rc_nt (j := 1) hl hcl (by rw [hnt]; rfl) (by omega)))) fq sq ?_
    refine tH 9 rfl (y_to (v' := .int .i64 ((1 - k : Nat) : Int)) (y_subn rfl rfl (by simp only [InK]; omega)) (by (congr 1; omega))) ?_; refine onlyH 10 rfl kq ?_; refine Hd.bslice (vs := [(0, _)]) rfl (by exact bs182_71 ..) (fun b71 => ?_); refine Hd.nil <| thenN <| heldK (J := (fun j => !([11].contains j))) (i := 10) sq ?_; refine onlyH 11 rfl kq ?_; refine Hd.heap (RwP b w :: pt b71 [.int .u8 1] 5 :: L) (fun q s => rw_fold hi q (Ent.sep enn q s)) ?_; refine callE rfl fk119 (rfill_ct _ b w n x hx hwf (1 - k) hk1 (some ⟨b71, 0, none⟩) 1 1 [1] rfl ?hD (by omega) (by omega)) sq ?_
    case hD => exact RdS.rd (Rd.pt pkk (fun j v e => by rw [Nat.zero_add]; exact e)) rfl
    intro _; refine Hd.nil <| thenN <| Hd.heldN (J := (fun j => !([11].contains j))) (i := 11) rfl ?_; refine endH kq ?_; refine slots [] sbq ?_; rw [hR]; exact Hd.end0 rfl () rfl sq
   ·try simp only [hyA, hyB, hyC, ne_eq] at hc2
    rw [if_neg (fun h => hc2 (by rw [h]; rfl))] at hR; refine Hd.skip ?_; rw [hR]; exact Hd.end0 rfl () rfl (rw_fold hi)
end Rf
end Go.Proofs.YtbfddabjbkohdaaGreat
