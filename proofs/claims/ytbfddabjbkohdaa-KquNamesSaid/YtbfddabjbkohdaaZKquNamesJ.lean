/- Errors, filters and flags of package kqu have their numbers, the examples of the chapter hold, and calls on none are as the document says: the law KquNames answers true, whatever its input, and its arguments read behind the call as before. No condition. -/
import Derived.Lib.SmallJoins
import Derived.Test.YtbfddabjbkohdaaZKquNamesI
namespace Go.Proofs.Ytbfddabjbkohdaa
set_option linter.unusedSimpArgs false
set_option linter.unusedVariables false
set_option linter.unnecessarySimpa false
open Go.RX Fx
namespace Wo
set_option maxRecDepth 8000
def mkN (w : WA) (k : Nat) : Int := if mkE w k = 0 then (w.ws.length : Int) else 0
theorem mkW_len {w : WA} {k : Nat} {x : WireA} (h : mkE w k = 0) : (mkW w k x).ws.length = w.ws.length + 1 := by
  unfold mkE at h
  unfold mkW
  by_cases h1 : mkOk w k = true
  · rw [if_pos h1]
    show (w.ws ++ [_]).length = _
    rw [List.length_append]; rfl
  · rw [if_neg h1] at h; exact absurd h (by decide)
set_option maxHeartbeats 2000000 in
theorem outer_mk (L : List SP) (wb : Nat) (w : WA) (n : Nat) (h1 : 1 ≤ n) (h2 : n ≤ 65536) : Ct Try.prog 9 #[.pointer (some ⟨wb, 0, none⟩), .int .i64 (n : Int)] (WorldP wb w :: L) (fun _ : Unit => .tuple #[.int .i64 (mkI w 1 0), .int .i64 (mkN w 1), .int .i64 (mkE w 1)]) (fun _ : Unit => WorldP wb (mkW w 1 (connW n)) :: L) := by
  refine Ct.of (vs := [.pointer (some ⟨wb, 0, none⟩), .int .i64 (n : Int)]) Try.func9 rfl rfl [(0, .pointer (some ⟨wb, 0, none⟩)), (1, .int .i64 (n : Int))] (by repeat (first | exact trivial | refine ⟨rfl, ?_⟩)) ?_
  intro E
  show Hd E 35 _ _ _ _
  refine Hd.seq (fun K1 hK1 => ?_)
  refine Hd.region ?_
  refine Hd.yv (y_assign rfl) ?_
  refine Hd.yv (y_assign rfl) ?_
  refine Hd.yv (y_assign rfl) ?_
  refine Hd.nil ?_
  refine Hd.slots [(0, _), (1, _)] ⟨rfl, rfl, trivial⟩ ?_
  refine Hd.toK hK1 ?_
  refine Hd.seq (fun K2 hK2 => ?_)
  refine Hd.region ?_
  refine Hd.yv (y_move rfl) ?_
  refine Hd.callE rfl fk34 (both_ct _ n h1 h2) (Ent.sep enn) ?_
  intro b
  refine Hd.yv (y_assign rfl) ?_
  refine Hd.nil ?_
  refine Hd.slots [(0, _), (1, _), (7, _)] ⟨rfl, rfl, rfl, trivial⟩ ?_
  refine Hd.toK hK2 ?_
  refine Hd.seq (fun K3 hK3 => ?_)
  refine Hd.wire pkk 1 (by omega) (fun i hi => ?_)
  refine Hd.region ?_
  refine Hd.yv (y_move rfl) ?_
  refine Hd.yv (y_nilp rfl) ?_
  first | (refine Hd.yv (y_field' (q := 0) (ft := 86) Try.underlying88 rfl sz86 rfl rfl) ?_) | (refine Hd.yv (y_fieldR (q := 0) (ft := 86) Try.underlying88 rfl sz86 rfl rfl) ?_)
  first | (refine Hd.yv (y_idxA Try.underlying86 sz85 rfl rfl (by first | omega | decide)) ?_) | (refine Hd.yv (y_idxAR Try.underlying86 sz85 rfl rfl (by first | omega | decide)) ?_)
  first | (refine Hd.yv (y_field' (q := 0) (ft := 3) Try.underlying85 rfl sz3 rfl rfl) ?_) | (refine Hd.yv (y_fieldR (q := 0) (ft := 3) Try.underlying85 rfl sz3 rfl rfl) ?_)
  first | (refine Hd.store1 sz3 rfl rfl rfl pkk (by first | decide | (simp; done) | (simp; omega)) ?_) | (refine Hd.storeG1 sz3 rfl rfl rfl pkk (by first | decide | (simp; done) | (simp; omega)) ?_) | (refine Hd.storeO1 sz3 rfl rfl rfl pkk (by first | omega | (simp; done) | (simp; omega)) ?_)
  try simp only [List.set_cons_zero, List.set_cons_succ]
  refine Hd.nil ?_
  rw [show (encW (halfW n 2) i).set (0 + 0 + 1 * 7 + 0) (.int .i64 2) = encW (connW n) i from rfl]
  refine Hd.heap (WireP b (connW n) :: WorldP wb w :: L) (fun q s => wire_close (x := halfW n 2) (f := fun e => { e with what := 2 }) (k := 1) (k' := 1) hi (by omega) (fun _ => rfl) (fun _ => rfl) q (Ent.sep enn q s)) ?_
  refine Hd.slots [(0, _), (1, _), (7, _)] ⟨rfl, rfl, rfl, trivial⟩ ?_
  refine Hd.toK hK3 ?_
  refine Hd.seq (fun K4 hK4 => ?_)
  refine Hd.region ?_
  refine Hd.yv (y_move rfl) ?_
  refine Hd.yv (y_move rfl) ?_
  refine Hd.yv (y_move rfl) ?_
  refine Hd.callE rfl fk35 (make_ct _ wb b w n h1 h2 1 (by omega) (connW n) (conn_new h2)) (Ent.sep enn) ?_
  rintro ⟨ad, c⟩
  dsimp only
  refine Hd.yv (y_move rfl) ?_
  refine Hd.yv (y_to (v' := .slice ad (mkF w 1).length c) (y_extract rfl rfl) (by rfl)) ?_
  refine Hd.yv (y_to (v' := .int .i64 (mkE w 1)) (y_extract rfl rfl) (by rfl)) ?_
  refine Hd.yv (y_assign rfl) ?_
  refine Hd.yv (y_assign rfl) ?_
  refine Hd.nil ?_
  refine Hd.slots [(0, _), (6, _), (8, _)] ⟨rfl, rfl, rfl, trivial⟩ ?_
  refine Hd.toK hK4 ?_
  refine Hd.seq (fun K5 hK5 => ?_)
  refine Hd.seq (fun K6 hK6 => ?_)
  refine Hd.region ?_
  refine Hd.yv (y_move rfl) ?_
  refine Hd.yv (y_neq rfl rfl) ?_
  refine Hd.nil ?_
  refine Hd.slots [(0, _), (6, _), (8, _), (24, _)] ⟨rfl, rfl, rfl, rfl, trivial⟩ ?_
  refine Hd.toK hK6 ?_
  refine Hd.cond rfl (fun hc0 => ?_) (fun hc0 => ?_)
  ·
    try simp only [decide_eq_true_eq, decide_eq_false_iff_not, Bool.and_eq_true, Bool.or_eq_true, Bool.and_eq_false_iff, Bool.or_eq_false_iff, Bool.not_eq_true', Bool.not_eq_false', Bool.not_eq_true, Bool.not_eq_false, Int.not_lt, Int.not_le, Decidable.not_not, ne_eq] at hc0
    refine Hd.seq (fun K7 hK7 => ?_)
    refine Hd.region ?_
    refine Hd.yv (y_move rfl) ?_
    refine Hd.yv (y_assign rfl) ?_
    refine Hd.yv (y_assign rfl) ?_
    refine Hd.yv (y_assign rfl) ?_
    refine Hd.nil ?_
    refine Hd.slots [(4, _), (5, _), (6, _)] ⟨rfl, rfl, rfl, trivial⟩ ?_
    refine Hd.toK hK7 ?_
    refine Hd.ret ?_
    refine Hd.thenRet ?_
    clear hK1 hK2 hK3 hK4 hK5 hK6 hK7
    have h : mkF w 1 = [] := by
      rcases mkF_len (w := w) (k := 1) with h | h
      · exact absurd h.1 hc0
      · exact h.2
    rw [show mkI w 1 0 = 0 by unfold mkI; rw [h]; rfl, show mkN w 1 = 0 by unfold mkN; rw [if_neg hc0]]
    exact Hd.ret3 rfl () rfl rfl rfl rfl (Ent.sep enn)
  ·
    try simp only [decide_eq_true_eq, decide_eq_false_iff_not, Bool.and_eq_true, Bool.or_eq_true, Bool.and_eq_false_iff, Bool.or_eq_false_iff, Bool.not_eq_true', Bool.not_eq_false', Bool.not_eq_true, Bool.not_eq_false, Int.not_lt, Int.not_le, Decidable.not_not, ne_eq] at hc0
    have hl : (mkF w 1).length = 1 := by
      rcases mkF_len (w := w) (k := 1) with h | h
      · exact h.2
      · rw [h.1] at hc0; exact absurd hc0 (by decide)
    have hg0 : (nats (mkF w 1))[0 * 1]? = some (.int .i64 (mkI w 1 0)) := nats_at (by omega)
    have hwl := mkW_len (x := connW n) hc0
    refine Hd.skip ?_
    refine Hd.toK hK5 ?_
    refine Hd.seq (fun K8 hK8 => ?_)
    refine Hd.world pkk (fun i hw hrs => ?_)
    have hrl : i.rs.length = w.ws.length + 1 := by rw [← hwl, ← hrs, List.length_map]
    have hln : i.rs.length ≤ 1000 := by rw [hrl, ← hwl]; exact hw.len
    refine Hd.quiet mixed (by kernel_rfl) ?_
    refine Hq.yv (y_move rfl) ?_
    first | (refine Hq.yv (y_idxS Try.underlying22 sz3 rfl rfl (by first | exact (show (0 : Nat) < _ by omega) | omega | decide)) ?_) | (refine Hq.yv (y_idxR Try.underlying22 sz3 rfl rfl (by first | exact (show (0 : Nat) < _ by omega) | omega | decide) (by (first | exact RdS.own pkk))) ?_)
    refine Hq.yv (y_loadR1 ag3 rfl (RdS.own (ad := ad) (us := nats (mkF w 1)) pkk) hg0) ?_
    refine Hq.yv (y_move rfl) ?_
    refine Hq.yv (y_nilp rfl) ?_
    first | (refine Hq.yv (y_field' (q := 288) (ft := 77) Try.underlying80 rfl sz77 rfl rfl) ?_) | (refine Hq.yv (y_fieldR (q := 288) (ft := 77) Try.underlying80 rfl sz77 rfl rfl) ?_)
    first | (refine Hq.yv (y_load1 ag77 rfl (Rd.pt1 pkk (by (first | exact woT_at (j := 0) (by omega) rfl | rfl)))) ?_) | (refine Hq.yv (y_load1 ag77 rfl (Rd.seg1 pkk (by (first | exact woT_at (j := 0) (by omega) rfl | rfl)))) ?_) | (refine Hq.yv (y_loadR1 ag77 rfl (by (first | exact RdS.own pkk)) (by (first | exact woT_at (j := 0) (by omega) rfl | rfl))) ?_)
    refine Hq.yv (y_len Try.underlying77 rfl) ?_
    first | (refine Hq.yv (y_to (v' := .int .i64 (w.ws.length : Int)) (y_subn rfl rfl (by simp only [InK]; omega)) (by (congr 1; omega))) ?_) | (refine Hq.yv (y_to (v' := .int .i64 (w.ws.length : Int)) (y_sub rfl rfl) (by (congr 1; omega))) ?_)
    refine Hq.yv (y_assign rfl) ?_
    refine Hq.yv (y_assign rfl) ?_
    refine Hq.yv (y_assign rfl) ?_
    refine Hq.nil ?_
    refine Hd.slots [(4, _), (5, _), (6, _)] ⟨rfl, rfl, rfl, trivial⟩ ?_
    refine Hd.toK hK8 ?_
    refine Hd.ret ?_
    clear hK1 hK2 hK3 hK4 hK5 hK6 hK8
    rw [show mkN w 1 = (w.ws.length : Int) by unfold mkN; rw [if_pos hc0]]
    exact Hd.ret3 rfl () rfl rfl (by rw [hc0]; rfl) rfl (Ent.sep (.ex i (.pure ⟨hw, hrs⟩ enn)))
end Wo
end Go.Proofs.Ytbfddabjbkohdaa
namespace Go.Proofs.Ytbfddabjbkohdaa
set_option linter.unusedSimpArgs false
set_option linter.unusedVariables false
set_option linter.unnecessarySimpa false
open Go.RX Fx
namespace Wo
set_option maxRecDepth 8000
def optW : Option (Nat × WireA) → SP
  | none => pu True
  | some p => WireP p.1 p.2
theorem map_optW (rs : List (Nat × WireA)) : (rs.map some).map optW = rs.map fun p => WireP p.1 p.2 := by rw [List.map_map]; rfl
theorem wires_bag {rs : List (Nat × WireA)} {L : List SP} {h : PH} (s : sep (Wires rs :: L) h) : sep (Bag optW (rs.map some) :: L) h := by
  obtain ⟨h1, h2, d, s1, s2, ⟨x⟩, y⟩ := s
  exact ⟨h1, h2, d, s1, s2, ⟨by rw [map_optW]; exact x⟩, y⟩
theorem bag_wires {rs : List (Nat × WireA)} {L : List SP} {h : PH} (s : sep (Bag optW (rs.map some) :: L) h) : sep (Wires rs :: L) h := by
  obtain ⟨h1, h2, d, s1, s2, ⟨x⟩, y⟩ := s
  exact ⟨h1, h2, d, s1, s2, ⟨by rw [← map_optW]; exact x⟩, y⟩
theorem bag_take {os : List (Option (Nat × WireA))} {j b : Nat} {x : WireA} {L : List SP} {h : PH} (hj : os[j]? = some (some (b, x))) (s : sep (Bag optW os :: L) h) : sep (WireP b x :: Bag optW (os.set j none) :: L) h := by
  have h1 := bag_out hj s
  have hl := (List.getElem?_eq_some_iff.1 hj).1
  have h2 : sep (optW none :: Bag optW (os.take j) :: Bag optW (os.drop (j + 1)) :: WireP b x :: L) h := Ent.sep (show Ent (WireP b x :: Bag optW (os.take j) :: Bag optW (os.drop (j + 1)) :: L) (pu True :: Bag optW (os.take j) :: Bag optW (os.drop (j + 1)) :: WireP b x :: L) from .pure trivial enn) h h1
  exact Ent.sep enn h (bag_in hl h2)
theorem bag_give {os : List (Option (Nat × WireA))} {j b : Nat} {x : WireA} {L : List SP} {h : PH} (hj : os[j]? = some none) (s : sep (WireP b x :: Bag optW os :: L) h) : sep (Bag optW (os.set j (some (b, x))) :: L) h := by
  have hl := (List.getElem?_eq_some_iff.1 hj).1
  have h1 : sep (Bag optW os :: WireP b x :: L) h := Ent.sep enn h s
  have h2 := bag_out hj h1
  have h3 : sep (optW (some (b, x)) :: Bag optW (os.take j) :: Bag optW (os.drop (j + 1)) :: L) h := Ent.sep (show Ent (pu True :: Bag optW (os.take j) :: Bag optW (os.drop (j + 1)) :: WireP b x :: L) (WireP b x :: Bag optW (os.take j) :: Bag optW (os.drop (j + 1)) :: L) from enn) h h2
  exact bag_in hl h3
def clo1 (rs : List (Nat × WireA)) (n : Nat) : List (Nat × WireA) := match rs[n]? with
  | some p => rs.set n (p.1, closeW p.2 0)
  | none => rs
def closeL (rs : List (Nat × WireA)) (l : List Nat) : List (Nat × WireA) := l.foldl clo1 rs
theorem closeL_snoc (rs : List (Nat × WireA)) (l : List Nat) (n : Nat) : closeL rs (l ++ [n]) = clo1 (closeL rs l) n := by unfold closeL; rw [List.foldl_append]; rfl
theorem clo1_fst (rs : List (Nat × WireA)) (n : Nat) : (clo1 rs n).map Prod.fst = rs.map Prod.fst := by
  unfold clo1
  split
  · rename_i p hp
    rw [List.map_set]
    apply List.ext_getElem?
    intro j
    by_cases e : n = j
    · subst e
      rw [List.getElem?_set_self (by rw [List.length_map]; exact (List.getElem?_eq_some_iff.1 hp).1), List.getElem?_map, hp]; rfl
    · rw [List.getElem?_set_ne e]
  · rfl
theorem closeL_fst : ∀ (l : List Nat) (rs : List (Nat × WireA)), (closeL rs l).map Prod.fst = rs.map Prod.fst
  | [], _ => rfl
  | n :: t, rs => by
    show (closeL (clo1 rs n) t).map Prod.fst = _
    rw [closeL_fst t, clo1_fst]
theorem clo1_snd (rs : List (Nat × WireA)) (n : Nat) : (clo1 rs n).map Prod.snd = match (rs.map Prod.snd)[n]? with | some y => (rs.map Prod.snd).set n (closeW y 0) | none => rs.map Prod.snd := by
  unfold clo1
  rw [List.getElem?_map]
  cases h : rs[n]? with
  | none => rfl
  | some p => show (rs.set n _).map Prod.snd = _; rw [List.map_set]; rfl
theorem closeL_snd : ∀ (l : List Nat) (rs : List (Nat × WireA)), (closeL rs l).map Prod.snd = closeAll (rs.map Prod.snd) l
  | [], _ => rfl
  | n :: t, rs => by
    show (closeL (clo1 rs n) t).map Prod.snd = closeAll _ t
    rw [closeL_snd t, clo1_snd]
    rfl
theorem closeL_len (l : List Nat) (rs : List (Nat × WireA)) : (closeL rs l).length = rs.length := by
  have := congrArg List.length (closeL_fst l rs)
  rwa [List.length_map, List.length_map] at this
theorem closeAll_set : ∀ (l : List Nat) (ws : List WireA) {m : Nat} {X : WireA}, m ∉ l → closeAll (ws.set m X) l = (closeAll ws l).set m X
  | [], _, _, _, _ => rfl
  | n :: t, ws, m, X, h => by
    have hne : m ≠ n := fun e => h (e ▸ List.mem_cons_self)
    have ht : m ∉ t := fun e => h (List.mem_cons_of_mem _ e)
    show closeAll (match (ws.set m X)[n]? with | some y => (ws.set m X).set n (closeW y 0) | none => ws.set m X) t = (closeAll (match ws[n]? with | some y => ws.set n (closeW y 0) | none => ws) t).set m X
    rw [List.getElem?_set_ne hne]
    cases h2 : ws[n]? with
    | none => exact closeAll_set t ws ht
    | some y =>
      show closeAll ((ws.set m X).set n (closeW y 0)) t = (closeAll (ws.set n (closeW y 0)) t).set m X
      rw [List.set_comm _ _ hne, closeAll_set t _ ht]
theorem world_all {wb : Nat} {w w' : WA} {i : WoI} {rs' : List (Nat × WireA)} {t : Int → Option (Nat × Nat)} {L : List SP} (hok : WOk w') (hf : rs'.map Prod.fst = i.rs.map Prod.fst) (hws : rs'.map Prod.snd = w'.ws) (hat : w'.at = t) (hr : w' = { w with ws := w'.ws }) :
    ∀ h, sep (Wires rs' :: WoH wb t w i.rs.length i :: own 81 1 i.wa i.rs.length i.wc (pws i.rs) :: SigP i.sb w.hd w.ct :: L) h → sep (WorldP wb w' :: L) h := by
  intro h s
  have hl : rs'.length = i.rs.length := by have := congrArg List.length hf; rwa [List.length_map, List.length_map] at this
  have hp : pws rs' = pws i.rs := by
    have : ∀ l : List (Nat × WireA), pws l = (l.map Prod.fst).map fun b => ptr (some b) := fun l => by unfold pws; rw [List.map_map]; rfl
    rw [this, this, hf]
  have hsg : SigP i.sb w.hd w.ct = SigP i.sb w'.hd w'.ct := by rw [hr]
  refine Ent.sep (.ex { i with rs := rs' } (.pure ⟨hok, hws⟩ ?_)) h s
  exact .eq pkk (pt_eq (show fdC t ++ woT w i.rs.length i = fdC w'.at ++ woT w' rs'.length { i with rs := rs' } by rw [hat, hl, hr])) (.eq pkk (own_eq3 hl.symm rfl hp.symm) (.pick pkk (.eq pkk hsg enn)))
abbrev WoS (wb : Nat) (t : Int → Option (Nat × Nat)) (w : WA) (i : WoI) (L : List SP) : List SP := WoH wb t w i.rs.length i :: own 81 1 i.wa i.rs.length i.wc (pws i.rs) :: SigP i.sb w.hd w.ct :: L
set_option maxHeartbeats 2000000 in
theorem wclose_ct (L : List SP) (wb : Nat) (w : WA) (fd : Int) : Ct Try.prog 15 #[.pointer (some ⟨wb, 0, none⟩), .int .i64 fd] (WorldP wb w :: L) (fun _ : Unit => .int .i64 (closeF w fd).1) (fun _ : Unit => WorldP wb (closeF w fd).2 :: L) := by
  refine Ct.of (vs := [.pointer (some ⟨wb, 0, none⟩), .int .i64 fd]) Try.func15 rfl rfl [(0, .pointer (some ⟨wb, 0, none⟩)), (1, .int .i64 fd)] (by repeat (first | exact trivial | refine ⟨rfl, ?_⟩)) ?_
  intro E
  show Hd E 51 _ _ _ _
  refine Hd.world .here (fun i hw hrs => ?_)
  refine Hd.seq (fun K1 hK1 => ?_)
  refine Hd.region ?_
  refine Hd.yv (y_assign rfl) ?_
  refine Hd.nil ?_
  refine Hd.slots [(0, _), (1, _)] ⟨rfl, rfl, trivial⟩ ?_
  refine Hd.toK hK1 ?_
  refine Hd.seq (fun K2 hK2 => ?_)
  refine Hd.region ?_
  refine Hd.yv (y_move rfl) ?_
  refine Hd.yv (y_move rfl) ?_
  refine Hd.callE rfl fk46 (find_ct _ wb w i hw hrs fd) (Ent.sep enn) ?_
  intro _
  refine Hd.yv (y_move rfl) ?_
  refine Hd.yv (y_extract rfl rfl) ?_
  refine Hd.yv (y_extract rfl rfl) ?_
  refine Hd.yv (y_extract rfl rfl) ?_
  refine Hd.alloc zr75 (fun b5 => ?_)
  refine Hd.storeA (us := plc (w.at fd)) (by rw [plc_len]; exact sz75) rfl rfl rfl (plc_one _) pkk (by rw [plc_len]; rfl) ?_
  refine Hd.yv (y_to (v' := ptr (wfb i (w.at fd))) (y_assign rfl) (by rfl)) ?_
  refine Hd.yv (y_to (v' := .int .i64 (fdErr (w.at fd))) (y_assign rfl) (by rfl)) ?_
  refine Hd.nil ?_
  refine Hd.slots [(0, _), (1, _), (5, _), (6, _), (7, _)] ⟨rfl, rfl, rfl, rfl, rfl, trivial⟩ ?_
  refine Hd.toK hK2 ?_
  refine Hd.seq (fun K3 hK3 => ?_)
  refine Hd.seq (fun K4 hK4 => ?_)
  refine Hd.region ?_
  refine Hd.yv (y_move rfl) ?_
  refine Hd.yv (y_neq rfl rfl) ?_
  refine Hd.nil ?_
  refine Hd.slots [(0, _), (1, _), (5, _), (6, _), (7, _), (18, _)] ⟨rfl, rfl, rfl, rfl, rfl, rfl, trivial⟩ ?_
  refine Hd.toK hK4 ?_
  refine Hd.cond rfl (fun hc0 => ?_) (fun hc0 => ?_)
  ·
    try simp only [decide_eq_true_eq, decide_eq_false_iff_not, Bool.and_eq_true, Bool.or_eq_true, Bool.and_eq_false_iff, Bool.or_eq_false_iff, Bool.not_eq_true', Bool.not_eq_false', Bool.not_eq_true, Bool.not_eq_false, Int.not_lt, Int.not_le, Decidable.not_not, ne_eq] at hc0
    refine Hd.seq (fun K5 hK5 => ?_)
    refine Hd.region ?_
    refine Hd.yv (y_move rfl) ?_
    refine Hd.yv (y_assign rfl) ?_
    refine Hd.nil ?_
    refine Hd.slots [(4, _)] ⟨rfl, trivial⟩ ?_
    refine Hd.toK hK5 ?_
    refine Hd.ret ?_
    refine Hd.thenRet ?_
    clear hK1 hK2 hK3 hK4 hK5
    have hno : w.at fd = none := by
      cases h : w.at fd with
      | none => rfl
      | some p => rw [h] at hc0; exact absurd rfl hc0
    rw [show closeF w fd = (110, w) by unfold closeF; rw [hno]]
    exact Hd.ret1 rfl () (by rw [hno]; rfl) (Ent.sep (.ex i (.pure ⟨hw, hrs⟩ enn)))
  ·
    try simp only [decide_eq_true_eq, decide_eq_false_iff_not, Bool.and_eq_true, Bool.or_eq_true, Bool.and_eq_false_iff, Bool.or_eq_false_iff, Bool.not_eq_true', Bool.not_eq_false', Bool.not_eq_true, Bool.not_eq_false, Int.not_lt, Int.not_le, Decidable.not_not, ne_eq] at hc0
    obtain ⟨m0, k, hnk⟩ : ∃ m k, w.at fd = some (m, k) := by
      cases h : w.at fd with
      | none => rw [h] at hc0; exact absurd hc0 (by decide)
      | some p => exact ⟨p.1, p.2, rfl⟩
    obtain ⟨hf0, hf1, hk, hn, x, hx, _, _⟩ := hw.at_lt hnk
    obtain ⟨b, hb⟩ := rs_at hrs hx
    have hm0 := hw.ns m0 x hx
    have hcl := closeF_ok hw fd
    have hrd : closeF w fd = (0, { w with ws := closeAll (w.ws.set m0 ((closeW x k).wts [])) x.wt }) := by unfold closeF; rw [hnk]; dsimp only; rw [hx]
    have hml : m0 < i.rs.length := (List.getElem?_eq_some_iff.1 hb).1
    have hwl := wt_le hw hx
    rw [hnk, wfb_eq hb]
    obtain ⟨f, hf⟩ : ∃ f : Nat, fd = (f : Int) := ⟨fd.toNat, by omega⟩
    subst hf
    have hf96 : f < 96 := by omega
    refine Hd.skip ?_
    refine Hd.toK hK3 ?_
    refine Hd.seq (fun K6 hK6 => ?_)
    refine Hd.region ?_
    refine Hd.yv (y_move rfl) ?_
    refine Hd.yv (y_move rfl) ?_
    refine Hd.yv (y_build (cs := (plc none).toArray) (vs := []) rfl (by kernel_rfl)) ?_
    refine Hd.yv (y_nilp rfl) ?_
    first | (refine Hd.yv (y_field' (q := 0) (ft := 76) Try.underlying80 rfl sz76 rfl rfl) ?_) | (refine Hd.yv (y_fieldR (q := 0) (ft := 76) Try.underlying80 rfl sz76 rfl rfl) ?_)
    first | (refine Hd.yv (y_idxA Try.underlying76 sz75 rfl rfl (by first | omega | decide)) ?_) | (refine Hd.yv (y_idxAR Try.underlying76 sz75 rfl rfl (by first | omega | decide)) ?_)
    refine Hd.store (us := plc none) sz75 rfl rfl rfl (plc_one _) pkk (by rw [List.length_append, fdC_len, plc_len]; omega) ?_
    refine Hd.nil ?_
    rw [show 0 + 0 + f * 3 = f * 3 by omega, show (plc none).length = 3 from rfl, fdC_set hf96]
    refine Hd.heap (WireP b x :: Bag optW ((i.rs.map some).set m0 none) :: pt b5 (plc (some (m0, k))) 75 :: WoS wb (setT w.at f none) w i L) (fun q s => bag_take (by rw [List.getElem?_map, hb]; rfl) (wires_bag (Ent.sep enn q s))) ?_
    refine Hd.slots [(0, _), (5, _), (6, _)] ⟨rfl, rfl, rfl, trivial⟩ ?_
    refine Hd.toK hK6 ?_
    refine Hd.seq (fun K7 hK7 => ?_)
    refine Hd.region ?_
    refine Hd.yv (y_move rfl) ?_
    first | (refine Hd.yv (y_field' (q := 2) (ft := 3) Try.underlying75 rfl sz3 rfl rfl) ?_) | (refine Hd.yv (y_fieldR (q := 2) (ft := 3) Try.underlying75 rfl sz3 rfl rfl) ?_)
    first | (refine Hd.yv (y_load1 ag3 rfl (Rd.pt1 pkk (by (first | exact woT_at (j := 0) (by omega) rfl | exact pws_at hbn | rfl)))) ?_) | (refine Hd.yv (y_load1 ag3 rfl (Rd.seg1 pkk (by (first | exact woT_at (j := 0) (by omega) rfl | exact pws_at hbn | rfl)))) ?_) | (refine Hd.yv (y_loadR1 ag3 rfl (by (first | exact RdS.own pkk)) (by (first | exact woT_at (j := 0) (by omega) rfl | exact pws_at hbn | rfl))) ?_)
    refine Hd.callE rfl fk47 (close_ct _ b x k hk) (Ent.sep enn) ?_
    intro _
    refine Hd.nil ?_
    refine Hd.slots [(0, _), (6, _)] ⟨rfl, rfl, trivial⟩ ?_
    refine Hd.toK hK7 ?_
    refine Hd.seq (fun K8 hK8 => ?_)
    refine Hd.seq (fun K9 hK9 => ?_)
    refine Hd.wire .here k hk (fun i2 hi => ?_)
    refine Hd.region ?_
    refine Hd.yv (y_move rfl) ?_
    refine Hd.yv (y_nilp rfl) ?_
    first | (refine Hd.yv (y_field' (q := 16) (ft := 22) Try.underlying88 rfl sz22 rfl rfl) ?_) | (refine Hd.yv (y_fieldR (q := 16) (ft := 22) Try.underlying88 rfl sz22 rfl rfl) ?_)
    first | (refine Hd.yv (y_to (v' := .slice i2.wa x.wt.length i2.wc) (y_load1 ag22 rfl (Rd.pt1 pkk (by (first | exact woT_at (j := 0) (by omega) rfl | exact pws_at hbn | rfl)))) (by rfl)) ?_) | (refine Hd.yv (y_to (v' := .slice i2.wa x.wt.length i2.wc) (y_load1 ag22 rfl (Rd.seg1 pkk (by (first | exact woT_at (j := 0) (by omega) rfl | exact pws_at hbn | rfl)))) (by rfl)) ?_) | (refine Hd.yv (y_to (v' := .slice i2.wa x.wt.length i2.wc) (y_loadR1 ag22 rfl (by (first | exact RdS.own pkk)) (by (first | exact woT_at (j := 0) (by omega) rfl | exact pws_at hbn | rfl))) (by rfl)) ?_)
    refine Hd.yv (y_len Try.underlying22 rfl) ?_
    refine Hd.yv (y_move rfl) ?_
    refine Hd.nil ?_
    refine Hd.slots [(0, _), (6, _), (33, _), (34, _), (35, _)] ⟨rfl, rfl, rfl, rfl, rfl, trivial⟩ ?_
    refine Hd.toK hK9 ?_
    refine Hd.block ?_
    refine Hd.loopK (ι := Nat) [(0, _), (6, _), (33, _), (34, _)] (fun j => [(35, .int .i64 (j : Int))]) (fun j => pu (j ≤ x.wt.length) :: Bag optW (((closeL i.rs (x.wt.take j)).map some).set m0 none) :: WireH b (closeW x k) i2 :: RgO (i2.p k) (closeW x k).cap ((closeW x k).e k).b :: RgO (i2.p (1 - k)) (closeW x k).cap ((closeW x k).e (1 - k)).b :: own 3 1 i2.wa x.wt.length i2.wc (nats x.wt) :: pt b5 (plc (some (m0, k))) 75 :: WoS wb (setT w.at f none) w i L) (fun j => x.wt.length - j) 0 (by repeat (first | exact trivial | refine ⟨rfl, ?_⟩)) (by repeat (first | exact trivial | refine ⟨rfl, ?_⟩)) (Ent.sep (.pure (Nat.zero_le _) (.eq pkk (show Bag optW ((i.rs.map some).set m0 none) = Bag optW (((closeL i.rs (x.wt.take 0)).map some).set m0 none) from rfl) (.pick pkk (.pick pkk (.pick pkk (.eq pkk (show own 3 1 i2.wa (closeW x k).wt.length i2.wc (nats (closeW x k).wt) = own 3 1 i2.wa x.wt.length i2.wc (nats x.wt) from rfl) enn))))))) ?_
    intro j
    try dsimp only
    refine Hd.pure (fun hp0 => ?_)
    try dsimp only at hp0
    refine Hd.seq (fun K10 hK10 => ?_)
    refine Hd.region ?_
    refine Hd.yv (y_lss rfl rfl) ?_
    refine Hd.nil ?_
    refine Hd.slots [(0, _), (6, _), (33, _), (34, _), (35, _), (36, _)] ⟨rfl, rfl, rfl, rfl, rfl, rfl, trivial⟩ ?_
    refine Hd.toK hK10 ?_
    refine Hd.seq (fun K11 hK11 => ?_)
    refine Hd.cond rfl (fun hc1 => ?_) (fun hc1 => ?_)
    ·
      try simp only [decide_eq_true_eq, decide_eq_false_iff_not, Bool.and_eq_true, Bool.or_eq_true, Bool.and_eq_false_iff, Bool.or_eq_false_iff, Bool.not_eq_true', Bool.not_eq_false', Bool.not_eq_true, Bool.not_eq_false, Int.not_lt, Int.not_le, Decidable.not_not, ne_eq] at hc1
      have hj : j < x.wt.length := by omega
      have hgj := nats_at hj
      obtain ⟨n, hn⟩ : ∃ n, n = x.wt.getD j 0 := ⟨_, rfl⟩
      have hnj : x.wt[j]? = some n := by rw [hn, List.getD_eq_getElem?_getD, List.getElem?_eq_getElem hj]; rfl
      have hnm : n ∈ x.wt := List.mem_of_getElem? hnj
      obtain ⟨y0, hy0, _⟩ := hw.wm n (List.mem_flatMap.2 ⟨x, List.mem_of_getElem? hx, hnm⟩)
      obtain ⟨bn, hbn⟩ := rs_at hrs hy0
      have hnl : n < i.rs.length := (List.getElem?_eq_some_iff.1 hbn).1
      have hnm0 : n ≠ m0 := fun e => hm0 (e ▸ hnm)
      obtain ⟨yn, hyn⟩ : ∃ yn, (closeL i.rs (x.wt.take j))[n]? = some (bn, yn) := by
        have h1 : (closeL i.rs (x.wt.take j))[n]? = some ((closeL i.rs (x.wt.take j))[n]'(by rw [closeL_len]; exact hnl)) := List.getElem?_eq_getElem _
        have h2 : ((closeL i.rs (x.wt.take j)).map Prod.fst)[n]? = some bn := by rw [closeL_fst, List.getElem?_map, hbn]; rfl
        rw [List.getElem?_map, h1] at h2
        exact ⟨_, by rw [h1]; exact congrArg some (Prod.ext (Option.some.inj h2) rfl)⟩
      have htk : closeL i.rs (x.wt.take (j + 1)) = (closeL i.rs (x.wt.take j)).set n (bn, closeW yn 0) := by
        rw [List.take_add_one, hnj]
        show closeL i.rs (x.wt.take j ++ [n]) = _
        rw [closeL_snoc]
        unfold clo1
        rw [hyn]
      rw [← hn] at hgj
      refine Hd.skip ?_
      refine Hd.toK hK11 ?_
      refine Hd.seq (fun K12 hK12 => ?_)
      refine Hd.block ?_
      refine Hd.seq (fun K13 hK13 => ?_)
      refine Hd.region ?_
      first | (refine Hd.yv (y_idxS Try.underlying22 sz3 rfl rfl (by first | omega | decide)) ?_) | (refine Hd.yv (y_idxR Try.underlying22 sz3 rfl rfl (by first | omega | decide) (by (first | exact RdS.own pkk))) ?_)
      refine Hd.yv (y_loadR1 ag3 rfl (RdS.own (ad := i2.wa) (us := nats x.wt) pkk) hgj) ?_
      refine Hd.yv (y_assign rfl) ?_
      refine Hd.nil ?_
      refine Hd.slots [(0, _), (6, _), (9, _), (33, _), (34, _), (35, _)] ⟨rfl, rfl, rfl, rfl, rfl, rfl, trivial⟩ ?_
      refine Hd.toK hK13 ?_
      refine Hd.region ?_
      refine Hd.yv (y_move rfl) ?_
      refine Hd.yv (y_nilp rfl) ?_
      first | (refine Hd.yv (y_field' (q := 288) (ft := 77) Try.underlying80 rfl sz77 rfl rfl) ?_) | (refine Hd.yv (y_fieldR (q := 288) (ft := 77) Try.underlying80 rfl sz77 rfl rfl) ?_)
      first | (refine Hd.yv (y_load1 ag77 rfl (Rd.pt1 pkk (by (first | exact woT_at (j := 0) (by omega) rfl | exact pws_at hbn | rfl)))) ?_) | (refine Hd.yv (y_load1 ag77 rfl (Rd.seg1 pkk (by (first | exact woT_at (j := 0) (by omega) rfl | exact pws_at hbn | rfl)))) ?_) | (refine Hd.yv (y_loadR1 ag77 rfl (by (first | exact RdS.own pkk)) (by (first | exact woT_at (j := 0) (by omega) rfl | exact pws_at hbn | rfl))) ?_)
      refine Hd.yv (y_move rfl) ?_
      first | (refine Hd.yv (y_idxS Try.underlying77 sz81 rfl rfl (by first | omega | decide)) ?_) | (refine Hd.yv (y_idxR Try.underlying77 sz81 rfl rfl (by first | omega | decide) (by (first | exact RdS.own pkk))) ?_)
      first | (refine Hd.yv (y_load1 ag81 rfl (Rd.pt1 pkk (by (first | exact woT_at (j := 0) (by omega) rfl | exact pws_at hbn | rfl)))) ?_) | (refine Hd.yv (y_load1 ag81 rfl (Rd.seg1 pkk (by (first | exact woT_at (j := 0) (by omega) rfl | exact pws_at hbn | rfl)))) ?_) | (refine Hd.yv (y_loadR1 ag81 rfl (by (first | exact RdS.own pkk)) (by (first | exact woT_at (j := 0) (by omega) rfl | exact pws_at hbn | rfl))) ?_)
      refine Hd.heap (WireP bn yn :: Bag optW ((((closeL i.rs (x.wt.take j)).map some).set m0 none).set n none) :: WireH b (closeW x k) i2 :: RgO (i2.p k) (closeW x k).cap ((closeW x k).e k).b :: RgO (i2.p (1 - k)) (closeW x k).cap ((closeW x k).e (1 - k)).b :: own 3 1 i2.wa x.wt.length i2.wc (nats x.wt) :: pt b5 (plc (some (m0, k))) 75 :: WoS wb (setT w.at f none) w i L) (fun q s => bag_take (by rw [List.getElem?_set_ne (Ne.symm hnm0), List.getElem?_map, hyn]; rfl) (Ent.sep enn q s)) ?_
      refine Hd.callE rfl fk47 (close_ct _ bn yn 0 (by omega)) (Ent.sep enn) ?_
      intro _
      refine Hd.heap (Bag optW (((closeL i.rs (x.wt.take (j + 1))).map some).set m0 none) :: WireH b (closeW x k) i2 :: RgO (i2.p k) (closeW x k).cap ((closeW x k).e k).b :: RgO (i2.p (1 - k)) (closeW x k).cap ((closeW x k).e (1 - k)).b :: own 3 1 i2.wa x.wt.length i2.wc (nats x.wt) :: pt b5 (plc (some (m0, k))) 75 :: WoS wb (setT w.at f none) w i L) (fun q s => by
        have h1 := bag_give (j := n) (b := bn) (x := closeW yn 0) (by rw [List.getElem?_set_self (by simp [closeL_len]; exact hnl)]) s
        rw [List.set_set, List.set_comm _ _ (Ne.symm hnm0), show (List.map some (closeL i.rs (x.wt.take j))).set n (some (bn, closeW yn 0)) = (closeL i.rs (x.wt.take (j + 1))).map some by rw [htk, List.map_set]] at h1
        exact h1) ?_
      refine Hd.nil ?_
      refine Hd.slots [(0, _), (6, _), (33, _), (34, _), (35, _)] ⟨rfl, rfl, rfl, rfl, rfl, trivial⟩ ?_
      refine Hd.inB ?_
      refine Hd.toK hK12 ?_
      refine Hd.region ?_
      first | (refine Hd.yv (y_addn rfl rfl (by simp only [InK]; omega)) ?_) | (refine Hd.yv (y_add rfl rfl) ?_)
      refine Hd.yv (y_move rfl) ?_
      refine Hd.nil ?_
      refine Hd.slots [(0, _), (6, _), (33, _), (34, _), (35, _)] ⟨rfl, rfl, rfl, rfl, rfl, trivial⟩ ?_
      clear hK1 hK2 hK3 hK4 hK6 hK7 hK8 hK9 hK10 hK11 hK12 hK13
      refine Hd.thenN ?_
      exact Hd.again (j + 1) (by first | omega | (simp only; omega) | (simp; omega)) (by repeat (first | exact trivial | refine ⟨rfl, ?_⟩)) (Ent.sep (.pure (by first | omega | (simp; done) | (simp; omega) | (dsimp only; omega)) enn))
    ·
      try simp only [decide_eq_true_eq, decide_eq_false_iff_not, Bool.and_eq_true, Bool.or_eq_true, Bool.and_eq_false_iff, Bool.or_eq_false_iff, Bool.not_eq_true', Bool.not_eq_false', Bool.not_eq_true, Bool.not_eq_false, Int.not_lt, Int.not_le, Decidable.not_not, ne_eq] at hc1
      obtain rfl : j = x.wt.length := by omega
      rw [List.take_length]
      refine Hd.exit ?_
      refine Hd.thenExit ?_
      refine Hd.thenExit ?_
      refine Hd.inBexit ?_
      refine Hd.toK hK8 ?_
      refine Hd.seq (fun K14 hK14 => ?_)
      refine Hd.region ?_
      refine Hd.yv (y_move rfl) ?_
      refine Hd.yv (y_nilp rfl) ?_
      first | (refine Hd.yv (y_field' (q := 16) (ft := 22) Try.underlying88 rfl sz22 rfl rfl) ?_) | (refine Hd.yv (y_fieldR (q := 16) (ft := 22) Try.underlying88 rfl sz22 rfl rfl) ?_)
      first | (refine Hd.store1 sz22 rfl rfl rfl pkk (by first | decide | (simp; done) | (simp; omega)) ?_) | (refine Hd.storeG1 sz22 rfl rfl rfl pkk (by first | decide | (simp; done) | (simp; omega)) ?_) | (refine Hd.storeO1 sz22 rfl rfl rfl pkk (by first | omega | (simp; done) | (simp; omega)) ?_)
      try simp only [List.set_cons_zero, List.set_cons_succ]
      refine Hd.nil ?_
      rw [show (encW (closeW x k) i2).set (0 + 16) (.slice none 0 0) = encW ((closeW x k).wts []) { i2 with wa := none, wc := 0 } from rfl]
      refine Hd.heap (WireP b ((closeW x k).wts []) :: Bag optW (((closeL i.rs x.wt).map some).set m0 none) :: WoS wb (setT w.at f none) w i L) (fun q s => wire_fold (x := (closeW x k).wts []) (i := { i2 with wa := none, wc := 0 }) (k := k) ⟨hi.rd⟩ hk q (Ent.sep (show Ent _ (pt b (encW ((closeW x k).wts []) { i2 with wa := none, wc := 0 }) 88 :: RgO (i2.p k) (closeW x k).cap ((closeW x k).e k).b :: RgO (i2.p (1 - k)) (closeW x k).cap ((closeW x k).e (1 - k)).b :: own 3 1 none 0 0 [] :: Bag optW (((closeL i.rs x.wt).map some).set m0 none) :: WoS wb (setT w.at f none) w i L) from .pick pkk (.pick pkk (.pick pkk (.ownNil enn)))) q s)) ?_
      refine Hd.slots [] trivial ?_
      refine Hd.toK hK14 ?_
      refine Hd.seq (fun K15 hK15 => ?_)
      refine Hd.region ?_
      refine Hd.yv (y_assign rfl) ?_
      refine Hd.nil ?_
      refine Hd.slots [(4, _)] ⟨rfl, trivial⟩ ?_
      refine Hd.toK hK15 ?_
      refine Hd.ret ?_
      clear hK1 hK2 hK3 hK4 hK6 hK7 hK8 hK9 hK10 hK11 hK14 hK15
      have hws : ((closeL i.rs x.wt).set m0 (b, (closeW x k).wts [])).map Prod.snd = closeAll (w.ws.set m0 ((closeW x k).wts [])) x.wt := by
        rw [List.map_set, closeL_snd, hrs, closeAll_set _ _ hm0]
      have hfs : ((closeL i.rs x.wt).set m0 (b, (closeW x k).wts [])).map Prod.fst = i.rs.map Prod.fst := by
        rw [List.map_set, closeL_fst]
        apply List.ext_getElem?
        intro j
        by_cases e : m0 = j
        · subst e
          rw [List.getElem?_set_self (by rw [List.length_map]; exact hml), List.getElem?_map, hb]; rfl
        · rw [List.getElem?_set_ne e]
      rw [hrd] at hcl ⊢
      exact Hd.ret1 rfl () rfl (fun q s => world_all hcl.1 hfs hws hcl.2.1 rfl q (bag_wires (by
        have h1 := bag_give (j := m0) (b := b) (x := (closeW x k).wts []) (by rw [List.getElem?_set_self (by simp [closeL_len]; exact hml)]) s
        rw [List.set_set, show (List.map some (closeL i.rs x.wt)).set m0 (some (b, (closeW x k).wts [])) = ((closeL i.rs x.wt).set m0 (b, (closeW x k).wts [])).map some by rw [List.map_set]] at h1
        exact h1)))
end Wo
end Go.Proofs.Ytbfddabjbkohdaa
namespace Go.Proofs.Ytbfddabjbkohdaa
set_option linter.unusedSimpArgs false
set_option linter.unusedVariables false
set_option linter.unnecessarySimpa false
open Go.RX Fx
namespace Kq
open Wo
set_option maxRecDepth 8000
set_option maxHeartbeats 2000000 in
theorem same16_ct (L : List SP) (a1 : Option Addr) (c1 : Nat) (xs : List NoA) (h1 : RdS L 4 a1 xs.length (xs.flatMap encNo)) (hb1 : xs.length ≤ 1000000) (a2 : Option Addr) (c2 : Nat) (ys : List NoA) (h2 : RdS L 4 a2 ys.length (ys.flatMap encNo)) (hb2 : ys.length ≤ 1000000) : Ct Try.prog 51 #[.slice a1 xs.length c1, .slice a2 ys.length c2] (L) (fun _ : Unit => .bool (decide (xs = ys))) (fun _ : Unit => L) := by
  refine Ct.of (vs := [.slice a1 xs.length c1, .slice a2 ys.length c2]) Try.func51 rfl rfl [(0, .slice a1 xs.length c1), (1, .slice a2 ys.length c2)] (by repeat (first | exact trivial | refine ⟨rfl, ?_⟩)) ?_
  intro E
  show Hd E 26 _ _ _ _
  refine Hd.seq (fun K1 hK1 => ?_)
  refine Hd.region ?_
  refine Hd.yv (y_assign rfl) ?_
  refine Hd.nil ?_
  refine Hd.slots [(0, _), (1, _)] ⟨rfl, rfl, trivial⟩ ?_
  refine Hd.toK hK1 ?_
  refine Hd.seq (fun K2 hK2 => ?_)
  refine Hd.seq (fun K3 hK3 => ?_)
  refine Hd.region ?_
  refine Hd.yv (y_move rfl) ?_
  refine Hd.yv (y_len Try.underlying59 rfl) ?_
  refine Hd.yv (y_move rfl) ?_
  refine Hd.yv (y_len Try.underlying59 rfl) ?_
  refine Hd.yv (y_neq rfl rfl) ?_
  refine Hd.nil ?_
  refine Hd.slots [(0, _), (1, _), (10, _)] ⟨rfl, rfl, rfl, trivial⟩ ?_
  refine Hd.toK hK3 ?_
  refine Hd.cond rfl (fun hc0 => ?_) (fun hc0 => ?_)
  ·
    try simp only [decide_eq_true_eq, decide_eq_false_iff_not, Bool.and_eq_true, Bool.or_eq_true, Bool.and_eq_false_iff, Bool.or_eq_false_iff, Bool.not_eq_true', Bool.not_eq_false', Bool.not_eq_true, Bool.not_eq_false, Int.not_lt, Int.not_le, Decidable.not_not, ne_eq] at hc0
    have hne : xs ≠ ys := fun e => hc0 (by rw [e])
    refine Hd.seq (fun K4 hK4 => ?_)
    refine Hd.region ?_
    refine Hd.yv (y_assign rfl) ?_
    refine Hd.nil ?_
    refine Hd.slots [(4, _)] ⟨rfl, trivial⟩ ?_
    refine Hd.toK hK4 ?_
    refine Hd.ret ?_
    refine Hd.thenRet ?_
    clear hK1 hK2 hK3 hK4
    rw [decide_eq_false hne]
    exact Hd.ret1 rfl () rfl (Ent.sep enn)
  ·
    try simp only [decide_eq_true_eq, decide_eq_false_iff_not, Bool.and_eq_true, Bool.or_eq_true, Bool.and_eq_false_iff, Bool.or_eq_false_iff, Bool.not_eq_true', Bool.not_eq_false', Bool.not_eq_true, Bool.not_eq_false, Int.not_lt, Int.not_le, Decidable.not_not, ne_eq] at hc0
    have hl : xs.length = ys.length := by omega
    refine Hd.skip ?_
    refine Hd.toK hK2 ?_
    refine Hd.seq (fun K5 hK5 => ?_)
    refine Hd.seq (fun K6 hK6 => ?_)
    refine Hd.region ?_
    refine Hd.yv (y_assign rfl) ?_
    refine Hd.nil ?_
    refine Hd.slots [(0, _), (1, _), (5, _)] ⟨rfl, rfl, rfl, trivial⟩ ?_
    refine Hd.toK hK6 ?_
    refine Hd.block ?_
    refine Hd.loopK (ι := Nat) [(0, _), (1, _)] (fun i => [(5, .int .i64 (i : Int))]) (fun i => pu (i ≤ xs.length ∧ xs.take i = ys.take i) :: L) (fun i => xs.length - i) 0 (by repeat (first | exact trivial | refine ⟨rfl, ?_⟩)) (by repeat (first | exact trivial | refine ⟨rfl, ?_⟩)) (Ent.sep (.pure ⟨Nat.zero_le _, rfl⟩ enn)) ?_
    intro i
    try dsimp only
    refine Hd.pure (fun hp0 => ?_)
    try dsimp only at hp0
    refine Hd.seq (fun K7 hK7 => ?_)
    refine Hd.seq (fun K8 hK8 => ?_)
    refine Hd.region ?_
    refine Hd.yv (y_move rfl) ?_
    refine Hd.yv (y_move rfl) ?_
    refine Hd.yv (y_len Try.underlying59 rfl) ?_
    refine Hd.yv (y_lss rfl rfl) ?_
    refine Hd.nil ?_
    refine Hd.slots [(0, _), (1, _), (5, _), (14, _)] ⟨rfl, rfl, rfl, rfl, trivial⟩ ?_
    refine Hd.toK hK8 ?_
    refine Hd.cond rfl (fun hc1 => ?_) (fun hc1 => ?_)
    ·
      try simp only [decide_eq_true_eq, decide_eq_false_iff_not, Bool.and_eq_true, Bool.or_eq_true, Bool.and_eq_false_iff, Bool.or_eq_false_iff, Bool.not_eq_true', Bool.not_eq_false', Bool.not_eq_true, Bool.not_eq_false, Int.not_lt, Int.not_le, Decidable.not_not, ne_eq] at hc1
      have hi : i < xs.length := by omega
      have hi2 : i < ys.length := by omega
      have hgx : xs[i]? = some xs[i] := List.getElem?_eq_getElem hi
      have hgy : ys[i]? = some ys[i] := List.getElem?_eq_getElem hi2
      refine Hd.skip ?_
      refine Hd.toK hK7 ?_
      refine Hd.seq (fun K9 hK9 => ?_)
      refine Hd.block ?_
      refine Hd.seq (fun K10 hK10 => ?_)
      refine Hd.quiet mixed (by kernel_rfl) ?_
      refine Hq.yv (y_move rfl) ?_
      refine Hq.yv (y_move rfl) ?_
      refine Hq.yv (y_idxR Try.underlying59 sz57 rfl rfl hi h1) ?_
      refine Hq.yv (y_loadRn (vs := encNo xs[i]) ag57 rfl h1 (flat_cells encNo 4 (fun _ => rfl) hgx) (by exact sz57) (by simp)) ?_
      refine Hq.yv (y_move rfl) ?_
      refine Hq.yv (y_move rfl) ?_
      refine Hq.yv (y_idxR Try.underlying59 sz57 rfl rfl hi2 h2) ?_
      refine Hq.yv (y_loadRn (vs := encNo ys[i]) ag57 rfl h2 (flat_cells encNo 4 (fun _ => rfl) hgy) (by exact sz57) (by simp)) ?_
      refine Hq.yv (y_to (v' := .bool (decide (xs[i] ≠ ys[i]))) (y_neq_agg rfl rfl eqt57 rfl ⟨rfl, rfl⟩) (by (congr 1; simp [allEq, eqv, Prod.ext_iff]))) ?_
      refine Hq.nil ?_
      refine Hd.slots [(0, _), (1, _), (5, _), (25, _)] ⟨rfl, rfl, rfl, rfl, trivial⟩ ?_
      refine Hd.toK hK10 ?_
      refine Hd.cond rfl (fun hc2 => ?_) (fun hc2 => ?_)
      ·
        try simp only [decide_eq_true_eq, decide_eq_false_iff_not, Bool.and_eq_true, Bool.or_eq_true, Bool.and_eq_false_iff, Bool.or_eq_false_iff, Bool.not_eq_true', Bool.not_eq_false', Bool.not_eq_true, Bool.not_eq_false, Int.not_lt, Int.not_le, Decidable.not_not, ne_eq] at hc2
        refine Hd.seq (fun K11 hK11 => ?_)
        refine Hd.region ?_
        refine Hd.yv (y_assign rfl) ?_
        refine Hd.nil ?_
        refine Hd.slots [(4, _)] ⟨rfl, trivial⟩ ?_
        refine Hd.toK hK11 ?_
        refine Hd.ret ?_
        refine Hd.inBret ?_
        refine Hd.thenRet ?_
        refine Hd.thenRet ?_
        refine Hd.inBret ?_
        refine Hd.thenRet ?_
        clear hK1 hK2 hK3 hK5 hK6 hK7 hK8 hK9 hK10 hK11
        have hne : xs ≠ ys := fun e => hc2 (by subst e; rfl)
        rw [decide_eq_false hne]
        exact Hd.ret1 rfl () rfl (Ent.sep enn)
      ·
        try simp only [decide_eq_true_eq, decide_eq_false_iff_not, Bool.and_eq_true, Bool.or_eq_true, Bool.and_eq_false_iff, Bool.or_eq_false_iff, Bool.not_eq_true', Bool.not_eq_false', Bool.not_eq_true, Bool.not_eq_false, Int.not_lt, Int.not_le, Decidable.not_not, ne_eq] at hc2
        refine Hd.skip ?_
        refine Hd.inB ?_
        refine Hd.toK hK9 ?_
        refine Hd.region ?_
        refine Hd.yv (y_move rfl) ?_
        first | (refine Hd.yv (y_addn rfl rfl (by simp only [InK]; omega)) ?_) | (refine Hd.yv (y_add rfl rfl) ?_)
        refine Hd.yv (y_assign rfl) ?_
        refine Hd.nil ?_
        refine Hd.slots [(0, _), (1, _), (5, _)] ⟨rfl, rfl, rfl, trivial⟩ ?_
        clear hK1 hK2 hK3 hK5 hK6 hK7 hK8 hK9 hK10
        refine Hd.thenN ?_
        have ht : xs.take (i + 1) = ys.take (i + 1) := by
          rw [List.take_add_one, List.take_add_one, hgx, hgy, hp0.2, hc2]
        exact Hd.again (i + 1) (by first | omega | (simp only; omega) | (simp; omega)) (by repeat (first | exact trivial | refine ⟨rfl, ?_⟩)) (Ent.sep (.pure ⟨hi, ht⟩ enn))
    ·
      try simp only [decide_eq_true_eq, decide_eq_false_iff_not, Bool.and_eq_true, Bool.or_eq_true, Bool.and_eq_false_iff, Bool.or_eq_false_iff, Bool.not_eq_true', Bool.not_eq_false', Bool.not_eq_true, Bool.not_eq_false, Int.not_lt, Int.not_le, Decidable.not_not, ne_eq] at hc1
      refine Hd.exit ?_
      refine Hd.thenExit ?_
      refine Hd.thenExit ?_
      refine Hd.inBexit ?_
      refine Hd.toK hK5 ?_
      refine Hd.seq (fun K12 hK12 => ?_)
      refine Hd.region ?_
      refine Hd.yv (y_assign rfl) ?_
      refine Hd.nil ?_
      refine Hd.slots [(4, _)] ⟨rfl, trivial⟩ ?_
      refine Hd.toK hK12 ?_
      refine Hd.ret ?_
      clear hK1 hK2 hK3 hK5 hK6 hK7 hK8 hK12
      have he : xs = ys := by
        have := hp0.2
        rwa [List.take_of_length_le (by omega), List.take_of_length_le (by omega)] at this
      rw [decide_eq_true he]
      exact Hd.ret1 rfl () rfl (Ent.sep enn)
theorem polK_nil (f : Ky → Option KnA) (w : WA) (most : Int) : polK f w most [] = (dueK f w).take most.toNat := by
  unfold polK
  rw [Sh.shuf_nil rfl]
set_option maxHeartbeats 2000000 in
theorem note16_ct (L : List SP) (a b c d : Int) : Ct Try.prog 21 #[.int .i64 a, .int .i64 b, .int .i64 c, .int .i64 d] (L) (fun _ : Unit => .agg (encNo (a, b, c, d)).toArray) (fun _ : Unit => L) := by
  refine Ct.of (vs := [.int .i64 a, .int .i64 b, .int .i64 c, .int .i64 d]) Try.func21 rfl rfl [(0, .int .i64 a), (1, .int .i64 b), (2, .int .i64 c), (3, .int .i64 d)] (by repeat (first | exact trivial | refine ⟨rfl, ?_⟩)) ?_
  intro E
  show Hd E 14 _ _ _ _
  refine Hd.seq (fun K1 hK1 => ?_)
  refine Hd.region ?_
  refine Hd.alloc zr57 (fun b8 => ?_)
  refine Hd.nil ?_
  refine Hd.slots [(0, _), (1, _), (2, _), (3, _), (8, _)] ⟨rfl, rfl, rfl, rfl, rfl, trivial⟩ ?_
  refine Hd.toK hK1 ?_
  refine Hd.seq (fun K2 hK2 => ?_)
  refine Hd.region ?_
  refine Hd.yv (y_move rfl) ?_
  refine Hd.yv (y_move rfl) ?_
  refine Hd.yv (y_move rfl) ?_
  refine Hd.yv (y_move rfl) ?_
  refine Hd.yv (y_build (vs := [(0, _), (1, _), (2, _), (3, _)]) rfl (by first | exact bd21_13 .. | kernel_rfl)) ?_
  refine Hd.storeA (us := encNo (a, b, c, d)) sz57 rfl rfl rfl (encNo_one _) pkk (by exact rfl) ?_
  refine Hd.nil ?_
  refine Hd.slots [(8, _)] ⟨rfl, trivial⟩ ?_
  refine Hd.toK hK2 ?_
  refine Hd.ret ?_
  clear hK1 hK2
  exact Hd.retC rfl () ag57 rfl (Rd.pt (us := encNo (a, b, c, d)) pkk (fun j v e => by rw [Nat.zero_add]; exact e)) (by exact sz57) rfl (Ent.sep enn)
set_option maxHeartbeats 2000000 in
theorem changes_ct (L : List SP) (qb wb mb : Nat) (f : Ky → Option KnA) (m : Nat) (w : WA) (al : Option Addr) (cl : Nat) (xs : List NoA) (h : RdS L 4 al xs.length (xs.flatMap encNo)) (hb : xs.length ≤ 1000000) (aw : Option Addr) (cw : Nat) (ys : List NoA) (h2 : RdS L 4 aw ys.length (ys.flatMap encNo)) (hb2 : ys.length ≤ 1000000) : Ct Try.prog 20 #[.pointer (some ⟨qb, 0, none⟩), .slice al xs.length cl, .slice aw ys.length cw] (KqB qb wb mb f m w L) (fun m' : Nat => .bool (decide ((chsK f w xs).1 = ys))) (fun m' : Nat => pu (m' ≤ m + xs.length) :: KqB qb wb mb (chsK f w xs).2 m' w L) := by
  refine Ct.of (vs := [.pointer (some ⟨qb, 0, none⟩), .slice al xs.length cl, .slice aw ys.length cw]) Try.func20 rfl rfl [(0, .pointer (some ⟨qb, 0, none⟩)), (1, .slice al xs.length cl), (2, .slice aw ys.length cw)] (by repeat (first | exact trivial | refine ⟨rfl, ?_⟩)) ?_
  intro E
  show Hd E 22 _ _ _ _
  refine Hd.seq (fun K1 hK1 => ?_)
  refine Hd.region ?_
  refine Hd.yv (y_assign rfl) ?_
  refine Hd.nil ?_
  refine Hd.slots [(0, _), (1, _), (2, _)] ⟨rfl, rfl, rfl, trivial⟩ ?_
  refine Hd.toK hK1 ?_
  refine Hd.seq (fun K2 hK2 => ?_)
  refine Hd.region ?_
  refine Hd.yv (y_move rfl) ?_
  refine Hd.yv (y_move rfl) ?_
  refine Hd.callE rfl fk30 (kchs_ct L qb wb mb f m w al cl xs h hb) (Ent.sep enn) ?_
  rintro ⟨ad, c, m'⟩
  dsimp only
  refine Hd.pure (fun hm' => ?_)
  have hcl := chsK_len w xs f
  refine Hd.yv (y_move rfl) ?_
  refine Hd.yv (y_to (v' := .slice ad (chsK f w xs).1.length c) (y_extract rfl rfl) (by rfl)) ?_
  refine Hd.yv (y_to (v' := .int .i64 0) (y_extract rfl rfl) (by rfl)) ?_
  refine Hd.yv (y_assign rfl) ?_
  refine Hd.yv (y_assign rfl) ?_
  refine Hd.nil ?_
  refine Hd.slots [(2, _), (7, _), (8, _)] ⟨rfl, rfl, rfl, trivial⟩ ?_
  refine Hd.toK hK2 ?_
  refine Hd.seq (fun K3 hK3 => ?_)
  refine Hd.region ?_
  refine Hd.yv (y_move rfl) ?_
  first | (refine Hd.yv (y_to (v' := .bool true) (y_eqlT rfl rfl) (by rfl)) ?_) | (refine Hd.yv (y_to (v' := .bool true) (y_eql rfl rfl) (by rfl)) ?_)
  refine Hd.yv (y_move rfl) ?_
  refine Hd.yg rfl rfl (y_move rfl) ?_
  refine Hd.yg rfl rfl (y_move rfl) ?_
  refine Hd.unguard rfl rfl ?_
  refine Hd.callE rfl fk51 (same16_ct _ ad c (chsK f w xs).1 ?hD (by omega) aw cw ys ?hE hb2) (Ent.sep enn) ?_
  case hD => exact RdS.own pkk
  case hE => exact RdS.mono h2 (Ent.sep enn)
  intro _
  first | (refine Hd.yv (y_pickT rfl rfl) ?_) | (refine Hd.yv (y_pickF rfl rfl) ?_) | (refine Hd.yv (y_pickb rfl rfl rfl) ?_) | (refine Hd.yv (y_pick rfl rfl rfl) ?_)
  refine Hd.yv (y_assign rfl) ?_
  refine Hd.nil ?_
  refine Hd.slots [(6, _)] ⟨rfl, trivial⟩ ?_
  refine Hd.toK hK3 ?_
  refine Hd.ret ?_
  clear hK1 hK2 hK3
  exact Hd.ret1 rfl m' rfl (Ent.sep (.pure hm' enn))
set_option maxHeartbeats 2000000 in
theorem polls_ct (L : List SP) (qb wb mb : Nat) (f : Ky → Option KnA) (m : Nat) (hm : m ≤ 1000000) (hf : OkK f) (w : WA) (aw : Option Addr) (cw : Nat) (ys : List NoA) (h2 : RdS L 4 aw ys.length (ys.flatMap encNo)) (hb2 : ys.length ≤ 1000000) : Ct Try.prog 24 #[.pointer (some ⟨qb, 0, none⟩), .slice aw ys.length cw] (KqB qb wb mb f m w L) (fun m' : Nat => .bool (decide ((dueK f w).take 99 = ys))) (fun m' : Nat => pu (m' ≤ m + 99) :: KqB qb wb mb (offK w f ((dueK f w).take 99)) m' w L) := by
  refine Ct.of (vs := [.pointer (some ⟨qb, 0, none⟩), .slice aw ys.length cw]) Try.func24 rfl rfl [(0, .pointer (some ⟨qb, 0, none⟩)), (1, .slice aw ys.length cw)] (by repeat (first | exact trivial | refine ⟨rfl, ?_⟩)) ?_
  intro E
  show Hd E 19 _ _ _ _
  refine Hd.seq (fun K1 hK1 => ?_)
  refine Hd.region ?_
  refine Hd.yv (y_assign rfl) ?_
  refine Hd.nil ?_
  refine Hd.slots [(0, _), (1, _)] ⟨rfl, rfl, trivial⟩ ?_
  refine Hd.toK hK1 ?_
  refine Hd.seq (fun K2 hK2 => ?_)
  refine Hd.region ?_
  refine Hd.yv (y_move rfl) ?_
  refine Hd.callE rfl fk29 (kpoll_ct L qb wb mb f m hm hf w 99 (by decide) none 0 [] ?hO (by simp)) (Ent.sep enn) ?_
  case hO => exact RdS.none _ _ _
  rintro ⟨ad, c, m'⟩
  dsimp only
  rw [polK_nil, show (99 : Int).toNat = 99 from rfl]
  refine Hd.pure (fun hm' => ?_)
  have hpl : ((dueK f w).take 99).length ≤ 99 := by rw [List.length_take]; omega
  refine Hd.yv (y_move rfl) ?_
  refine Hd.yv (y_to (v' := .slice ad ((dueK f w).take 99).length c) (y_extract rfl rfl) (by rfl)) ?_
  refine Hd.yv (y_to (v' := .int .i64 0) (y_extract rfl rfl) (by rfl)) ?_
  refine Hd.yv (y_assign rfl) ?_
  refine Hd.yv (y_assign rfl) ?_
  refine Hd.nil ?_
  refine Hd.slots [(1, _), (5, _), (6, _)] ⟨rfl, rfl, rfl, trivial⟩ ?_
  refine Hd.toK hK2 ?_
  refine Hd.seq (fun K3 hK3 => ?_)
  refine Hd.region ?_
  refine Hd.yv (y_move rfl) ?_
  first | (refine Hd.yv (y_to (v' := .bool true) (y_eqlT rfl rfl) (by rfl)) ?_) | (refine Hd.yv (y_to (v' := .bool true) (y_eql rfl rfl) (by rfl)) ?_)
  refine Hd.yv (y_move rfl) ?_
  refine Hd.yg rfl rfl (y_move rfl) ?_
  refine Hd.yg rfl rfl (y_move rfl) ?_
  refine Hd.unguard rfl rfl ?_
  refine Hd.callE rfl fk51 (same16_ct _ ad c ((dueK f w).take 99) ?hD (by omega) aw cw ys ?hE hb2) (Ent.sep enn) ?_
  case hD => exact RdS.own pkk
  case hE => exact RdS.mono h2 (Ent.sep enn)
  intro _
  first | (refine Hd.yv (y_pickT rfl rfl) ?_) | (refine Hd.yv (y_pickF rfl rfl) ?_) | (refine Hd.yv (y_pickb rfl rfl rfl) ?_) | (refine Hd.yv (y_pick rfl rfl rfl) ?_)
  refine Hd.yv (y_assign rfl) ?_
  refine Hd.nil ?_
  refine Hd.slots [(4, _)] ⟨rfl, trivial⟩ ?_
  refine Hd.toK hK3 ?_
  refine Hd.ret ?_
  clear hK1 hK2 hK3
  exact Hd.ret1 rfl m' rfl (Ent.sep (.pure (by omega) enn))
abbrev KqZ (b : Nat) : SP := pt b [.pointer none, .map none] 69
set_option maxHeartbeats 2000000 in
theorem knone_z (L : List SP) (b : Nat) : Ct Try.prog 57 #[.pointer (some ⟨b, 0, none⟩)] (KqZ b :: L) (fun _ : Unit => .bool true) (fun _ : Unit => KqZ b :: L) := by
  refine Ct.of (vs := [.pointer (some ⟨b, 0, none⟩)]) Try.func57 rfl rfl [(0, .pointer (some ⟨b, 0, none⟩))] (by repeat (first | exact trivial | refine ⟨rfl, ?_⟩)) ?_
  intro E
  show Hd E 12 _ _ _ _
  refine Hd.seq (fun K1 hK1 => ?_)
  refine Hd.region ?_
  refine Hd.yv (y_assign rfl) ?_
  refine Hd.nil ?_
  refine Hd.slots [(0, _)] ⟨rfl, trivial⟩ ?_
  refine Hd.toK hK1 ?_
  refine Hd.seq (fun K2 hK2 => ?_)
  refine Hd.region ?_
  refine Hd.yv (y_move rfl) ?_
  first | (refine Hd.yv (y_eql_pointer Try.underlying52 rfl rfl) ?_) | (refine Hd.yv (y_eql_one Try.underlying52 sz69 rfl rfl rfl) ?_)
  refine Hd.yv (y_move rfl) ?_
  refine Hd.yg rfl rfl (y_move rfl) ?_
  refine Hd.yg rfl rfl (y_nilp rfl) ?_
  first | (refine Hd.yg rfl rfl (y_field' (q := 0) (ft := 27) Try.underlying69 rfl sz27 rfl rfl) ?_) | (refine Hd.yg rfl rfl (y_fieldR (q := 0) (ft := 27) Try.underlying69 rfl sz27 rfl rfl) ?_)
  first | (refine Hd.yg rfl rfl (y_load1 ag27 rfl (Rd.pt1 pkk (by (first | rfl)))) ?_) | (refine Hd.yg rfl rfl (y_load1 ag27 rfl (Rd.seg1 pkk (by (first | rfl)))) ?_) | (refine Hd.yg rfl rfl (y_loadR1 ag27 rfl (by (first | exact RdS.own pkk)) (by (first | rfl))) ?_)
  first | (refine Hd.yg rfl rfl (y_eql_pointer Try.underlying27 rfl rfl) ?_) | (refine Hd.yg rfl rfl (y_eql_one Try.underlying27 sz80 rfl rfl rfl) ?_)
  first | (refine Hd.yv (y_pickT rfl rfl) ?_) | (refine Hd.yv (y_pickF rfl rfl) ?_) | (refine Hd.yv (y_pickb rfl rfl rfl) ?_) | (refine Hd.yv (y_pick rfl rfl rfl) ?_)
  refine Hd.yv (y_assign rfl) ?_
  refine Hd.nil ?_
  refine Hd.slots [(2, _)] ⟨rfl, trivial⟩ ?_
  refine Hd.toK hK2 ?_
  refine Hd.ret ?_
  clear hK1 hK2
  exact Hd.ret1 rfl () (by first | rfl | (simp only [*]; done) | (simp [*]; done)) (Ent.sep enn)
set_option maxHeartbeats 2000000 in
theorem knew_nil (L : List SP) : Ct Try.prog 19 #[.pointer none] (L) (fun _ : Unit => .tuple #[.pointer none, .int .i64 1]) (fun _ : Unit => L) := by
  refine Ct.of (vs := [.pointer none]) Try.func19 rfl rfl [(0, .pointer none)] (by repeat (first | exact trivial | refine ⟨rfl, ?_⟩)) ?_
  intro E
  show Hd E 10 _ _ _ _
  refine Hd.seq (fun K1 hK1 => ?_)
  refine Hd.region ?_
  refine Hd.yv (y_assign rfl) ?_
  refine Hd.yv (y_assign rfl) ?_
  refine Hd.nil ?_
  refine Hd.slots [(0, _)] ⟨rfl, trivial⟩ ?_
  refine Hd.toK hK1 ?_
  refine Hd.seq (fun K2 hK2 => ?_)
  refine Hd.seq (fun K3 hK3 => ?_)
  refine Hd.region ?_
  refine Hd.yv (y_move rfl) ?_
  first | (refine Hd.yv (y_eql_pointer Try.underlying27 rfl rfl) ?_) | (refine Hd.yv (y_eql_one Try.underlying27 sz80 rfl rfl rfl) ?_)
  refine Hd.nil ?_
  refine Hd.slots [(0, _), (5, _)] ⟨rfl, rfl, trivial⟩ ?_
  refine Hd.toK hK3 ?_
  refine Hd.condT rfl ?_
  refine Hd.seq (fun K4 hK4 => ?_)
  refine Hd.region ?_
  refine Hd.yv (y_assign rfl) ?_
  refine Hd.yv (y_assign rfl) ?_
  refine Hd.nil ?_
  refine Hd.slots [(2, _), (3, _)] ⟨rfl, rfl, trivial⟩ ?_
  refine Hd.toK hK4 ?_
  refine Hd.ret ?_
  refine Hd.thenRet ?_
  clear hK1 hK2 hK3 hK4
  exact Hd.ret2 rfl () rfl rfl rfl (Ent.sep enn)
set_option maxHeartbeats 2000000 in
theorem kchs_nil (L : List SP) (v : Value) : Ct Try.prog 30 #[.pointer none, v] (L) (fun _ : Unit => .tuple #[.slice none 0 0, .int .i64 1]) (fun _ : Unit => L) := by
  refine Ct.of (vs := [.pointer none, v]) Try.func30 rfl rfl [(0, .pointer none), (1, v)] (by repeat (first | exact trivial | refine ⟨rfl, ?_⟩)) ?_
  intro E
  show Hd E 40 _ _ _ _
  refine Hd.seq (fun K1 hK1 => ?_)
  refine Hd.region ?_
  refine Hd.yv (y_assign rfl) ?_
  refine Hd.yv (y_assign rfl) ?_
  refine Hd.nil ?_
  refine Hd.slots [(0, _), (1, _)] ⟨rfl, rfl, trivial⟩ ?_
  refine Hd.toK hK1 ?_
  refine Hd.scope ?_
  refine Hd.seq (fun K2 hK2 => ?_)
  refine Hd.seq (fun K3 hK3 => ?_)
  refine Hd.region ?_
  refine Hd.yv (y_move rfl) ?_
  refine Hd.callE rfl fk57 (knone0_ct _) (Ent.sep enn) ?_
  intro _
  refine Hd.nil ?_
  refine Hd.slots [(0, _), (1, _), (11, _)] ⟨rfl, rfl, rfl, trivial⟩ ?_
  refine Hd.toK hK3 ?_
  refine Hd.condT rfl ?_
  refine Hd.seq (fun K4 hK4 => ?_)
  refine Hd.region ?_
  refine Hd.yv (y_assign rfl) ?_
  refine Hd.yv (y_assign rfl) ?_
  refine Hd.nil ?_
  refine Hd.slots [(4, _), (5, _)] ⟨rfl, rfl, trivial⟩ ?_
  refine Hd.toK hK4 ?_
  refine Hd.ret ?_
  refine Hd.thenRet ?_
  refine Hd.scRet ?_
  clear hK1 hK2 hK3 hK4
  exact Hd.ret2 rfl () rfl rfl rfl (Ent.sep enn)
set_option maxHeartbeats 2000000 in
theorem kpoll_z (L : List SP) (b : Nat) (most : Int) (v : Value) : Ct Try.prog 29 #[.pointer (some ⟨b, 0, none⟩), .int .i64 most, v] (KqZ b :: L) (fun _ : Unit => .tuple #[.slice none 0 0, .int .i64 1]) (fun _ : Unit => KqZ b :: L) := by
  refine Ct.of (vs := [.pointer (some ⟨b, 0, none⟩), .int .i64 most, v]) Try.func29 rfl rfl [(0, .pointer (some ⟨b, 0, none⟩)), (1, .int .i64 most), (2, v)] (by repeat (first | exact trivial | refine ⟨rfl, ?_⟩)) ?_
  intro E
  show Hd E 76 _ _ _ _
  refine Hd.seq (fun K1 hK1 => ?_)
  refine Hd.region ?_
  refine Hd.yv (y_assign rfl) ?_
  refine Hd.yv (y_assign rfl) ?_
  refine Hd.nil ?_
  refine Hd.slots [(0, _), (1, _), (2, _)] ⟨rfl, rfl, rfl, trivial⟩ ?_
  refine Hd.toK hK1 ?_
  refine Hd.seq (fun K2 hK2 => ?_)
  refine Hd.block ?_
  refine Hd.seq (fun K3 hK3 => ?_)
  refine Hd.region ?_
  refine Hd.yv (y_move rfl) ?_
  refine Hd.callE rfl fk57 (knone_z _ b) (Ent.sep enn) ?_
  intro _
  refine Hd.yv (y_assign rfl) ?_
  refine Hd.nil ?_
  refine Hd.slots [(0, _), (1, _), (2, _), (13, _)] ⟨rfl, rfl, rfl, rfl, trivial⟩ ?_
  refine Hd.toK hK3 ?_
  refine Hd.condT rfl ?_
  refine Hd.seq (fun K4 hK4 => ?_)
  refine Hd.region ?_
  refine Hd.yv (y_assign rfl) ?_
  refine Hd.yv (y_assign rfl) ?_
  refine Hd.nil ?_
  refine Hd.slots [(6, _), (7, _)] ⟨rfl, rfl, trivial⟩ ?_
  refine Hd.toK hK4 ?_
  refine Hd.ret ?_
  refine Hd.inBret ?_
  refine Hd.thenRet ?_
  clear hK1 hK2 hK3 hK4
  exact Hd.ret2 rfl () rfl rfl rfl (Ent.sep enn)
set_option maxHeartbeats 2000000 in
theorem knotes_z (L : List SP) (b : Nat) : Ct Try.prog 27 #[.pointer (some ⟨b, 0, none⟩)] (KqZ b :: L) (fun _ : Unit => .slice none 0 0) (fun _ : Unit => KqZ b :: L) := by
  refine Ct.of (vs := [.pointer (some ⟨b, 0, none⟩)]) Try.func27 rfl rfl [(0, .pointer (some ⟨b, 0, none⟩))] (by repeat (first | exact trivial | refine ⟨rfl, ?_⟩)) ?_
  intro E
  show Hd E 32 _ _ _ _
  refine Hd.seq (fun K1 hK1 => ?_)
  refine Hd.region ?_
  refine Hd.yv (y_assign rfl) ?_
  refine Hd.nil ?_
  refine Hd.slots [(0, _)] ⟨rfl, trivial⟩ ?_
  refine Hd.toK hK1 ?_
  refine Hd.seq (fun K2 hK2 => ?_)
  refine Hd.seq (fun K3 hK3 => ?_)
  refine Hd.region ?_
  refine Hd.yv (y_move rfl) ?_
  refine Hd.callE rfl fk57 (knone_z _ b) (Ent.sep enn) ?_
  intro _
  refine Hd.nil ?_
  refine Hd.slots [(0, _), (7, _)] ⟨rfl, rfl, trivial⟩ ?_
  refine Hd.toK hK3 ?_
  refine Hd.condT rfl ?_
  refine Hd.seq (fun K4 hK4 => ?_)
  refine Hd.region ?_
  refine Hd.yv (y_assign rfl) ?_
  refine Hd.nil ?_
  refine Hd.slots [(2, _)] ⟨rfl, trivial⟩ ?_
  refine Hd.toK hK4 ?_
  refine Hd.ret ?_
  refine Hd.thenRet ?_
  clear hK1 hK2 hK3 hK4
  exact Hd.ret1 rfl () rfl (Ent.sep enn)
set_option maxHeartbeats 2000000 in
theorem kdue_nil (L : List SP) : Ct Try.prog 26 #[.pointer none] (L) (fun _ : Unit => .bool false) (fun _ : Unit => L) := by
  refine Ct.ofM (vs := [.pointer none]) Try.func26 rfl rfl [(0, .pointer none)] (by repeat (first | exact trivial | refine ⟨rfl, ?_⟩)) ?_
  intro E
  show Hd E 8 _ _ _ _
  refine Hd.seq (fun K1 hK1 => ?_)
  refine Hd.region ?_
  refine Hd.alloc zr4 (fun b2 => ?_)
  refine Hd.nil ?_
  refine Hd.slots [(0, _), (2, _)] ⟨rfl, rfl, trivial⟩ ?_
  refine Hd.toK hK1 ?_
  refine Hd.seq (fun K2 hK2 => ?_)
  refine Hd.seq (fun K3 hK3 => ?_)
  refine Hd.region ?_
  refine Hd.yv (y_move rfl) ?_
  refine Hd.callE rfl fk57 (knone0_ct _) (Ent.sep enn) ?_
  intro _
  refine Hd.nil ?_
  refine Hd.slots [(0, _), (2, _), (4, _)] ⟨rfl, rfl, rfl, trivial⟩ ?_
  refine Hd.toK hK3 ?_
  refine Hd.condT rfl ?_
  refine Hd.seq (fun K4 hK4 => ?_)
  refine Hd.region ?_
  first | (refine Hd.store1 sz4 rfl rfl rfl pkk (by first | decide | (simp; done) | (simp; omega)) ?_) | (refine Hd.storeG1 sz4 rfl rfl rfl pkk (by first | decide | (simp; done) | (simp; omega)) ?_) | (refine Hd.storeO1 sz4 rfl rfl rfl pkk (by first | omega | (simp; done) | (simp; omega)) ?_)
  try simp only [List.set_cons_zero, List.set_cons_succ]
  refine Hd.nil ?_
  refine Hd.slots [(2, _)] ⟨rfl, trivial⟩ ?_
  refine Hd.toK hK4 ?_
  refine Hd.ret ?_
  refine Hd.thenRet ?_
  clear hK1 hK2 hK3 hK4
  exact Hd.retM (fun a fr => Lv.endC1 fr rfl () ag4 rfl (Rd.pt1 pkk rfl) rfl (Ent.sep enn))
end Kq
end Go.Proofs.Ytbfddabjbkohdaa
namespace Go.Proofs.Ytbfddabjbkohdaa
set_option linter.unusedSimpArgs false
set_option linter.unusedVariables false
set_option linter.unnecessarySimpa false
open Go.RX Fx
namespace Kq
open Wo
set_option maxRecDepth 8000
theorem OkK.off {w : WA} : ∀ {l : List NoA} {f : Ky → Option KnA} (_ : OkK f) (_ : ∀ x ∈ l, (1 ≤ x.2.1 ∧ x.2.1 ≤ 3) ∧ (x.2.1 = 3 → 1 ≤ x.1 ∧ x.1 ≤ 31)), OkK (offK w f l)
  | [], _, h, _ => h
  | x :: l, f, h, hl => by
    have hx := hl x List.mem_cons_self
    refine OkK.off (l := l) (f := off1 w f x) ?_ (fun y hy => hl y (List.mem_cons_of_mem _ hy))
    unfold off1
    split
    · exact (h.upd (fun _ _ => hx)).upd (fun _ _ => hx)
    · exact h.upd (fun _ _ => hx)
theorem told_key (f : Ky → Option KnA) (w : WA) (a : Ky) : (toldK f w a).1.1 = a.1 ∧ (toldK f w a).1.2.1 = a.2 := by
  unfold toldK
  split
  · exact ⟨rfl, rfl⟩
  · split <;> exact ⟨rfl, rfl⟩
theorem due_key {f : Ky → Option KnA} {w : WA} {x : NoA} (h : x ∈ dueK f w) : isK f w (x.1, x.2.1) = true := by
  unfold dueK dueT at h
  obtain ⟨a, ha, hx⟩ := List.mem_filterMap.1 h
  split at hx
  · simp only [Option.some.injEq] at hx
    subst hx
    have := told_key f w a
    rw [this.1, this.2]
    exact (List.mem_filter.1 ha).2
  · cases hx
theorem OkK.due {f : Ky → Option KnA} (h : OkK f) (w : WA) (n : Nat) : OkK (offK w f ((dueK f w).take n)) := OkK.off h fun x hx => by
  obtain ⟨y, hy⟩ := Option.isSome_iff_exists.1 (isK_some (due_key (List.mem_of_mem_take hx)))
  exact ⟨h.fl _ y hy, h.sg _ y hy⟩
def wA1 : WA := mkW newA 1 (connW 8)
def wA2 : WA := (putR wA1 0 [97]).2
def wN2 : WA := (hanR wA1 2 true).2
def wN3 : WA := (raiR wN2 2).2
def wN4 : WA := (raiR wN3 2).2
def wN5 : WA := (sigR wN4).2
def wN6 : WA := (pcloseR wN5 0).2
def wN7 : WA := (closeF wN6 0).2
def af1 : Ky → Option KnA := (chsK k0 wA2 [(0, 1, 1, 0), (0, 2, 17, 0), (9, 1, 1, 0), (0, 1, 66, 0)]).2
theorem ac1 : (chsK k0 wA2 [(0, 1, 1, 0), (0, 2, 17, 0), (9, 1, 1, 0), (0, 1, 66, 0)]).1 = [(9, 1, 256, 110), (0, 1, 256, 0)] := by decide +kernel
theorem ao1 : OkK af1 := OkK.chs okK_0 [(0, 1, 1, 0), (0, 2, 17, 0), (9, 1, 1, 0), (0, 1, 66, 0)]
def af2 : Ky → Option KnA := offK wA2 af1 [(0, 2, 0, 0)]
theorem ad2 : (dueK af1 wA2).take 99 = [(0, 2, 0, 0)] := by decide +kernel
theorem ao2 : OkK af2 := by
  have h := OkK.due ao1 wA2 99
  rw [ad2] at h
  exact h
def af3 : Ky → Option KnA := offK wA2 af2 []
theorem ad3 : (dueK af2 wA2).take 99 = [] := by decide +kernel
set_option maxHeartbeats 2000000 in
theorem alive16_ct (L : List SP) : Ct Try.prog 31 #[] (L) (fun _ : Unit => .bool true) (fun _ : Unit => L) := by
  refine Ct.of (vs := []) Try.func31 rfl rfl [] (by repeat (first | exact trivial | refine ⟨rfl, ?_⟩)) ?_
  intro E
  show Hd E 40 _ _ _ _
  refine Hd.seq (fun K1 hK1 => ?_)
  refine Hd.region ?_
  refine Hd.yv (y_assign rfl) ?_
  refine Hd.nil ?_
  refine Hd.slots [] trivial ?_
  refine Hd.toK hK1 ?_
  refine Hd.seq (fun K2 hK2 => ?_)
  refine Hd.region ?_
  refine Hd.callE rfl fk8 (wnew_ct _) (Ent.sep enn) ?_
  intro wb
  refine Hd.yv (y_assign rfl) ?_
  refine Hd.nil ?_
  refine Hd.slots [(1, _)] ⟨rfl, trivial⟩ ?_
  refine Hd.toK hK2 ?_
  refine Hd.seq (fun K3 hK3 => ?_)
  refine Hd.region ?_
  refine Hd.yv (y_move rfl) ?_
  refine Hd.callE rfl fk9 (outer_mk _ wb newA 8 (by decide) (by decide)) (Ent.sep enn) ?_
  intro _
  rw [show mkW newA 1 (connW 8) = wA1 from rfl]
  refine Hd.nil ?_
  refine Hd.slots [(1, _)] ⟨rfl, trivial⟩ ?_
  refine Hd.toK hK3 ?_
  refine Hd.seq (fun K4 hK4 => ?_)
  refine Hd.region ?_
  refine Hd.yv (y_move rfl) ?_
  refine Hd.bslice (vs := [(0, _)]) rfl (by first | exact bs31_8 .. | kernel_rfl) (fun b8 => ?_)
  refine Hd.convSS (e := 5) (by kernel_rfl) rfl pkk rfl (by first | decide | (simp [maxLen])) ?_
  refine Hd.callE rfl fk12 (wput_ct _ wb wA1 0 (some ⟨b8, 0, none⟩) 1 1 [97] rfl ?hD (by decide) (by decide)) (Ent.sep enn) ?_
  case hD => exact RdS.own (us := [.int .u8 97]) pkk
  intro _
  rw [show (putR wA1 0 [97]).2 = wA2 from rfl]
  refine Hd.nil ?_
  refine Hd.slots [(1, _)] ⟨rfl, trivial⟩ ?_
  refine Hd.toK hK4 ?_
  refine Hd.seq (fun K5 hK5 => ?_)
  refine Hd.region ?_
  refine Hd.yv (y_move rfl) ?_
  refine Hd.callE rfl fk19 (knew_ct _ wb) (Ent.sep enn) ?_
  rintro ⟨qb, mb⟩
  dsimp only
  refine Hd.yv (y_move rfl) ?_
  refine Hd.yv (y_to (v' := .pointer (some ⟨qb, 0, none⟩)) (y_extract rfl rfl) (by rfl)) ?_
  refine Hd.yv (y_to (v' := .int .i64 0) (y_extract rfl rfl) (by rfl)) ?_
  refine Hd.yv (y_assign rfl) ?_
  refine Hd.yv (y_assign rfl) ?_
  refine Hd.nil ?_
  refine Hd.slots [(2, _), (3, _)] ⟨rfl, rfl, trivial⟩ ?_
  refine Hd.toK hK5 ?_
  refine Hd.seq (fun K6 hK6 => ?_)
  refine Hd.region ?_
  refine Hd.yv (y_move rfl) ?_
  first | (refine Hd.yv (y_eqlT rfl rfl) ?_) | (refine Hd.yv (y_eql rfl rfl) ?_)
  refine Hd.yv (y_move rfl) ?_
  refine Hd.yg rfl rfl (y_move rfl) ?_
  refine Hd.unguard rfl rfl ?_
  refine Hd.callE rfl fk21 (note16_ct _ (0) (1) (1) (0)) (Ent.sep enn) ?_
  intro _
  refine Hd.unguard rfl rfl ?_
  refine Hd.callE rfl fk21 (note16_ct _ (0) (2) (17) (0)) (Ent.sep enn) ?_
  intro _
  refine Hd.unguard rfl rfl ?_
  refine Hd.callE rfl fk21 (note16_ct _ (9) (1) (1) (0)) (Ent.sep enn) ?_
  intro _
  refine Hd.unguard rfl rfl ?_
  refine Hd.callE rfl fk21 (note16_ct _ (0) (1) (66) (0)) (Ent.sep enn) ?_
  intro _
  refine Hd.unguard rfl rfl ?_
  refine Hd.bslice (vs := [(0, _), (1, _), (2, _), (3, _)]) rfl (by first | exact bs31_24 .. | kernel_rfl) (fun b24 => ?_)
  refine Hd.unguard rfl rfl ?_
  refine Hd.callE rfl fk21 (note16_ct _ (9) (1) (256) (110)) (Ent.sep enn) ?_
  intro _
  refine Hd.unguard rfl rfl ?_
  refine Hd.callE rfl fk21 (note16_ct _ (0) (1) (256) (0)) (Ent.sep enn) ?_
  intro _
  refine Hd.unguard rfl rfl ?_
  refine Hd.bslice (vs := [(0, _), (1, _)]) rfl (by first | exact bs31_27 .. | kernel_rfl) (fun b27 => ?_)
  refine Hd.unguard rfl rfl ?_
  refine Hd.callE rfl fk20 (changes_ct _ qb wb mb k0 0 wA2 (some ⟨b24, 0, none⟩) 4 [(0, 1, 1, 0), (0, 2, 17, 0), (9, 1, 1, 0), (0, 1, 66, 0)] ?hD (by decide) (some ⟨b27, 0, none⟩) 2 [(9, 1, 256, 110), (0, 1, 256, 0)] ?hE (by decide)) (Ent.sep enn) ?_
  case hD => exact RdS.rd (Rd.pt pkk (fun j v e => by rw [Nat.zero_add]; exact e)) rfl
  case hE => exact RdS.rd (Rd.pt pkk (fun j v e => by rw [Nat.zero_add]; exact e)) rfl
  intro m1
  rw [ac1, show (chsK k0 wA2 [(0, 1, 1, 0), (0, 2, 17, 0), (9, 1, 1, 0), (0, 1, 66, 0)]).2 = af1 from rfl]
  refine Hd.pure (fun hm1 => ?_)
  simp only [List.length_cons, List.length_nil] at hm1
  first | (refine Hd.yv (y_to (v' := .bool true) (y_pickT rfl rfl) (by rfl)) ?_) | (refine Hd.yv (y_to (v' := .bool true) (y_pickF rfl rfl) (by rfl)) ?_) | (refine Hd.yv (y_to (v' := .bool true) (y_pickb rfl rfl rfl) (by rfl)) ?_) | (refine Hd.yv (y_to (v' := .bool true) (y_pick rfl rfl rfl) (by rfl)) ?_)
  refine Hd.yv (y_move rfl) ?_
  refine Hd.yg rfl rfl (y_move rfl) ?_
  refine Hd.unguard rfl rfl ?_
  refine Hd.callE rfl fk21 (note16_ct _ (0) (2) (0) (0)) (Ent.sep enn) ?_
  intro _
  refine Hd.unguard rfl rfl ?_
  refine Hd.bslice (vs := [(0, _)]) rfl (by first | exact bs31_33 .. | kernel_rfl) (fun b33 => ?_)
  refine Hd.unguard rfl rfl ?_
  refine Hd.callE rfl fk24 (polls_ct _ qb wb mb af1 m1 (by omega) ao1 wA2 (some ⟨b33, 0, none⟩) 1 [(0, 2, 0, 0)] ?hD (by decide)) (Ent.sep enn) ?_
  case hD => exact RdS.rd (Rd.pt pkk (fun j v e => by rw [Nat.zero_add]; exact e)) rfl
  intro m2
  rw [ad2, show offK wA2 af1 [(0, 2, 0, 0)] = af2 from rfl]
  refine Hd.pure (fun hm2 => ?_)
  first | (refine Hd.yv (y_to (v' := .bool true) (y_pickT rfl rfl) (by rfl)) ?_) | (refine Hd.yv (y_to (v' := .bool true) (y_pickF rfl rfl) (by rfl)) ?_) | (refine Hd.yv (y_to (v' := .bool true) (y_pickb rfl rfl rfl) (by rfl)) ?_) | (refine Hd.yv (y_to (v' := .bool true) (y_pick rfl rfl rfl) (by rfl)) ?_)
  refine Hd.yv (y_move rfl) ?_
  refine Hd.yg rfl rfl (y_move rfl) ?_
  refine Hd.unguard rfl rfl ?_
  refine Hd.callE rfl fk24 (polls_ct _ qb wb mb af2 m2 (by omega) ao2 wA2 none 0 [] ?hD (by decide)) (Ent.sep enn) ?_
  case hD => exact RdS.none _ _ _
  intro m3
  rw [ad3, show offK wA2 af2 [] = af3 from rfl]
  refine Hd.pure (fun hm3 => ?_)
  first | (refine Hd.yv (y_to (v' := .bool true) (y_pickT rfl rfl) (by rfl)) ?_) | (refine Hd.yv (y_to (v' := .bool true) (y_pickF rfl rfl) (by rfl)) ?_) | (refine Hd.yv (y_to (v' := .bool true) (y_pickb rfl rfl rfl) (by rfl)) ?_) | (refine Hd.yv (y_to (v' := .bool true) (y_pick rfl rfl rfl) (by rfl)) ?_)
  refine Hd.yv (y_assign rfl) ?_
  refine Hd.nil ?_
  refine Hd.slots [(0, _)] ⟨rfl, trivial⟩ ?_
  refine Hd.toK hK6 ?_
  refine Hd.ret ?_
  clear hK1 hK2 hK3 hK4 hK5 hK6
  exact Hd.ret1 rfl () rfl (Ent.sep enn)
def nf1 : Ky → Option KnA := (chsK k0 wA1 [(0, 3, 1, 0), (2, 3, 1, 0)]).2
theorem nc1 : (chsK k0 wA1 [(0, 3, 1, 0), (2, 3, 1, 0)]).1 = [(0, 3, 256, 100)] := by decide +kernel
theorem no1 : OkK nf1 := OkK.chs okK_0 [(0, 3, 1, 0), (2, 3, 1, 0)]
def nf2 : Ky → Option KnA := offK wN4 nf1 [(2, 3, 0, 2)]
theorem nd2 : (dueK nf1 wN4).take 99 = [(2, 3, 0, 2)] := by decide +kernel
theorem no2 : OkK nf2 := by
  have h := OkK.due no1 wN4 99
  rw [nd2] at h
  exact h
def nf3 : Ky → Option KnA := offK wN4 nf2 [(2, 3, 0, 2)]
theorem nd3 : (dueK nf2 wN4).take 99 = [(2, 3, 0, 2)] := by decide +kernel
theorem no3 : OkK nf3 := by
  have h := OkK.due no2 wN4 99
  rw [nd3] at h
  exact h
def nf4 : Ky → Option KnA := offK wN5 nf3 []
theorem nd4 : (dueK nf3 wN5).take 99 = [] := by decide +kernel
theorem no4 : OkK nf4 := by
  have h := OkK.due no3 wN5 99
  rw [nd4] at h
  exact h
theorem nDue : (dueK nf4 wN5).isEmpty = true := by decide +kernel
abbrev flN : List Int := [0, 3, 5, 18, 12, 16, 36, 128, -1, 64]
theorem fl_bad : ∀ x ∈ flN, mayK (0, 1, x, 0) = false := by decide +kernel
theorem fl_chs {x : Int} (h : mayK (0, 1, x, 0) = false) : chsK nf4 wN5 [(0, 1, x, 0)] = ([(0, 1, 256, 2)], nf4) := by
  have h1 : chgK nf4 wN5 (0, 1, x, 0) = (2, nf4) := if_pos h
  show (oneK (chgK nf4 wN5 (0, 1, x, 0)).1 (0, 1, x, 0) ++ [], (chgK nf4 wN5 (0, 1, x, 0)).2) = _
  rw [h1]; rfl
def nf5 : Ky → Option KnA := (chsK nf4 wN5 [(0, 4, 1, 0)]).2
theorem nc5 : (chsK nf4 wN5 [(0, 4, 1, 0)]).1 = [(0, 4, 256, 2)] := by decide +kernel
theorem no5 : OkK nf5 := OkK.chs no4 [(0, 4, 1, 0)]
def nf6 : Ky → Option KnA := (chsK nf5 wN5 [(0, 1, 1, 1)]).2
theorem nc6 : (chsK nf5 wN5 [(0, 1, 1, 1)]).1 = [(0, 1, 256, 2)] := by decide +kernel
theorem no6 : OkK nf6 := OkK.chs no5 [(0, 1, 1, 1)]
def nf7 : Ky → Option KnA := (chsK nf6 wN5 [(0, 1, 4, 0)]).2
theorem nc7 : (chsK nf6 wN5 [(0, 1, 4, 0)]).1 = [(0, 1, 256, 151)] := by decide +kernel
theorem no7 : OkK nf7 := OkK.chs no6 [(0, 1, 4, 0)]
def nf8 : Ky → Option KnA := (chsK nf7 wN5 [(0, 2, 41, 0)]).2
theorem nc8 : (chsK nf7 wN5 [(0, 2, 41, 0)]).1 = [] := by decide +kernel
theorem no8 : OkK nf8 := OkK.chs no7 [(0, 2, 41, 0)]
def nf9 : Ky → Option KnA := offK wN5 nf8 []
theorem nd9 : (dueK nf8 wN5).take 99 = [] := by decide +kernel
theorem no9 : OkK nf9 := by
  have h := OkK.due no8 wN5 99
  rw [nd9] at h
  exact h
def nf10 : Ky → Option KnA := (chsK nf9 wN5 [(0, 2, 4, 0)]).2
theorem nc10 : (chsK nf9 wN5 [(0, 2, 4, 0)]).1 = [] := by decide +kernel
theorem no10 : OkK nf10 := OkK.chs no9 [(0, 2, 4, 0)]
def nf11 : Ky → Option KnA := offK wN5 nf10 [(0, 2, 0, 0)]
theorem nd11 : (dueK nf10 wN5).take 99 = [(0, 2, 0, 0)] := by decide +kernel
theorem no11 : OkK nf11 := by
  have h := OkK.due no10 wN5 99
  rw [nd11] at h
  exact h
def nf12 : Ky → Option KnA := offK wN5 nf11 []
theorem nd12 : (dueK nf11 wN5).take 99 = [] := by decide +kernel
theorem no12 : OkK nf12 := by
  have h := OkK.due no11 wN5 99
  rw [nd12] at h
  exact h
theorem nAll1 : (allK nf12 wN5).length = 1 := by decide +kernel
def nf13 : Ky → Option KnA := (chsK nf12 wN6 [(0, 1, 1, 0)]).2
theorem nc13 : (chsK nf12 wN6 [(0, 1, 1, 0)]).1 = [] := by decide +kernel
theorem no13 : OkK nf13 := OkK.chs no12 [(0, 1, 1, 0)]
def nf14 : Ky → Option KnA := offK wN6 nf13 [(0, 1, 128, 0)]
theorem nd14 : (dueK nf13 wN6).take 99 = [(0, 1, 128, 0)] := by decide +kernel
theorem no14 : OkK nf14 := by
  have h := OkK.due no13 wN6 99
  rw [nd14] at h
  exact h
def nf15 : Ky → Option KnA := offK wN7 nf14 []
theorem nd15 : (dueK nf14 wN7).take 99 = [] := by decide +kernel
theorem no15 : OkK nf15 := by
  have h := OkK.due no14 wN7 99
  rw [nd15] at h
  exact h
theorem nAll2 : (allK nf15 wN7).length = 1 := by decide +kernel
set_option maxHeartbeats 2000000 in
theorem names16_ct (L : List SP) : Ct Try.prog 5 #[] (L) (fun _ : Unit => .bool true) (fun _ : Unit => L) := by
  refine Ct.of (vs := []) Try.func5 rfl rfl [] (by repeat (first | exact trivial | refine ⟨rfl, ?_⟩)) ?_
  intro E
  show Hd E 221 _ _ _ _
  refine Hd.seq (fun K1 hK1 => ?_)
  refine Hd.region ?_
  refine Hd.yv (y_assign rfl) ?_
  refine Hd.nil ?_
  refine Hd.slots [] trivial ?_
  refine Hd.toK hK1 ?_
  refine Hd.seq (fun K2 hK2 => ?_)
  refine Hd.region ?_
  refine Hd.callE rfl fk8 (wnew_ct _) (Ent.sep enn) ?_
  intro wb
  refine Hd.yv (y_assign rfl) ?_
  refine Hd.nil ?_
  refine Hd.slots [(1, _)] ⟨rfl, trivial⟩ ?_
  refine Hd.toK hK2 ?_
  refine Hd.seq (fun K3 hK3 => ?_)
  refine Hd.region ?_
  refine Hd.yv (y_move rfl) ?_
  refine Hd.callE rfl fk9 (outer_mk _ wb newA 8 (by decide) (by decide)) (Ent.sep enn) ?_
  intro _
  rw [show mkW newA 1 (connW 8) = wA1 from rfl]
  refine Hd.nil ?_
  refine Hd.slots [(1, _)] ⟨rfl, trivial⟩ ?_
  refine Hd.toK hK3 ?_
  refine Hd.seq (fun K4 hK4 => ?_)
  refine Hd.region ?_
  refine Hd.yv (y_move rfl) ?_
  refine Hd.callE rfl fk19 (knew_ct _ wb) (Ent.sep enn) ?_
  rintro ⟨qb, mb⟩
  dsimp only
  refine Hd.yv (y_move rfl) ?_
  refine Hd.yv (y_to (v' := .pointer (some ⟨qb, 0, none⟩)) (y_extract rfl rfl) (by rfl)) ?_
  refine Hd.yv (y_to (v' := .int .i64 0) (y_extract rfl rfl) (by rfl)) ?_
  refine Hd.yv (y_assign rfl) ?_
  refine Hd.yv (y_assign rfl) ?_
  refine Hd.nil ?_
  refine Hd.slots [(1, _), (2, _)] ⟨rfl, rfl, trivial⟩ ?_
  refine Hd.toK hK4 ?_
  refine Hd.seq (fun K5 hK5 => ?_)
  refine Hd.region ?_
  refine Hd.yv (y_move rfl) ?_
  refine Hd.callE rfl fk21 (note16_ct _ (0) (3) (1) (0)) (Ent.sep enn) ?_
  intro _
  refine Hd.callE rfl fk21 (note16_ct _ (2) (3) (1) (0)) (Ent.sep enn) ?_
  intro _
  refine Hd.bslice (vs := [(0, _), (1, _)]) rfl (by first | exact bs5_30 .. | kernel_rfl) (fun b30 => ?_)
  refine Hd.callE rfl fk21 (note16_ct _ (0) (3) (256) (100)) (Ent.sep enn) ?_
  intro _
  refine Hd.bslice (vs := [(0, _)]) rfl (by first | exact bs5_32 .. | kernel_rfl) (fun b32 => ?_)
  refine Hd.callE rfl fk20 (changes_ct _ qb wb mb k0 0 wA1 (some ⟨b30, 0, none⟩) 2 [(0, 3, 1, 0), (2, 3, 1, 0)] ?hD (by decide) (some ⟨b32, 0, none⟩) 1 [(0, 3, 256, 100)] ?hE (by decide)) (Ent.sep enn) ?_
  case hD => exact RdS.rd (Rd.pt pkk (fun j v e => by rw [Nat.zero_add]; exact e)) rfl
  case hE => exact RdS.rd (Rd.pt pkk (fun j v e => by rw [Nat.zero_add]; exact e)) rfl
  intro m1
  rw [nc1, show (chsK k0 wA1 [(0, 3, 1, 0), (2, 3, 1, 0)]).2 = nf1 from rfl]
  refine Hd.pure (fun hm1 => ?_)
  simp only [List.length_cons, List.length_nil] at hm1
  refine Hd.yv (y_to (v' := .bool true) (y_assign rfl) (by rfl)) ?_
  refine Hd.nil ?_
  refine Hd.slots [(1, _), (2, _), (4, _)] ⟨rfl, rfl, rfl, trivial⟩ ?_
  refine Hd.toK hK5 ?_
  refine Hd.seq (fun K6 hK6 => ?_)
  refine Hd.region ?_
  refine Hd.yv (y_move rfl) ?_
  refine Hd.callE rfl fk22 (whandle_ct _ wb wA1 (by decide +kernel) 2 true) (Ent.sep enn) ?_
  intro _
  rw [show (hanR wA1 2 true).2 = wN2 from rfl]
  refine Hd.nil ?_
  refine Hd.slots [(1, _), (2, _), (4, _)] ⟨rfl, rfl, rfl, trivial⟩ ?_
  refine Hd.toK hK6 ?_
  refine Hd.seq (fun K7 hK7 => ?_)
  refine Hd.region ?_
  refine Hd.yv (y_move rfl) ?_
  refine Hd.callE rfl fk23 (wraise_ct _ wb wN2 (by decide +kernel) 2) (Ent.sep enn) ?_
  intro _
  rw [show (raiR wN2 2).2 = wN3 from rfl]
  refine Hd.nil ?_
  refine Hd.slots [(1, _), (2, _), (4, _)] ⟨rfl, rfl, rfl, trivial⟩ ?_
  refine Hd.toK hK7 ?_
  refine Hd.seq (fun K8 hK8 => ?_)
  refine Hd.region ?_
  refine Hd.yv (y_move rfl) ?_
  refine Hd.callE rfl fk23 (wraise_ct _ wb wN3 (by decide +kernel) 2) (Ent.sep enn) ?_
  intro _
  rw [show (raiR wN3 2).2 = wN4 from rfl]
  refine Hd.nil ?_
  refine Hd.slots [(1, _), (2, _), (4, _)] ⟨rfl, rfl, rfl, trivial⟩ ?_
  refine Hd.toK hK8 ?_
  refine Hd.seq (fun K9 hK9 => ?_)
  refine Hd.region ?_
  refine Hd.yv (y_move rfl) ?_
  refine Hd.yv (y_move rfl) ?_
  refine Hd.yg rfl rfl (y_move rfl) ?_
  refine Hd.unguard rfl rfl ?_
  refine Hd.callE rfl fk21 (note16_ct _ (2) (3) (0) (2)) (Ent.sep enn) ?_
  intro _
  refine Hd.unguard rfl rfl ?_
  refine Hd.bslice (vs := [(0, _)]) rfl (by first | exact bs5_44 .. | kernel_rfl) (fun b44 => ?_)
  refine Hd.unguard rfl rfl ?_
  refine Hd.callE rfl fk24 (polls_ct _ qb wb mb nf1 m1 (by omega) no1 wN4 (some ⟨b44, 0, none⟩) 1 [(2, 3, 0, 2)] ?hD (by decide)) (Ent.sep enn) ?_
  case hD => exact RdS.rd (Rd.pt pkk (fun j v e => by rw [Nat.zero_add]; exact e)) rfl
  intro m2
  rw [nd2, show offK wN4 nf1 [(2, 3, 0, 2)] = nf2 from rfl]
  refine Hd.pure (fun hm2 => ?_)
  first | (refine Hd.yv (y_to (v' := .bool true) (y_pickT rfl rfl) (by rfl)) ?_) | (refine Hd.yv (y_to (v' := .bool true) (y_pickF rfl rfl) (by rfl)) ?_) | (refine Hd.yv (y_to (v' := .bool true) (y_pickb rfl rfl rfl) (by rfl)) ?_) | (refine Hd.yv (y_to (v' := .bool true) (y_pick rfl rfl rfl) (by rfl)) ?_)
  refine Hd.yv (y_move rfl) ?_
  refine Hd.yg rfl rfl (y_move rfl) ?_
  refine Hd.unguard rfl rfl ?_
  refine Hd.callE rfl fk21 (note16_ct _ (2) (3) (0) (2)) (Ent.sep enn) ?_
  intro _
  refine Hd.unguard rfl rfl ?_
  refine Hd.bslice (vs := [(0, _)]) rfl (by first | exact bs5_50 .. | kernel_rfl) (fun b50 => ?_)
  refine Hd.unguard rfl rfl ?_
  refine Hd.callE rfl fk24 (polls_ct _ qb wb mb nf2 m2 (by omega) no2 wN4 (some ⟨b50, 0, none⟩) 1 [(2, 3, 0, 2)] ?hD (by decide)) (Ent.sep enn) ?_
  case hD => exact RdS.rd (Rd.pt pkk (fun j v e => by rw [Nat.zero_add]; exact e)) rfl
  intro m3
  rw [nd3, show offK wN4 nf2 [(2, 3, 0, 2)] = nf3 from rfl]
  refine Hd.pure (fun hm3 => ?_)
  first | (refine Hd.yv (y_to (v' := .bool true) (y_pickT rfl rfl) (by rfl)) ?_) | (refine Hd.yv (y_to (v' := .bool true) (y_pickF rfl rfl) (by rfl)) ?_) | (refine Hd.yv (y_to (v' := .bool true) (y_pickb rfl rfl rfl) (by rfl)) ?_) | (refine Hd.yv (y_to (v' := .bool true) (y_pick rfl rfl rfl) (by rfl)) ?_)
  refine Hd.yv (y_assign rfl) ?_
  refine Hd.nil ?_
  refine Hd.slots [(1, _), (2, _), (4, _)] ⟨rfl, rfl, rfl, trivial⟩ ?_
  refine Hd.toK hK9 ?_
  refine Hd.seq (fun K10 hK10 => ?_)
  refine Hd.region ?_
  refine Hd.yv (y_move rfl) ?_
  refine Hd.callE rfl fk25 (wsignals_ct _ wb wN4 (by decide +kernel)) (Ent.sep enn) ?_
  rintro ⟨sa, sc⟩
  dsimp only
  rw [show (sigR wN4).2 = wN5 from rfl]
  refine Hd.nil ?_
  refine Hd.slots [(1, _), (2, _), (4, _)] ⟨rfl, rfl, rfl, trivial⟩ ?_
  refine Hd.toK hK10 ?_
  refine Hd.seq (fun K11 hK11 => ?_)
  refine Hd.region ?_
  refine Hd.yv (y_move rfl) ?_
  refine Hd.yv (y_move rfl) ?_
  refine Hd.yg rfl rfl (y_move rfl) ?_
  refine Hd.unguard rfl rfl ?_
  refine Hd.callE rfl fk24 (polls_ct _ qb wb mb nf3 m3 (by omega) no3 wN5 none 0 [] ?hD (by decide)) (Ent.sep enn) ?_
  case hD => exact RdS.none _ _ _
  intro m4
  rw [nd4, show offK wN5 nf3 [] = nf4 from rfl]
  refine Hd.pure (fun hm4 => ?_)
  first | (refine Hd.yv (y_to (v' := .bool true) (y_pickT rfl rfl) (by rfl)) ?_) | (refine Hd.yv (y_to (v' := .bool true) (y_pickF rfl rfl) (by rfl)) ?_) | (refine Hd.yv (y_to (v' := .bool true) (y_pickb rfl rfl rfl) (by rfl)) ?_) | (refine Hd.yv (y_to (v' := .bool true) (y_pick rfl rfl rfl) (by rfl)) ?_)
  refine Hd.yv (y_move rfl) ?_
  refine Hd.yg rfl rfl (y_move rfl) ?_
  refine Hd.unguard rfl rfl ?_
  refine Hd.callE rfl fk26 (kdue_ct _ qb wb mb nf4 m4 (by omega) no4 wN5) (Ent.sep enn) ?_
  intro _
  rw [nDue]
  refine Hd.yg rfl rfl (y_not rfl) ?_
  first | (refine Hd.yv (y_to (v' := .bool true) (y_pickT rfl rfl) (by rfl)) ?_) | (refine Hd.yv (y_to (v' := .bool true) (y_pickF rfl rfl) (by rfl)) ?_) | (refine Hd.yv (y_to (v' := .bool true) (y_pickb rfl rfl rfl) (by rfl)) ?_) | (refine Hd.yv (y_to (v' := .bool true) (y_pick rfl rfl rfl) (by rfl)) ?_)
  refine Hd.yv (y_assign rfl) ?_
  refine Hd.nil ?_
  refine Hd.slots [(1, _), (2, _), (4, _)] ⟨rfl, rfl, rfl, trivial⟩ ?_
  refine Hd.toK hK11 ?_
  refine Hd.seq (fun K12 hK12 => ?_)
  refine Hd.region ?_
  refine Hd.yv (y_assign rfl) ?_
  refine Hd.nil ?_
  refine Hd.slots [(1, _), (2, _), (4, _), (5, _)] ⟨rfl, rfl, rfl, rfl, trivial⟩ ?_
  refine Hd.toK hK12 ?_
  refine Hd.seq (fun K13 hK13 => ?_)
  refine Hd.seq (fun K14 hK14 => ?_)
  refine Hd.region ?_
  refine Hd.bslice (vs := [(0, _), (1, _), (2, _), (3, _), (4, _), (5, _), (6, _), (7, _), (8, _), (9, _)]) rfl (by first | exact bs5_65 .. | kernel_rfl) (fun b65 => ?_)
  refine Hd.yv (y_len Try.underlying22 rfl) ?_
  refine Hd.yv (y_move rfl) ?_
  refine Hd.nil ?_
  refine Hd.slots [(1, _), (2, _), (4, _), (5, _), (65, _), (66, _), (67, _)] ⟨rfl, rfl, rfl, rfl, rfl, rfl, rfl, trivial⟩ ?_
  refine Hd.toK hK14 ?_
  refine Hd.block ?_
  refine Hd.loopK (ι := Nat × Nat) [(1, _), (2, _), (4, _), (65, _), (66, _)] (fun q_ => [(5, .bool true), (67, .int .i64 (q_.1 : Int))]) (fun q_ => pu (q_.1 ≤ 10 ∧ q_.2 ≤ m4 + q_.1) :: pt b65 (vi flN) 3 :: KqB qb wb mb nf4 q_.2 wN5 L) (fun q_ => 10 - q_.1) (0, m4) (by repeat (first | exact trivial | refine ⟨rfl, ?_⟩)) (by repeat (first | exact trivial | refine ⟨rfl, ?_⟩)) (fun q t => Ent.sep (.pure ⟨Nat.zero_le _, Nat.le_refl _⟩ (.eq pkk (pt_eq (by rfl)) enn)) q t) ?_
  rintro ⟨i, m'⟩
  try dsimp only
  refine Hd.pure (fun hp0 => ?_)
  try dsimp only at hp0
  refine Hd.seq (fun K15 hK15 => ?_)
  refine Hd.region ?_
  refine Hd.yv (y_lss rfl rfl) ?_
  refine Hd.nil ?_
  refine Hd.slots [(1, _), (2, _), (4, _), (5, _), (65, _), (66, _), (67, _), (68, _)] ⟨rfl, rfl, rfl, rfl, rfl, rfl, rfl, rfl, trivial⟩ ?_
  refine Hd.toK hK15 ?_
  refine Hd.seq (fun K16 hK16 => ?_)
  refine Hd.cond rfl (fun hc0 => ?_) (fun hc0 => ?_)
  ·
    try simp only [decide_eq_true_eq, decide_eq_false_iff_not, Bool.and_eq_true, Bool.or_eq_true, Bool.and_eq_false_iff, Bool.or_eq_false_iff, Bool.not_eq_true', Bool.not_eq_false', Bool.not_eq_true, Bool.not_eq_false, Int.not_lt, Int.not_le, Decidable.not_not, ne_eq] at hc0
    have hi : i < flN.length := by show i < 10; omega
    have hgi : (vi flN)[i]? = some (.int .i64 flN[i]) := by rw [List.getElem?_map, List.getElem?_eq_getElem hi]; rfl
    obtain ⟨x, hx⟩ : ∃ x, x = flN[i] := ⟨_, rfl⟩
    have hb := fl_bad x (by rw [hx]; exact List.getElem_mem hi)
    rw [← hx] at hgi
    refine Hd.skip ?_
    refine Hd.toK hK16 ?_
    refine Hd.seq (fun K17 hK17 => ?_)
    refine Hd.block ?_
    refine Hd.seq (fun K18 hK18 => ?_)
    refine Hd.region ?_
    first | (refine Hd.yv (y_idxS Try.underlying22 sz3 rfl rfl (by first | omega | decide)) ?_) | (refine Hd.yv (y_idxR Try.underlying22 sz3 rfl rfl (by first | omega | decide) (by (first | exact RdS.own pkk))) ?_)
    refine Hd.yv (y_load1 ag3 rfl (Rd.pt1 pkk (by first | exact hgi | (simpa using hgi))) ) ?_
    refine Hd.yv (y_assign rfl) ?_
    refine Hd.nil ?_
    refine Hd.slots [(1, _), (2, _), (4, _), (5, _), (7, _), (65, _), (66, _), (67, _)] ⟨rfl, rfl, rfl, rfl, rfl, rfl, rfl, rfl, trivial⟩ ?_
    refine Hd.toK hK18 ?_
    refine Hd.region ?_
    refine Hd.yv (y_move rfl) ?_
    refine Hd.yv (y_move rfl) ?_
    refine Hd.yg rfl rfl (y_move rfl) ?_
    refine Hd.yg rfl rfl (y_move rfl) ?_
    refine Hd.unguard rfl rfl ?_
    refine Hd.callE rfl fk21 (note16_ct _ 0 1 x 0) (Ent.sep enn) ?_
    intro _
    refine Hd.unguard rfl rfl ?_
    refine Hd.bslice (vs := [(0, _)]) rfl (by first | exact bs5_76 .. | kernel_rfl) (fun b76 => ?_)
    refine Hd.unguard rfl rfl ?_
    refine Hd.callE rfl fk21 (note16_ct _ 0 1 256 2) (Ent.sep enn) ?_
    intro _
    refine Hd.unguard rfl rfl ?_
    refine Hd.bslice (vs := [(0, _)]) rfl (by first | exact bs5_78 .. | kernel_rfl) (fun b78 => ?_)
    refine Hd.unguard rfl rfl ?_
    refine Hd.callE rfl fk20 (changes_ct _ qb wb mb nf4 m' wN5 (some ⟨b76, 0, none⟩) 1 [(0, 1, x, 0)] ?hD (by simp) (some ⟨b78, 0, none⟩) 1 [(0, 1, 256, 2)] ?hE (by decide)) (Ent.sep enn) ?_
    case hD => exact RdS.rd (Rd.pt pkk (fun j v e => by rw [Nat.zero_add]; exact e)) rfl
    case hE => exact RdS.rd (Rd.pt pkk (fun j v e => by rw [Nat.zero_add]; exact e)) rfl
    intro m2
    rw [fl_chs hb]
    refine Hd.pure (fun hm2 => ?_)
    simp only [List.length_cons, List.length_nil] at hm2
    first | (refine Hd.yv (y_to (v' := .bool true) (y_pickT rfl rfl) (by rfl)) ?_) | (refine Hd.yv (y_to (v' := .bool true) (y_pickF rfl rfl) (by rfl)) ?_) | (refine Hd.yv (y_to (v' := .bool true) (y_pickb rfl rfl rfl) (by rfl)) ?_) | (refine Hd.yv (y_to (v' := .bool true) (y_pick rfl rfl rfl) (by rfl)) ?_)
    refine Hd.yv (y_assign rfl) ?_
    refine Hd.nil ?_
    refine Hd.slots [(1, _), (2, _), (4, _), (5, _), (65, _), (66, _), (67, _)] ⟨rfl, rfl, rfl, rfl, rfl, rfl, rfl, trivial⟩ ?_
    refine Hd.inB ?_
    refine Hd.toK hK17 ?_
    refine Hd.region ?_
    first | (refine Hd.yv (y_addn rfl rfl (by simp only [InK]; omega)) ?_) | (refine Hd.yv (y_add rfl rfl) ?_)
    refine Hd.yv (y_move rfl) ?_
    refine Hd.nil ?_
    refine Hd.slots [(1, _), (2, _), (4, _), (5, _), (65, _), (66, _), (67, _)] ⟨rfl, rfl, rfl, rfl, rfl, rfl, rfl, trivial⟩ ?_
    clear hK1 hK2 hK3 hK4 hK5 hK6 hK7 hK8 hK9 hK10 hK11 hK12 hK13 hK14 hK15 hK16 hK17 hK18
    refine Hd.thenN ?_
    exact Hd.again (i + 1, m2) (by first | omega | (simp only; omega) | (simp; omega)) (by repeat (first | exact trivial | refine ⟨rfl, ?_⟩)) (Ent.sep (.pure ⟨by omega, by dsimp only; omega⟩ enn))
  ·
    try simp only [decide_eq_true_eq, decide_eq_false_iff_not, Bool.and_eq_true, Bool.or_eq_true, Bool.and_eq_false_iff, Bool.or_eq_false_iff, Bool.not_eq_true', Bool.not_eq_false', Bool.not_eq_true, Bool.not_eq_false, Int.not_lt, Int.not_le, Decidable.not_not, ne_eq] at hc0
    obtain rfl : i = 10 := by omega
    have hmL := hp0.2
    refine Hd.exit ?_
    refine Hd.thenExit ?_
    refine Hd.thenExit ?_
    refine Hd.inBexit ?_
    refine Hd.toK hK13 ?_
    refine Hd.seq (fun K19 hK19 => ?_)
    refine Hd.region ?_
    refine Hd.yv (y_move rfl) ?_
    refine Hd.yv (y_move rfl) ?_
    refine Hd.yg rfl rfl (y_move rfl) ?_
    refine Hd.unguard rfl rfl ?_
    refine Hd.callE rfl fk21 (note16_ct _ (0) (4) (1) (0)) (Ent.sep enn) ?_
    intro _
    refine Hd.unguard rfl rfl ?_
    refine Hd.bslice (vs := [(0, _)]) rfl (by first | exact bs5_86 .. | kernel_rfl) (fun b86 => ?_)
    refine Hd.unguard rfl rfl ?_
    refine Hd.callE rfl fk21 (note16_ct _ (0) (4) (256) (2)) (Ent.sep enn) ?_
    intro _
    refine Hd.unguard rfl rfl ?_
    refine Hd.bslice (vs := [(0, _)]) rfl (by first | exact bs5_88 .. | kernel_rfl) (fun b88 => ?_)
    refine Hd.unguard rfl rfl ?_
    refine Hd.callE rfl fk20 (changes_ct _ qb wb mb nf4 m' wN5 (some ⟨b86, 0, none⟩) 1 [(0, 4, 1, 0)] ?hD (by decide) (some ⟨b88, 0, none⟩) 1 [(0, 4, 256, 2)] ?hE (by decide)) (Ent.sep enn) ?_
    case hD => exact RdS.rd (Rd.pt pkk (fun j v e => by rw [Nat.zero_add]; exact e)) rfl
    case hE => exact RdS.rd (Rd.pt pkk (fun j v e => by rw [Nat.zero_add]; exact e)) rfl
    intro m5
    rw [nc5, show (chsK nf4 wN5 [(0, 4, 1, 0)]).2 = nf5 from rfl]
    refine Hd.pure (fun hm5 => ?_)
    simp only [List.length_cons, List.length_nil] at hm5
    first | (refine Hd.yv (y_to (v' := .bool true) (y_pickT rfl rfl) (by rfl)) ?_) | (refine Hd.yv (y_to (v' := .bool true) (y_pickF rfl rfl) (by rfl)) ?_) | (refine Hd.yv (y_to (v' := .bool true) (y_pickb rfl rfl rfl) (by rfl)) ?_) | (refine Hd.yv (y_to (v' := .bool true) (y_pick rfl rfl rfl) (by rfl)) ?_)
    refine Hd.yv (y_move rfl) ?_
    refine Hd.yg rfl rfl (y_move rfl) ?_
    refine Hd.unguard rfl rfl ?_
    refine Hd.callE rfl fk21 (note16_ct _ (0) (1) (1) (1)) (Ent.sep enn) ?_
    intro _
    refine Hd.unguard rfl rfl ?_
    refine Hd.bslice (vs := [(0, _)]) rfl (by first | exact bs5_94 .. | kernel_rfl) (fun b94 => ?_)
    refine Hd.unguard rfl rfl ?_
    refine Hd.callE rfl fk21 (note16_ct _ (0) (1) (256) (2)) (Ent.sep enn) ?_
    intro _
    refine Hd.unguard rfl rfl ?_
    refine Hd.bslice (vs := [(0, _)]) rfl (by first | exact bs5_96 .. | kernel_rfl) (fun b96 => ?_)
    refine Hd.unguard rfl rfl ?_
    refine Hd.callE rfl fk20 (changes_ct _ qb wb mb nf5 m5 wN5 (some ⟨b94, 0, none⟩) 1 [(0, 1, 1, 1)] ?hD (by decide) (some ⟨b96, 0, none⟩) 1 [(0, 1, 256, 2)] ?hE (by decide)) (Ent.sep enn) ?_
    case hD => exact RdS.rd (Rd.pt pkk (fun j v e => by rw [Nat.zero_add]; exact e)) rfl
    case hE => exact RdS.rd (Rd.pt pkk (fun j v e => by rw [Nat.zero_add]; exact e)) rfl
    intro m6
    rw [nc6, show (chsK nf5 wN5 [(0, 1, 1, 1)]).2 = nf6 from rfl]
    refine Hd.pure (fun hm6 => ?_)
    simp only [List.length_cons, List.length_nil] at hm6
    first | (refine Hd.yv (y_to (v' := .bool true) (y_pickT rfl rfl) (by rfl)) ?_) | (refine Hd.yv (y_to (v' := .bool true) (y_pickF rfl rfl) (by rfl)) ?_) | (refine Hd.yv (y_to (v' := .bool true) (y_pickb rfl rfl rfl) (by rfl)) ?_) | (refine Hd.yv (y_to (v' := .bool true) (y_pick rfl rfl rfl) (by rfl)) ?_)
    refine Hd.yv (y_move rfl) ?_
    refine Hd.yg rfl rfl (y_move rfl) ?_
    refine Hd.unguard rfl rfl ?_
    refine Hd.callE rfl fk21 (note16_ct _ (0) (1) (4) (0)) (Ent.sep enn) ?_
    intro _
    refine Hd.unguard rfl rfl ?_
    refine Hd.bslice (vs := [(0, _)]) rfl (by first | exact bs5_102 .. | kernel_rfl) (fun b102 => ?_)
    refine Hd.unguard rfl rfl ?_
    refine Hd.callE rfl fk21 (note16_ct _ (0) (1) (256) (151)) (Ent.sep enn) ?_
    intro _
    refine Hd.unguard rfl rfl ?_
    refine Hd.bslice (vs := [(0, _)]) rfl (by first | exact bs5_104 .. | kernel_rfl) (fun b104 => ?_)
    refine Hd.unguard rfl rfl ?_
    refine Hd.callE rfl fk20 (changes_ct _ qb wb mb nf6 m6 wN5 (some ⟨b102, 0, none⟩) 1 [(0, 1, 4, 0)] ?hD (by decide) (some ⟨b104, 0, none⟩) 1 [(0, 1, 256, 151)] ?hE (by decide)) (Ent.sep enn) ?_
    case hD => exact RdS.rd (Rd.pt pkk (fun j v e => by rw [Nat.zero_add]; exact e)) rfl
    case hE => exact RdS.rd (Rd.pt pkk (fun j v e => by rw [Nat.zero_add]; exact e)) rfl
    intro m7
    rw [nc7, show (chsK nf6 wN5 [(0, 1, 4, 0)]).2 = nf7 from rfl]
    refine Hd.pure (fun hm7 => ?_)
    simp only [List.length_cons, List.length_nil] at hm7
    first | (refine Hd.yv (y_to (v' := .bool true) (y_pickT rfl rfl) (by rfl)) ?_) | (refine Hd.yv (y_to (v' := .bool true) (y_pickF rfl rfl) (by rfl)) ?_) | (refine Hd.yv (y_to (v' := .bool true) (y_pickb rfl rfl rfl) (by rfl)) ?_) | (refine Hd.yv (y_to (v' := .bool true) (y_pick rfl rfl rfl) (by rfl)) ?_)
    refine Hd.yv (y_assign rfl) ?_
    refine Hd.nil ?_
    refine Hd.slots [(1, _), (2, _), (4, _), (5, _)] ⟨rfl, rfl, rfl, rfl, trivial⟩ ?_
    refine Hd.toK hK19 ?_
    refine Hd.seq (fun K20 hK20 => ?_)
    refine Hd.region ?_
    refine Hd.yv (y_move rfl) ?_
    refine Hd.callE rfl fk21 (note16_ct _ (0) (2) (41) (0)) (Ent.sep enn) ?_
    intro _
    refine Hd.bslice (vs := [(0, _)]) rfl (by first | exact bs5_109 .. | kernel_rfl) (fun b109 => ?_)
    refine Hd.callE rfl fk20 (changes_ct _ qb wb mb nf7 m7 wN5 (some ⟨b109, 0, none⟩) 1 [(0, 2, 41, 0)] ?hD (by decide) none 0 [] ?hE (by decide)) (Ent.sep enn) ?_
    case hD => exact RdS.rd (Rd.pt pkk (fun j v e => by rw [Nat.zero_add]; exact e)) rfl
    case hE => exact RdS.none _ _ _
    intro m8
    rw [nc8, show (chsK nf7 wN5 [(0, 2, 41, 0)]).2 = nf8 from rfl]
    refine Hd.pure (fun hm8 => ?_)
    simp only [List.length_cons, List.length_nil] at hm8
    refine Hd.yv (y_to (v' := .bool true) (y_move rfl) (by rfl)) ?_
    refine Hd.yg rfl rfl (y_move rfl) ?_
    refine Hd.unguard rfl rfl ?_
    refine Hd.callE rfl fk24 (polls_ct _ qb wb mb nf8 m8 (by omega) no8 wN5 none 0 [] ?hD (by decide)) (Ent.sep enn) ?_
    case hD => exact RdS.none _ _ _
    intro m9
    rw [nd9, show offK wN5 nf8 [] = nf9 from rfl]
    refine Hd.pure (fun hm9 => ?_)
    first | (refine Hd.yv (y_to (v' := .bool true) (y_pickT rfl rfl) (by rfl)) ?_) | (refine Hd.yv (y_to (v' := .bool true) (y_pickF rfl rfl) (by rfl)) ?_) | (refine Hd.yv (y_to (v' := .bool true) (y_pickb rfl rfl rfl) (by rfl)) ?_) | (refine Hd.yv (y_to (v' := .bool true) (y_pick rfl rfl rfl) (by rfl)) ?_)
    refine Hd.yv (y_move rfl) ?_
    refine Hd.yg rfl rfl (y_move rfl) ?_
    refine Hd.unguard rfl rfl ?_
    refine Hd.callE rfl fk21 (note16_ct _ (0) (2) (4) (0)) (Ent.sep enn) ?_
    intro _
    refine Hd.unguard rfl rfl ?_
    refine Hd.bslice (vs := [(0, _)]) rfl (by first | exact bs5_118 .. | kernel_rfl) (fun b118 => ?_)
    refine Hd.unguard rfl rfl ?_
    refine Hd.callE rfl fk20 (changes_ct _ qb wb mb nf9 m9 wN5 (some ⟨b118, 0, none⟩) 1 [(0, 2, 4, 0)] ?hD (by decide) none 0 [] ?hE (by decide)) (Ent.sep enn) ?_
    case hD => exact RdS.rd (Rd.pt pkk (fun j v e => by rw [Nat.zero_add]; exact e)) rfl
    case hE => exact RdS.none _ _ _
    intro m10
    rw [nc10, show (chsK nf9 wN5 [(0, 2, 4, 0)]).2 = nf10 from rfl]
    refine Hd.pure (fun hm10 => ?_)
    simp only [List.length_cons, List.length_nil] at hm10
    first | (refine Hd.yv (y_to (v' := .bool true) (y_pickT rfl rfl) (by rfl)) ?_) | (refine Hd.yv (y_to (v' := .bool true) (y_pickF rfl rfl) (by rfl)) ?_) | (refine Hd.yv (y_to (v' := .bool true) (y_pickb rfl rfl rfl) (by rfl)) ?_) | (refine Hd.yv (y_to (v' := .bool true) (y_pick rfl rfl rfl) (by rfl)) ?_)
    refine Hd.yv (y_move rfl) ?_
    refine Hd.yg rfl rfl (y_move rfl) ?_
    refine Hd.unguard rfl rfl ?_
    refine Hd.callE rfl fk21 (note16_ct _ (0) (2) (0) (0)) (Ent.sep enn) ?_
    intro _
    refine Hd.unguard rfl rfl ?_
    refine Hd.bslice (vs := [(0, _)]) rfl (by first | exact bs5_124 .. | kernel_rfl) (fun b124 => ?_)
    refine Hd.unguard rfl rfl ?_
    refine Hd.callE rfl fk24 (polls_ct _ qb wb mb nf10 m10 (by omega) no10 wN5 (some ⟨b124, 0, none⟩) 1 [(0, 2, 0, 0)] ?hD (by decide)) (Ent.sep enn) ?_
    case hD => exact RdS.rd (Rd.pt pkk (fun j v e => by rw [Nat.zero_add]; exact e)) rfl
    intro m11
    rw [nd11, show offK wN5 nf10 [(0, 2, 0, 0)] = nf11 from rfl]
    refine Hd.pure (fun hm11 => ?_)
    first | (refine Hd.yv (y_to (v' := .bool true) (y_pickT rfl rfl) (by rfl)) ?_) | (refine Hd.yv (y_to (v' := .bool true) (y_pickF rfl rfl) (by rfl)) ?_) | (refine Hd.yv (y_to (v' := .bool true) (y_pickb rfl rfl rfl) (by rfl)) ?_) | (refine Hd.yv (y_to (v' := .bool true) (y_pick rfl rfl rfl) (by rfl)) ?_)
    refine Hd.yv (y_move rfl) ?_
    refine Hd.yg rfl rfl (y_move rfl) ?_
    refine Hd.unguard rfl rfl ?_
    refine Hd.callE rfl fk24 (polls_ct _ qb wb mb nf11 m11 (by omega) no11 wN5 none 0 [] ?hD (by decide)) (Ent.sep enn) ?_
    case hD => exact RdS.none _ _ _
    intro m12
    rw [nd12, show offK wN5 nf11 [] = nf12 from rfl]
    refine Hd.pure (fun hm12 => ?_)
    first | (refine Hd.yv (y_to (v' := .bool true) (y_pickT rfl rfl) (by rfl)) ?_) | (refine Hd.yv (y_to (v' := .bool true) (y_pickF rfl rfl) (by rfl)) ?_) | (refine Hd.yv (y_to (v' := .bool true) (y_pickb rfl rfl rfl) (by rfl)) ?_) | (refine Hd.yv (y_to (v' := .bool true) (y_pick rfl rfl rfl) (by rfl)) ?_)
    refine Hd.yv (y_move rfl) ?_
    refine Hd.yg rfl rfl (y_move rfl) ?_
    refine Hd.unguard rfl rfl ?_
    refine Hd.callE rfl fk27 (knotes_ct _ qb wb mb nf12 m12 (by omega) wN5) (Ent.sep enn) ?_
    rintro ⟨nanAll1, ncnAll1, ks⟩
    dsimp only
    refine Hd.pure (fun hA => ?_)
    refine Hd.wokK pkk (fun hw5 => ?_)
    obtain rfl := hA.eq hw5 no12
    rw [nAll1]
    refine Hd.yg rfl rfl (y_len Try.underlying59 rfl) ?_
    first | (refine Hd.yg rfl rfl (y_eqlT rfl rfl) ?_) | (refine Hd.yg rfl rfl (y_eql rfl rfl) ?_)
    first | (refine Hd.yv (y_to (v' := .bool true) (y_pickT rfl rfl) (by rfl)) ?_) | (refine Hd.yv (y_to (v' := .bool true) (y_pickF rfl rfl) (by rfl)) ?_) | (refine Hd.yv (y_to (v' := .bool true) (y_pickb rfl rfl rfl) (by rfl)) ?_) | (refine Hd.yv (y_to (v' := .bool true) (y_pick rfl rfl rfl) (by rfl)) ?_)
    refine Hd.yv (y_assign rfl) ?_
    refine Hd.nil ?_
    refine Hd.slots [(1, _), (2, _), (4, _), (5, _), (8, _)] ⟨rfl, rfl, rfl, rfl, rfl, trivial⟩ ?_
    refine Hd.toK hK20 ?_
    refine Hd.seq (fun K21 hK21 => ?_)
    refine Hd.region ?_
    refine Hd.yv (y_move rfl) ?_
    refine Hd.callE rfl fk28 (pclose_ct _ wb wN5 0) (Ent.sep enn) ?_
    intro _
    rw [show (pcloseR wN5 0).2 = wN6 from rfl]
    refine Hd.nil ?_
    refine Hd.slots [(1, _), (2, _), (4, _), (5, _), (8, _)] ⟨rfl, rfl, rfl, rfl, rfl, trivial⟩ ?_
    refine Hd.toK hK21 ?_
    refine Hd.seq (fun K22 hK22 => ?_)
    refine Hd.region ?_
    refine Hd.yv (y_move rfl) ?_
    refine Hd.yv (y_move rfl) ?_
    refine Hd.yg rfl rfl (y_move rfl) ?_
    refine Hd.unguard rfl rfl ?_
    refine Hd.callE rfl fk21 (note16_ct _ (0) (1) (1) (0)) (Ent.sep enn) ?_
    intro _
    refine Hd.unguard rfl rfl ?_
    refine Hd.bslice (vs := [(0, _)]) rfl (by first | exact bs5_143 .. | kernel_rfl) (fun b143 => ?_)
    refine Hd.unguard rfl rfl ?_
    refine Hd.callE rfl fk20 (changes_ct _ qb wb mb nf12 m12 wN6 (some ⟨b143, 0, none⟩) 1 [(0, 1, 1, 0)] ?hD (by decide) none 0 [] ?hE (by decide)) (Ent.sep enn) ?_
    case hD => exact RdS.rd (Rd.pt pkk (fun j v e => by rw [Nat.zero_add]; exact e)) rfl
    case hE => exact RdS.none _ _ _
    intro m13
    rw [nc13, show (chsK nf12 wN6 [(0, 1, 1, 0)]).2 = nf13 from rfl]
    refine Hd.pure (fun hm13 => ?_)
    simp only [List.length_cons, List.length_nil] at hm13
    first | (refine Hd.yv (y_to (v' := .bool true) (y_pickT rfl rfl) (by rfl)) ?_) | (refine Hd.yv (y_to (v' := .bool true) (y_pickF rfl rfl) (by rfl)) ?_) | (refine Hd.yv (y_to (v' := .bool true) (y_pickb rfl rfl rfl) (by rfl)) ?_) | (refine Hd.yv (y_to (v' := .bool true) (y_pick rfl rfl rfl) (by rfl)) ?_)
    refine Hd.yv (y_move rfl) ?_
    refine Hd.yg rfl rfl (y_move rfl) ?_
    refine Hd.unguard rfl rfl ?_
    refine Hd.callE rfl fk21 (note16_ct _ (0) (1) (128) (0)) (Ent.sep enn) ?_
    intro _
    refine Hd.unguard rfl rfl ?_
    refine Hd.bslice (vs := [(0, _)]) rfl (by first | exact bs5_149 .. | kernel_rfl) (fun b149 => ?_)
    refine Hd.unguard rfl rfl ?_
    refine Hd.callE rfl fk24 (polls_ct _ qb wb mb nf13 m13 (by omega) no13 wN6 (some ⟨b149, 0, none⟩) 1 [(0, 1, 128, 0)] ?hD (by decide)) (Ent.sep enn) ?_
    case hD => exact RdS.rd (Rd.pt pkk (fun j v e => by rw [Nat.zero_add]; exact e)) rfl
    intro m14
    rw [nd14, show offK wN6 nf13 [(0, 1, 128, 0)] = nf14 from rfl]
    refine Hd.pure (fun hm14 => ?_)
    first | (refine Hd.yv (y_to (v' := .bool true) (y_pickT rfl rfl) (by rfl)) ?_) | (refine Hd.yv (y_to (v' := .bool true) (y_pickF rfl rfl) (by rfl)) ?_) | (refine Hd.yv (y_to (v' := .bool true) (y_pickb rfl rfl rfl) (by rfl)) ?_) | (refine Hd.yv (y_to (v' := .bool true) (y_pick rfl rfl rfl) (by rfl)) ?_)
    refine Hd.yv (y_assign rfl) ?_
    refine Hd.nil ?_
    refine Hd.slots [(1, _), (2, _), (4, _), (5, _), (8, _)] ⟨rfl, rfl, rfl, rfl, rfl, trivial⟩ ?_
    refine Hd.toK hK22 ?_
    refine Hd.seq (fun K23 hK23 => ?_)
    refine Hd.region ?_
    refine Hd.yv (y_move rfl) ?_
    refine Hd.callE rfl fk15 (wclose_ct _ wb wN6 0) (Ent.sep enn) ?_
    intro _
    rw [show (closeF wN6 0).2 = wN7 from rfl]
    refine Hd.nil ?_
    refine Hd.slots [(2, _), (4, _), (5, _), (8, _)] ⟨rfl, rfl, rfl, rfl, trivial⟩ ?_
    refine Hd.toK hK23 ?_
    refine Hd.seq (fun K24 hK24 => ?_)
    refine Hd.region ?_
    refine Hd.yv (y_move rfl) ?_
    refine Hd.yv (y_move rfl) ?_
    refine Hd.yg rfl rfl (y_move rfl) ?_
    refine Hd.unguard rfl rfl ?_
    refine Hd.callE rfl fk24 (polls_ct _ qb wb mb nf14 m14 (by omega) no14 wN7 none 0 [] ?hD (by decide)) (Ent.sep enn) ?_
    case hD => exact RdS.none _ _ _
    intro m15
    rw [nd15, show offK wN7 nf14 [] = nf15 from rfl]
    refine Hd.pure (fun hm15 => ?_)
    first | (refine Hd.yv (y_to (v' := .bool true) (y_pickT rfl rfl) (by rfl)) ?_) | (refine Hd.yv (y_to (v' := .bool true) (y_pickF rfl rfl) (by rfl)) ?_) | (refine Hd.yv (y_to (v' := .bool true) (y_pickb rfl rfl rfl) (by rfl)) ?_) | (refine Hd.yv (y_to (v' := .bool true) (y_pick rfl rfl rfl) (by rfl)) ?_)
    refine Hd.yv (y_move rfl) ?_
    refine Hd.yg rfl rfl (y_move rfl) ?_
    refine Hd.unguard rfl rfl ?_
    refine Hd.callE rfl fk27 (knotes_ct _ qb wb mb nf15 m15 (by omega) wN7) (Ent.sep enn) ?_
    rintro ⟨nanAll2, ncnAll2, ks⟩
    dsimp only
    refine Hd.pure (fun hA => ?_)
    refine Hd.wokK pkk (fun hw5 => ?_)
    obtain rfl := hA.eq hw5 no15
    rw [nAll2]
    refine Hd.yg rfl rfl (y_len Try.underlying59 rfl) ?_
    first | (refine Hd.yg rfl rfl (y_eqlT rfl rfl) ?_) | (refine Hd.yg rfl rfl (y_eql rfl rfl) ?_)
    first | (refine Hd.yv (y_to (v' := .bool true) (y_pickT rfl rfl) (by rfl)) ?_) | (refine Hd.yv (y_to (v' := .bool true) (y_pickF rfl rfl) (by rfl)) ?_) | (refine Hd.yv (y_to (v' := .bool true) (y_pickb rfl rfl rfl) (by rfl)) ?_) | (refine Hd.yv (y_to (v' := .bool true) (y_pick rfl rfl rfl) (by rfl)) ?_)
    refine Hd.yv (y_assign rfl) ?_
    refine Hd.nil ?_
    refine Hd.slots [(2, _), (4, _), (5, _), (8, _)] ⟨rfl, rfl, rfl, rfl, trivial⟩ ?_
    refine Hd.toK hK24 ?_
    refine Hd.seq (fun K25 hK25 => ?_)
    refine Hd.region ?_
    refine Hd.callE rfl fk19 (knew_nil _) (Ent.sep enn) ?_
    intro _
    refine Hd.yv (y_move rfl) ?_
    refine Hd.yv (y_extract rfl rfl) ?_
    refine Hd.yv (y_to (v' := .int .i64 1) (y_extract rfl rfl) (by rfl)) ?_
    refine Hd.yv (y_assign rfl) ?_
    refine Hd.yv (y_assign rfl) ?_
    refine Hd.nil ?_
    refine Hd.slots [(2, _), (4, _), (5, _), (8, _), (10, _)] ⟨rfl, rfl, rfl, rfl, rfl, trivial⟩ ?_
    refine Hd.toK hK25 ?_
    refine Hd.seq (fun K26 hK26 => ?_)
    refine Hd.region ?_
    refine Hd.yv (y_move rfl) ?_
    refine Hd.callE rfl fk29 (kpollbad_ct _ qb wb mb 0 (by decide) _) (Ent.sep enn) ?_
    intro _
    refine Hd.yv (y_move rfl) ?_
    refine Hd.yv (y_extract rfl rfl) ?_
    refine Hd.yv (y_to (v' := .int .i64 2) (y_extract rfl rfl) (by rfl)) ?_
    refine Hd.yv (y_assign rfl) ?_
    refine Hd.yv (y_assign rfl) ?_
    refine Hd.nil ?_
    refine Hd.slots [(4, _), (5, _), (8, _), (10, _), (12, _)] ⟨rfl, rfl, rfl, rfl, rfl, trivial⟩ ?_
    refine Hd.toK hK26 ?_
    refine Hd.seq (fun K27 hK27 => ?_)
    refine Hd.region ?_
    refine Hd.yv (y_assign rfl) ?_
    refine Hd.nil ?_
    refine Hd.slots [(4, _), (5, _), (8, _), (10, _), (12, _), (13, _)] ⟨rfl, rfl, rfl, rfl, rfl, rfl, trivial⟩ ?_
    refine Hd.toK hK27 ?_
    refine Hd.seq (fun K28 hK28 => ?_)
    refine Hd.region ?_
    refine Hd.alloc zr69 (fun b14 => ?_)
    refine Hd.nil ?_
    refine Hd.slots [(4, _), (5, _), (8, _), (10, _), (12, _), (13, _), (14, _)] ⟨rfl, rfl, rfl, rfl, rfl, rfl, rfl, trivial⟩ ?_
    refine Hd.toK hK28 ?_
    refine Hd.seq (fun K29 hK29 => ?_)
    refine Hd.region ?_
    refine Hd.yv (y_move rfl) ?_
    refine Hd.callE rfl fk30 (kchs_nil _ _) (Ent.sep enn) ?_
    intro _
    refine Hd.yv (y_move rfl) ?_
    refine Hd.yv (y_extract rfl rfl) ?_
    refine Hd.yv (y_to (v' := .int .i64 1) (y_extract rfl rfl) (by rfl)) ?_
    refine Hd.yv (y_assign rfl) ?_
    refine Hd.yv (y_assign rfl) ?_
    refine Hd.nil ?_
    refine Hd.slots [(4, _), (5, _), (8, _), (10, _), (12, _), (13, _), (14, _), (16, _)] ⟨rfl, rfl, rfl, rfl, rfl, rfl, rfl, rfl, trivial⟩ ?_
    refine Hd.toK hK29 ?_
    refine Hd.seq (fun K30 hK30 => ?_)
    refine Hd.region ?_
    refine Hd.callE rfl fk29 (kpoll_z _ b14 1 _) (Ent.sep enn) ?_
    intro _
    refine Hd.yv (y_move rfl) ?_
    refine Hd.yv (y_extract rfl rfl) ?_
    refine Hd.yv (y_to (v' := .int .i64 1) (y_extract rfl rfl) (by rfl)) ?_
    refine Hd.yv (y_assign rfl) ?_
    refine Hd.yv (y_assign rfl) ?_
    refine Hd.nil ?_
    refine Hd.slots [(4, _), (5, _), (8, _), (10, _), (12, _), (13, _), (14, _), (16, _), (18, _)] ⟨rfl, rfl, rfl, rfl, rfl, rfl, rfl, rfl, rfl, trivial⟩ ?_
    refine Hd.toK hK30 ?_
    refine Hd.seq (fun K31 hK31 => ?_)
    refine Hd.region ?_
    refine Hd.yv (y_move rfl) ?_
    refine Hd.unguard rfl rfl ?_
    refine Hd.callE rfl fk31 (alive16_ct _) (Ent.sep enn) ?_
    intro _
    first | (refine Hd.yv (y_pickT rfl rfl) ?_) | (refine Hd.yv (y_pickF rfl rfl) ?_) | (refine Hd.yv (y_pickb rfl rfl rfl) ?_) | (refine Hd.yv (y_pick rfl rfl rfl) ?_)
    refine Hd.yv (y_move rfl) ?_
    refine Hd.yg rfl rfl (y_move rfl) ?_
    first | (refine Hd.yv (y_pickT rfl rfl) ?_) | (refine Hd.yv (y_pickF rfl rfl) ?_) | (refine Hd.yv (y_pickb rfl rfl rfl) ?_) | (refine Hd.yv (y_pick rfl rfl rfl) ?_)
    refine Hd.yv (y_move rfl) ?_
    refine Hd.yg rfl rfl (y_move rfl) ?_
    first | (refine Hd.yv (y_pickT rfl rfl) ?_) | (refine Hd.yv (y_pickF rfl rfl) ?_) | (refine Hd.yv (y_pickb rfl rfl rfl) ?_) | (refine Hd.yv (y_pick rfl rfl rfl) ?_)
    refine Hd.yv (y_move rfl) ?_
    refine Hd.yg rfl rfl (y_move rfl) ?_
    first | (refine Hd.yv (y_pickT rfl rfl) ?_) | (refine Hd.yv (y_pickF rfl rfl) ?_) | (refine Hd.yv (y_pickb rfl rfl rfl) ?_) | (refine Hd.yv (y_pick rfl rfl rfl) ?_)
    refine Hd.yv (y_move rfl) ?_
    refine Hd.yg rfl rfl (y_move rfl) ?_
    first | (refine Hd.yg rfl rfl (y_eqlT rfl rfl) ?_) | (refine Hd.yg rfl rfl (y_eql rfl rfl) ?_)
    first | (refine Hd.yv (y_pickT rfl rfl) ?_) | (refine Hd.yv (y_pickF rfl rfl) ?_) | (refine Hd.yv (y_pickb rfl rfl rfl) ?_) | (refine Hd.yv (y_pick rfl rfl rfl) ?_)
    refine Hd.yv (y_move rfl) ?_
    refine Hd.yg rfl rfl (y_move rfl) ?_
    first | (refine Hd.yg rfl rfl (y_eqlT rfl rfl) ?_) | (refine Hd.yg rfl rfl (y_eql rfl rfl) ?_)
    first | (refine Hd.yv (y_pickT rfl rfl) ?_) | (refine Hd.yv (y_pickF rfl rfl) ?_) | (refine Hd.yv (y_pickb rfl rfl rfl) ?_) | (refine Hd.yv (y_pick rfl rfl rfl) ?_)
    refine Hd.yv (y_move rfl) ?_
    refine Hd.yg rfl rfl (y_move rfl) ?_
    first | (refine Hd.yg rfl rfl (y_eqlT rfl rfl) ?_) | (refine Hd.yg rfl rfl (y_eql rfl rfl) ?_)
    first | (refine Hd.yv (y_pickT rfl rfl) ?_) | (refine Hd.yv (y_pickF rfl rfl) ?_) | (refine Hd.yv (y_pickb rfl rfl rfl) ?_) | (refine Hd.yv (y_pick rfl rfl rfl) ?_)
    refine Hd.yv (y_move rfl) ?_
    refine Hd.yg rfl rfl (y_move rfl) ?_
    first | (refine Hd.yg rfl rfl (y_eqlT rfl rfl) ?_) | (refine Hd.yg rfl rfl (y_eql rfl rfl) ?_)
    first | (refine Hd.yv (y_pickT rfl rfl) ?_) | (refine Hd.yv (y_pickF rfl rfl) ?_) | (refine Hd.yv (y_pickb rfl rfl rfl) ?_) | (refine Hd.yv (y_pick rfl rfl rfl) ?_)
    refine Hd.yv (y_move rfl) ?_
    refine Hd.yg rfl rfl (y_move rfl) ?_
    refine Hd.unguard rfl rfl ?_
    refine Hd.callE rfl fk26 (kdue_nil _) (Ent.sep enn) ?_
    intro _
    refine Hd.yg rfl rfl (y_not rfl) ?_
    first | (refine Hd.yv (y_pickT rfl rfl) ?_) | (refine Hd.yv (y_pickF rfl rfl) ?_) | (refine Hd.yv (y_pickb rfl rfl rfl) ?_) | (refine Hd.yv (y_pick rfl rfl rfl) ?_)
    refine Hd.yv (y_move rfl) ?_
    refine Hd.unguard rfl rfl ?_
    refine Hd.callE rfl fk27 (knotes_z _ b14) (Ent.sep enn) ?_
    intro _
    refine Hd.yg rfl rfl (y_len Try.underlying59 rfl) ?_
    first | (refine Hd.yg rfl rfl (y_eqlT rfl rfl) ?_) | (refine Hd.yg rfl rfl (y_eql rfl rfl) ?_)
    first | (refine Hd.yv (y_pickT rfl rfl) ?_) | (refine Hd.yv (y_pickF rfl rfl) ?_) | (refine Hd.yv (y_pickb rfl rfl rfl) ?_) | (refine Hd.yv (y_pick rfl rfl rfl) ?_)
    refine Hd.yv (y_assign rfl) ?_
    refine Hd.nil ?_
    refine Hd.slots [(0, _)] ⟨rfl, trivial⟩ ?_
    refine Hd.toK hK31 ?_
    refine Hd.ret ?_
    clear hK1 hK2 hK3 hK4 hK5 hK6 hK7 hK8 hK9 hK10 hK11 hK12 hK13 hK14 hK15 hK16 hK19 hK20 hK21 hK22 hK23 hK24 hK25 hK26 hK27 hK28 hK29 hK30 hK31
    exact Hd.ret1 rfl () rfl (Ent.sep enn)
end Kq
end Go.Proofs.Ytbfddabjbkohdaa
namespace Go.Proofs.Ytbfddabjbkohdaa
set_option linter.unusedSimpArgs false
set_option linter.unusedVariables false
set_option linter.unnecessarySimpa false
open Go.RX Go.ChangeShapes Go.WideShapes Go.ChangeAt Go.RowKit
theorem Try.own : ownKnob Try.prog.godebug = none := by kernel_rfl
theorem Try.laidOut : laidOutB Try.prog = true := by kernel_rfl
set_option maxRecDepth 100000 in
theorem KquNames_lifted (os : Os) (started : os.Started) (H : Type) (enc : TypeId × Value → H) :
    ReturnsInHanded {} Try.checked os 5 .any (Rows.kquNamesSpec.pre6 enc Try.prog Try.f5 Rows.kquNamesRow.domain false) (Rows.kquNamesSpec.post enc Try.prog Try.f5 false true false false) := by
  refine returnsInHanded_of_change (C := Try.checked) Try.own started (by kernel_rfl) Try.func5
    (ChangeSpec.witness6 (enc := enc) (C := Try.checked) false ⟨#[], #[], []⟩ 8 (by kernel_rfl) (by kernel_rfl) (by kernel_rfl) (by kernel_rfl)) ?_
  intro W base args ds gs before hval0 hW hcnd _
  have hval : ∀ (j : Nat) t v, Try.f5.params[j]? = some t → args[j]? = some v → Value.okWide Try.prog W .any base t v := hval0
  have hW' := hW
  obtain ⟨p, q, hA0, hV, rfl, hfz, hnd⟩ := hW
  have hA : DataW.TrodAll enc Try.prog W 0 (fun _ => true) true Try.f5.params.toList args.toList ds p := hA0
  obtain ⟨rfl, rfl⟩ := trodVars_none hV
  simp only [List.append_nil] at hW'
  have hA1 := hA
  rw [Try.params5] at hA hval
  obtain ⟨hargs, rfl, rfl⟩ := trodAll_nil hA
  obtain rfl : args = #[] := by cases args; simp_all
  refine (law_calls (Kq.names16_ct [Old W])).mono fun e W' ⟨he, hb⟩ => ?_
  subst he
  exact ⟨_, rfl, law_post Try.laidOut rfl Try.underlying4 rfl rfl (of_decide_eq_true (by kernel_rfl)) hW' hA1 hb⟩
theorem KquNames_holds : Rows.KquNamesSaid :=
  OpenClaim.holds_of_wide 5 Try.f5 rfl rfl rfl rfl rfl rfl rfl ⟨rfl, rfl, rfl, rfl, rfl⟩ rfl rfl rfl rfl rfl (by kernel_rfl) Try.func5 (by kernel_rfl)
    (of_decide_eq_true (by kernel_rfl)) (by unfold Func.isWrapper; first | (rw [if_pos (by decide +kernel)]; kernel_rfl) | (rw [if_neg (by decide +kernel)]; exact ⟨rfl, rfl⟩))
    (fun os started H enc _ => KquNames_lifted os started H enc)
end Go.Proofs.Ytbfddabjbkohdaa
