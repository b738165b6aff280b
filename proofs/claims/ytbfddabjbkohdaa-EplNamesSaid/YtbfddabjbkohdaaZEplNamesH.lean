/- Errors, events and operations of package epl have their numbers, the examples of the chapter hold, and calls on none are as the document says: the law EplNames answers true, whatever its input, and its arguments read behind the call as before. No condition. -/
import Derived.Lib.SmallJoins
import Derived.Test.YtbfddabjbkohdaaZEplNamesG
namespace Go.Proofs.Ytbfddabjbkohdaa
set_option linter.unusedSimpArgs false
set_option linter.unusedVariables false
set_option linter.unnecessarySimpa false
open Go.RX Fx
namespace Wo
set_option maxRecDepth 8000
def mkN (w : WA) (k : Nat) : Int := if mkE w k = 0 then (w.ws.length : Int) else 0
theorem mkW_len {w : WA} {k : Nat} {x : WireA} (h : mkE w k = 0) : (mkW w k x).ws.length = w.ws.length + 1 := by
  unfold mkE at h
  unfold mkW
  by_cases h1 : mkOk w k = true
  · rw [if_pos h1]
    show (w.ws ++ [_]).length = _
    rw [List.length_append]; rfl
  · rw [if_neg h1] at h; exact absurd h (by decide)
set_option maxHeartbeats 2000000 in
theorem outer_mk (L : List SP) (wb : Nat) (w : WA) (n : Nat) (h1 : 1 ≤ n) (h2 : n ≤ 65536) : Ct Try.prog 9 #[.pointer (some ⟨wb, 0, none⟩), .int .i64 (n : Int)] (WorldP wb w :: L) (fun _ : Unit => .tuple #[.int .i64 (mkI w 1 0), .int .i64 (mkN w 1), .int .i64 (mkE w 1)]) (fun _ : Unit => WorldP wb (mkW w 1 (connW n)) :: L) := by
  refine Ct.of (vs := [.pointer (some ⟨wb, 0, none⟩), .int .i64 (n : Int)]) Try.func9 rfl rfl [(0, .pointer (some ⟨wb, 0, none⟩)), (1, .int .i64 (n : Int))] (by repeat (first | exact trivial | refine ⟨rfl, ?_⟩)) ?_
  intro E
  show Hd E 35 _ _ _ _
  refine Hd.seq (fun K1 hK1 => ?_)
  refine Hd.region ?_
  refine Hd.yv (y_assign rfl) ?_
  refine Hd.yv (y_assign rfl) ?_
  refine Hd.yv (y_assign rfl) ?_
  refine Hd.nil ?_
  refine Hd.slots [(0, _), (1, _)] ⟨rfl, rfl, trivial⟩ ?_
  refine Hd.toK hK1 ?_
  refine Hd.seq (fun K2 hK2 => ?_)
  refine Hd.region ?_
  refine Hd.yv (y_move rfl) ?_
  refine Hd.callE rfl fk34 (both_ct _ n h1 h2) (Ent.sep enn) ?_
  intro b
  refine Hd.yv (y_assign rfl) ?_
  refine Hd.nil ?_
  refine Hd.slots [(0, _), (1, _), (7, _)] ⟨rfl, rfl, rfl, trivial⟩ ?_
  refine Hd.toK hK2 ?_
  refine Hd.seq (fun K3 hK3 => ?_)
  refine Hd.wire pkk 1 (by omega) (fun i hi => ?_)
  refine Hd.region ?_
  refine Hd.yv (y_move rfl) ?_
  refine Hd.yv (y_nilp rfl) ?_
  first | (refine Hd.yv (y_field' (q := 0) (ft := 86) Try.underlying88 rfl sz86 rfl rfl) ?_) | (refine Hd.yv (y_fieldR (q := 0) (ft := 86) Try.underlying88 rfl sz86 rfl rfl) ?_)
  first | (refine Hd.yv (y_idxA Try.underlying86 sz85 rfl rfl (by first | omega | decide)) ?_) | (refine Hd.yv (y_idxAR Try.underlying86 sz85 rfl rfl (by first | omega | decide)) ?_)
  first | (refine Hd.yv (y_field' (q := 0) (ft := 3) Try.underlying85 rfl sz3 rfl rfl) ?_) | (refine Hd.yv (y_fieldR (q := 0) (ft := 3) Try.underlying85 rfl sz3 rfl rfl) ?_)
  first | (refine Hd.store1 sz3 rfl rfl rfl pkk (by first | decide | (simp; done) | (simp; omega)) ?_) | (refine Hd.storeG1 sz3 rfl rfl rfl pkk (by first | decide | (simp; done) | (simp; omega)) ?_) | (refine Hd.storeO1 sz3 rfl rfl rfl pkk (by first | omega | (simp; done) | (simp; omega)) ?_)
  try simp only [List.set_cons_zero, List.set_cons_succ]
  refine Hd.nil ?_
  rw [show (encW (halfW n 2) i).set (0 + 0 + 1 * 7 + 0) (.int .i64 2) = encW (connW n) i from rfl]
  refine Hd.heap (WireP b (connW n) :: WorldP wb w :: L) (fun q s => wire_close (x := halfW n 2) (f := fun e => { e with what := 2 }) (k := 1) (k' := 1) hi (by omega) (fun _ => rfl) (fun _ => rfl) q (Ent.sep enn q s)) ?_
  refine Hd.slots [(0, _), (1, _), (7, _)] ⟨rfl, rfl, rfl, trivial⟩ ?_
  refine Hd.toK hK3 ?_
  refine Hd.seq (fun K4 hK4 => ?_)
  refine Hd.region ?_
  refine Hd.yv (y_move rfl) ?_
  refine Hd.yv (y_move rfl) ?_
  refine Hd.yv (y_move rfl) ?_
  refine Hd.callE rfl fk35 (make_ct _ wb b w n h1 h2 1 (by omega) (connW n) (conn_new h2)) (Ent.sep enn) ?_
  rintro ⟨ad, c⟩
  dsimp only
  refine Hd.yv (y_move rfl) ?_
  refine Hd.yv (y_to (v' := .slice ad (mkF w 1).length c) (y_extract rfl rfl) (by rfl)) ?_
  refine Hd.yv (y_to (v' := .int .i64 (mkE w 1)) (y_extract rfl rfl) (by rfl)) ?_
  refine Hd.yv (y_assign rfl) ?_
  refine Hd.yv (y_assign rfl) ?_
  refine Hd.nil ?_
  refine Hd.slots [(0, _), (6, _), (8, _)] ⟨rfl, rfl, rfl, trivial⟩ ?_
  refine Hd.toK hK4 ?_
  refine Hd.seq (fun K5 hK5 => ?_)
  refine Hd.seq (fun K6 hK6 => ?_)
  refine Hd.region ?_
  refine Hd.yv (y_move rfl) ?_
  refine Hd.yv (y_neq rfl rfl) ?_
  refine Hd.nil ?_
  refine Hd.slots [(0, _), (6, _), (8, _), (24, _)] ⟨rfl, rfl, rfl, rfl, trivial⟩ ?_
  refine Hd.toK hK6 ?_
  refine Hd.cond rfl (fun hc0 => ?_) (fun hc0 => ?_)
  ·
    try simp only [decide_eq_true_eq, decide_eq_false_iff_not, Bool.and_eq_true, Bool.or_eq_true, Bool.and_eq_false_iff, Bool.or_eq_false_iff, Bool.not_eq_true', Bool.not_eq_false', Bool.not_eq_true, Bool.not_eq_false, Int.not_lt, Int.not_le, Decidable.not_not, ne_eq] at hc0
    refine Hd.seq (fun K7 hK7 => ?_)
    refine Hd.region ?_
    refine Hd.yv (y_move rfl) ?_
    refine Hd.yv (y_assign rfl) ?_
    refine Hd.yv (y_assign rfl) ?_
    refine Hd.yv (y_assign rfl) ?_
    refine Hd.nil ?_
    refine Hd.slots [(4, _), (5, _), (6, _)] ⟨rfl, rfl, rfl, trivial⟩ ?_
    refine Hd.toK hK7 ?_
    refine Hd.ret ?_
    refine Hd.thenRet ?_
    clear hK1 hK2 hK3 hK4 hK5 hK6 hK7
    have h : mkF w 1 = [] := by
      rcases mkF_len (w := w) (k := 1) with h | h
      · exact absurd h.1 hc0
      · exact h.2
    rw [show mkI w 1 0 = 0 by unfold mkI; rw [h]; rfl, show mkN w 1 = 0 by unfold mkN; rw [if_neg hc0]]
    exact Hd.ret3 rfl () rfl rfl rfl rfl (Ent.sep enn)
  ·
    try simp only [decide_eq_true_eq, decide_eq_false_iff_not, Bool.and_eq_true, Bool.or_eq_true, Bool.and_eq_false_iff, Bool.or_eq_false_iff, Bool.not_eq_true', Bool.not_eq_false', Bool.not_eq_true, Bool.not_eq_false, Int.not_lt, Int.not_le, Decidable.not_not, ne_eq] at hc0
    have hl : (mkF w 1).length = 1 := by
      rcases mkF_len (w := w) (k := 1) with h | h
      · exact h.2
      · rw [h.1] at hc0; exact absurd hc0 (by decide)
    have hg0 : (nats (mkF w 1))[0 * 1]? = some (.int .i64 (mkI w 1 0)) := nats_at (by omega)
    have hwl := mkW_len (x := connW n) hc0
    refine Hd.skip ?_
    refine Hd.toK hK5 ?_
    refine Hd.seq (fun K8 hK8 => ?_)
    refine Hd.world pkk (fun i hw hrs => ?_)
    have hrl : i.rs.length = w.ws.length + 1 := by rw [← hwl, ← hrs, List.length_map]
    have hln : i.rs.length ≤ 1000 := by rw [hrl, ← hwl]; exact hw.len
    refine Hd.quiet mixed (by kernel_rfl) ?_
    refine Hq.yv (y_move rfl) ?_
    first | (refine Hq.yv (y_idxS Try.underlying22 sz3 rfl rfl (by first | exact (show (0 : Nat) < _ by omega) | omega | decide)) ?_) | (refine Hq.yv (y_idxR Try.underlying22 sz3 rfl rfl (by first | exact (show (0 : Nat) < _ by omega) | omega | decide) (by (first | exact RdS.own pkk))) ?_)
    refine Hq.yv (y_loadR1 ag3 rfl (RdS.own (ad := ad) (us := nats (mkF w 1)) pkk) hg0) ?_
    refine Hq.yv (y_move rfl) ?_
    refine Hq.yv (y_nilp rfl) ?_
    first | (refine Hq.yv (y_field' (q := 288) (ft := 77) Try.underlying80 rfl sz77 rfl rfl) ?_) | (refine Hq.yv (y_fieldR (q := 288) (ft := 77) Try.underlying80 rfl sz77 rfl rfl) ?_)
    first | (refine Hq.yv (y_load1 ag77 rfl (Rd.pt1 pkk (by (first | exact woT_at (j := 0) (by omega) rfl | rfl)))) ?_) | (refine Hq.yv (y_load1 ag77 rfl (Rd.seg1 pkk (by (first | exact woT_at (j := 0) (by omega) rfl | rfl)))) ?_) | (refine Hq.yv (y_loadR1 ag77 rfl (by (first | exact RdS.own pkk)) (by (first | exact woT_at (j := 0) (by omega) rfl | rfl))) ?_)
    refine Hq.yv (y_len Try.underlying77 rfl) ?_
    first | (refine Hq.yv (y_to (v' := .int .i64 (w.ws.length : Int)) (y_subn rfl rfl (by simp only [InK]; omega)) (by (congr 1; omega))) ?_) | (refine Hq.yv (y_to (v' := .int .i64 (w.ws.length : Int)) (y_sub rfl rfl) (by (congr 1; omega))) ?_)
    refine Hq.yv (y_assign rfl) ?_
    refine Hq.yv (y_assign rfl) ?_
    refine Hq.yv (y_assign rfl) ?_
    refine Hq.nil ?_
    refine Hd.slots [(4, _), (5, _), (6, _)] ⟨rfl, rfl, rfl, trivial⟩ ?_
    refine Hd.toK hK8 ?_
    refine Hd.ret ?_
    clear hK1 hK2 hK3 hK4 hK5 hK6 hK8
    rw [show mkN w 1 = (w.ws.length : Int) by unfold mkN; rw [if_pos hc0]]
    exact Hd.ret3 rfl () rfl rfl (by rw [hc0]; rfl) rfl (Ent.sep (.ex i (.pure ⟨hw, hrs⟩ enn)))
end Wo
end Go.Proofs.Ytbfddabjbkohdaa
namespace Go.Proofs.Ytbfddabjbkohdaa
set_option linter.unusedSimpArgs false
set_option linter.unusedVariables false
set_option linter.unnecessarySimpa false
open Go.RX Fx
namespace Wo
set_option maxRecDepth 8000
def optW : Option (Nat × WireA) → SP
  | none => pu True
  | some p => WireP p.1 p.2
theorem map_optW (rs : List (Nat × WireA)) : (rs.map some).map optW = rs.map fun p => WireP p.1 p.2 := by rw [List.map_map]; rfl
theorem wires_bag {rs : List (Nat × WireA)} {L : List SP} {h : PH} (s : sep (Wires rs :: L) h) : sep (Bag optW (rs.map some) :: L) h := by
  obtain ⟨h1, h2, d, s1, s2, ⟨x⟩, y⟩ := s
  exact ⟨h1, h2, d, s1, s2, ⟨by rw [map_optW]; exact x⟩, y⟩
theorem bag_wires {rs : List (Nat × WireA)} {L : List SP} {h : PH} (s : sep (Bag optW (rs.map some) :: L) h) : sep (Wires rs :: L) h := by
  obtain ⟨h1, h2, d, s1, s2, ⟨x⟩, y⟩ := s
  exact ⟨h1, h2, d, s1, s2, ⟨by rw [← map_optW]; exact x⟩, y⟩
theorem bag_take {os : List (Option (Nat × WireA))} {j b : Nat} {x : WireA} {L : List SP} {h : PH} (hj : os[j]? = some (some (b, x))) (s : sep (Bag optW os :: L) h) : sep (WireP b x :: Bag optW (os.set j none) :: L) h := by
  have h1 := bag_out hj s
  have hl := (List.getElem?_eq_some_iff.1 hj).1
  have h2 : sep (optW none :: Bag optW (os.take j) :: Bag optW (os.drop (j + 1)) :: WireP b x :: L) h := Ent.sep (show Ent (WireP b x :: Bag optW (os.take j) :: Bag optW (os.drop (j + 1)) :: L) (pu True :: Bag optW (os.take j) :: Bag optW (os.drop (j + 1)) :: WireP b x :: L) from .pure trivial enn) h h1
  exact Ent.sep enn h (bag_in hl h2)
theorem bag_give {os : List (Option (Nat × WireA))} {j b : Nat} {x : WireA} {L : List SP} {h : PH} (hj : os[j]? = some none) (s : sep (WireP b x :: Bag optW os :: L) h) : sep (Bag optW (os.set j (some (b, x))) :: L) h := by
  have hl := (List.getElem?_eq_some_iff.1 hj).1
  have h1 : sep (Bag optW os :: WireP b x :: L) h := Ent.sep enn h s
  have h2 := bag_out hj h1
  have h3 : sep (optW (some (b, x)) :: Bag optW (os.take j) :: Bag optW (os.drop (j + 1)) :: L) h := Ent.sep (show Ent (pu True :: Bag optW (os.take j) :: Bag optW (os.drop (j + 1)) :: WireP b x :: L) (WireP b x :: Bag optW (os.take j) :: Bag optW (os.drop (j + 1)) :: L) from enn) h h2
  exact bag_in hl h3
def clo1 (rs : List (Nat × WireA)) (n : Nat) : List (Nat × WireA) := match rs[n]? with
  | some p => rs.set n (p.1, closeW p.2 0)
  | none => rs
def closeL (rs : List (Nat × WireA)) (l : List Nat) : List (Nat × WireA) := l.foldl clo1 rs
theorem closeL_snoc (rs : List (Nat × WireA)) (l : List Nat) (n : Nat) : closeL rs (l ++ [n]) = clo1 (closeL rs l) n := by unfold closeL; rw [List.foldl_append]; rfl
theorem clo1_fst (rs : List (Nat × WireA)) (n : Nat) : (clo1 rs n).map Prod.fst = rs.map Prod.fst := by
  unfold clo1
  split
  · rename_i p hp
    rw [List.map_set]
    apply List.ext_getElem?
    intro j
    by_cases e : n = j
    · subst e
      rw [List.getElem?_set_self (by rw [List.length_map]; exact (List.getElem?_eq_some_iff.1 hp).1), List.getElem?_map, hp]; rfl
    · rw [List.getElem?_set_ne e]
  · rfl
theorem closeL_fst : ∀ (l : List Nat) (rs : List (Nat × WireA)), (closeL rs l).map Prod.fst = rs.map Prod.fst
  | [], _ => rfl
  | n :: t, rs => by
    show (closeL (clo1 rs n) t).map Prod.fst = _
    rw [closeL_fst t, clo1_fst]
theorem clo1_snd (rs : List (Nat × WireA)) (n : Nat) : (clo1 rs n).map Prod.snd = match (rs.map Prod.snd)[n]? with | some y => (rs.map Prod.snd).set n (closeW y 0) | none => rs.map Prod.snd := by
  unfold clo1
  rw [List.getElem?_map]
  cases h : rs[n]? with
  | none => rfl
  | some p => show (rs.set n _).map Prod.snd = _; rw [List.map_set]; rfl
theorem closeL_snd : ∀ (l : List Nat) (rs : List (Nat × WireA)), (closeL rs l).map Prod.snd = closeAll (rs.map Prod.snd) l
  | [], _ => rfl
  | n :: t, rs => by
    show (closeL (clo1 rs n) t).map Prod.snd = closeAll _ t
    rw [closeL_snd t, clo1_snd]
    rfl
theorem closeL_len (l : List Nat) (rs : List (Nat × WireA)) : (closeL rs l).length = rs.length := by
  have := congrArg List.length (closeL_fst l rs)
  rwa [List.length_map, List.length_map] at this
theorem closeAll_set : ∀ (l : List Nat) (ws : List WireA) {m : Nat} {X : WireA}, m ∉ l → closeAll (ws.set m X) l = (closeAll ws l).set m X
  | [], _, _, _, _ => rfl
  | n :: t, ws, m, X, h => by
    have hne : m ≠ n := fun e => h (e ▸ List.mem_cons_self)
    have ht : m ∉ t := fun e => h (List.mem_cons_of_mem _ e)
    show closeAll (match (ws.set m X)[n]? with | some y => (ws.set m X).set n (closeW y 0) | none => ws.set m X) t = (closeAll (match ws[n]? with | some y => ws.set n (closeW y 0) | none => ws) t).set m X
    rw [List.getElem?_set_ne hne]
    cases h2 : ws[n]? with
    | none => exact closeAll_set t ws ht
    | some y =>
      show closeAll ((ws.set m X).set n (closeW y 0)) t = (closeAll (ws.set n (closeW y 0)) t).set m X
      rw [List.set_comm _ _ hne, closeAll_set t _ ht]
theorem world_all {wb : Nat} {w w' : WA} {i : WoI} {rs' : List (Nat × WireA)} {t : Int → Option (Nat × Nat)} {L : List SP} (hok : WOk w') (hf : rs'.map Prod.fst = i.rs.map Prod.fst) (hws : rs'.map Prod.snd = w'.ws) (hat : w'.at = t) (hr : w' = { w with ws := w'.ws }) :
    ∀ h, sep (Wires rs' :: WoH wb t w i.rs.length i :: own 81 1 i.wa i.rs.length i.wc (pws i.rs) :: SigP i.sb w.hd w.ct :: L) h → sep (WorldP wb w' :: L) h := by
  intro h s
  have hl : rs'.length = i.rs.length := by have := congrArg List.length hf; rwa [List.length_map, List.length_map] at this
  have hp : pws rs' = pws i.rs := by
    have : ∀ l : List (Nat × WireA), pws l = (l.map Prod.fst).map fun b => ptr (some b) := fun l => by unfold pws; rw [List.map_map]; rfl
    rw [this, this, hf]
  have hsg : SigP i.sb w.hd w.ct = SigP i.sb w'.hd w'.ct := by rw [hr]
  refine Ent.sep (.ex { i with rs := rs' } (.pure ⟨hok, hws⟩ ?_)) h s
  exact .eq pkk (pt_eq (show fdC t ++ woT w i.rs.length i = fdC w'.at ++ woT w' rs'.length { i with rs := rs' } by rw [hat, hl, hr])) (.eq pkk (own_eq3 hl.symm rfl hp.symm) (.pick pkk (.eq pkk hsg enn)))
abbrev WoS (wb : Nat) (t : Int → Option (Nat × Nat)) (w : WA) (i : WoI) (L : List SP) : List SP := WoH wb t w i.rs.length i :: own 81 1 i.wa i.rs.length i.wc (pws i.rs) :: SigP i.sb w.hd w.ct :: L
set_option maxHeartbeats 2000000 in
theorem wclose_ct (L : List SP) (wb : Nat) (w : WA) (fd : Int) : Ct Try.prog 15 #[.pointer (some ⟨wb, 0, none⟩), .int .i64 fd] (WorldP wb w :: L) (fun _ : Unit => .int .i64 (closeF w fd).1) (fun _ : Unit => WorldP wb (closeF w fd).2 :: L) := by
  refine Ct.of (vs := [.pointer (some ⟨wb, 0, none⟩), .int .i64 fd]) Try.func15 rfl rfl [(0, .pointer (some ⟨wb, 0, none⟩)), (1, .int .i64 fd)] (by repeat (first | exact trivial | refine ⟨rfl, ?_⟩)) ?_
  intro E
  show Hd E 51 _ _ _ _
  refine Hd.world .here (fun i hw hrs => ?_)
  refine Hd.seq (fun K1 hK1 => ?_)
  refine Hd.region ?_
  refine Hd.yv (y_assign rfl) ?_
  refine Hd.nil ?_
  refine Hd.slots [(0, _), (1, _)] ⟨rfl, rfl, trivial⟩ ?_
  refine Hd.toK hK1 ?_
  refine Hd.seq (fun K2 hK2 => ?_)
  refine Hd.region ?_
  refine Hd.yv (y_move rfl) ?_
  refine Hd.yv (y_move rfl) ?_
  refine Hd.callE rfl fk46 (find_ct _ wb w i hw hrs fd) (Ent.sep enn) ?_
  intro _
  refine Hd.yv (y_move rfl) ?_
  refine Hd.yv (y_extract rfl rfl) ?_
  refine Hd.yv (y_extract rfl rfl) ?_
  refine Hd.yv (y_extract rfl rfl) ?_
  refine Hd.alloc zr75 (fun b5 => ?_)
  refine Hd.storeA (us := plc (w.at fd)) (by rw [plc_len]; exact sz75) rfl rfl rfl (plc_one _) pkk (by rw [plc_len]; rfl) ?_
  refine Hd.yv (y_to (v' := ptr (wfb i (w.at fd))) (y_assign rfl) (by rfl)) ?_
  refine Hd.yv (y_to (v' := .int .i64 (fdErr (w.at fd))) (y_assign rfl) (by rfl)) ?_
  refine Hd.nil ?_
  refine Hd.slots [(0, _), (1, _), (5, _), (6, _), (7, _)] ⟨rfl, rfl, rfl, rfl, rfl, trivial⟩ ?_
  refine Hd.toK hK2 ?_
  refine Hd.seq (fun K3 hK3 => ?_)
  refine Hd.seq (fun K4 hK4 => ?_)
  refine Hd.region ?_
  refine Hd.yv (y_move rfl) ?_
  refine Hd.yv (y_neq rfl rfl) ?_
  refine Hd.nil ?_
  refine Hd.slots [(0, _), (1, _), (5, _), (6, _), (7, _), (18, _)] ⟨rfl, rfl, rfl, rfl, rfl, rfl, trivial⟩ ?_
  refine Hd.toK hK4 ?_
  refine Hd.cond rfl (fun hc0 => ?_) (fun hc0 => ?_)
  ·
    try simp only [decide_eq_true_eq, decide_eq_false_iff_not, Bool.and_eq_true, Bool.or_eq_true, Bool.and_eq_false_iff, Bool.or_eq_false_iff, Bool.not_eq_true', Bool.not_eq_false', Bool.not_eq_true, Bool.not_eq_false, Int.not_lt, Int.not_le, Decidable.not_not, ne_eq] at hc0
    refine Hd.seq (fun K5 hK5 => ?_)
    refine Hd.region ?_
    refine Hd.yv (y_move rfl) ?_
    refine Hd.yv (y_assign rfl) ?_
    refine Hd.nil ?_
    refine Hd.slots [(4, _)] ⟨rfl, trivial⟩ ?_
    refine Hd.toK hK5 ?_
    refine Hd.ret ?_
    refine Hd.thenRet ?_
    clear hK1 hK2 hK3 hK4 hK5
    have hno : w.at fd = none := by
      cases h : w.at fd with
      | none => rfl
      | some p => rw [h] at hc0; exact absurd rfl hc0
    rw [show closeF w fd = (110, w) by unfold closeF; rw [hno]]
    exact Hd.ret1 rfl () (by rw [hno]; rfl) (Ent.sep (.ex i (.pure ⟨hw, hrs⟩ enn)))
  ·
    try simp only [decide_eq_true_eq, decide_eq_false_iff_not, Bool.and_eq_true, Bool.or_eq_true, Bool.and_eq_false_iff, Bool.or_eq_false_iff, Bool.not_eq_true', Bool.not_eq_false', Bool.not_eq_true, Bool.not_eq_false, Int.not_lt, Int.not_le, Decidable.not_not, ne_eq] at hc0
    obtain ⟨m0, k, hnk⟩ : ∃ m k, w.at fd = some (m, k) := by
      cases h : w.at fd with
      | none => rw [h] at hc0; exact absurd hc0 (by decide)
      | some p => exact ⟨p.1, p.2, rfl⟩
    obtain ⟨hf0, hf1, hk, hn, x, hx, _, _⟩ := hw.at_lt hnk
    obtain ⟨b, hb⟩ := rs_at hrs hx
    have hm0 := hw.ns m0 x hx
    have hcl := closeF_ok hw fd
    have hrd : closeF w fd = (0, { w with ws := closeAll (w.ws.set m0 ((closeW x k).wts [])) x.wt }) := by unfold closeF; rw [hnk]; dsimp only; rw [hx]
    have hml : m0 < i.rs.length := (List.getElem?_eq_some_iff.1 hb).1
    have hwl := wt_le hw hx
    rw [hnk, wfb_eq hb]
    obtain ⟨f, hf⟩ : ∃ f : Nat, fd = (f : Int) := ⟨fd.toNat, by omega⟩
    subst hf
    have hf96 : f < 96 := by omega
    refine Hd.skip ?_
    refine Hd.toK hK3 ?_
    refine Hd.seq (fun K6 hK6 => ?_)
    refine Hd.region ?_
    refine Hd.yv (y_move rfl) ?_
    refine Hd.yv (y_move rfl) ?_
    refine Hd.yv (y_build (cs := (plc none).toArray) (vs := []) rfl (by kernel_rfl)) ?_
    refine Hd.yv (y_nilp rfl) ?_
    first | (refine Hd.yv (y_field' (q := 0) (ft := 76) Try.underlying80 rfl sz76 rfl rfl) ?_) | (refine Hd.yv (y_fieldR (q := 0) (ft := 76) Try.underlying80 rfl sz76 rfl rfl) ?_)
    first | (refine Hd.yv (y_idxA Try.underlying76 sz75 rfl rfl (by first | omega | decide)) ?_) | (refine Hd.yv (y_idxAR Try.underlying76 sz75 rfl rfl (by first | omega | decide)) ?_)
    refine Hd.store (us := plc none) sz75 rfl rfl rfl (plc_one _) pkk (by rw [List.length_append, fdC_len, plc_len]; omega) ?_
    refine Hd.nil ?_
    rw [show 0 + 0 + f * 3 = f * 3 by omega, show (plc none).length = 3 from rfl, fdC_set hf96]
    refine Hd.heap (WireP b x :: Bag optW ((i.rs.map some).set m0 none) :: pt b5 (plc (some (m0, k))) 75 :: WoS wb (setT w.at f none) w i L) (fun q s => bag_take (by rw [List.getElem?_map, hb]; rfl) (wires_bag (Ent.sep enn q s))) ?_
    refine Hd.slots [(0, _), (5, _), (6, _)] ⟨rfl, rfl, rfl, trivial⟩ ?_
    refine Hd.toK hK6 ?_
    refine Hd.seq (fun K7 hK7 => ?_)
    refine Hd.region ?_
    refine Hd.yv (y_move rfl) ?_
    first | (refine Hd.yv (y_field' (q := 2) (ft := 3) Try.underlying75 rfl sz3 rfl rfl) ?_) | (refine Hd.yv (y_fieldR (q := 2) (ft := 3) Try.underlying75 rfl sz3 rfl rfl) ?_)
    first | (refine Hd.yv (y_load1 ag3 rfl (Rd.pt1 pkk (by (first | exact woT_at (j := 0) (by omega) rfl | exact pws_at hbn | rfl)))) ?_) | (refine Hd.yv (y_load1 ag3 rfl (Rd.seg1 pkk (by (first | exact woT_at (j := 0) (by omega) rfl | exact pws_at hbn | rfl)))) ?_) | (refine Hd.yv (y_loadR1 ag3 rfl (by (first | exact RdS.own pkk)) (by (first | exact woT_at (j := 0) (by omega) rfl | exact pws_at hbn | rfl))) ?_)
    refine Hd.callE rfl fk47 (close_ct _ b x k hk) (Ent.sep enn) ?_
    intro _
    refine Hd.nil ?_
    refine Hd.slots [(0, _), (6, _)] ⟨rfl, rfl, trivial⟩ ?_
    refine Hd.toK hK7 ?_
    refine Hd.seq (fun K8 hK8 => ?_)
    refine Hd.seq (fun K9 hK9 => ?_)
    refine Hd.wire .here k hk (fun i2 hi => ?_)
    refine Hd.region ?_
    refine Hd.yv (y_move rfl) ?_
    refine Hd.yv (y_nilp rfl) ?_
    first | (refine Hd.yv (y_field' (q := 16) (ft := 22) Try.underlying88 rfl sz22 rfl rfl) ?_) | (refine Hd.yv (y_fieldR (q := 16) (ft := 22) Try.underlying88 rfl sz22 rfl rfl) ?_)
    first | (refine Hd.yv (y_to (v' := .slice i2.wa x.wt.length i2.wc) (y_load1 ag22 rfl (Rd.pt1 pkk (by (first | exact woT_at (j := 0) (by omega) rfl | exact pws_at hbn | rfl)))) (by rfl)) ?_) | (refine Hd.yv (y_to (v' := .slice i2.wa x.wt.length i2.wc) (y_load1 ag22 rfl (Rd.seg1 pkk (by (first | exact woT_at (j := 0) (by omega) rfl | exact pws_at hbn | rfl)))) (by rfl)) ?_) | (refine Hd.yv (y_to (v' := .slice i2.wa x.wt.length i2.wc) (y_loadR1 ag22 rfl (by (first | exact RdS.own pkk)) (by (first | exact woT_at (j := 0) (by omega) rfl | exact pws_at hbn | rfl))) (by rfl)) ?_)
    refine Hd.yv (y_len Try.underlying22 rfl) ?_
    refine Hd.yv (y_move rfl) ?_
    refine Hd.nil ?_
    refine Hd.slots [(0, _), (6, _), (33, _), (34, _), (35, _)] ⟨rfl, rfl, rfl, rfl, rfl, trivial⟩ ?_
    refine Hd.toK hK9 ?_
    refine Hd.block ?_
    refine Hd.loopK (ι := Nat) [(0, _), (6, _), (33, _), (34, _)] (fun j => [(35, .int .i64 (j : Int))]) (fun j => pu (j ≤ x.wt.length) :: Bag optW (((closeL i.rs (x.wt.take j)).map some).set m0 none) :: WireH b (closeW x k) i2 :: RgO (i2.p k) (closeW x k).cap ((closeW x k).e k).b :: RgO (i2.p (1 - k)) (closeW x k).cap ((closeW x k).e (1 - k)).b :: own 3 1 i2.wa x.wt.length i2.wc (nats x.wt) :: pt b5 (plc (some (m0, k))) 75 :: WoS wb (setT w.at f none) w i L) (fun j => x.wt.length - j) 0 (by repeat (first | exact trivial | refine ⟨rfl, ?_⟩)) (by repeat (first | exact trivial | refine ⟨rfl, ?_⟩)) (Ent.sep (.pure (Nat.zero_le _) (.eq pkk (show Bag optW ((i.rs.map some).set m0 none) = Bag optW (((closeL i.rs (x.wt.take 0)).map some).set m0 none) from rfl) (.pick pkk (.pick pkk (.pick pkk (.eq pkk (show own 3 1 i2.wa (closeW x k).wt.length i2.wc (nats (closeW x k).wt) = own 3 1 i2.wa x.wt.length i2.wc (nats x.wt) from rfl) enn))))))) ?_
    intro j
    try dsimp only
    refine Hd.pure (fun hp0 => ?_)
    try dsimp only at hp0
    refine Hd.seq (fun K10 hK10 => ?_)
    refine Hd.region ?_
    refine Hd.yv (y_lss rfl rfl) ?_
    refine Hd.nil ?_
    refine Hd.slots [(0, _), (6, _), (33, _), (34, _), (35, _), (36, _)] ⟨rfl, rfl, rfl, rfl, rfl, rfl, trivial⟩ ?_
    refine Hd.toK hK10 ?_
    refine Hd.seq (fun K11 hK11 => ?_)
    refine Hd.cond rfl (fun hc1 => ?_) (fun hc1 => ?_)
    ·
      try simp only [decide_eq_true_eq, decide_eq_false_iff_not, Bool.and_eq_true, Bool.or_eq_true, Bool.and_eq_false_iff, Bool.or_eq_false_iff, Bool.not_eq_true', Bool.not_eq_false', Bool.not_eq_true, Bool.not_eq_false, Int.not_lt, Int.not_le, Decidable.not_not, ne_eq] at hc1
      have hj : j < x.wt.length := by omega
      have hgj := nats_at hj
      obtain ⟨n, hn⟩ : ∃ n, n = x.wt.getD j 0 := ⟨_, rfl⟩
      have hnj : x.wt[j]? = some n := by rw [hn, List.getD_eq_getElem?_getD, List.getElem?_eq_getElem hj]; rfl
      have hnm : n ∈ x.wt := List.mem_of_getElem? hnj
      obtain ⟨y0, hy0, _⟩ := hw.wm n (List.mem_flatMap.2 ⟨x, List.mem_of_getElem? hx, hnm⟩)
      obtain ⟨bn, hbn⟩ := rs_at hrs hy0
      have hnl : n < i.rs.length := (List.getElem?_eq_some_iff.1 hbn).1
      have hnm0 : n ≠ m0 := fun e => hm0 (e ▸ hnm)
      obtain ⟨yn, hyn⟩ : ∃ yn, (closeL i.rs (x.wt.take j))[n]? = some (bn, yn) := by
        have h1 : (closeL i.rs (x.wt.take j))[n]? = some ((closeL i.rs (x.wt.take j))[n]'(by rw [closeL_len]; exact hnl)) := List.getElem?_eq_getElem _
        have h2 : ((closeL i.rs (x.wt.take j)).map Prod.fst)[n]? = some bn := by rw [closeL_fst, List.getElem?_map, hbn]; rfl
        rw [List.getElem?_map, h1] at h2
        exact ⟨_, by rw [h1]; exact congrArg some (Prod.ext (Option.some.inj h2) rfl)⟩
      have htk : closeL i.rs (x.wt.take (j + 1)) = (closeL i.rs (x.wt.take j)).set n (bn, closeW yn 0) := by
        rw [List.take_add_one, hnj]
        show closeL i.rs (x.wt.take j ++ [n]) = _
        rw [closeL_snoc]
        unfold clo1
        rw [hyn]
      rw [← hn] at hgj
      refine Hd.skip ?_
      refine Hd.toK hK11 ?_
      refine Hd.seq (fun K12 hK12 => ?_)
      refine Hd.block ?_
      refine Hd.seq (fun K13 hK13 => ?_)
      refine Hd.region ?_
      first | (refine Hd.yv (y_idxS Try.underlying22 sz3 rfl rfl (by first | omega | decide)) ?_) | (refine Hd.yv (y_idxR Try.underlying22 sz3 rfl rfl (by first | omega | decide) (by (first | exact RdS.own pkk))) ?_)
      refine Hd.yv (y_loadR1 ag3 rfl (RdS.own (ad := i2.wa) (us := nats x.wt) pkk) hgj) ?_
      refine Hd.yv (y_assign rfl) ?_
      refine Hd.nil ?_
      refine Hd.slots [(0, _), (6, _), (9, _), (33, _), (34, _), (35, _)] ⟨rfl, rfl, rfl, rfl, rfl, rfl, trivial⟩ ?_
      refine Hd.toK hK13 ?_
      refine Hd.region ?_
      refine Hd.yv (y_move rfl) ?_
      refine Hd.yv (y_nilp rfl) ?_
      first | (refine Hd.yv (y_field' (q := 288) (ft := 77) Try.underlying80 rfl sz77 rfl rfl) ?_) | (refine Hd.yv (y_fieldR (q := 288) (ft := 77) Try.underlying80 rfl sz77 rfl rfl) ?_)
      first | (refine Hd.yv (y_load1 ag77 rfl (Rd.pt1 pkk (by (first | exact woT_at (j := 0) (by omega) rfl | exact pws_at hbn | rfl)))) ?_) | (refine Hd.yv (y_load1 ag77 rfl (Rd.seg1 pkk (by (first | exact woT_at (j := 0) (by omega) rfl | exact pws_at hbn | rfl)))) ?_) | (refine Hd.yv (y_loadR1 ag77 rfl (by (first | exact RdS.own pkk)) (by (first | exact woT_at (j := 0) (by omega) rfl | exact pws_at hbn | rfl))) ?_)
      refine Hd.yv (y_move rfl) ?_
      first | (refine Hd.yv (y_idxS Try.underlying77 sz81 rfl rfl (by first | omega | decide)) ?_) | (refine Hd.yv (y_idxR Try.underlying77 sz81 rfl rfl (by first | omega | decide) (by (first | exact RdS.own pkk))) ?_)
      first | (refine Hd.yv (y_load1 ag81 rfl (Rd.pt1 pkk (by (first | exact woT_at (j := 0) (by omega) rfl | exact pws_at hbn | rfl)))) ?_) | (refine Hd.yv (y_load1 ag81 rfl (Rd.seg1 pkk (by (first | exact woT_at (j := 0) (by omega) rfl | exact pws_at hbn | rfl)))) ?_) | (refine Hd.yv (y_loadR1 ag81 rfl (by (first | exact RdS.own pkk)) (by (first | exact woT_at (j := 0) (by omega) rfl | exact pws_at hbn | rfl))) ?_)
      refine Hd.heap (WireP bn yn :: Bag optW ((((closeL i.rs (x.wt.take j)).map some).set m0 none).set n none) :: WireH b (closeW x k) i2 :: RgO (i2.p k) (closeW x k).cap ((closeW x k).e k).b :: RgO (i2.p (1 - k)) (closeW x k).cap ((closeW x k).e (1 - k)).b :: own 3 1 i2.wa x.wt.length i2.wc (nats x.wt) :: pt b5 (plc (some (m0, k))) 75 :: WoS wb (setT w.at f none) w i L) (fun q s => bag_take (by rw [List.getElem?_set_ne (Ne.symm hnm0), List.getElem?_map, hyn]; rfl) (Ent.sep enn q s)) ?_
      refine Hd.callE rfl fk47 (close_ct _ bn yn 0 (by omega)) (Ent.sep enn) ?_
      intro _
      refine Hd.heap (Bag optW (((closeL i.rs (x.wt.take (j + 1))).map some).set m0 none) :: WireH b (closeW x k) i2 :: RgO (i2.p k) (closeW x k).cap ((closeW x k).e k).b :: RgO (i2.p (1 - k)) (closeW x k).cap ((closeW x k).e (1 - k)).b :: own 3 1 i2.wa x.wt.length i2.wc (nats x.wt) :: pt b5 (plc (some (m0, k))) 75 :: WoS wb (setT w.at f none) w i L) (fun q s => by
        have h1 := bag_give (j := n) (b := bn) (x := closeW yn 0) (by rw [List.getElem?_set_self (by simp [closeL_len]; exact hnl)]) s
        rw [List.set_set, List.set_comm _ _ (Ne.symm hnm0), show (List.map some (closeL i.rs (x.wt.take j))).set n (some (bn, closeW yn 0)) = (closeL i.rs (x.wt.take (j + 1))).map some by rw [htk, List.map_set]] at h1
        exact h1) ?_
      refine Hd.nil ?_
      refine Hd.slots [(0, _), (6, _), (33, _), (34, _), (35, _)] ⟨rfl, rfl, rfl, rfl, rfl, trivial⟩ ?_
      refine Hd.inB ?_
      refine Hd.toK hK12 ?_
      refine Hd.region ?_
      first | (refine Hd.yv (y_addn rfl rfl (by simp only [InK]; omega)) ?_) | (refine Hd.yv (y_add rfl rfl) ?_)
      refine Hd.yv (y_move rfl) ?_
      refine Hd.nil ?_
      refine Hd.slots [(0, _), (6, _), (33, _), (34, _), (35, _)] ⟨rfl, rfl, rfl, rfl, rfl, trivial⟩ ?_
      clear hK1 hK2 hK3 hK4 hK6 hK7 hK8 hK9 hK10 hK11 hK12 hK13
      refine Hd.thenN ?_
      exact Hd.again (j + 1) (by first | omega | (simp only; omega) | (simp; omega)) (by repeat (first | exact trivial | refine ⟨rfl, ?_⟩)) (Ent.sep (.pure (by first | omega | (simp; done) | (simp; omega) | (dsimp only; omega)) enn))
    ·
      try simp only [decide_eq_true_eq, decide_eq_false_iff_not, Bool.and_eq_true, Bool.or_eq_true, Bool.and_eq_false_iff, Bool.or_eq_false_iff, Bool.not_eq_true', Bool.not_eq_false', Bool.not_eq_true, Bool.not_eq_false, Int.not_lt, Int.not_le, Decidable.not_not, ne_eq] at hc1
      obtain rfl : j = x.wt.length := by omega
      rw [List.take_length]
      refine Hd.exit ?_
      refine Hd.thenExit ?_
      refine Hd.thenExit ?_
      refine Hd.inBexit ?_
      refine Hd.toK hK8 ?_
      refine Hd.seq (fun K14 hK14 => ?_)
      refine Hd.region ?_
      refine Hd.yv (y_move rfl) ?_
      refine Hd.yv (y_nilp rfl) ?_
      first | (refine Hd.yv (y_field' (q := 16) (ft := 22) Try.underlying88 rfl sz22 rfl rfl) ?_) | (refine Hd.yv (y_fieldR (q := 16) (ft := 22) Try.underlying88 rfl sz22 rfl rfl) ?_)
      first | (refine Hd.store1 sz22 rfl rfl rfl pkk (by first | decide | (simp; done) | (simp; omega)) ?_) | (refine Hd.storeG1 sz22 rfl rfl rfl pkk (by first | decide | (simp; done) | (simp; omega)) ?_) | (refine Hd.storeO1 sz22 rfl rfl rfl pkk (by first | omega | (simp; done) | (simp; omega)) ?_)
      try simp only [List.set_cons_zero, List.set_cons_succ]
      refine Hd.nil ?_
      rw [show (encW (closeW x k) i2).set (0 + 16) (.slice none 0 0) = encW ((closeW x k).wts []) { i2 with wa := none, wc := 0 } from rfl]
      refine Hd.heap (WireP b ((closeW x k).wts []) :: Bag optW (((closeL i.rs x.wt).map some).set m0 none) :: WoS wb (setT w.at f none) w i L) (fun q s => wire_fold (x := (closeW x k).wts []) (i := { i2 with wa := none, wc := 0 }) (k := k) ⟨hi.rd⟩ hk q (Ent.sep (show Ent _ (pt b (encW ((closeW x k).wts []) { i2 with wa := none, wc := 0 }) 88 :: RgO (i2.p k) (closeW x k).cap ((closeW x k).e k).b :: RgO (i2.p (1 - k)) (closeW x k).cap ((closeW x k).e (1 - k)).b :: own 3 1 none 0 0 [] :: Bag optW (((closeL i.rs x.wt).map some).set m0 none) :: WoS wb (setT w.at f none) w i L) from .pick pkk (.pick pkk (.pick pkk (.ownNil enn)))) q s)) ?_
      refine Hd.slots [] trivial ?_
      refine Hd.toK hK14 ?_
      refine Hd.seq (fun K15 hK15 => ?_)
      refine Hd.region ?_
      refine Hd.yv (y_assign rfl) ?_
      refine Hd.nil ?_
      refine Hd.slots [(4, _)] ⟨rfl, trivial⟩ ?_
      refine Hd.toK hK15 ?_
      refine Hd.ret ?_
      clear hK1 hK2 hK3 hK4 hK6 hK7 hK8 hK9 hK10 hK11 hK14 hK15
      have hws : ((closeL i.rs x.wt).set m0 (b, (closeW x k).wts [])).map Prod.snd = closeAll (w.ws.set m0 ((closeW x k).wts [])) x.wt := by
        rw [List.map_set, closeL_snd, hrs, closeAll_set _ _ hm0]
      have hfs : ((closeL i.rs x.wt).set m0 (b, (closeW x k).wts [])).map Prod.fst = i.rs.map Prod.fst := by
        rw [List.map_set, closeL_fst]
        apply List.ext_getElem?
        intro j
        by_cases e : m0 = j
        · subst e
          rw [List.getElem?_set_self (by rw [List.length_map]; exact hml), List.getElem?_map, hb]; rfl
        · rw [List.getElem?_set_ne e]
      rw [hrd] at hcl ⊢
      exact Hd.ret1 rfl () rfl (fun q s => world_all hcl.1 hfs hws hcl.2.1 rfl q (bag_wires (by
        have h1 := bag_give (j := m0) (b := b) (x := (closeW x k).wts []) (by rw [List.getElem?_set_self (by simp [closeL_len]; exact hml)]) s
        rw [List.set_set, show (List.map some (closeL i.rs x.wt)).set m0 (some (b, (closeW x k).wts [])) = ((closeL i.rs x.wt).set m0 (b, (closeW x k).wts [])).map some by rw [List.map_set]] at h1
        exact h1)))
end Wo
end Go.Proofs.Ytbfddabjbkohdaa
namespace Go.Proofs.Ytbfddabjbkohdaa
set_option linter.unusedSimpArgs false
set_option linter.unusedVariables false
set_option linter.unnecessarySimpa false
open Go.RX Fx
namespace Ep
open Wo
set_option maxRecDepth 8000
set_option maxHeartbeats 2000000 in
theorem same15_ct (L : List SP) (a1 : Option Addr) (c1 : Nat) (xs : List (Int × Int)) (h1 : RdS L 2 a1 xs.length (xs.flatMap encPo)) (hb1 : xs.length ≤ 1000000) (a2 : Option Addr) (c2 : Nat) (ys : List (Int × Int)) (h2 : RdS L 2 a2 ys.length (ys.flatMap encPo)) (hb2 : ys.length ≤ 1000000) : Ct Try.prog 44 #[.slice a1 xs.length c1, .slice a2 ys.length c2] (L) (fun _ : Unit => .bool (decide (xs = ys))) (fun _ : Unit => L) := by
  refine Ct.of (vs := [.slice a1 xs.length c1, .slice a2 ys.length c2]) Try.func44 rfl rfl [(0, .slice a1 xs.length c1), (1, .slice a2 ys.length c2)] (by repeat (first | exact trivial | refine ⟨rfl, ?_⟩)) ?_
  intro E
  show Hd E 26 _ _ _ _
  refine Hd.seq (fun K1 hK1 => ?_)
  refine Hd.region ?_
  refine Hd.yv (y_assign rfl) ?_
  refine Hd.nil ?_
  refine Hd.slots [(0, _), (1, _)] ⟨rfl, rfl, trivial⟩ ?_
  refine Hd.toK hK1 ?_
  refine Hd.seq (fun K2 hK2 => ?_)
  refine Hd.seq (fun K3 hK3 => ?_)
  refine Hd.region ?_
  refine Hd.yv (y_move rfl) ?_
  refine Hd.yv (y_len Try.underlying43 rfl) ?_
  refine Hd.yv (y_move rfl) ?_
  refine Hd.yv (y_len Try.underlying43 rfl) ?_
  refine Hd.yv (y_neq rfl rfl) ?_
  refine Hd.nil ?_
  refine Hd.slots [(0, _), (1, _), (10, _)] ⟨rfl, rfl, rfl, trivial⟩ ?_
  refine Hd.toK hK3 ?_
  refine Hd.cond rfl (fun hc0 => ?_) (fun hc0 => ?_)
  ·
    try simp only [decide_eq_true_eq, decide_eq_false_iff_not, Bool.and_eq_true, Bool.or_eq_true, Bool.and_eq_false_iff, Bool.or_eq_false_iff, Bool.not_eq_true', Bool.not_eq_false', Bool.not_eq_true, Bool.not_eq_false, Int.not_lt, Int.not_le, Decidable.not_not, ne_eq] at hc0
    have hne : xs ≠ ys := fun e => hc0 (by rw [e])
    refine Hd.seq (fun K4 hK4 => ?_)
    refine Hd.region ?_
    refine Hd.yv (y_assign rfl) ?_
    refine Hd.nil ?_
    refine Hd.slots [(4, _)] ⟨rfl, trivial⟩ ?_
    refine Hd.toK hK4 ?_
    refine Hd.ret ?_
    refine Hd.thenRet ?_
    clear hK1 hK2 hK3 hK4
    rw [decide_eq_false hne]
    exact Hd.ret1 rfl () rfl (Ent.sep enn)
  ·
    try simp only [decide_eq_true_eq, decide_eq_false_iff_not, Bool.and_eq_true, Bool.or_eq_true, Bool.and_eq_false_iff, Bool.or_eq_false_iff, Bool.not_eq_true', Bool.not_eq_false', Bool.not_eq_true, Bool.not_eq_false, Int.not_lt, Int.not_le, Decidable.not_not, ne_eq] at hc0
    have hl : xs.length = ys.length := by omega
    refine Hd.skip ?_
    refine Hd.toK hK2 ?_
    refine Hd.seq (fun K5 hK5 => ?_)
    refine Hd.seq (fun K6 hK6 => ?_)
    refine Hd.region ?_
    refine Hd.yv (y_assign rfl) ?_
    refine Hd.nil ?_
    refine Hd.slots [(0, _), (1, _), (5, _)] ⟨rfl, rfl, rfl, trivial⟩ ?_
    refine Hd.toK hK6 ?_
    refine Hd.block ?_
    refine Hd.loopK (ι := Nat) [(0, _), (1, _)] (fun i => [(5, .int .i64 (i : Int))]) (fun i => pu (i ≤ xs.length ∧ xs.take i = ys.take i) :: L) (fun i => xs.length - i) 0 (by repeat (first | exact trivial | refine ⟨rfl, ?_⟩)) (by repeat (first | exact trivial | refine ⟨rfl, ?_⟩)) (Ent.sep (.pure ⟨Nat.zero_le _, rfl⟩ enn)) ?_
    intro i
    try dsimp only
    refine Hd.pure (fun hp0 => ?_)
    try dsimp only at hp0
    refine Hd.seq (fun K7 hK7 => ?_)
    refine Hd.seq (fun K8 hK8 => ?_)
    refine Hd.region ?_
    refine Hd.yv (y_move rfl) ?_
    refine Hd.yv (y_move rfl) ?_
    refine Hd.yv (y_len Try.underlying43 rfl) ?_
    refine Hd.yv (y_lss rfl rfl) ?_
    refine Hd.nil ?_
    refine Hd.slots [(0, _), (1, _), (5, _), (14, _)] ⟨rfl, rfl, rfl, rfl, trivial⟩ ?_
    refine Hd.toK hK8 ?_
    refine Hd.cond rfl (fun hc1 => ?_) (fun hc1 => ?_)
    ·
      try simp only [decide_eq_true_eq, decide_eq_false_iff_not, Bool.and_eq_true, Bool.or_eq_true, Bool.and_eq_false_iff, Bool.or_eq_false_iff, Bool.not_eq_true', Bool.not_eq_false', Bool.not_eq_true, Bool.not_eq_false, Int.not_lt, Int.not_le, Decidable.not_not, ne_eq] at hc1
      have hi : i < xs.length := by omega
      have hi2 : i < ys.length := by omega
      have hgx : xs[i]? = some xs[i] := List.getElem?_eq_getElem hi
      have hgy : ys[i]? = some ys[i] := List.getElem?_eq_getElem hi2
      refine Hd.skip ?_
      refine Hd.toK hK7 ?_
      refine Hd.seq (fun K9 hK9 => ?_)
      refine Hd.block ?_
      refine Hd.seq (fun K10 hK10 => ?_)
      refine Hd.quiet mixed (by kernel_rfl) ?_
      refine Hq.yv (y_move rfl) ?_
      refine Hq.yv (y_move rfl) ?_
      refine Hq.yv (y_idxR Try.underlying43 sz40 rfl rfl hi h1) ?_
      refine Hq.yv (y_loadRn (vs := encPo xs[i]) ag40 rfl h1 (flat_cells encPo 2 (fun _ => rfl) hgx) (by exact sz40) (by simp)) ?_
      refine Hq.yv (y_move rfl) ?_
      refine Hq.yv (y_move rfl) ?_
      refine Hq.yv (y_idxR Try.underlying43 sz40 rfl rfl hi2 h2) ?_
      refine Hq.yv (y_loadRn (vs := encPo ys[i]) ag40 rfl h2 (flat_cells encPo 2 (fun _ => rfl) hgy) (by exact sz40) (by simp)) ?_
      refine Hq.yv (y_to (v' := .bool (decide (xs[i] ≠ ys[i]))) (y_neq_agg rfl rfl eqt40 rfl ⟨rfl, rfl⟩) (by (congr 1; simp [allEq, eqv, Prod.ext_iff]))) ?_
      refine Hq.nil ?_
      refine Hd.slots [(0, _), (1, _), (5, _), (25, _)] ⟨rfl, rfl, rfl, rfl, trivial⟩ ?_
      refine Hd.toK hK10 ?_
      refine Hd.cond rfl (fun hc2 => ?_) (fun hc2 => ?_)
      ·
        try simp only [decide_eq_true_eq, decide_eq_false_iff_not, Bool.and_eq_true, Bool.or_eq_true, Bool.and_eq_false_iff, Bool.or_eq_false_iff, Bool.not_eq_true', Bool.not_eq_false', Bool.not_eq_true, Bool.not_eq_false, Int.not_lt, Int.not_le, Decidable.not_not, ne_eq] at hc2
        refine Hd.seq (fun K11 hK11 => ?_)
        refine Hd.region ?_
        refine Hd.yv (y_assign rfl) ?_
        refine Hd.nil ?_
        refine Hd.slots [(4, _)] ⟨rfl, trivial⟩ ?_
        refine Hd.toK hK11 ?_
        refine Hd.ret ?_
        refine Hd.inBret ?_
        refine Hd.thenRet ?_
        refine Hd.thenRet ?_
        refine Hd.inBret ?_
        refine Hd.thenRet ?_
        clear hK1 hK2 hK3 hK5 hK6 hK7 hK8 hK9 hK10 hK11
        have hne : xs ≠ ys := fun e => hc2 (by subst e; rfl)
        rw [decide_eq_false hne]
        exact Hd.ret1 rfl () rfl (Ent.sep enn)
      ·
        try simp only [decide_eq_true_eq, decide_eq_false_iff_not, Bool.and_eq_true, Bool.or_eq_true, Bool.and_eq_false_iff, Bool.or_eq_false_iff, Bool.not_eq_true', Bool.not_eq_false', Bool.not_eq_true, Bool.not_eq_false, Int.not_lt, Int.not_le, Decidable.not_not, ne_eq] at hc2
        refine Hd.skip ?_
        refine Hd.inB ?_
        refine Hd.toK hK9 ?_
        refine Hd.region ?_
        refine Hd.yv (y_move rfl) ?_
        first | (refine Hd.yv (y_addn rfl rfl (by simp only [InK]; omega)) ?_) | (refine Hd.yv (y_add rfl rfl) ?_)
        refine Hd.yv (y_assign rfl) ?_
        refine Hd.nil ?_
        refine Hd.slots [(0, _), (1, _), (5, _)] ⟨rfl, rfl, rfl, trivial⟩ ?_
        clear hK1 hK2 hK3 hK5 hK6 hK7 hK8 hK9 hK10
        refine Hd.thenN ?_
        have ht : xs.take (i + 1) = ys.take (i + 1) := by
          rw [List.take_add_one, List.take_add_one, hgx, hgy, hp0.2, hc2]
        exact Hd.again (i + 1) (by first | omega | (simp only; omega) | (simp; omega)) (by repeat (first | exact trivial | refine ⟨rfl, ?_⟩)) (Ent.sep (.pure ⟨hi, ht⟩ enn))
    ·
      try simp only [decide_eq_true_eq, decide_eq_false_iff_not, Bool.and_eq_true, Bool.or_eq_true, Bool.and_eq_false_iff, Bool.or_eq_false_iff, Bool.not_eq_true', Bool.not_eq_false', Bool.not_eq_true, Bool.not_eq_false, Int.not_lt, Int.not_le, Decidable.not_not, ne_eq] at hc1
      refine Hd.exit ?_
      refine Hd.thenExit ?_
      refine Hd.thenExit ?_
      refine Hd.inBexit ?_
      refine Hd.toK hK5 ?_
      refine Hd.seq (fun K12 hK12 => ?_)
      refine Hd.region ?_
      refine Hd.yv (y_assign rfl) ?_
      refine Hd.nil ?_
      refine Hd.slots [(4, _)] ⟨rfl, trivial⟩ ?_
      refine Hd.toK hK12 ?_
      refine Hd.ret ?_
      clear hK1 hK2 hK3 hK5 hK6 hK7 hK8 hK12
      have he : xs = ys := by
        have := hp0.2
        rwa [List.take_of_length_le (by omega), List.take_of_length_le (by omega)] at this
      rw [decide_eq_true he]
      exact Hd.ret1 rfl () rfl (Ent.sep enn)
theorem polL_nil (f : Int → Option IxA) (w : WA) (most : Int) : polL f w most [] = (dueL f w).take most.toNat := by
  unfold polL
  rw [Sh.shuf_nil rfl]
set_option maxHeartbeats 2000000 in
theorem polls_ct (L : List SP) (pb wb mb : Nat) (limit : Int) (f : Int → Option IxA) (m : Nat) (hm : m ≤ 1000000) (w : WA) (ad : Option Addr) (c : Nat) (want : List (Int × Int)) (hR : RdS L 2 ad want.length (want.flatMap encPo)) (hb : want.length ≤ 1000000) : Ct Try.prog 13 #[.pointer (some ⟨pb, 0, none⟩), .slice ad want.length c] (EpB pb wb mb limit f m w L) (fun m' : Nat => .bool (decide ((dueL f w).take 9 = want))) (fun m' : Nat => pu (m' ≤ m + 9) :: EpB pb wb mb limit (offF w f ((dueL f w).take 9)) m' w L) := by
  refine Ct.of (vs := [.pointer (some ⟨pb, 0, none⟩), .slice ad want.length c]) Try.func13 rfl rfl [(0, .pointer (some ⟨pb, 0, none⟩)), (1, .slice ad want.length c)] (by repeat (first | exact trivial | refine ⟨rfl, ?_⟩)) ?_
  intro E
  show Hd E 19 _ _ _ _
  have hdl := dueL_len f w
  have hpn : polL f w 9 [] = (dueL f w).take 9 := polL_nil f w 9
  have h9 : (polL f w 9 []).length ≤ 9 := by rw [hpn, List.length_take]; omega
  refine Hd.seq (fun K1 hK1 => ?_)
  refine Hd.region ?_
  refine Hd.yv (y_assign rfl) ?_
  refine Hd.nil ?_
  refine Hd.slots [(0, _), (1, _)] ⟨rfl, rfl, trivial⟩ ?_
  refine Hd.toK hK1 ?_
  refine Hd.seq (fun K2 hK2 => ?_)
  refine Hd.region ?_
  refine Hd.yv (y_move rfl) ?_
  refine Hd.callE rfl fk16 (poll_ct _ pb wb mb limit f m hm w 9 (by decide) none 0 [] ?hD (by decide)) (Ent.sep enn) ?_
  case hD => exact RdS.none _ _ _
  rintro ⟨ad2, c2, m2⟩
  dsimp only
  refine Hd.pure (fun hm2 => ?_)
  rw [hpn] at h9 ⊢
  refine Hd.yv (y_move rfl) ?_
  refine Hd.yv (y_to (v' := .slice ad2 ((dueL f w).take 9).length c2) (y_extract rfl rfl) (by rfl)) ?_
  refine Hd.yv (y_to (v' := .int .i64 0) (y_extract rfl rfl) (by rfl)) ?_
  refine Hd.yv (y_assign rfl) ?_
  refine Hd.yv (y_assign rfl) ?_
  refine Hd.nil ?_
  refine Hd.slots [(1, _), (5, _), (6, _)] ⟨rfl, rfl, rfl, trivial⟩ ?_
  refine Hd.toK hK2 ?_
  refine Hd.seq (fun K3 hK3 => ?_)
  refine Hd.region ?_
  refine Hd.yv (y_move rfl) ?_
  first | (refine Hd.yv (y_eqlT rfl rfl) ?_) | (refine Hd.yv (y_eql rfl rfl) ?_)
  refine Hd.yv (y_move rfl) ?_
  apply Hd.andg 4 14 18 [] rfl trivial
  · intro hg2_14
    try simp only [decide_eq_true_eq, decide_eq_false_iff_not, Bool.and_eq_true, Bool.or_eq_true, Bool.and_eq_false_iff, Bool.or_eq_false_iff, Bool.not_eq_true', Bool.not_eq_false', Bool.not_eq_true, Bool.not_eq_false, Int.not_lt, Int.not_le, Decidable.not_not, ne_eq] at hg2_14
    simp only [List.take]
    refine Hd.yg rfl rfl (y_move rfl) ?_
    refine Hd.yg rfl rfl (y_move rfl) ?_
    refine Hd.unguard rfl rfl ?_
    refine Hd.callE rfl fk44 (same15_ct _ ad2 c2 ((dueL f w).take 9) ?hA (by omega) ad c want ?hB hb) (Ent.sep enn) ?_
    case hA => exact RdS.own pkk
    case hB => exact RdS.mono hR (Ent.sep enn)
    intro _
    first | (refine Hd.yv (y_pickT rfl rfl) ?_) | (refine Hd.yv (y_pickF rfl rfl) ?_) | (refine Hd.yv (y_pickb rfl rfl rfl) ?_) | (refine Hd.yv (y_pick rfl rfl rfl) ?_)
    refine Hd.nil ?_
    exact Hd.mend (by repeat (first | exact trivial | refine ⟨rfl, ?_⟩)) (Ent.sep enn)
  · intro hg2_14
    try simp only [decide_eq_true_eq, decide_eq_false_iff_not, Bool.and_eq_true, Bool.or_eq_true, Bool.and_eq_false_iff, Bool.or_eq_false_iff, Bool.not_eq_true', Bool.not_eq_false', Bool.not_eq_true, Bool.not_eq_false, Int.not_lt, Int.not_le, Decidable.not_not, ne_eq] at hg2_14
    simp only [List.take]
    refine Hd.ng rfl rfl rfl ?_
    refine Hd.ng rfl rfl rfl ?_
    refine Hd.ng rfl rfl rfl ?_
    first | (refine Hd.yv (y_pickT rfl rfl) ?_) | (refine Hd.yv (y_pickF rfl rfl) ?_) | (refine Hd.yv (y_pickb rfl rfl rfl) ?_) | (refine Hd.yv (y_pick rfl rfl rfl) ?_)
    refine Hd.nil ?_
    exact Hd.mend (by repeat (first | exact trivial | refine ⟨rfl, ?_⟩)) (Ent.sep enn)
  simp only [List.drop]
  refine Hd.yv (y_to (v' := .bool (decide ((dueL f w).take 9 = want))) (y_assign rfl) (by simp)) ?_
  refine Hd.nil ?_
  refine Hd.slots [(4, _)] ⟨rfl, trivial⟩ ?_
  refine Hd.toK hK3 ?_
  refine Hd.ret ?_
  clear hK1 hK2 hK3
  exact Hd.ret1 rfl m2 rfl (Ent.sep (.pure (by rw [hpn] at hm2; omega) enn))
def w1A : WA := mkW newA 1 (connW 8)
def w2A : WA := (putR w1A 0 [97]).2
def f1A : Int → Option IxA := updF f0 0 (some (addX w1A 0 5))
def f2A : Int → Option IxA := offF w1A f1A [(0, 4)]
theorem al_ctl : ctlR 9 f0 w1A 1 0 5 = (0, f1A) := by
  unfold ctlR
  rw [if_neg (by decide +kernel), if_neg (by decide +kernel), if_neg (by decide +kernel), if_neg (by decide +kernel), if_pos rfl]; rfl
theorem al_d1 : (dueL f1A w1A).take 9 = [(0, 4)] := by decide +kernel
theorem al_d2 : (dueL f2A w2A).take 9 = [(0, 5)] := by decide +kernel
theorem al_d3 : (dueL (offF w2A f2A [(0, 5)]) w2A).take 9 = [(0, 5)] := by decide +kernel
theorem al_p : putR w1A 0 [97] = ((1, 0), w2A) := by
  have h1 : (putR w1A 0 [97]).1 = (1, 0) := by decide +kernel
  exact Prod.ext h1 rfl
set_option maxHeartbeats 2000000 in
theorem alive15_ct (L : List SP) : Ct Try.prog 6 #[] (L) (fun _ : Unit => .bool true) (fun _ : Unit => L) := by
  refine Ct.of (vs := []) Try.func6 rfl rfl [] (by repeat (first | exact trivial | refine ⟨rfl, ?_⟩)) ?_
  intro E
  show Hd E 47 _ _ _ _
  refine Hd.seq (fun K1 hK1 => ?_)
  refine Hd.region ?_
  refine Hd.yv (y_assign rfl) ?_
  refine Hd.nil ?_
  refine Hd.slots [] trivial ?_
  refine Hd.toK hK1 ?_
  refine Hd.seq (fun K2 hK2 => ?_)
  refine Hd.region ?_
  refine Hd.callE rfl fk8 (wnew_ct _) (Ent.sep enn) ?_
  intro wb
  refine Hd.yv (y_assign rfl) ?_
  refine Hd.nil ?_
  refine Hd.slots [(1, _)] ⟨rfl, trivial⟩ ?_
  refine Hd.toK hK2 ?_
  refine Hd.seq (fun K3 hK3 => ?_)
  refine Hd.region ?_
  refine Hd.yv (y_move rfl) ?_
  refine Hd.callE rfl fk9 (outer_mk _ wb newA 8 (by decide) (by decide)) (Ent.sep enn) ?_
  intro _
  rw [show mkW newA 1 (connW 8) = w1A from rfl]
  refine Hd.nil ?_
  refine Hd.slots [(1, _)] ⟨rfl, trivial⟩ ?_
  refine Hd.toK hK3 ?_
  refine Hd.seq (fun K4 hK4 => ?_)
  refine Hd.region ?_
  refine Hd.yv (y_move rfl) ?_
  refine Hd.callE rfl fk10 (enew_ct _ wb 9 (by decide)) (Ent.sep enn) ?_
  rintro ⟨pb, mb⟩
  dsimp only
  refine Hd.yv (y_move rfl) ?_
  refine Hd.yv (y_to (v' := .pointer (some ⟨pb, 0, none⟩)) (y_extract rfl rfl) (by rfl)) ?_
  refine Hd.yv (y_to (v' := .int .i64 0) (y_extract rfl rfl) (by rfl)) ?_
  refine Hd.yv (y_assign rfl) ?_
  refine Hd.yv (y_assign rfl) ?_
  refine Hd.nil ?_
  refine Hd.slots [(1, _), (2, _), (3, _)] ⟨rfl, rfl, rfl, trivial⟩ ?_
  refine Hd.toK hK4 ?_
  refine Hd.seq (fun K5 hK5 => ?_)
  refine Hd.region ?_
  refine Hd.yv (y_move rfl) ?_
  refine Hd.callE rfl fk11 (ctl_ct _ pb wb mb 9 f0 0 (by decide) w1A 1 0 5) (Ent.sep enn) ?_
  intro m1
  rw [al_ctl]
  refine Hd.pure (fun hm1 => ?_)
  refine Hd.yv (y_to (v' := .int .i64 0) (y_assign rfl) (by rfl)) ?_
  refine Hd.nil ?_
  refine Hd.slots [(1, _), (2, _), (3, _), (4, _)] ⟨rfl, rfl, rfl, rfl, trivial⟩ ?_
  refine Hd.toK hK5 ?_
  refine Hd.seq (fun K6 hK6 => ?_)
  refine Hd.region ?_
  refine Hd.yv (y_move rfl) ?_
  refine Hd.yv (y_build (vs := [(0, _), (1, _)]) rfl (by first | exact bd6_18 .. | kernel_rfl)) ?_
  refine Hd.bslice (vs := [(0, _)]) rfl (by first | exact bs6_19 .. | kernel_rfl) (fun b19 => ?_)
  refine Hd.callE rfl fk13 (polls_ct _ pb wb mb 9 f1A m1 (by omega) w1A (some ⟨b19, 0, none⟩) 1 [(0, 4)] ?hD (by decide)) (Ent.sep enn) ?_
  case hD => exact RdS.rd (Rd.pt pkk (fun j v e => by rw [Nat.zero_add]; exact e)) rfl
  intro m2
  rw [al_d1, show offF w1A f1A [(0, 4)] = f2A from rfl]
  refine Hd.pure (fun hm2 => ?_)
  refine Hd.yv (y_to (v' := .bool true) (y_assign rfl) (by rfl)) ?_
  refine Hd.nil ?_
  refine Hd.slots [(1, _), (2, _), (3, _), (4, _), (5, _)] ⟨rfl, rfl, rfl, rfl, rfl, trivial⟩ ?_
  refine Hd.toK hK6 ?_
  refine Hd.seq (fun K7 hK7 => ?_)
  refine Hd.region ?_
  refine Hd.yv (y_move rfl) ?_
  refine Hd.bslice (vs := [(0, _)]) rfl (by first | exact bs6_22 .. | kernel_rfl) (fun b22 => ?_)
  refine Hd.convSS (e := 5) (by kernel_rfl) rfl pkk rfl (by first | decide | (simp [maxLen])) ?_
  refine Hd.callE rfl fk12 (wput_ct _ wb w1A 0 (some ⟨b22, 0, none⟩) 1 1 [97] rfl ?hD (by decide) (by decide)) (Ent.sep enn) ?_
  case hD => exact RdS.own (us := [.int .u8 97]) pkk
  intro _
  rw [al_p]
  refine Hd.nil ?_
  refine Hd.slots [(2, _), (3, _), (4, _), (5, _)] ⟨rfl, rfl, rfl, rfl, trivial⟩ ?_
  refine Hd.toK hK7 ?_
  refine Hd.seq (fun K8 hK8 => ?_)
  refine Hd.region ?_
  refine Hd.yv (y_build (vs := [(0, _), (1, _)]) rfl (by first | exact bd6_25 .. | kernel_rfl)) ?_
  refine Hd.alloc zr40 (fun b6 => ?_)
  first | (refine Hd.storeA (us := [_, _]) sz40 rfl rfl rfl (by simp [Value.oneCell']) pkk rfl ?_) | (refine Hd.store (us := [_, _]) sz40 rfl rfl rfl (by simp [Value.oneCell']) pkk (by simp) ?_)
  try simp only [List.set_cons_zero, List.set_cons_succ]
  refine Hd.nil ?_
  refine Hd.slots [(2, _), (3, _), (4, _), (5, _), (6, _)] ⟨rfl, rfl, rfl, rfl, rfl, trivial⟩ ?_
  refine Hd.toK hK8 ?_
  refine Hd.seq (fun K9 hK9 => ?_)
  refine Hd.region ?_
  refine Hd.yv (y_move rfl) ?_
  first | (refine Hd.yv (y_eqlT rfl rfl) ?_) | (refine Hd.yv (y_eql rfl rfl) ?_)
  refine Hd.yv (y_move rfl) ?_
  refine Hd.yg rfl rfl (y_move rfl) ?_
  first | (refine Hd.yg rfl rfl (y_eqlT rfl rfl) ?_) | (refine Hd.yg rfl rfl (y_eql rfl rfl) ?_)
  first | (refine Hd.yv (y_pickT rfl rfl) ?_) | (refine Hd.yv (y_pickF rfl rfl) ?_) | (refine Hd.yv (y_pickb rfl rfl rfl) ?_) | (refine Hd.yv (y_pick rfl rfl rfl) ?_)
  refine Hd.yv (y_move rfl) ?_
  refine Hd.yg rfl rfl (y_move rfl) ?_
  first | (refine Hd.yv (y_pickT rfl rfl) ?_) | (refine Hd.yv (y_pickF rfl rfl) ?_) | (refine Hd.yv (y_pickb rfl rfl rfl) ?_) | (refine Hd.yv (y_pick rfl rfl rfl) ?_)
  refine Hd.yv (y_move rfl) ?_
  refine Hd.yg rfl rfl (y_move rfl) ?_
  first | (refine Hd.yg rfl rfl (y_loadn (us := [_, _]) ag40 rfl (Rd.pt pkk (by (first | (intro j v e; rcases j with _|_|_|_|_|_|_|_|_|_|_|_|j <;> first | exact e | exact absurd e (by simp))))) (by exact sz40)) ?_) | (refine Hd.yg rfl rfl (y_loadn (us := [_, _]) ag40 rfl (Rd.seg pkk (by (first | (intro j v e; rcases j with _|_|_|_|_|_|_|_|_|_|_|_|j <;> first | exact e | exact absurd e (by simp))))) (by exact sz40)) ?_) | (refine Hd.yg rfl rfl (y_loadRn ag40 rfl (by (first | exact RdS.own pkk)) (by (first | (intro j v e; rcases j with _|_|_|_|_|_|_|_|_|_|_|_|j <;> first | exact e | exact absurd e (by simp)))) (by exact sz40) (by simp)) ?_)
  refine Hd.unguard rfl rfl ?_
  refine Hd.bslice (vs := [(0, _)]) rfl (by first | exact bs6_38 .. | kernel_rfl) (fun b38 => ?_)
  refine Hd.unguard rfl rfl ?_
  refine Hd.callE rfl fk13 (polls_ct _ pb wb mb 9 f2A m2 (by omega) w2A (some ⟨b38, 0, none⟩) 1 [(0, 5)] ?hD (by decide)) (Ent.sep enn) ?_
  case hD => exact RdS.rd (Rd.pt pkk (fun j v e => by rw [Nat.zero_add]; exact e)) rfl
  intro m3
  rw [al_d2]
  refine Hd.pure (fun hm3 => ?_)
  first | (refine Hd.yv (y_pickT rfl rfl) ?_) | (refine Hd.yv (y_pickF rfl rfl) ?_) | (refine Hd.yv (y_pickb rfl rfl rfl) ?_) | (refine Hd.yv (y_pick rfl rfl rfl) ?_)
  refine Hd.yv (y_move rfl) ?_
  refine Hd.yg rfl rfl (y_move rfl) ?_
  first | (refine Hd.yg rfl rfl (y_loadn (us := [_, _]) ag40 rfl (Rd.pt pkk (by (first | (intro j v e; rcases j with _|_|_|_|_|_|_|_|_|_|_|_|j <;> first | exact e | exact absurd e (by simp))))) (by exact sz40)) ?_) | (refine Hd.yg rfl rfl (y_loadn (us := [_, _]) ag40 rfl (Rd.seg pkk (by (first | (intro j v e; rcases j with _|_|_|_|_|_|_|_|_|_|_|_|j <;> first | exact e | exact absurd e (by simp))))) (by exact sz40)) ?_) | (refine Hd.yg rfl rfl (y_loadRn ag40 rfl (by (first | exact RdS.own pkk)) (by (first | (intro j v e; rcases j with _|_|_|_|_|_|_|_|_|_|_|_|j <;> first | exact e | exact absurd e (by simp)))) (by exact sz40) (by simp)) ?_)
  refine Hd.unguard rfl rfl ?_
  refine Hd.bslice (vs := [(0, _)]) rfl (by first | exact bs6_44 .. | kernel_rfl) (fun b44 => ?_)
  refine Hd.unguard rfl rfl ?_
  refine Hd.callE rfl fk13 (polls_ct _ pb wb mb 9 (offF w2A f2A [(0, 5)]) m3 (by omega) w2A (some ⟨b44, 0, none⟩) 1 [(0, 5)] ?hD (by decide)) (Ent.sep enn) ?_
  case hD => exact RdS.rd (Rd.pt pkk (fun j v e => by rw [Nat.zero_add]; exact e)) rfl
  intro m4
  rw [al_d3]
  refine Hd.pure (fun hm4 => ?_)
  first | (refine Hd.yv (y_pickT rfl rfl) ?_) | (refine Hd.yv (y_pickF rfl rfl) ?_) | (refine Hd.yv (y_pickb rfl rfl rfl) ?_) | (refine Hd.yv (y_pick rfl rfl rfl) ?_)
  refine Hd.yv (y_assign rfl) ?_
  refine Hd.nil ?_
  refine Hd.slots [(0, _)] ⟨rfl, trivial⟩ ?_
  refine Hd.toK hK9 ?_
  refine Hd.ret ?_
  clear hK1 hK2 hK3 hK4 hK5 hK6 hK7 hK8 hK9
  exact Hd.ret1 rfl () rfl (Ent.sep enn)
end Ep
end Go.Proofs.Ytbfddabjbkohdaa
namespace Go.Proofs.Ytbfddabjbkohdaa
set_option linter.unusedSimpArgs false
set_option linter.unusedVariables false
set_option linter.unnecessarySimpa false
open Go.RX Fx
namespace Ep
open Wo
set_option maxRecDepth 8000
abbrev EpZ (b : Nat) : SP := pt b [.pointer none, .int .i64 0, .map none] 51
set_option maxHeartbeats 2000000 in
theorem enone_z (L : List SP) (b : Nat) : Ct Try.prog 36 #[.pointer (some ⟨b, 0, none⟩)] (EpZ b :: L) (fun _ : Unit => .bool true) (fun _ : Unit => EpZ b :: L) := by
  refine Ct.of (vs := [.pointer (some ⟨b, 0, none⟩)]) Try.func36 rfl rfl [(0, .pointer (some ⟨b, 0, none⟩))] (by repeat (first | exact trivial | refine ⟨rfl, ?_⟩)) ?_
  intro E
  show Hd E 12 _ _ _ _
  refine Hd.seq (fun K1 hK1 => ?_)
  refine Hd.region ?_
  refine Hd.yv (y_assign rfl) ?_
  refine Hd.nil ?_
  refine Hd.slots [(0, _)] ⟨rfl, trivial⟩ ?_
  refine Hd.toK hK1 ?_
  refine Hd.seq (fun K2 hK2 => ?_)
  refine Hd.region ?_
  refine Hd.yv (y_move rfl) ?_
  first | (refine Hd.yv (y_eql_pointer Try.underlying32 rfl rfl) ?_) | (refine Hd.yv (y_eql_one Try.underlying32 sz51 rfl rfl rfl) ?_)
  refine Hd.yv (y_move rfl) ?_
  refine Hd.yg rfl rfl (y_move rfl) ?_
  refine Hd.yg rfl rfl (y_nilp rfl) ?_
  first | (refine Hd.yg rfl rfl (y_field' (q := 0) (ft := 27) Try.underlying51 rfl sz27 rfl rfl) ?_) | (refine Hd.yg rfl rfl (y_fieldR (q := 0) (ft := 27) Try.underlying51 rfl sz27 rfl rfl) ?_)
  first | (refine Hd.yg rfl rfl (y_load1 ag27 rfl (Rd.pt1 pkk (by (first | rfl)))) ?_) | (refine Hd.yg rfl rfl (y_load1 ag27 rfl (Rd.seg1 pkk (by (first | rfl)))) ?_) | (refine Hd.yg rfl rfl (y_loadR1 ag27 rfl (by (first | exact RdS.own pkk)) (by (first | rfl))) ?_)
  first | (refine Hd.yg rfl rfl (y_eql_pointer Try.underlying27 rfl rfl) ?_) | (refine Hd.yg rfl rfl (y_eql_one Try.underlying27 sz80 rfl rfl rfl) ?_)
  first | (refine Hd.yv (y_pickT rfl rfl) ?_) | (refine Hd.yv (y_pickF rfl rfl) ?_) | (refine Hd.yv (y_pickb rfl rfl rfl) ?_) | (refine Hd.yv (y_pick rfl rfl rfl) ?_)
  refine Hd.yv (y_assign rfl) ?_
  refine Hd.nil ?_
  refine Hd.slots [(2, _)] ⟨rfl, trivial⟩ ?_
  refine Hd.toK hK2 ?_
  refine Hd.ret ?_
  clear hK1 hK2
  exact Hd.ret1 rfl () (by first | rfl | (simp only [*]; done) | (simp [*]; done)) (Ent.sep enn)
set_option maxHeartbeats 2000000 in
theorem enew_nil (L : List SP) (limit : Int) : Ct Try.prog 10 #[.pointer none, .int .i64 limit] (L) (fun _ : Unit => .tuple #[.pointer none, .int .i64 1]) (fun _ : Unit => L) := by
  refine Ct.of (vs := [.pointer none, .int .i64 limit]) Try.func10 rfl rfl [(0, .pointer none), (1, .int .i64 limit)] (by repeat (first | exact trivial | refine ⟨rfl, ?_⟩)) ?_
  intro E
  show Hd E 17 _ _ _ _
  refine Hd.seq (fun K1 hK1 => ?_)
  refine Hd.region ?_
  refine Hd.yv (y_assign rfl) ?_
  refine Hd.yv (y_assign rfl) ?_
  refine Hd.nil ?_
  refine Hd.slots [(0, _), (1, _)] ⟨rfl, rfl, trivial⟩ ?_
  refine Hd.toK hK1 ?_
  refine Hd.seq (fun K2 hK2 => ?_)
  refine Hd.block ?_
  refine Hd.seq (fun K3 hK3 => ?_)
  refine Hd.region ?_
  refine Hd.yv (y_move rfl) ?_
  first | (refine Hd.yv (y_eql_pointer Try.underlying27 rfl rfl) ?_) | (refine Hd.yv (y_eql_one Try.underlying27 sz80 rfl rfl rfl) ?_)
  refine Hd.yv (y_assign rfl) ?_
  refine Hd.nil ?_
  refine Hd.slots [(0, _), (1, _), (6, _)] ⟨rfl, rfl, rfl, trivial⟩ ?_
  refine Hd.toK hK3 ?_
  refine Hd.condT rfl ?_
  refine Hd.seq (fun K4 hK4 => ?_)
  refine Hd.region ?_
  refine Hd.yv (y_assign rfl) ?_
  refine Hd.yv (y_assign rfl) ?_
  refine Hd.nil ?_
  refine Hd.slots [(4, _), (5, _)] ⟨rfl, rfl, trivial⟩ ?_
  refine Hd.toK hK4 ?_
  refine Hd.ret ?_
  refine Hd.inBret ?_
  refine Hd.thenRet ?_
  clear hK1 hK2 hK3 hK4
  exact Hd.ret2 rfl () rfl rfl rfl (Ent.sep enn)
set_option maxHeartbeats 2000000 in
theorem enew_bad (L : List SP) (wb : Nat) (limit : Int) (h : limit < 0) : Ct Try.prog 10 #[.pointer (some ⟨wb, 0, none⟩), .int .i64 limit] (L) (fun _ : Unit => .tuple #[.pointer none, .int .i64 2]) (fun _ : Unit => L) := by
  refine Ct.of (vs := [.pointer (some ⟨wb, 0, none⟩), .int .i64 limit]) Try.func10 rfl rfl [(0, .pointer (some ⟨wb, 0, none⟩)), (1, .int .i64 limit)] (by repeat (first | exact trivial | refine ⟨rfl, ?_⟩)) ?_
  intro E
  show Hd E 17 _ _ _ _
  refine Hd.seq (fun K1 hK1 => ?_)
  refine Hd.region ?_
  refine Hd.yv (y_assign rfl) ?_
  refine Hd.yv (y_assign rfl) ?_
  refine Hd.nil ?_
  refine Hd.slots [(0, _), (1, _)] ⟨rfl, rfl, trivial⟩ ?_
  refine Hd.toK hK1 ?_
  refine Hd.seq (fun K2 hK2 => ?_)
  refine Hd.block ?_
  refine Hd.seq (fun K3 hK3 => ?_)
  refine Hd.region ?_
  refine Hd.yv (y_move rfl) ?_
  first | (refine Hd.yv (y_eql_pointer Try.underlying27 rfl rfl) ?_) | (refine Hd.yv (y_eql_one Try.underlying27 sz80 rfl rfl rfl) ?_)
  refine Hd.yv (y_assign rfl) ?_
  refine Hd.nil ?_
  refine Hd.slots [(0, _), (1, _), (6, _)] ⟨rfl, rfl, rfl, trivial⟩ ?_
  refine Hd.toK hK3 ?_
  refine Hd.condF rfl ?_
  refine Hd.seq (fun K4 hK4 => ?_)
  refine Hd.region ?_
  refine Hd.yv (y_move rfl) ?_
  refine Hd.yv (y_lss rfl rfl) ?_
  refine Hd.yv (y_assign rfl) ?_
  refine Hd.nil ?_
  refine Hd.slots [(0, _), (1, _), (9, _)] ⟨rfl, rfl, rfl, trivial⟩ ?_
  refine Hd.toK hK4 ?_
  refine Hd.cond rfl (fun hc1 => ?_) (fun hc1 => ?_)
  ·
    try simp only [decide_eq_true_eq, decide_eq_false_iff_not, Bool.and_eq_true, Bool.or_eq_true, Bool.and_eq_false_iff, Bool.or_eq_false_iff, Bool.not_eq_true', Bool.not_eq_false', Bool.not_eq_true, Bool.not_eq_false, Int.not_lt, Int.not_le, Decidable.not_not, ne_eq] at hc1
    refine Hd.seq (fun K5 hK5 => ?_)
    refine Hd.region ?_
    refine Hd.yv (y_assign rfl) ?_
    refine Hd.yv (y_assign rfl) ?_
    refine Hd.nil ?_
    refine Hd.slots [(4, _), (5, _)] ⟨rfl, rfl, trivial⟩ ?_
    refine Hd.toK hK5 ?_
    refine Hd.ret ?_
    refine Hd.inBret ?_
    refine Hd.thenRet ?_
    clear hK1 hK2 hK3 hK4 hK5
    exact Hd.ret2 rfl () rfl rfl rfl (Ent.sep enn)
  ·
    try simp only [decide_eq_true_eq, decide_eq_false_iff_not, Bool.and_eq_true, Bool.or_eq_true, Bool.and_eq_false_iff, Bool.or_eq_false_iff, Bool.not_eq_true', Bool.not_eq_false', Bool.not_eq_true, Bool.not_eq_false, Int.not_lt, Int.not_le, Decidable.not_not, ne_eq] at hc1
    omega
set_option maxHeartbeats 2000000 in
theorem poll_nil (L : List SP) (most : Int) (v : Value) : Ct Try.prog 16 #[.pointer none, .int .i64 most, v] (L) (fun _ : Unit => .tuple #[.slice none 0 0, .int .i64 1]) (fun _ : Unit => L) := by
  refine Ct.of (vs := [.pointer none, .int .i64 most, v]) Try.func16 rfl rfl [(0, .pointer none), (1, .int .i64 most), (2, v)] (by repeat (first | exact trivial | refine ⟨rfl, ?_⟩)) ?_
  intro E
  show Hd E 72 _ _ _ _
  refine Hd.seq (fun K1 hK1 => ?_)
  refine Hd.region ?_
  refine Hd.yv (y_assign rfl) ?_
  refine Hd.yv (y_assign rfl) ?_
  refine Hd.nil ?_
  refine Hd.slots [(0, _), (1, _), (2, _)] ⟨rfl, rfl, rfl, trivial⟩ ?_
  refine Hd.toK hK1 ?_
  refine Hd.seq (fun K2 hK2 => ?_)
  refine Hd.block ?_
  refine Hd.seq (fun K3 hK3 => ?_)
  refine Hd.region ?_
  refine Hd.yv (y_move rfl) ?_
  refine Hd.callE rfl fk36 (enone_nil _) (Ent.sep enn) ?_
  intro _
  refine Hd.yv (y_assign rfl) ?_
  refine Hd.nil ?_
  refine Hd.slots [(0, _), (1, _), (2, _), (13, _)] ⟨rfl, rfl, rfl, rfl, trivial⟩ ?_
  refine Hd.toK hK3 ?_
  refine Hd.condT rfl ?_
  refine Hd.seq (fun K4 hK4 => ?_)
  refine Hd.region ?_
  refine Hd.yv (y_assign rfl) ?_
  refine Hd.yv (y_assign rfl) ?_
  refine Hd.nil ?_
  refine Hd.slots [(6, _), (7, _)] ⟨rfl, rfl, trivial⟩ ?_
  refine Hd.toK hK4 ?_
  refine Hd.ret ?_
  refine Hd.inBret ?_
  refine Hd.thenRet ?_
  clear hK1 hK2 hK3 hK4
  exact Hd.ret2 rfl () rfl rfl rfl (Ent.sep enn)
set_option maxHeartbeats 2000000 in
theorem ctl_z (L : List SP) (b : Nat) (op fd ev : Int) : Ct Try.prog 11 #[.pointer (some ⟨b, 0, none⟩), .int .i64 op, .int .i64 fd, .int .i64 ev] (EpZ b :: L) (fun _ : Unit => .int .i64 1) (fun _ : Unit => EpZ b :: L) := by
  refine Ct.of (vs := [.pointer (some ⟨b, 0, none⟩), .int .i64 op, .int .i64 fd, .int .i64 ev]) Try.func11 rfl rfl [(0, .pointer (some ⟨b, 0, none⟩)), (1, .int .i64 op), (2, .int .i64 fd), (3, .int .i64 ev)] (by repeat (first | exact trivial | refine ⟨rfl, ?_⟩)) ?_
  intro E
  show Hd E 132 _ _ _ _
  refine Hd.seq (fun K1 hK1 => ?_)
  refine Hd.region ?_
  refine Hd.yv (y_assign rfl) ?_
  refine Hd.nil ?_
  refine Hd.slots [(0, _), (1, _), (2, _), (3, _)] ⟨rfl, rfl, rfl, rfl, trivial⟩ ?_
  refine Hd.toK hK1 ?_
  refine Hd.seq (fun K2 hK2 => ?_)
  refine Hd.block ?_
  refine Hd.seq (fun K3 hK3 => ?_)
  refine Hd.region ?_
  refine Hd.yv (y_move rfl) ?_
  refine Hd.callE rfl fk36 (enone_z _ b) (Ent.sep enn) ?_
  intro _
  refine Hd.yv (y_assign rfl) ?_
  refine Hd.nil ?_
  refine Hd.slots [(0, _), (1, _), (2, _), (3, _), (15, _)] ⟨rfl, rfl, rfl, rfl, rfl, trivial⟩ ?_
  refine Hd.toK hK3 ?_
  refine Hd.condT rfl ?_
  refine Hd.seq (fun K4 hK4 => ?_)
  refine Hd.region ?_
  refine Hd.yv (y_assign rfl) ?_
  refine Hd.nil ?_
  refine Hd.slots [(8, _)] ⟨rfl, trivial⟩ ?_
  refine Hd.toK hK4 ?_
  refine Hd.ret ?_
  refine Hd.inBret ?_
  refine Hd.thenRet ?_
  clear hK1 hK2 hK3 hK4
  exact Hd.ret1 rfl () rfl (Ent.sep enn)
set_option maxHeartbeats 2000000 in
theorem inter_z (L : List SP) (b : Nat) : Ct Try.prog 17 #[.pointer (some ⟨b, 0, none⟩)] (EpZ b :: L) (fun _ : Unit => .slice none 0 0) (fun _ : Unit => EpZ b :: L) := by
  refine Ct.of (vs := [.pointer (some ⟨b, 0, none⟩)]) Try.func17 rfl rfl [(0, .pointer (some ⟨b, 0, none⟩))] (by repeat (first | exact trivial | refine ⟨rfl, ?_⟩)) ?_
  intro E
  show Hd E 29 _ _ _ _
  refine Hd.seq (fun K1 hK1 => ?_)
  refine Hd.region ?_
  refine Hd.yv (y_assign rfl) ?_
  refine Hd.nil ?_
  refine Hd.slots [(0, _)] ⟨rfl, trivial⟩ ?_
  refine Hd.toK hK1 ?_
  refine Hd.seq (fun K2 hK2 => ?_)
  refine Hd.seq (fun K3 hK3 => ?_)
  refine Hd.region ?_
  refine Hd.yv (y_move rfl) ?_
  refine Hd.callE rfl fk36 (enone_z _ b) (Ent.sep enn) ?_
  intro _
  refine Hd.nil ?_
  refine Hd.slots [(0, _), (7, _)] ⟨rfl, rfl, trivial⟩ ?_
  refine Hd.toK hK3 ?_
  refine Hd.condT rfl ?_
  refine Hd.seq (fun K4 hK4 => ?_)
  refine Hd.region ?_
  refine Hd.yv (y_assign rfl) ?_
  refine Hd.nil ?_
  refine Hd.slots [(2, _)] ⟨rfl, trivial⟩ ?_
  refine Hd.toK hK4 ?_
  refine Hd.ret ?_
  refine Hd.thenRet ?_
  clear hK1 hK2 hK3 hK4
  exact Hd.ret1 rfl () rfl (Ent.sep enn)
set_option maxHeartbeats 2000000 in
theorem edue_nil (L : List SP) : Ct Try.prog 14 #[.pointer none] (L) (fun _ : Unit => .bool false) (fun _ : Unit => L) := by
  refine Ct.ofM (vs := [.pointer none]) Try.func14 rfl rfl [(0, .pointer none)] (by repeat (first | exact trivial | refine ⟨rfl, ?_⟩)) ?_
  intro E
  show Hd E 8 _ _ _ _
  refine Hd.seq (fun K1 hK1 => ?_)
  refine Hd.region ?_
  refine Hd.alloc zr4 (fun b2 => ?_)
  refine Hd.nil ?_
  refine Hd.slots [(0, _), (2, _)] ⟨rfl, rfl, trivial⟩ ?_
  refine Hd.toK hK1 ?_
  refine Hd.seq (fun K2 hK2 => ?_)
  refine Hd.seq (fun K3 hK3 => ?_)
  refine Hd.region ?_
  refine Hd.yv (y_move rfl) ?_
  refine Hd.callE rfl fk36 (enone_nil _) (Ent.sep enn) ?_
  intro _
  refine Hd.nil ?_
  refine Hd.slots [(0, _), (2, _), (4, _)] ⟨rfl, rfl, rfl, trivial⟩ ?_
  refine Hd.toK hK3 ?_
  refine Hd.condT rfl ?_
  refine Hd.seq (fun K4 hK4 => ?_)
  refine Hd.region ?_
  first | (refine Hd.store1 sz4 rfl rfl rfl pkk (by first | decide | (simp; done) | (simp; omega)) ?_) | (refine Hd.storeG1 sz4 rfl rfl rfl pkk (by first | decide | (simp; done) | (simp; omega)) ?_) | (refine Hd.storeO1 sz4 rfl rfl rfl pkk (by first | omega | (simp; done) | (simp; omega)) ?_)
  try simp only [List.set_cons_zero, List.set_cons_succ]
  refine Hd.nil ?_
  refine Hd.slots [(2, _)] ⟨rfl, trivial⟩ ?_
  refine Hd.toK hK4 ?_
  refine Hd.ret ?_
  refine Hd.thenRet ?_
  clear hK1 hK2 hK3 hK4
  exact Hd.retM (fun a fr => Lv.endC1 fr rfl () ag4 rfl (Rd.pt1 pkk rfl) rfl (Ent.sep enn))
end Ep
end Go.Proofs.Ytbfddabjbkohdaa
namespace Go.Proofs.Ytbfddabjbkohdaa
set_option linter.unusedSimpArgs false
set_option linter.unusedVariables false
set_option linter.unnecessarySimpa false
open Go.RX Fx
namespace Ep
open Wo
set_option maxRecDepth 8000
abbrev n1W : WA := mkW newA 1 (connW 8)
def n2W : WA := mkW n1W 1 (connW 8)
def n3W : WA := (putR n2W 0 [97]).2
def n4W : WA := (putR n3W 0 [98]).2
def n5W : WA := (closeF n4W 1).2
def n1F : Int → Option IxA := (ctlR 1 f0 n2W 1 0 1).2
def n2F : Int → Option IxA := (ctlR 1 n1F n3W 2 0 33).2
def n3F : Int → Option IxA := offF n3W n2F ((dueL n2F n3W).take 9)
def n4F : Int → Option IxA := offF n3W n3F ((dueL n3F n3W).take 9)
def n5F : Int → Option IxA := offF n4W n4F ((dueL n4F n4W).take 9)
def n6F : Int → Option IxA := (ctlR 1 n5F n4W 1 0 1).2
def n7F : Int → Option IxA := (ctlR 1 n6F n4W 3 5 0).2
def n8F : Int → Option IxA := (ctlR 1 n7F n4W 1 1 0).2
def n9F : Int → Option IxA := (ctlR 1 n8F n4W 2 1 0).2
def n10F : Int → Option IxA := (ctlR 1 n9F n4W 0 0 0).2
def n11F : Int → Option IxA := (ctlR 1 n10F n4W 2 0 2).2
def n12F : Int → Option IxA := (ctlR 1 n11F n4W 3 0 99).2
def n13F : Int → Option IxA := (ctlR 1 n12F n5W 2 1 1).2
theorem nm1 : (ctlR 1 f0 n2W 1 0 1).1 = 0 := by decide +kernel
theorem nm2 : (ctlR 1 n1F n3W 2 0 33).1 = 0 := by decide +kernel
theorem nm3 : (dueL n2F n3W).take 9 = [(0, 1)] := by decide +kernel
theorem nm4 : (dueL n3F n3W).take 9 = [] := by decide +kernel
theorem nm5 : (dueL n4F n3W).isEmpty = true := by decide +kernel
theorem nm6 : (dueL n4F n4W).isEmpty = false := by decide +kernel
theorem nm7 : (dueL n4F n4W).take 9 = [(0, 1)] := by decide +kernel
theorem nm8 : (ctlR 1 n5F n4W 1 0 1).1 = 150 := by decide +kernel
theorem nm9 : (ctlR 1 n6F n4W 3 5 0).1 = 110 := by decide +kernel
theorem nm10 : (ctlR 1 n7F n4W 1 1 0).1 = 152 := by decide +kernel
theorem nm11 : (ctlR 1 n8F n4W 2 1 0).1 = 151 := by decide +kernel
theorem nm12 : (ctlR 1 n9F n4W 0 0 0).1 = 2 := by decide +kernel
theorem nm13 : (ctlR 1 n10F n4W 2 0 2).1 = 2 := by decide +kernel
theorem nm14 : (ctlR 1 n11F n4W 3 0 99).1 = 0 := by decide +kernel
theorem nm15 : (ctlR 1 n12F n5W 2 1 1).1 = 110 := by decide +kernel
theorem nm16 : allL n13F n5W = [] := by decide +kernel
theorem nm17 : Sh.shufTo [2, 0] ([[97], [98], [99], [100]] : List (List UInt8)) ([[97], [98], [99], [100]] : List (List UInt8)).length = ([[99], [98], [97], [100]] : List (List UInt8)) := by decide +kernel
theorem nm18 : Sh.shufTo [-5, -5] ([[97], [98]] : List (List UInt8)) ([[97], [98]] : List (List UInt8)).length = ([[97], [98]] : List (List UInt8)) := by decide +kernel
set_option maxHeartbeats 2000000 in
theorem names15_ct (L : List SP) : Ct Try.prog 4 #[] (L) (fun _ : Unit => .bool true) (fun _ : Unit => L) := by
  refine Ct.of (vs := []) Try.func4 rfl rfl [] (by repeat (first | exact trivial | refine ⟨rfl, ?_⟩)) ?_
  intro E
  show Hd E 247 _ _ _ _
  refine Hd.seq (fun K1 hK1 => ?_)
  refine Hd.region ?_
  refine Hd.yv (y_assign rfl) ?_
  refine Hd.nil ?_
  refine Hd.slots [] trivial ?_
  refine Hd.toK hK1 ?_
  refine Hd.seq (fun K2 hK2 => ?_)
  refine Hd.region ?_
  refine Hd.callE rfl fk8 (wnew_ct _) (Ent.sep enn) ?_
  intro wb
  refine Hd.yv (y_assign rfl) ?_
  refine Hd.nil ?_
  refine Hd.slots [(1, _)] ⟨rfl, trivial⟩ ?_
  refine Hd.toK hK2 ?_
  refine Hd.seq (fun K3 hK3 => ?_)
  refine Hd.region ?_
  refine Hd.yv (y_move rfl) ?_
  refine Hd.callE rfl fk9 (outer_mk _ wb newA 8 (by decide) (by decide)) (Ent.sep enn) ?_
  intro _
  refine Hd.nil ?_
  refine Hd.slots [(1, _)] ⟨rfl, trivial⟩ ?_
  refine Hd.toK hK3 ?_
  refine Hd.seq (fun K4 hK4 => ?_)
  refine Hd.region ?_
  refine Hd.yv (y_move rfl) ?_
  refine Hd.callE rfl fk9 (outer_mk _ wb n1W 8 (by decide) (by decide)) (Ent.sep enn) ?_
  intro _
  rw [show mkW n1W 1 (connW 8) = n2W from rfl]
  refine Hd.nil ?_
  refine Hd.slots [(1, _)] ⟨rfl, trivial⟩ ?_
  refine Hd.toK hK4 ?_
  refine Hd.seq (fun K5 hK5 => ?_)
  refine Hd.region ?_
  refine Hd.yv (y_move rfl) ?_
  refine Hd.callE rfl fk10 (enew_ct _ wb 1 (by decide)) (Ent.sep enn) ?_
  rintro ⟨pb, mb⟩
  dsimp only
  refine Hd.yv (y_move rfl) ?_
  refine Hd.yv (y_to (v' := .pointer (some ⟨pb, 0, none⟩)) (y_extract rfl rfl) (by rfl)) ?_
  refine Hd.yv (y_to (v' := .int .i64 0) (y_extract rfl rfl) (by rfl)) ?_
  refine Hd.yv (y_assign rfl) ?_
  refine Hd.yv (y_assign rfl) ?_
  refine Hd.nil ?_
  refine Hd.slots [(1, _), (2, _)] ⟨rfl, rfl, trivial⟩ ?_
  refine Hd.toK hK5 ?_
  refine Hd.seq (fun K6 hK6 => ?_)
  refine Hd.region ?_
  refine Hd.yv (y_move rfl) ?_
  refine Hd.callE rfl fk11 (ctl_ct _ pb wb mb 1 f0 0 (by omega) n2W 1 0 1) (Ent.sep enn) ?_
  intro m1
  refine Hd.pure (fun hm1 => ?_)
  rw [nm1, show (ctlR 1 f0 n2W 1 0 1).2 = n1F from rfl]
  refine Hd.yv (y_assign rfl) ?_
  refine Hd.nil ?_
  refine Hd.slots [(1, _), (2, _), (4, _)] ⟨rfl, rfl, rfl, trivial⟩ ?_
  refine Hd.toK hK6 ?_
  refine Hd.seq (fun K7 hK7 => ?_)
  refine Hd.region ?_
  refine Hd.yv (y_move rfl) ?_
  refine Hd.bslice (vs := [(0, _)]) rfl (by first | exact bs4_42 .. | kernel_rfl) (fun b42 => ?_)
  refine Hd.convSS (e := 5) (by kernel_rfl) rfl pkk rfl (by first | decide | (simp [maxLen])) ?_
  refine Hd.callE rfl fk12 (wput_ct _ wb n2W 0 (some ⟨b42, 0, none⟩) 1 1 [97] rfl ?hD (by decide) (by decide)) (Ent.sep enn) ?_
  case hD => exact RdS.own (us := [.int .u8 97]) pkk
  intro _
  rw [show (putR n2W 0 [97]).2 = n3W from rfl]
  refine Hd.nil ?_
  refine Hd.slots [(1, _), (2, _), (4, _)] ⟨rfl, rfl, rfl, trivial⟩ ?_
  refine Hd.toK hK7 ?_
  refine Hd.seq (fun K8 hK8 => ?_)
  refine Hd.region ?_
  refine Hd.yv (y_move rfl) ?_
  refine Hd.callE rfl fk11 (ctl_ct _ pb wb mb 1 n1F m1 (by omega) n3W 2 0 33) (Ent.sep enn) ?_
  intro m2
  refine Hd.pure (fun hm2 => ?_)
  rw [nm2, show (ctlR 1 n1F n3W 2 0 33).2 = n2F from rfl]
  refine Hd.yv (y_assign rfl) ?_
  refine Hd.nil ?_
  refine Hd.slots [(1, _), (2, _), (4, _), (5, _)] ⟨rfl, rfl, rfl, rfl, trivial⟩ ?_
  refine Hd.toK hK8 ?_
  refine Hd.seq (fun K9 hK9 => ?_)
  refine Hd.region ?_
  refine Hd.yv (y_build (vs := [(0, _), (1, _)]) rfl (by first | exact bd4_47 .. | kernel_rfl)) ?_
  refine Hd.alloc zr40 (fun b6 => ?_)
  first | (refine Hd.storeA (us := [_, _]) sz40 rfl rfl rfl (by simp [Value.oneCell']) pkk rfl ?_) | (refine Hd.store (us := [_, _]) sz40 rfl rfl rfl (by simp [Value.oneCell']) pkk (by simp) ?_)
  try simp only [List.set_cons_zero, List.set_cons_succ]
  refine Hd.nil ?_
  refine Hd.slots [(1, _), (2, _), (4, _), (5, _), (6, _)] ⟨rfl, rfl, rfl, rfl, rfl, trivial⟩ ?_
  refine Hd.toK hK9 ?_
  refine Hd.seq (fun K10 hK10 => ?_)
  refine Hd.region ?_
  refine Hd.yv (y_move rfl) ?_
  first | (refine Hd.yv (y_loadn (us := [_, _]) ag40 rfl (Rd.pt pkk (by (first | (intro j v e; rcases j with _|_|_|_|_|_|_|_|_|_|_|_|j <;> first | exact e | exact absurd e (by simp))))) (by exact sz40)) ?_) | (refine Hd.yv (y_loadn (us := [_, _]) ag40 rfl (Rd.seg pkk (by (first | (intro j v e; rcases j with _|_|_|_|_|_|_|_|_|_|_|_|j <;> first | exact e | exact absurd e (by simp))))) (by exact sz40)) ?_) | (refine Hd.yv (y_loadRn ag40 rfl (by (first | exact RdS.own pkk)) (by (first | (intro j v e; rcases j with _|_|_|_|_|_|_|_|_|_|_|_|j <;> first | exact e | exact absurd e (by simp)))) (by exact sz40) (by simp)) ?_)
  refine Hd.bslice (vs := [(0, _)]) rfl (by first | exact bs4_50 .. | kernel_rfl) (fun b50 => ?_)
  refine Hd.callE rfl fk13 (polls_ct _ pb wb mb 1 n2F m2 (by omega) n3W (some ⟨b50, 0, none⟩) 1 [(0, 1)] ?hD (by decide)) (Ent.sep enn) ?_
  case hD => exact RdS.rd (Rd.pt pkk (fun j v e => by rw [Nat.zero_add]; exact e)) rfl
  intro m3
  refine Hd.pure (fun hm3 => ?_)
  rw [show offF n3W n2F ((dueL n2F n3W).take 9) = n3F from rfl, nm3]
  refine Hd.yv (y_to (v' := .bool true) (y_move rfl) (by rfl)) ?_
  refine Hd.yg rfl rfl (y_move rfl) ?_
  refine Hd.unguard rfl rfl ?_
  refine Hd.callE rfl fk13 (polls_ct _ pb wb mb 1 n3F m3 (by omega) n3W none 0 [] ?hD (by decide)) (Ent.sep enn) ?_
  case hD => exact RdS.none _ _ _
  intro m4
  refine Hd.pure (fun hm4 => ?_)
  rw [show offF n3W n3F ((dueL n3F n3W).take 9) = n4F from rfl, nm4]
  first | (refine Hd.yv (y_to (v' := .bool true) (y_pickT rfl rfl) (by rfl)) ?_) | (refine Hd.yv (y_to (v' := .bool true) (y_pickF rfl rfl) (by rfl)) ?_) | (refine Hd.yv (y_to (v' := .bool true) (y_pickb rfl rfl rfl) (by rfl)) ?_) | (refine Hd.yv (y_to (v' := .bool true) (y_pick rfl rfl rfl) (by rfl)) ?_)
  refine Hd.yv (y_move rfl) ?_
  refine Hd.yg rfl rfl (y_move rfl) ?_
  refine Hd.unguard rfl rfl ?_
  refine Hd.callE rfl fk14 (edue_ct _ pb wb mb 1 n4F m4 (by omega) n3W) (Ent.sep enn) ?_
  intro _
  rw [nm5]
  refine Hd.yg rfl rfl (y_not rfl) ?_
  first | (refine Hd.yv (y_to (v' := .bool true) (y_pickT rfl rfl) (by rfl)) ?_) | (refine Hd.yv (y_to (v' := .bool true) (y_pickF rfl rfl) (by rfl)) ?_) | (refine Hd.yv (y_to (v' := .bool true) (y_pickb rfl rfl rfl) (by rfl)) ?_) | (refine Hd.yv (y_to (v' := .bool true) (y_pick rfl rfl rfl) (by rfl)) ?_)
  refine Hd.yv (y_assign rfl) ?_
  refine Hd.nil ?_
  refine Hd.slots [(1, _), (2, _), (4, _), (5, _), (6, _), (7, _)] ⟨rfl, rfl, rfl, rfl, rfl, rfl, trivial⟩ ?_
  refine Hd.toK hK10 ?_
  refine Hd.seq (fun K11 hK11 => ?_)
  refine Hd.region ?_
  refine Hd.yv (y_move rfl) ?_
  refine Hd.bslice (vs := [(0, _)]) rfl (by first | exact bs4_62 .. | kernel_rfl) (fun b62 => ?_)
  refine Hd.convSS (e := 5) (by kernel_rfl) rfl pkk rfl (by first | decide | (simp [maxLen])) ?_
  refine Hd.callE rfl fk12 (wput_ct _ wb n3W 0 (some ⟨b62, 0, none⟩) 1 1 [98] rfl ?hD (by decide) (by decide)) (Ent.sep enn) ?_
  case hD => exact RdS.own (us := [.int .u8 98]) pkk
  intro _
  rw [show (putR n3W 0 [98]).2 = n4W from rfl]
  refine Hd.nil ?_
  refine Hd.slots [(1, _), (2, _), (4, _), (5, _), (6, _), (7, _)] ⟨rfl, rfl, rfl, rfl, rfl, rfl, trivial⟩ ?_
  refine Hd.toK hK11 ?_
  refine Hd.seq (fun K12 hK12 => ?_)
  refine Hd.region ?_
  refine Hd.yv (y_move rfl) ?_
  refine Hd.yv (y_move rfl) ?_
  refine Hd.yg rfl rfl (y_move rfl) ?_
  refine Hd.unguard rfl rfl ?_
  refine Hd.callE rfl fk14 (edue_ct _ pb wb mb 1 n4F m4 (by omega) n4W) (Ent.sep enn) ?_
  intro _
  rw [nm6]
  first | (refine Hd.yv (y_to (v' := .bool true) (y_pickT rfl rfl) (by rfl)) ?_) | (refine Hd.yv (y_to (v' := .bool true) (y_pickF rfl rfl) (by rfl)) ?_) | (refine Hd.yv (y_to (v' := .bool true) (y_pickb rfl rfl rfl) (by rfl)) ?_) | (refine Hd.yv (y_to (v' := .bool true) (y_pick rfl rfl rfl) (by rfl)) ?_)
  refine Hd.yv (y_move rfl) ?_
  refine Hd.yg rfl rfl (y_move rfl) ?_
  first | (refine Hd.yg rfl rfl (y_loadn (us := [_, _]) ag40 rfl (Rd.pt pkk (by (first | (intro j v e; rcases j with _|_|_|_|_|_|_|_|_|_|_|_|j <;> first | exact e | exact absurd e (by simp))))) (by exact sz40)) ?_) | (refine Hd.yg rfl rfl (y_loadn (us := [_, _]) ag40 rfl (Rd.seg pkk (by (first | (intro j v e; rcases j with _|_|_|_|_|_|_|_|_|_|_|_|j <;> first | exact e | exact absurd e (by simp))))) (by exact sz40)) ?_) | (refine Hd.yg rfl rfl (y_loadRn ag40 rfl (by (first | exact RdS.own pkk)) (by (first | (intro j v e; rcases j with _|_|_|_|_|_|_|_|_|_|_|_|j <;> first | exact e | exact absurd e (by simp)))) (by exact sz40) (by simp)) ?_)
  refine Hd.unguard rfl rfl ?_
  refine Hd.bslice (vs := [(0, _)]) rfl (by first | exact bs4_73 .. | kernel_rfl) (fun b73 => ?_)
  refine Hd.unguard rfl rfl ?_
  refine Hd.callE rfl fk13 (polls_ct _ pb wb mb 1 n4F m4 (by omega) n4W (some ⟨b73, 0, none⟩) 1 [(0, 1)] ?hD (by decide)) (Ent.sep enn) ?_
  case hD => exact RdS.rd (Rd.pt pkk (fun j v e => by rw [Nat.zero_add]; exact e)) rfl
  intro m5
  refine Hd.pure (fun hm5 => ?_)
  rw [show offF n4W n4F ((dueL n4F n4W).take 9) = n5F from rfl, nm7]
  first | (refine Hd.yv (y_to (v' := .bool true) (y_pickT rfl rfl) (by rfl)) ?_) | (refine Hd.yv (y_to (v' := .bool true) (y_pickF rfl rfl) (by rfl)) ?_) | (refine Hd.yv (y_to (v' := .bool true) (y_pickb rfl rfl rfl) (by rfl)) ?_) | (refine Hd.yv (y_to (v' := .bool true) (y_pick rfl rfl rfl) (by rfl)) ?_)
  refine Hd.yv (y_assign rfl) ?_
  refine Hd.nil ?_
  refine Hd.slots [(1, _), (2, _), (4, _), (5, _), (7, _)] ⟨rfl, rfl, rfl, rfl, rfl, trivial⟩ ?_
  refine Hd.toK hK12 ?_
  refine Hd.seq (fun K13 hK13 => ?_)
  refine Hd.region ?_
  refine Hd.yv (y_move rfl) ?_
  refine Hd.callE rfl fk11 (ctl_ct _ pb wb mb 1 n5F m5 (by omega) n4W 1 0 1) (Ent.sep enn) ?_
  intro m6
  refine Hd.pure (fun hm6 => ?_)
  rw [nm8, show (ctlR 1 n5F n4W 1 0 1).2 = n6F from rfl]
  refine Hd.yv (y_move rfl) ?_
  refine Hd.callE rfl fk11 (ctl_ct _ pb wb mb 1 n6F m6 (by omega) n4W 3 5 0) (Ent.sep enn) ?_
  intro m7
  refine Hd.pure (fun hm7 => ?_)
  rw [nm9, show (ctlR 1 n6F n4W 3 5 0).2 = n7F from rfl]
  refine Hd.yv (y_move rfl) ?_
  refine Hd.callE rfl fk11 (ctl_ct _ pb wb mb 1 n7F m7 (by omega) n4W 1 1 0) (Ent.sep enn) ?_
  intro m8
  refine Hd.pure (fun hm8 => ?_)
  rw [nm10, show (ctlR 1 n7F n4W 1 1 0).2 = n8F from rfl]
  refine Hd.yv (y_move rfl) ?_
  refine Hd.callE rfl fk11 (ctl_ct _ pb wb mb 1 n8F m8 (by omega) n4W 2 1 0) (Ent.sep enn) ?_
  intro m9
  refine Hd.pure (fun hm9 => ?_)
  rw [nm11, show (ctlR 1 n8F n4W 2 1 0).2 = n9F from rfl]
  refine Hd.yv (y_assign rfl) ?_
  refine Hd.yv (y_assign rfl) ?_
  refine Hd.yv (y_assign rfl) ?_
  refine Hd.yv (y_assign rfl) ?_
  refine Hd.nil ?_
  refine Hd.slots [(1, _), (2, _), (4, _), (5, _), (7, _), (8, _), (9, _), (10, _), (11, _)] ⟨rfl, rfl, rfl, rfl, rfl, rfl, rfl, rfl, rfl, trivial⟩ ?_
  refine Hd.toK hK13 ?_
  refine Hd.seq (fun K14 hK14 => ?_)
  refine Hd.region ?_
  refine Hd.yv (y_move rfl) ?_
  refine Hd.callE rfl fk11 (ctl_ct _ pb wb mb 1 n9F m9 (by omega) n4W 0 0 0) (Ent.sep enn) ?_
  intro m10
  refine Hd.pure (fun hm10 => ?_)
  rw [nm12, show (ctlR 1 n9F n4W 0 0 0).2 = n10F from rfl]
  refine Hd.yv (y_move rfl) ?_
  refine Hd.callE rfl fk11 (ctl_ct _ pb wb mb 1 n10F m10 (by omega) n4W 2 0 2) (Ent.sep enn) ?_
  intro m11
  refine Hd.pure (fun hm11 => ?_)
  rw [nm13, show (ctlR 1 n10F n4W 2 0 2).2 = n11F from rfl]
  refine Hd.yv (y_move rfl) ?_
  refine Hd.callE rfl fk11 (ctl_ct _ pb wb mb 1 n11F m11 (by omega) n4W 3 0 99) (Ent.sep enn) ?_
  intro m12
  refine Hd.pure (fun hm12 => ?_)
  rw [nm14, show (ctlR 1 n11F n4W 3 0 99).2 = n12F from rfl]
  refine Hd.yv (y_assign rfl) ?_
  refine Hd.yv (y_assign rfl) ?_
  refine Hd.yv (y_assign rfl) ?_
  refine Hd.nil ?_
  refine Hd.slots [(1, _), (2, _), (4, _), (5, _), (7, _), (8, _), (9, _), (10, _), (11, _), (12, _), (13, _), (14, _)] ⟨rfl, rfl, rfl, rfl, rfl, rfl, rfl, rfl, rfl, rfl, rfl, rfl, trivial⟩ ?_
  refine Hd.toK hK14 ?_
  refine Hd.seq (fun K15 hK15 => ?_)
  refine Hd.region ?_
  refine Hd.yv (y_move rfl) ?_
  refine Hd.callE rfl fk15 (wclose_ct _ wb n4W 1) (Ent.sep enn) ?_
  intro _
  rw [show (closeF n4W 1).2 = n5W from rfl]
  refine Hd.nil ?_
  refine Hd.slots [(1, _), (2, _), (4, _), (5, _), (7, _), (8, _), (9, _), (10, _), (11, _), (12, _), (13, _), (14, _)] ⟨rfl, rfl, rfl, rfl, rfl, rfl, rfl, rfl, rfl, rfl, rfl, rfl, trivial⟩ ?_
  refine Hd.toK hK15 ?_
  refine Hd.seq (fun K16 hK16 => ?_)
  refine Hd.region ?_
  refine Hd.yv (y_move rfl) ?_
  refine Hd.callE rfl fk11 (ctl_ct _ pb wb mb 1 n12F m12 (by omega) n5W 2 1 1) (Ent.sep enn) ?_
  intro m13
  refine Hd.pure (fun hm13 => ?_)
  rw [nm15, show (ctlR 1 n12F n5W 2 1 1).2 = n13F from rfl]
  refine Hd.yv (y_assign rfl) ?_
  refine Hd.nil ?_
  refine Hd.slots [(1, _), (2, _), (4, _), (5, _), (7, _), (8, _), (9, _), (10, _), (11, _), (12, _), (13, _), (14, _), (15, _)] ⟨rfl, rfl, rfl, rfl, rfl, rfl, rfl, rfl, rfl, rfl, rfl, rfl, rfl, trivial⟩ ?_
  refine Hd.toK hK16 ?_
  refine Hd.seq (fun K17 hK17 => ?_)
  refine Hd.region ?_
  refine Hd.yv (y_move rfl) ?_
  refine Hd.callE rfl fk16 (pollbad_ct _ pb wb mb 1 0 (by decide) _) (Ent.sep enn) ?_
  intro _
  refine Hd.yv (y_move rfl) ?_
  refine Hd.yv (y_extract rfl rfl) ?_
  refine Hd.yv (y_to (v' := .int .i64 2) (y_extract rfl rfl) (by rfl)) ?_
  refine Hd.yv (y_assign rfl) ?_
  refine Hd.yv (y_assign rfl) ?_
  refine Hd.nil ?_
  refine Hd.slots [(1, _), (2, _), (4, _), (5, _), (7, _), (8, _), (9, _), (10, _), (11, _), (12, _), (13, _), (14, _), (15, _), (17, _)] ⟨rfl, rfl, rfl, rfl, rfl, rfl, rfl, rfl, rfl, rfl, rfl, rfl, rfl, rfl, trivial⟩ ?_
  refine Hd.toK hK17 ?_
  refine Hd.seq (fun K18 hK18 => ?_)
  refine Hd.region ?_
  refine Hd.callE rfl fk10 (enew_nil _ 1) (Ent.sep enn) ?_
  intro _
  refine Hd.yv (y_move rfl) ?_
  refine Hd.yv (y_extract rfl rfl) ?_
  refine Hd.yv (y_to (v' := .int .i64 1) (y_extract rfl rfl) (by rfl)) ?_
  refine Hd.yv (y_assign rfl) ?_
  refine Hd.yv (y_assign rfl) ?_
  refine Hd.nil ?_
  refine Hd.slots [(1, _), (2, _), (4, _), (5, _), (7, _), (8, _), (9, _), (10, _), (11, _), (12, _), (13, _), (14, _), (15, _), (17, _), (19, _)] ⟨rfl, rfl, rfl, rfl, rfl, rfl, rfl, rfl, rfl, rfl, rfl, rfl, rfl, rfl, rfl, trivial⟩ ?_
  refine Hd.toK hK18 ?_
  refine Hd.seq (fun K19 hK19 => ?_)
  refine Hd.region ?_
  refine Hd.yv (y_move rfl) ?_
  refine Hd.callE rfl fk10 (enew_bad _ wb (-1) (by decide)) (Ent.sep enn) ?_
  intro _
  refine Hd.yv (y_move rfl) ?_
  refine Hd.yv (y_extract rfl rfl) ?_
  refine Hd.yv (y_to (v' := .int .i64 2) (y_extract rfl rfl) (by rfl)) ?_
  refine Hd.yv (y_assign rfl) ?_
  refine Hd.yv (y_assign rfl) ?_
  refine Hd.nil ?_
  refine Hd.slots [(2, _), (4, _), (5, _), (7, _), (8, _), (9, _), (10, _), (11, _), (12, _), (13, _), (14, _), (15, _), (17, _), (19, _), (21, _)] ⟨rfl, rfl, rfl, rfl, rfl, rfl, rfl, rfl, rfl, rfl, rfl, rfl, rfl, rfl, rfl, trivial⟩ ?_
  refine Hd.toK hK19 ?_
  refine Hd.seq (fun K20 hK20 => ?_)
  refine Hd.region ?_
  refine Hd.yv (y_move rfl) ?_
  first | (refine Hd.yv (y_eqlT rfl rfl) ?_) | (refine Hd.yv (y_eql rfl rfl) ?_)
  refine Hd.yv (y_move rfl) ?_
  refine Hd.yg rfl rfl (y_move rfl) ?_
  first | (refine Hd.yg rfl rfl (y_eqlT rfl rfl) ?_) | (refine Hd.yg rfl rfl (y_eql rfl rfl) ?_)
  first | (refine Hd.yv (y_pickT rfl rfl) ?_) | (refine Hd.yv (y_pickF rfl rfl) ?_) | (refine Hd.yv (y_pickb rfl rfl rfl) ?_) | (refine Hd.yv (y_pick rfl rfl rfl) ?_)
  refine Hd.yv (y_move rfl) ?_
  refine Hd.yg rfl rfl (y_move rfl) ?_
  first | (refine Hd.yg rfl rfl (y_eqlT rfl rfl) ?_) | (refine Hd.yg rfl rfl (y_eql rfl rfl) ?_)
  first | (refine Hd.yv (y_pickT rfl rfl) ?_) | (refine Hd.yv (y_pickF rfl rfl) ?_) | (refine Hd.yv (y_pickb rfl rfl rfl) ?_) | (refine Hd.yv (y_pick rfl rfl rfl) ?_)
  refine Hd.yv (y_move rfl) ?_
  refine Hd.yg rfl rfl (y_move rfl) ?_
  first | (refine Hd.yg rfl rfl (y_eqlT rfl rfl) ?_) | (refine Hd.yg rfl rfl (y_eql rfl rfl) ?_)
  first | (refine Hd.yv (y_pickT rfl rfl) ?_) | (refine Hd.yv (y_pickF rfl rfl) ?_) | (refine Hd.yv (y_pickb rfl rfl rfl) ?_) | (refine Hd.yv (y_pick rfl rfl rfl) ?_)
  refine Hd.yv (y_move rfl) ?_
  refine Hd.yg rfl rfl (y_move rfl) ?_
  first | (refine Hd.yg rfl rfl (y_eqlT rfl rfl) ?_) | (refine Hd.yg rfl rfl (y_eql rfl rfl) ?_)
  first | (refine Hd.yv (y_pickT rfl rfl) ?_) | (refine Hd.yv (y_pickF rfl rfl) ?_) | (refine Hd.yv (y_pickb rfl rfl rfl) ?_) | (refine Hd.yv (y_pick rfl rfl rfl) ?_)
  refine Hd.yv (y_move rfl) ?_
  refine Hd.yg rfl rfl (y_move rfl) ?_
  first | (refine Hd.yg rfl rfl (y_eqlT rfl rfl) ?_) | (refine Hd.yg rfl rfl (y_eql rfl rfl) ?_)
  first | (refine Hd.yv (y_pickT rfl rfl) ?_) | (refine Hd.yv (y_pickF rfl rfl) ?_) | (refine Hd.yv (y_pickb rfl rfl rfl) ?_) | (refine Hd.yv (y_pick rfl rfl rfl) ?_)
  refine Hd.yv (y_move rfl) ?_
  refine Hd.yg rfl rfl (y_move rfl) ?_
  first | (refine Hd.yg rfl rfl (y_eqlT rfl rfl) ?_) | (refine Hd.yg rfl rfl (y_eql rfl rfl) ?_)
  first | (refine Hd.yv (y_pickT rfl rfl) ?_) | (refine Hd.yv (y_pickF rfl rfl) ?_) | (refine Hd.yv (y_pickb rfl rfl rfl) ?_) | (refine Hd.yv (y_pick rfl rfl rfl) ?_)
  refine Hd.yv (y_move rfl) ?_
  refine Hd.yg rfl rfl (y_move rfl) ?_
  first | (refine Hd.yg rfl rfl (y_eqlT rfl rfl) ?_) | (refine Hd.yg rfl rfl (y_eql rfl rfl) ?_)
  first | (refine Hd.yv (y_pickT rfl rfl) ?_) | (refine Hd.yv (y_pickF rfl rfl) ?_) | (refine Hd.yv (y_pickb rfl rfl rfl) ?_) | (refine Hd.yv (y_pick rfl rfl rfl) ?_)
  refine Hd.yv (y_move rfl) ?_
  refine Hd.yg rfl rfl (y_move rfl) ?_
  first | (refine Hd.yg rfl rfl (y_eqlT rfl rfl) ?_) | (refine Hd.yg rfl rfl (y_eql rfl rfl) ?_)
  first | (refine Hd.yv (y_pickT rfl rfl) ?_) | (refine Hd.yv (y_pickF rfl rfl) ?_) | (refine Hd.yv (y_pickb rfl rfl rfl) ?_) | (refine Hd.yv (y_pick rfl rfl rfl) ?_)
  refine Hd.yv (y_move rfl) ?_
  refine Hd.yg rfl rfl (y_move rfl) ?_
  first | (refine Hd.yg rfl rfl (y_eqlT rfl rfl) ?_) | (refine Hd.yg rfl rfl (y_eql rfl rfl) ?_)
  first | (refine Hd.yv (y_pickT rfl rfl) ?_) | (refine Hd.yv (y_pickF rfl rfl) ?_) | (refine Hd.yv (y_pickb rfl rfl rfl) ?_) | (refine Hd.yv (y_pick rfl rfl rfl) ?_)
  refine Hd.yv (y_move rfl) ?_
  refine Hd.yg rfl rfl (y_move rfl) ?_
  first | (refine Hd.yg rfl rfl (y_eqlT rfl rfl) ?_) | (refine Hd.yg rfl rfl (y_eql rfl rfl) ?_)
  first | (refine Hd.yv (y_pickT rfl rfl) ?_) | (refine Hd.yv (y_pickF rfl rfl) ?_) | (refine Hd.yv (y_pickb rfl rfl rfl) ?_) | (refine Hd.yv (y_pick rfl rfl rfl) ?_)
  refine Hd.yv (y_move rfl) ?_
  refine Hd.yg rfl rfl (y_move rfl) ?_
  first | (refine Hd.yg rfl rfl (y_eqlT rfl rfl) ?_) | (refine Hd.yg rfl rfl (y_eql rfl rfl) ?_)
  first | (refine Hd.yv (y_pickT rfl rfl) ?_) | (refine Hd.yv (y_pickF rfl rfl) ?_) | (refine Hd.yv (y_pickb rfl rfl rfl) ?_) | (refine Hd.yv (y_pick rfl rfl rfl) ?_)
  refine Hd.yv (y_move rfl) ?_
  refine Hd.yg rfl rfl (y_move rfl) ?_
  first | (refine Hd.yg rfl rfl (y_eqlT rfl rfl) ?_) | (refine Hd.yg rfl rfl (y_eql rfl rfl) ?_)
  first | (refine Hd.yv (y_pickT rfl rfl) ?_) | (refine Hd.yv (y_pickF rfl rfl) ?_) | (refine Hd.yv (y_pickb rfl rfl rfl) ?_) | (refine Hd.yv (y_pick rfl rfl rfl) ?_)
  refine Hd.yv (y_move rfl) ?_
  refine Hd.yg rfl rfl (y_move rfl) ?_
  refine Hd.unguard rfl rfl ?_
  refine Hd.callE rfl fk17 (inter_ct _ pb wb mb 1 n13F m13 (by omega) n5W) (Ent.sep enn) ?_
  rintro ⟨ia, ic, iks⟩
  dsimp only
  refine Hd.pure (fun hA => ?_)
  refine Hd.wok pkk (fun hw5 => ?_)
  obtain rfl := hA.eq hw5
  rw [nm16]
  refine Hd.yg rfl rfl (y_len Try.underlying43 rfl) ?_
  first | (refine Hd.yg rfl rfl (y_eqlT rfl rfl) ?_) | (refine Hd.yg rfl rfl (y_eql rfl rfl) ?_)
  first | (refine Hd.yv (y_pickT rfl rfl) ?_) | (refine Hd.yv (y_pickF rfl rfl) ?_) | (refine Hd.yv (y_pickb rfl rfl rfl) ?_) | (refine Hd.yv (y_pick rfl rfl rfl) ?_)
  refine Hd.yv (y_assign rfl) ?_
  refine Hd.nil ?_
  refine Hd.slots [(7, _), (22, _)] ⟨rfl, rfl, trivial⟩ ?_
  refine Hd.toK hK20 ?_
  refine Hd.seq (fun K21 hK21 => ?_)
  refine Hd.region ?_
  refine Hd.bslice (vs := [(0, Sh.VS [97]), (1, Sh.VS [98]), (2, Sh.VS [99]), (3, Sh.VS [100])]) (e := 9) (cs := [Sh.VS [97], Sh.VS [98], Sh.VS [99], Sh.VS [100]]) rfl (by kernel_rfl) (fun b164 => ?_)
  refine Hd.bslice (vs := [(0, _), (1, _)]) rfl (by first | exact bs4_165 .. | kernel_rfl) (fun b165 => ?_)
  refine Hd.callE rfl fk18 (Sh.shuffleS_ct _ (some ⟨b164, 0, none⟩) (some ⟨b165, 0, none⟩) 4 2 [[97], [98], [99], [100]] [2, 0] ?hD ?hO (by decide) (by decide)) (Ent.sep enn) ?_
  case hD => exact RdS.rd (Rd.pt pkk (fun j v e => by rw [Nat.zero_add]; exact e)) rfl
  case hO => exact RdS.rd (Rd.pt pkk (fun j v e => by rw [Nat.zero_add]; exact e)) rfl
  rintro ⟨a1, c1⟩
  dsimp only
  rw [nm17]
  refine Hd.yv (y_assign rfl) ?_
  refine Hd.nil ?_
  refine Hd.slots [(7, _), (22, _), (23, _)] ⟨rfl, rfl, rfl, trivial⟩ ?_
  refine Hd.toK hK21 ?_
  refine Hd.seq (fun K22 hK22 => ?_)
  refine Hd.region ?_
  refine Hd.bslice (vs := [(0, Sh.VS [97]), (1, Sh.VS [98])]) (e := 9) (cs := [Sh.VS [97], Sh.VS [98]]) rfl (by kernel_rfl) (fun b167 => ?_)
  refine Hd.bslice (vs := [(0, _), (1, _)]) rfl (by first | exact bs4_168 .. | kernel_rfl) (fun b168 => ?_)
  refine Hd.callE rfl fk18 (Sh.shuffleS_ct _ (some ⟨b167, 0, none⟩) (some ⟨b168, 0, none⟩) 2 2 [[97], [98]] [-5, -5] ?hD ?hO (by decide) (by decide)) (Ent.sep enn) ?_
  case hD => exact RdS.rd (Rd.pt pkk (fun j v e => by rw [Nat.zero_add]; exact e)) rfl
  case hO => exact RdS.rd (Rd.pt pkk (fun j v e => by rw [Nat.zero_add]; exact e)) rfl
  rintro ⟨a2, c2⟩
  dsimp only
  rw [nm18]
  refine Hd.yv (y_assign rfl) ?_
  refine Hd.nil ?_
  refine Hd.slots [(7, _), (22, _), (23, _), (24, _)] ⟨rfl, rfl, rfl, rfl, trivial⟩ ?_
  refine Hd.toK hK22 ?_
  refine Hd.seq (fun K23 hK23 => ?_)
  refine Hd.region ?_
  refine Hd.yv (y_assign rfl) ?_
  refine Hd.nil ?_
  refine Hd.slots [(7, _), (22, _), (23, _), (24, _), (25, _)] ⟨rfl, rfl, rfl, rfl, rfl, trivial⟩ ?_
  refine Hd.toK hK23 ?_
  refine Hd.seq (fun K24 hK24 => ?_)
  refine Hd.region ?_
  refine Hd.alloc zr51 (fun b26 => ?_)
  refine Hd.nil ?_
  refine Hd.slots [(7, _), (22, _), (23, _), (24, _), (25, _), (26, _)] ⟨rfl, rfl, rfl, rfl, rfl, rfl, trivial⟩ ?_
  refine Hd.toK hK24 ?_
  refine Hd.seq (fun K25 hK25 => ?_)
  refine Hd.region ?_
  refine Hd.yv (y_move rfl) ?_
  refine Hd.callE rfl fk16 (poll_nil _ 1 _) (Ent.sep enn) ?_
  intro _
  refine Hd.yv (y_move rfl) ?_
  refine Hd.yv (y_extract rfl rfl) ?_
  refine Hd.yv (y_to (v' := .int .i64 1) (y_extract rfl rfl) (by rfl)) ?_
  refine Hd.yv (y_assign rfl) ?_
  refine Hd.yv (y_assign rfl) ?_
  refine Hd.nil ?_
  refine Hd.slots [(7, _), (22, _), (23, _), (24, _), (25, _), (26, _), (28, _)] ⟨rfl, rfl, rfl, rfl, rfl, rfl, rfl, trivial⟩ ?_
  refine Hd.toK hK25 ?_
  refine Hd.seq (fun K26 hK26 => ?_)
  refine Hd.region ?_
  refine Hd.yv (y_move rfl) ?_
  refine Hd.unguard rfl rfl ?_
  refine Hd.callE rfl fk6 (alive15_ct _) (Ent.sep enn) ?_
  intro _
  first | (refine Hd.yv (y_pickT rfl rfl) ?_) | (refine Hd.yv (y_pickF rfl rfl) ?_) | (refine Hd.yv (y_pickb rfl rfl rfl) ?_) | (refine Hd.yv (y_pick rfl rfl rfl) ?_)
  refine Hd.yv (y_move rfl) ?_
  refine Hd.yg rfl rfl (y_move rfl) ?_
  first | (refine Hd.yv (y_pickT rfl rfl) ?_) | (refine Hd.yv (y_pickF rfl rfl) ?_) | (refine Hd.yv (y_pickb rfl rfl rfl) ?_) | (refine Hd.yv (y_pick rfl rfl rfl) ?_)
  refine Hd.yv (y_move rfl) ?_
  refine Hd.yg rfl rfl (y_move rfl) ?_
  first | (refine Hd.yv (y_pickT rfl rfl) ?_) | (refine Hd.yv (y_pickF rfl rfl) ?_) | (refine Hd.yv (y_pickb rfl rfl rfl) ?_) | (refine Hd.yv (y_pick rfl rfl rfl) ?_)
  refine Hd.yv (y_move rfl) ?_
  refine Hd.yg rfl rfl (y_move rfl) ?_
  refine Hd.yg rfl rfl (y_len Try.underlying47 rfl) ?_
  first | (refine Hd.yg rfl rfl (y_eqlT rfl rfl) ?_) | (refine Hd.yg rfl rfl (y_eql rfl rfl) ?_)
  first | (refine Hd.yv (y_pickT rfl rfl) ?_) | (refine Hd.yv (y_pickF rfl rfl) ?_) | (refine Hd.yv (y_pickb rfl rfl rfl) ?_) | (refine Hd.yv (y_pick rfl rfl rfl) ?_)
  refine Hd.yv (y_move rfl) ?_
  refine Hd.yg rfl rfl (y_move rfl) ?_
  first | (refine Hd.yg rfl rfl (y_idxS Try.underlying47 sz9 rfl rfl (by first | exact (show (0 : Nat) < _ by omega) | omega | decide)) ?_) | (refine Hd.yg rfl rfl (y_idxR Try.underlying47 sz9 rfl rfl (by first | exact (show (0 : Nat) < _ by omega) | omega | decide) (by (first | exact RdS.own pkk))) ?_)
  first | (refine Hd.yg rfl rfl (y_load1 ag9 rfl (Rd.pt1 pkk (by (first | rfl)))) ?_) | (refine Hd.yg rfl rfl (y_load1 ag9 rfl (Rd.seg1 pkk (by (first | rfl)))) ?_) | (refine Hd.yg rfl rfl (y_loadR1 ag9 rfl (by (first | exact RdS.own pkk)) (by (first | rfl))) ?_)
  refine Hd.yg rfl rfl (y_eqlstr rfl rfl) ?_
  first | (refine Hd.yv (y_pickT rfl rfl) ?_) | (refine Hd.yv (y_pickF rfl rfl) ?_) | (refine Hd.yv (y_pickb rfl rfl rfl) ?_) | (refine Hd.yv (y_pick rfl rfl rfl) ?_)
  refine Hd.yv (y_move rfl) ?_
  refine Hd.yg rfl rfl (y_move rfl) ?_
  first | (refine Hd.yg rfl rfl (y_idxS Try.underlying47 sz9 rfl rfl (by first | exact (show (1 : Nat) < _ by omega) | omega | decide)) ?_) | (refine Hd.yg rfl rfl (y_idxR Try.underlying47 sz9 rfl rfl (by first | exact (show (1 : Nat) < _ by omega) | omega | decide) (by (first | exact RdS.own pkk))) ?_)
  first | (refine Hd.yg rfl rfl (y_load1 ag9 rfl (Rd.pt1 pkk (by (first | rfl)))) ?_) | (refine Hd.yg rfl rfl (y_load1 ag9 rfl (Rd.seg1 pkk (by (first | rfl)))) ?_) | (refine Hd.yg rfl rfl (y_loadR1 ag9 rfl (by (first | exact RdS.own pkk)) (by (first | rfl))) ?_)
  refine Hd.yg rfl rfl (y_eqlstr rfl rfl) ?_
  first | (refine Hd.yv (y_pickT rfl rfl) ?_) | (refine Hd.yv (y_pickF rfl rfl) ?_) | (refine Hd.yv (y_pickb rfl rfl rfl) ?_) | (refine Hd.yv (y_pick rfl rfl rfl) ?_)
  refine Hd.yv (y_move rfl) ?_
  refine Hd.yg rfl rfl (y_move rfl) ?_
  first | (refine Hd.yg rfl rfl (y_idxS Try.underlying47 sz9 rfl rfl (by first | exact (show (2 : Nat) < _ by omega) | omega | decide)) ?_) | (refine Hd.yg rfl rfl (y_idxR Try.underlying47 sz9 rfl rfl (by first | exact (show (2 : Nat) < _ by omega) | omega | decide) (by (first | exact RdS.own pkk))) ?_)
  first | (refine Hd.yg rfl rfl (y_load1 ag9 rfl (Rd.pt1 pkk (by (first | rfl)))) ?_) | (refine Hd.yg rfl rfl (y_load1 ag9 rfl (Rd.seg1 pkk (by (first | rfl)))) ?_) | (refine Hd.yg rfl rfl (y_loadR1 ag9 rfl (by (first | exact RdS.own pkk)) (by (first | rfl))) ?_)
  refine Hd.yg rfl rfl (y_eqlstr rfl rfl) ?_
  first | (refine Hd.yv (y_pickT rfl rfl) ?_) | (refine Hd.yv (y_pickF rfl rfl) ?_) | (refine Hd.yv (y_pickb rfl rfl rfl) ?_) | (refine Hd.yv (y_pick rfl rfl rfl) ?_)
  refine Hd.yv (y_move rfl) ?_
  refine Hd.yg rfl rfl (y_move rfl) ?_
  first | (refine Hd.yg rfl rfl (y_idxS Try.underlying47 sz9 rfl rfl (by first | exact (show (3 : Nat) < _ by omega) | omega | decide)) ?_) | (refine Hd.yg rfl rfl (y_idxR Try.underlying47 sz9 rfl rfl (by first | exact (show (3 : Nat) < _ by omega) | omega | decide) (by (first | exact RdS.own pkk))) ?_)
  first | (refine Hd.yg rfl rfl (y_load1 ag9 rfl (Rd.pt1 pkk (by (first | rfl)))) ?_) | (refine Hd.yg rfl rfl (y_load1 ag9 rfl (Rd.seg1 pkk (by (first | rfl)))) ?_) | (refine Hd.yg rfl rfl (y_loadR1 ag9 rfl (by (first | exact RdS.own pkk)) (by (first | rfl))) ?_)
  refine Hd.yg rfl rfl (y_eqlstr rfl rfl) ?_
  first | (refine Hd.yv (y_pickT rfl rfl) ?_) | (refine Hd.yv (y_pickF rfl rfl) ?_) | (refine Hd.yv (y_pickb rfl rfl rfl) ?_) | (refine Hd.yv (y_pick rfl rfl rfl) ?_)
  refine Hd.yv (y_move rfl) ?_
  refine Hd.yg rfl rfl (y_move rfl) ?_
  refine Hd.yg rfl rfl (y_len Try.underlying47 rfl) ?_
  first | (refine Hd.yg rfl rfl (y_eqlT rfl rfl) ?_) | (refine Hd.yg rfl rfl (y_eql rfl rfl) ?_)
  first | (refine Hd.yv (y_pickT rfl rfl) ?_) | (refine Hd.yv (y_pickF rfl rfl) ?_) | (refine Hd.yv (y_pickb rfl rfl rfl) ?_) | (refine Hd.yv (y_pick rfl rfl rfl) ?_)
  refine Hd.yv (y_move rfl) ?_
  refine Hd.yg rfl rfl (y_move rfl) ?_
  first | (refine Hd.yg rfl rfl (y_idxS Try.underlying47 sz9 rfl rfl (by first | exact (show (0 : Nat) < _ by omega) | omega | decide)) ?_) | (refine Hd.yg rfl rfl (y_idxR Try.underlying47 sz9 rfl rfl (by first | exact (show (0 : Nat) < _ by omega) | omega | decide) (by (first | exact RdS.own pkk))) ?_)
  first | (refine Hd.yg rfl rfl (y_load1 ag9 rfl (Rd.pt1 pkk (by (first | rfl)))) ?_) | (refine Hd.yg rfl rfl (y_load1 ag9 rfl (Rd.seg1 pkk (by (first | rfl)))) ?_) | (refine Hd.yg rfl rfl (y_loadR1 ag9 rfl (by (first | exact RdS.own pkk)) (by (first | rfl))) ?_)
  refine Hd.yg rfl rfl (y_eqlstr rfl rfl) ?_
  first | (refine Hd.yv (y_pickT rfl rfl) ?_) | (refine Hd.yv (y_pickF rfl rfl) ?_) | (refine Hd.yv (y_pickb rfl rfl rfl) ?_) | (refine Hd.yv (y_pick rfl rfl rfl) ?_)
  refine Hd.yv (y_move rfl) ?_
  refine Hd.yg rfl rfl (y_move rfl) ?_
  first | (refine Hd.yg rfl rfl (y_eqlT rfl rfl) ?_) | (refine Hd.yg rfl rfl (y_eql rfl rfl) ?_)
  first | (refine Hd.yv (y_pickT rfl rfl) ?_) | (refine Hd.yv (y_pickF rfl rfl) ?_) | (refine Hd.yv (y_pickb rfl rfl rfl) ?_) | (refine Hd.yv (y_pick rfl rfl rfl) ?_)
  refine Hd.yv (y_move rfl) ?_
  refine Hd.unguard rfl rfl ?_
  refine Hd.callE rfl fk11 (ctl_z _ b26 1 0 0) (Ent.sep enn) ?_
  intro _
  first | (refine Hd.yg rfl rfl (y_eqlT rfl rfl) ?_) | (refine Hd.yg rfl rfl (y_eql rfl rfl) ?_)
  first | (refine Hd.yv (y_pickT rfl rfl) ?_) | (refine Hd.yv (y_pickF rfl rfl) ?_) | (refine Hd.yv (y_pickb rfl rfl rfl) ?_) | (refine Hd.yv (y_pick rfl rfl rfl) ?_)
  refine Hd.yv (y_move rfl) ?_
  refine Hd.yg rfl rfl (y_move rfl) ?_
  refine Hd.unguard rfl rfl ?_
  refine Hd.callE rfl fk14 (edue_nil _) (Ent.sep enn) ?_
  intro _
  refine Hd.yg rfl rfl (y_not rfl) ?_
  first | (refine Hd.yv (y_pickT rfl rfl) ?_) | (refine Hd.yv (y_pickF rfl rfl) ?_) | (refine Hd.yv (y_pickb rfl rfl rfl) ?_) | (refine Hd.yv (y_pick rfl rfl rfl) ?_)
  refine Hd.yv (y_move rfl) ?_
  refine Hd.unguard rfl rfl ?_
  refine Hd.callE rfl fk17 (inter_z _ b26) (Ent.sep enn) ?_
  intro _
  refine Hd.yg rfl rfl (y_len Try.underlying43 rfl) ?_
  first | (refine Hd.yg rfl rfl (y_eqlT rfl rfl) ?_) | (refine Hd.yg rfl rfl (y_eql rfl rfl) ?_)
  first | (refine Hd.yv (y_pickT rfl rfl) ?_) | (refine Hd.yv (y_pickF rfl rfl) ?_) | (refine Hd.yv (y_pickb rfl rfl rfl) ?_) | (refine Hd.yv (y_pick rfl rfl rfl) ?_)
  refine Hd.yv (y_move rfl) ?_
  refine Hd.unguard rfl rfl ?_
  refine Hd.callE rfl fk7 (Sh.shuffle_ct _ none none 0 0 [] [] ?hD ?hO (by decide) (by decide)) (Ent.sep enn) ?_
  case hD => exact RdS.none _ _ _
  case hO => exact RdS.none _ _ _
  rintro ⟨a3, c3⟩
  dsimp only
  refine Hd.yg rfl rfl (y_len Try.underlying22 rfl) ?_
  first | (refine Hd.yg rfl rfl (y_eqlT rfl rfl) ?_) | (refine Hd.yg rfl rfl (y_eql rfl rfl) ?_)
  first | (refine Hd.yv (y_pickT rfl rfl) ?_) | (refine Hd.yv (y_pickF rfl rfl) ?_) | (refine Hd.yv (y_pickb rfl rfl rfl) ?_) | (refine Hd.yv (y_pick rfl rfl rfl) ?_)
  refine Hd.yv (y_assign rfl) ?_
  refine Hd.nil ?_
  refine Hd.slots [(0, _)] ⟨rfl, trivial⟩ ?_
  refine Hd.toK hK26 ?_
  refine Hd.ret ?_
  clear hK1 hK2 hK3 hK4 hK5 hK6 hK7 hK8 hK9 hK10 hK11 hK12 hK13 hK14 hK15 hK16 hK17 hK18 hK19 hK20 hK21 hK22 hK23 hK24 hK25 hK26
  exact Hd.ret1 rfl () rfl (Ent.sep enn)
end Ep
end Go.Proofs.Ytbfddabjbkohdaa
namespace Go.Proofs.Ytbfddabjbkohdaa
set_option linter.unusedSimpArgs false
set_option linter.unusedVariables false
set_option linter.unnecessarySimpa false
open Go.RX Go.ChangeShapes Go.WideShapes Go.ChangeAt Go.RowKit
theorem Try.own : ownKnob Try.prog.godebug = none := by kernel_rfl
theorem Try.laidOut : laidOutB Try.prog = true := by kernel_rfl
set_option maxRecDepth 100000 in
theorem EplNames_lifted (os : Os) (started : os.Started) (H : Type) (enc : TypeId × Value → H) :
    ReturnsInHanded {} Try.checked os 4 .any (Rows.eplNamesSpec.pre6 enc Try.prog Try.f4 Rows.eplNamesRow.domain false) (Rows.eplNamesSpec.post enc Try.prog Try.f4 false true false false) := by
  refine returnsInHanded_of_change (C := Try.checked) Try.own started (by kernel_rfl) Try.func4
    (ChangeSpec.witness6 (enc := enc) (C := Try.checked) false ⟨#[], #[], []⟩ 8 (by kernel_rfl) (by kernel_rfl) (by kernel_rfl) (by kernel_rfl)) ?_
  intro W base args ds gs before hval0 hW hcnd _
  have hval : ∀ (j : Nat) t v, Try.f4.params[j]? = some t → args[j]? = some v → Value.okWide Try.prog W .any base t v := hval0
  have hW' := hW
  obtain ⟨p, q, hA0, hV, rfl, hfz, hnd⟩ := hW
  have hA : DataW.TrodAll enc Try.prog W 0 (fun _ => true) true Try.f4.params.toList args.toList ds p := hA0
  obtain ⟨rfl, rfl⟩ := trodVars_none hV
  simp only [List.append_nil] at hW'
  have hA1 := hA
  rw [Try.params4] at hA hval
  obtain ⟨hargs, rfl, rfl⟩ := trodAll_nil hA
  obtain rfl : args = #[] := by cases args; simp_all
  refine (law_calls (Ep.names15_ct [Old W])).mono fun e W' ⟨he, hb⟩ => ?_
  subst he
  exact ⟨_, rfl, law_post Try.laidOut rfl Try.underlying4 rfl rfl (of_decide_eq_true (by kernel_rfl)) hW' hA1 hb⟩
theorem EplNames_holds : Rows.EplNamesSaid :=
  OpenClaim.holds_of_wide 4 Try.f4 rfl rfl rfl rfl rfl rfl rfl ⟨rfl, rfl, rfl, rfl, rfl⟩ rfl rfl rfl rfl rfl (by kernel_rfl) Try.func4 (by kernel_rfl)
    (of_decide_eq_true (by kernel_rfl)) (by unfold Func.isWrapper; first | (rw [if_pos (by decide +kernel)]; kernel_rfl) | (rw [if_neg (by decide +kernel)]; exact ⟨rfl, rfl⟩))
    (fun os started H enc _ => EplNames_lifted os started H enc)
end Go.Proofs.Ytbfddabjbkohdaa
