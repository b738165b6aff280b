/-
  The document's world: Accept.
-/
import Derived.Test.YtbfddabjbkohdaaGreatZKquPlaysI
set_option linter.unusedSimpArgs false
set_option linter.unusedVariables false
set_option linter.unnecessarySimpa false
set_option maxRecDepth 8000
set_option maxHeartbeats 2000000
open Go.RX.Hd (yv y2 n1 fk sk sr tH callE heldK qo qk qn qt qz qv endH thenN slots)
namespace Go.Proofs.YtbfddabjbkohdaaGreat
open Go.RX Fx
namespace Rf
open Wo
def RwI.upW (j : RwI) (a : Option Addr) (c : Nat) : RwI := { j with wa := a, wc := c }
theorem rset_wts {rs : List Row} {n o m c : Nat} {x : WireA} {j : RwI} {l : List Nat} {a : Option Addr} (h : rs[n]? = some (x, j)) (ho : o = n * 20 + 19) (hl : l.length = m) : (rs.flatMap encRW).set o (.slice a m c) = (rs.set n (x.wts l, j.upW a c)).flatMap encRW := by
 subst ho hl; refine rows_set (j := 19) encRW_len (by omega) ?_ h (by omega)
 rfl
theorem sd_wts {c : Nat} {X : WireA} {j : RwI} {l : List Nat} {a : Option Addr} {L : List SP} : ∀ h, sep (own 3 1 a l.length c (nats l) :: SdB (X, j) 0 :: SdB (X, j) (1 - 0) :: L) h → sep (Sd (X.wts l, j.upW a c) :: L) h := fun h s =>
 sd_fold (p := (X.wts l, j.upW a c)) (k := 0) (by decide) h (show sep (SdB (X, j) 0 :: SdB (X, j) (1 - 0) :: own 3 1 a l.length c (nats l) :: L) h from Ent.sep enn h s)
theorem rAccept_ct (L : List SP) (b : Nat) (w : WA) (hw : WOk w) (fd : Int) : Ct Tryz.prog 60 #[.pointer (some ⟨b, 0, none⟩), .int .i64 fd] (RwP b w :: L) (fun _ : Unit => .tuple #[.int .i64 (accR w fd).1.1, .int .i64 (accR w fd).1.2.1, .int .i64 (accR w fd).1.2.2]) (fun _ : Unit => RwP b (accR w fd).2 :: L) := by
 refine Ct.o2 Tryz.func60 ?_; intro E
 show Hd E 94 _ _ _ _
 refine sr fun _ K1 => ?_
 refine yv y_as <| yv y_as <| yv y_as <| fk [(0,_),(1,_)] K1 ?_; refine sr fun _ K2 => ?_
 refine yv y_mv <| yv y_mv <| callE rfl fk116 (rat_ct _ b w hw fd) sq ?_; intro _; refine yv y_mv <| yv y_ex <| yv y_ex <| yv y_as <| yv y_as <| fk [(0,_),(7,_)] K2 ?_; refine Hd.seq fun _ K3 => ?_
 refine sr fun _ K4 => ?_
 refine yv y_mv <| yv (y_lss rfl rfl) ?_; refine fk [(0,_),(7,_),(18,_)] K4 ?_; refine qz ?_ ?_ <;> intro hc0 <;> try simp only [hyZ] at hc0
 ·refine sr fun _ K5 => ?_
  refine yv y_as <| yv y_as <| yv y_as <| fk [(4,_),(5,_),(6,_)] K5 ?_; refine Hd.ret <| Hd.thenRet ?_
  have hno := atN_no hc0
  rw [show accR w fd = ((0, 0, 110), w) by unfold accR; rw [hno]]; exact Hd.ret3 rfl () rfl rfl rfl rfl sq
 obtain ⟨n, k, hnk⟩ := atN_yes (by omega)
 obtain ⟨_, _, hk, hnl, x, hx, _, _⟩ := hw.at_lt hnk
 rw [show atN (w.at fd) = (n : Int) by rw [hnk]; rfl]; refine Hd.rw .here (fun i hi => ?_)
 have hrl := rows_n hi
 obtain ⟨j, hrow⟩ := row_at hi hx
 have hn : n < i.1.length := (List.getElem?_eq_some_iff.1 hrow).1
 have hlen := hw.len
 have hwt := wt_le hw hx
 have hR : accR w fd = (if x.bl = 0 then ((0, 0, 111), w) else match x.wt with | [] => ((0, 0, 113), w) | a :: t => match frees w.at with | [] => ((0, 0, 112), w) | f :: _ => match (w.setW n (x.wts t)).ws[a]? with | none => ((0, 0, 112), w) | some y => ((((f : Nat) : Int), ((a : Nat) : Int), (0 : Int)), (w.setW n (x.wts t)).setW a (giveW y f))) := by
  unfold accR; rw [hnk]; dsimp only; rw [hx]; rfl
 refine qv K3 <| Hd.seq fun _ K6 => ?_
 refine sr fun _ K7 => ?_
 refine yv y_mv <| yv y_np <| yv (y_f 0 129 Tryz.underlying133 sz129) <| yv (y_l1 ag129 rfl) <| yv y_mv <| yv (y_idxR Tryz.underlying129 sz221 rfl rfl (by omega) (by exact RdS.own pkk)) ?_; refine yv (y_fR 18 3 Tryz.underlying221 sz3) ?_; refine yv (y_rw ag3 rfl hrow 18 rfl) ?_; refine yv (y_eql rfl rfl) ?_; refine fk [(0,_),(7,_),(27,_)] K7 ?_; refine qz ?_ ?_ <;> intro hc1 <;> try simp only [hyZ] at hc1
 ·refine sr fun _ K8 => ?_
  refine yv y_as <| yv y_as <| yv y_as <| fk [(4,_),(5,_),(6,_)] K8 ?_; refine Hd.ret <| Hd.thenRet ?_; rw [hR, if_pos hc1]; exact Hd.ret3 rfl () rfl rfl rfl rfl (rw_fold hi)
 refine qv K6 <| Hd.seq fun _ K9 => ?_
 refine sr fun _ K10 => ?_
 refine yv y_mv <| yv y_np <| yv (y_f 0 129 Tryz.underlying133 sz129) <| yv (y_l1 ag129 rfl) <| yv y_mv <| yv (y_idxR Tryz.underlying129 sz221 rfl rfl (by omega) (by exact RdS.own pkk)) ?_; refine yv (y_fR 19 44 Tryz.underlying221 sz44) ?_; refine yv (y_rw ag44 rfl hrow 19 rfl) ?_; refine yv (y_len Tryz.underlying44 rfl) ?_; refine yv (y_eql rfl rfl) ?_; refine fk [(0,_),(7,_),(37,_)] K10 ?_; refine qz ?_ ?_ <;> intro hc2 <;> try simp only [hyZ] at hc2
 ·refine sr fun _ K11 => ?_
  refine yv y_as <| yv y_as <| yv y_as <| fk [(4,_),(5,_),(6,_)] K11 ?_; refine Hd.ret <| Hd.thenRet ?_; rw [hR, if_neg hc1, List.length_eq_zero_iff.1 (show x.wt.length = 0 by omega)]; exact Hd.ret3 rfl () rfl rfl rfl rfl (rw_fold hi)
 obtain ⟨a, t, hat⟩ : ∃ a t, x.wt = a :: t := by
  cases h : x.wt with
  | nil => rw [h] at hc2; exact absurd rfl hc2
  | cons a t => exact ⟨a, t, rfl⟩
 have hR2 : accR w fd = (match frees w.at with | [] => ((0, 0, 112), w) | f :: _ => match (w.setW n (x.wts t)).ws[a]? with | none => ((0, 0, 112), w) | some y => ((((f : Nat) : Int), ((a : Nat) : Int), (0 : Int)), (w.setW n (x.wts t)).setW a (giveW y f))) := by
  rw [hR, if_neg hc1, hat]
 refine Hd.heap (RwP b w :: L) (rw_fold hi) ?_; refine qv K9 <| sr fun _ K12 => ?_
 refine yv y_mv <| callE rfl fk114 (rfree_ct _ b w hw) sq ?_; rintro ⟨ad, c⟩; dsimp only; refine yv y_as <| fk [(0,_),(7,_),(9,_)] K12 ?_; refine Hd.seq fun _ K13 => ?_
 refine sr fun _ K14 => ?_
 refine yv y_mv <| yv (y_len Tryz.underlying44 rfl) ?_; refine yv (y_eql rfl rfl) ?_; refine fk [(0,_),(7,_),(9,_),(42,_)] K14 ?_; refine qz ?_ ?_ <;> intro hc3 <;> try simp only [hyZ] at hc3
 ·refine sr fun _ K15 => ?_
  refine yv y_as <| yv y_as <| yv y_as <| fk [(4,_),(5,_),(6,_)] K15 ?_; refine Hd.ret <| Hd.thenRet ?_; rw [hR2, List.length_eq_zero_iff.1 (show (frees w.at).length = 0 by omega)]; exact Hd.ret3 rfl () rfl rfl rfl rfl sq
 obtain ⟨f, ft, hf⟩ : ∃ f ft, frees w.at = f :: ft := by
  cases h : frees w.at with
  | nil => rw [h] at hc3; exact absurd rfl hc3
  | cons f ft => exact ⟨f, ft, rfl⟩
 have hna : n ≠ a := fun e => hw.ns n x hx (by rw [hat, ← e]; exact List.mem_cons_self)
 obtain ⟨y, hy, hy0⟩ := hw.wm a (List.mem_flatMap.2 ⟨x, List.mem_of_getElem? hx, by rw [hat]; exact List.mem_cons_self⟩)
 have hy2 : (w.setW n (x.wts t)).ws[a]? = some y := by rw [setW_ne (Ne.symm hna)]; exact hy
 have hR3 : accR w fd = ((((f : Nat) : Int), ((a : Nat) : Int), (0 : Int)), (w.setW n (x.wts t)).setW a (giveW y f)) := by rw [hR2, hf]; dsimp only; rw [hy2]
 have hfr0 : (nats (frees w.at))[0 * 1]? = some (.int .i64 (f : Int)) := by rw [hf]; rfl
 have hwl0 : (nats x.wt)[0 * 1]? = some (.int .i64 (a : Int)) := by rw [hat]; rfl
 have hwl : 0 < x.wt.length := by rw [hat]; exact Nat.succ_pos _
 have hfl : 0 < (frees w.at).length := by rw [hf]; exact Nat.succ_pos _
 refine Hd.rw (.there .here) (fun i2 hi2 => ?_)
 have hrl2 := rows_n hi2
 obtain ⟨j2, hrow2⟩ := row_at hi2 hx
 have hn2 : n < i2.1.length := (List.getElem?_eq_some_iff.1 hrow2).1
 refine Hd.bagOut pkk hrow2 ?_; refine Hd.sd .here 0 (by decide) ?_; refine Hd.ownCap (e := 3) (ad := j2.wa) (m := x.wt.length) (cap := j2.wc) pkk (fun hcap => ?_); refine qv K13 <| sr fun _ K16 => ?_
 refine yv y_mv <| yv y_np <| yv (y_f 0 129 Tryz.underlying133 sz129) <| yv (y_l1 ag129 rfl) <| yv y_mv <| yv (y_idxR Tryz.underlying129 sz221 rfl rfl (by omega) (by exact RdS.own pkk)) ?_; refine yv (y_fR 19 44 Tryz.underlying221 sz44) ?_; refine yv (y_rw ag44 rfl hrow2 19 rfl) ?_; refine yv (y_idxR Tryz.underlying44 sz3 rfl rfl (by exact (show (0 : Nat) < _ by omega)) (by exact RdS.own pkk)) ?_; refine yv (y_loadR1 ag3 rfl (RdS.own (ad := j2.wa) (us := nats x.wt) pkk) hwl0) ?_; refine yv y_as <| fk [(0,_),(7,_),(9,_),(10,_)] K16 ?_; refine Hd.seq fun _ K17 => ?_
 refine Hd.drawsH ([RwH b w i2.1.length i2.2.1 i2.2.2, OwR i2]) (fun j => !([16].contains j)) mixed ?_; simp only [List.length, Nat.zero_add, Nat.reduceAdd]; refine tH 0 rfl y_mv <| tH 1 rfl y_np <| tH 2 rfl (y_f 0 129 Tryz.underlying133 sz129) <| tH 3 rfl (y_l1 ag129 rfl) <| tH 4 rfl y_mv <| tH 5 rfl y_mv <| tH 6 rfl y_np <| tH 7 rfl (y_f 0 129 Tryz.underlying133 sz129) <| tH 8 rfl (y_l1 ag129 rfl) <| tH 9 rfl y_mv <| tH 10 rfl (y_idxR Tryz.underlying129 sz221 rfl rfl (by omega) (by exact RdS.own pkk)) ?_; refine tH 11 rfl (y_fR 19 44 Tryz.underlying221 sz44) ?_; refine tH 12 rfl (y_to (v' := .slice j2.wa x.wt.length j2.wc) (y_rw ag44 rfl hrow2 19 rfl) (by rfl)) ?_; refine tH 13 rfl (y_slo_oxx Tryz.underlying44 sz3 rfl rfl (by omega) (by omega)) ?_; refine qo 14 ?_; refine yv (y_idxR Tryz.underlying129 sz221 rfl rfl (by omega) (by exact RdS.own pkk)) ?_
 refine qk <| tH 15 rfl (y_fR 19 44 Tryz.underlying221 sz44) ?_; refine qo 16 ?_; refine Hd.storeO1 sz44 rfl rfl rfl pkk (by rw [rows_len encRW_len]; omega) ?_
 try simp only [hyS]
 refine qn <| endH kq ?_; rw [rset_wts (l := t) hrow2 (by omega) (by rw [hat]; rfl)]; refine Hd.ownDrop (e := 3) (ad := j2.wa) (m := x.wt.length) (cap := j2.wc) (us := nats x.wt) pkk 1 (nats [a]) (nats t) hwl (by rw [hat]; rfl) rfl ?_; refine Hd.heap (RwP b (w.setW n (x.wts t)) :: own 3 1 ad (frees w.at).length c (nats (frees w.at)) :: L) (fun q s => rw_put hi2 hn2 q (Ent.sep enn q (sd_wts (X := x) (j := j2) (l := t) (a := cutA j2.wa 1 1 j2.wc) (c := j2.wc - 1) q (Ent.sep (.eq pkk (own_eq3 (by rw [hat]; rfl) rfl rfl) enn) q s)))) ?_; refine Hd.rw .here (fun i3 hi3 => ?_)
 have hrl3 := rows_n hi3
 obtain ⟨j3, hrow3⟩ := row_at hi3 hy2
 have hn3 : a < i3.1.length := (List.getElem?_eq_some_iff.1 hrow3).1
 have hl3 : (i3.1.flatMap encRW).length = i3.1.length * 20 := rows_len encRW_len _
 refine sk [(0,_),(9,_),(10,_)] K17 ?_; refine sr fun _ K18 => ?_
 refine yv y_mv <| yv y_np <| yv (y_f 0 129 Tryz.underlying133 sz129) <| yv (y_l1 ag129 rfl) <| yv y_mv <| yv (y_idxR Tryz.underlying129 sz221 rfl rfl (by omega) (by exact RdS.own pkk)) ?_; refine yv (y_fR 0 219 Tryz.underlying221 sz219) ?_; refine yv (y_idxAR Tryz.underlying219 sz218 rfl rfl (by decide)) ?_; refine yv (y_fR 0 3 Tryz.underlying218 sz3) ?_; refine Hd.storeO1 sz3 rfl rfl rfl pkk (by show a * 20 + 0 + 0 * 8 + 0 < (i3.1.flatMap encRW).length; rw [hl3]; omega) ?_
 try simp only [hyS]
 refine Hd.nil ?_; rw [rset (x' := y.up 0 fun e => { e with what := 1 }) (i' := j3) (k := 0) (j := 0) (o := a * 20 + 0 + 0 * 8 + 0) (v := .int .i64 1) hrow3 (by decide) (by decide) (by omega) rfl rfl rfl]
 have hrow4 : (i3.1.set a (y.up 0 (fun e => { e with what := 1 }), j3))[a]? = some (y.up 0 (fun e => { e with what := 1 }), j3) := by rw [List.getElem?_set_self hn3]
 refine sk [(0,_),(9,_),(10,_)] K18 ?_; refine Hd.seq fun _ K19 => ?_
 refine Hd.drawsH ([RwH b (w.setW n (x.wts t)) i3.1.length i3.2.1 i3.2.2, own 221 20 i3.2.1 i3.1.length i3.2.2 ((i3.1.set a (y.up 0 (fun e => { e with what := 1 }), j3)).flatMap encRW), own 3 1 ad (frees w.at).length c (nats (frees w.at))]) (fun j => !([12].contains j)) mixed ?_; simp only [List.length, Nat.zero_add, Nat.reduceAdd]; refine tH 0 rfl y_mv <| tH 1 rfl y_np <| tH 2 rfl (y_f 0 129 Tryz.underlying133 sz129) <| tH 3 rfl (y_l1 ag129 rfl) <| tH 4 rfl y_mv <| tH 5 rfl y_mv <| tH 6 rfl (y_idxR Tryz.underlying44 sz3 rfl rfl (by exact (show (0 : Nat) < _ by omega)) (by exact RdS.own pkk)) ?_; refine tH 7 rfl (y_loadR1 ag3 rfl (by exact RdS.own pkk) (by exact hfr0)) ?_; refine qo 8 ?_; refine yv (y_idxR Tryz.underlying129 sz221 rfl rfl (by omega) (by exact RdS.own pkk)) ?_; refine qk <| qo 9 ?_; refine yv (y_fR 0 219 Tryz.underlying221 sz219) ?_
 refine qk <| qo 10 ?_; refine yv (y_idxAR Tryz.underlying219 sz218 rfl rfl (by decide)) ?_; refine qk <| tH 11 rfl (y_fR 1 3 Tryz.underlying218 sz3) ?_; refine qo 12 ?_; refine Hd.storeO1 sz3 rfl rfl rfl pkk (show a * 20 + 0 + 0 * 8 + 1 < ((i3.1.set a (y.up 0 (fun e => { e with what := 1 }), j3)).flatMap encRW).length by rw [rows_len encRW_len, List.length_set]; omega) ?_; refine qn <| endH kq ?_; rw [rset (x' := giveW y f) (i' := j3) (k := 0) (j := 1) (o := a * 20 + 0 + 0 * 8 + 1) (v := .int .i64 (f : Int)) hrow4 (by decide) (by decide) (by omega) rfl rfl rfl, List.set_set]; refine sk [(9,_),(10,_)] K19 ?_; refine sr fun _ K20 => ?_
 refine yv y_mv <| yv (y_idxR Tryz.underlying44 sz3 rfl rfl (by exact (show (0 : Nat) < _ by omega)) (by exact RdS.own pkk)) ?_; refine yv (y_loadR1 ag3 rfl (by exact RdS.own pkk) (by exact hfr0)) ?_; refine yv y_mv <| yv y_as <| yv y_as <| yv y_as <| fk [(4,_),(5,_),(6,_)] K20 ?_; refine Hd.ret ?_; rw [hR3]
 exact Hd.ret3 rfl () rfl rfl rfl rfl (fun q s => rw_head (x' := giveW y f) hi3 hrow3 (fun k hk => by
  rcases (show k = 0 ∨ k = 1 by omega) with rfl | rfl
  ·rw [give0]
  ·rw [give1]) rfl q (Ent.sep enn q s))
end Rf
end Go.Proofs.YtbfddabjbkohdaaGreat
namespace Go.Proofs.YtbfddabjbkohdaaGreat
open Go.RX Fx
namespace Wo
theorem clonen_ct (L : List SP) (ad : Option Addr) (c : Nat) (xs : List Nat) (h : RdS L 1 ad xs.length (nats xs)) (hb : xs.length ≤ 10000000) : Ct Tryz.prog 179 #[.slice ad xs.length c] (L) (fun q_ : Option Addr × Nat => .slice q_.1 xs.length q_.2) (fun q_ : Option Addr × Nat => own 3 1 q_.1 xs.length q_.2 (nats xs) :: L) := by
 refine Ct.o1 Tryz.func179 ?_; intro E
 show Hd E 8 _ _ _ _
 refine Hd.rdsF h (fun _ hnil => ?_); refine sr fun _ K1 => ?_
 refine yv y_as <| fk [(0,_)] K1 ?_; refine Hd.seq fun _ K2 => ?_
 refine sr fun _ K3 => ?_
 refine yv y_mv <| yv (y_eql_slice Tryz.underlying44 rfl rfl) ?_; refine fk [(0,_),(4,_)] K3 ?_; refine qz ?_ ?_ <;> intro hc0 <;> try simp only [hyZ] at hc0
 ·refine sr fun _ K4 => ?_
  refine yv y_as <| fk [(2,_)] K4 ?_; refine Hd.ret <| Hd.thenRet ?_
  have h0 : xs = [] := by
   have := hnil (by simpa using hc0)
   simpa using this
  subst h0; exact Hd.ret1 rfl (none, 0) rfl (Ent.sep (.ownNil .same))
 refine qv K2 <| sr fun _ K5 => ?_
 refine Hd.bslice (vs := []) rfl (by exact bs179_5 ..) (fun b5 => ?_); refine Hd.ownNil 3 1 (some ⟨b5, 0, none⟩) ?_; refine yv y_mv <| Hd.append Tryz.underlying44 ty3 rfl rfl rfl pkk (by exact RdS.mono h sq) (by simp [Value.oneCell']; done) (by simp only [maxLen]; omega) (by omega) (fun ad7 cap7 => ?_); refine yv y_as <| fk [(2,_)] K5 ?_; refine Hd.ret ?_; exact Hd.ret1 rfl (ad7, cap7) (by simp; rfl) (Ent.sep (.eq pkk (own_eq (by omega) (by simp)) enn))
theorem conn_yes {w : WA} {n : Nat} {x : WireA} {m : Int} (hx : w.ws[n]? = some x) : connR w n m = if x.bl = 0 ∨ (x.e 0).what ≠ 1 then ((0, 116), w) else if m < 1 ∨ 65536 < m then ((0, 2), w) else if x.bl ≤ (x.wt.length : Int) then ((0, 113), w)
  else if 1000 ≤ w.ws.length then ((0, 112), w) else ((((w.ws.length : Nat) : Int), (0 : Int)), (w.addW (connW m.toNat)).setW n (waitW x w.ws.length)) := by
 unfold connR; rw [if_neg (by omega), Int.toNat_natCast, hx]
theorem conn_off {w : WA} {n m : Int} (h : n < 0 ∨ (w.ws.length : Int) ≤ n) : connR w n m = ((0, 116), w) := by
 unfold connR
 have e : (if n < 0 then none else w.ws[n.toNat]?) = none := by
  split
  ·rfl
  ·exact List.getElem?_eq_none (by omega)
 rw [e]
theorem wire_wait {b m : Nat} {x : WireA} {i : WI} {wa : Option Addr} {wc : Nat} {L : List SP} (hi : WIOk x i) : ∀ h, sep (pt b (encW (waitW x m) { i with wa := wa, wc := wc }) 199 :: own 3 1 wa (x.wt ++ [m]).length wc (nats (x.wt ++ [m])) :: RgO (i.p 0) x.cap (x.e 0).b :: RgO (i.p (1 - 0)) x.cap (x.e (1 - 0)).b :: L) h → sep (WireP b (waitW x m) :: L) h := fun h s => by
 have e0 := (wait_e x m 0).2.2.2.2
 have e1 := (wait_e x m 1).2.2.2.2
 refine wire_fold (x := waitW x m) (i := { i with wa := wa, wc := wc }) (k := 0) ⟨fun j hj => by rw [(wait_e x m j).2.2.1]; exact hi.rd j hj⟩ (by omega) h ?_; unfold WireB; rw [e0, show ((waitW x m).e (1 - 0)).b = (x.e 1).b from e1]; exact Ent.sep (show Ent _ (WireH b (waitW x m) { i with wa := wa, wc := wc } :: RgO (i.p 0) x.cap (x.e 0).b :: RgO (i.p (1 - 0)) x.cap (x.e (1 - 0)).b :: own 3 1 wa (x.wt ++ [m]).length wc (nats (x.wt ++ [m])) :: L) from enn) h s
theorem conn0_ct (L : List SP) (wb : Nat) (w : WA) (n m : Int) (hn : n < 0 ∨ (w.ws.length : Int) ≤ n) : Ct Tryz.prog 133 #[.pointer (some ⟨wb, 0, none⟩), .int .i64 n, .int .i64 m] (WorldP wb w :: L) (fun _ : Unit => .tuple #[.int .i64 0, .int .i64 116]) (fun _ : Unit => WorldP wb w :: L) := by
 refine Ct.o3 Tryz.func133 ?_; intro E
 show Hd E 143 _ _ _ _
 refine Hd.world .here (fun i hw hrs => ?_)
 have hrl : i.rs.length = w.ws.length := by rw [← hrs, List.length_map]
 refine sr fun _ K1 => ?_
 refine yv y_as <| yv y_as <| fk [(0,_),(1,_),(2,_)] K1 ?_; refine Hd.seq fun _ K2 => ?_
 refine Hd.block <| sr fun _ K3 => ?_
 refine yv y_mv <| callE rfl fk113 (wnone_ct _ wb w.at w i.rs.length i) sq ?_; intro _; refine yv y_as <| fk [(0,_),(1,_),(2,_),(10,_)] K3 ?_; refine Hd.condF rfl ?_; refine sr fun _ K4 => ?_
 refine yv y_mv <| yv (y_lss rfl rfl) ?_; refine yv y_mv <| Hd.part (gd := 16) rfl (fun hg3_16 => ?_) (fun hg3_16 => ?_)
 ·try simp only [hyZ] at hg3_16
  refine n1 <| n1 <| n1 <| n1 <| n1 <| n1 <| n1 <| yv (y_pickT rfl rfl) ?_; refine yv y_mv <| Hd.part (gd := 25) rfl (fun hg3_25 => ?_) (fun hg3_25 => ?_)
  ·try simp only [hyZ] at hg3_25
   refine n1 <| n1 <| n1 <| n1 <| n1 <| n1 <| n1 <| n1 <| n1 <| n1 <| n1 <| yv (y_pickT rfl rfl) ?_; refine yv y_mv <| Hd.part (gd := 38) rfl (fun hg3_38 => ?_) (fun hg3_38 => ?_)
   ·try simp only [hyZ] at hg3_38
    refine n1 <| n1 <| n1 <| n1 <| n1 <| n1 <| n1 <| n1 <| n1 <| n1 <| n1 <| n1 <| n1 <| yv (y_pickT rfl rfl) ?_; refine yv y_as <| fk [(0,_),(1,_),(2,_),(13,_)] K4 ?_; refine Hd.condT rfl ?_; refine sr fun _ K5 => ?_
    refine yv y_as <| yv y_as <| fk [(6,_),(7,_)] K5 ?_; refine Hd.ret <| Hd.inBret <| Hd.thenRet ?_; exact Hd.ret2 rfl () rfl rfl rfl (Ent.sep (.ex i (.pure ⟨hw, hrs⟩ enn)))
   try simp only [hyZ] at hg3_38
   exfalso; simp at hg3_38; done
  try simp only [hyZ] at hg3_25
  exfalso; simp at hg3_25; done
 try simp only [hyZ] at hg3_16
 refine y2 y_mv <| y2 y_mv <| y2 y_np <| y2 (y_f 288 208 Tryz.underlying210 sz208) <| y2 (y_load1 ag208 rfl (Rd.pt1 pkk (by exact woT_at (j := 0) (by omega) rfl))) ?_; refine y2 (y_len Tryz.underlying208 rfl) ?_; refine y2 (y_geq rfl rfl) ?_; refine yv (y_pickF rfl rfl) ?_; refine yv y_mv <| Hd.part (gd := 25) rfl (fun hg3_25 => ?_) (fun hg3_25 => ?_)
 ·try simp only [hyZ] at hg3_25
  refine n1 <| n1 <| n1 <| n1 <| n1 <| n1 <| n1 <| n1 <| n1 <| n1 <| n1 <| yv (y_pickT rfl rfl) ?_; refine yv y_mv <| Hd.part (gd := 38) rfl (fun hg3_38 => ?_) (fun hg3_38 => ?_)
  ·try simp only [hyZ] at hg3_38
   refine n1 <| n1 <| n1 <| n1 <| n1 <| n1 <| n1 <| n1 <| n1 <| n1 <| n1 <| n1 <| n1 <| yv (y_pickT rfl rfl) ?_; refine yv y_as <| fk [(0,_),(1,_),(2,_),(13,_)] K4 ?_; refine Hd.condT rfl ?_; refine sr fun _ K6 => ?_
   refine yv y_as <| yv y_as <| fk [(6,_),(7,_)] K6 ?_; refine Hd.ret <| Hd.inBret <| Hd.thenRet ?_; exact Hd.ret2 rfl () rfl rfl rfl (Ent.sep (.ex i (.pure ⟨hw, hrs⟩ enn)))
  try simp only [hyZ] at hg3_38
  exfalso; simp at hg3_38; done
 try simp only [hyZ] at hg3_25
 exfalso; omega
theorem conn1_ct (L : List SP) (wb : Nat) (w : WA) (n : Nat) (x : WireA) (hx : w.ws[n]? = some x) (m : Int) : Ct Tryz.prog 133 #[.pointer (some ⟨wb, 0, none⟩), .int .i64 (n : Int), .int .i64 m] (WorldP wb w :: L) (fun _ : Unit => .tuple #[.int .i64 (connR w n m).1.1, .int .i64 (connR w n m).1.2]) (fun _ : Unit => WorldP wb (connR w n m).2 :: L) := by
 refine Ct.o3 Tryz.func133 ?_; intro E
 show Hd E 143 _ _ _ _
 refine Hd.world .here (fun i hw hrs => ?_)
 have hrl : i.rs.length = w.ws.length := by rw [← hrs, List.length_map]
 obtain ⟨b, hb⟩ := rs_at hrs hx
 have hnl : n < i.rs.length := (List.getElem?_eq_some_iff.1 hb).1
 have hok := conn_ok hw (n : Int) m
 have hcr := conn_yes (m := m) hx
 have hwl := wt_le hw hx
 have hwe := hw.len
 refine sr fun _ K1 => ?_
 refine yv y_as <| yv y_as <| fk [(0,_),(1,_),(2,_)] K1 ?_; refine Hd.seq fun _ K2 => ?_
 refine Hd.block <| sr fun _ K3 => ?_
 refine yv y_mv <| callE rfl fk113 (wnone_ct _ wb w.at w i.rs.length i) sq ?_; intro _; refine yv y_as <| fk [(0,_),(1,_),(2,_),(10,_)] K3 ?_; refine Hd.condF rfl ?_; refine Hd.seq fun _ K4 => ?_
 refine Hd.wOut pkk hb ?_; refine Hd.wire .here 0 (by omega) (fun i2 hi => ?_); refine Hd.region <| yv y_mv <| yv (y_lss rfl rfl) ?_; refine yv y_mv ?_; apply Hd.org 8 16 24 [(0,_),(1,_),(2,_)] rfl sbq
 ·intro hg3_16
  try simp only [hyZ] at hg3_16
  simp only [List.take]; refine n1 <| n1 <| n1 <| n1 <| n1 <| n1 <| n1 <| yv (y_pickT rfl rfl) ?_; exact Hd.mn
 ·intro hg3_16
  try simp only [hyZ] at hg3_16
  simp only [List.take]; refine y2 y_mv <| y2 y_mv <| y2 y_np <| y2 (y_f 288 208 Tryz.underlying210 sz208) <| y2 (y_load1 ag208 rfl (Rd.pt1 pkk (by exact woT_at (j := 0) (by omega) rfl))) ?_; refine y2 (y_len Tryz.underlying208 rfl) ?_; refine y2 (y_geq rfl rfl) ?_; refine yv (y_pickF rfl rfl) ?_; exact Hd.mn
 simp only [List.drop]; refine yv y_mv ?_; apply Hd.org (q := decide (x.bl = 0)) 12 25 37 [(0,_),(1,_),(2,_)] rfl sbq
 ·intro hg3_25
  try simp only [hyZ] at hg3_25
  simp only [List.take]; refine n1 <| n1 <| n1 <| n1 <| n1 <| n1 <| n1 <| n1 <| n1 <| n1 <| n1 <| yv (y_pickT rfl rfl) ?_; exact Hd.mn
 ·intro hg3_25
  try simp only [hyZ] at hg3_25
  simp only [List.take]; refine y2 y_mv <| y2 y_np <| y2 (y_f 288 208 Tryz.underlying210 sz208) <| y2 (y_load1 ag208 rfl (Rd.pt1 pkk (by exact woT_at (j := 0) (by omega) rfl))) ?_; refine y2 y_mv <| y2 (y_idxR Tryz.underlying208 sz191 rfl rfl (by omega) (by exact RdS.own pkk)) ?_; refine y2 (y_loadR1 ag191 rfl (by exact RdS.own pkk) (by exact pws_at hb)) ?_; refine y2 y_np <| y2 (y_f 15 3 Tryz.underlying199 sz3) <| y2 (y_l1 ag3 rfl) <| y2 (y_eql rfl rfl) ?_; refine yv (y_pickF rfl rfl) ?_; exact Hd.mn
 simp only [List.drop]; refine yv y_mv ?_; apply Hd.org (q := decide ((x.e 0).what ≠ 1)) 14 38 52 [(0,_),(1,_),(2,_)] rfl sbq
 ·intro hg3_38
  try simp only [hyZ] at hg3_38
  simp only [List.take]; refine n1 <| n1 <| n1 <| n1 <| n1 <| n1 <| n1 <| n1 <| n1 <| n1 <| n1 <| n1 <| n1 <| yv (y_pickT rfl rfl) ?_; exact Hd.mn
 ·intro hg3_38
  try simp only [hyZ] at hg3_38
  simp only [List.take]; refine y2 y_mv <| y2 y_np <| y2 (y_f 288 208 Tryz.underlying210 sz208) <| y2 (y_load1 ag208 rfl (Rd.pt1 pkk (by exact woT_at (j := 0) (by omega) rfl))) ?_; refine y2 y_mv <| y2 (y_idxR Tryz.underlying208 sz191 rfl rfl (by omega) (by exact RdS.own pkk)) ?_; refine y2 (y_loadR1 ag191 rfl (by exact RdS.own pkk) (by exact pws_at hb)) ?_; refine y2 y_np <| y2 (y_f 0 197 Tryz.underlying199 sz197) <| y2 (y_idxA Tryz.underlying197 sz196 rfl rfl (by decide)) ?_; refine y2 (y_f 0 3 Tryz.underlying196 sz3) <| y2 (y_l1 ag3 rfl) <| y2 (y_neq rfl rfl) ?_; refine yv (y_pickF rfl rfl) ?_; exact Hd.mn
 simp only [List.drop]; refine yv y_as <| fk [(0,_),(1,_),(2,_),(13,_)] K4 ?_; refine qz ?_ ?_ <;> intro hc1 <;> try simp only [hyZ] at hc1
 ·refine sr fun _ K5 => ?_
  refine yv y_as <| yv y_as <| fk [(6,_),(7,_)] K5 ?_; refine Hd.ret <| Hd.inBret <| Hd.thenRet ?_
  have h1 : x.bl = 0 ∨ (x.e 0).what ≠ 1 := by
   rcases hc1 with (h | h) | h
   ·omega
   ·exact .inl h
   ·exact .inr h
  rw [hcr, if_pos h1]; exact Hd.ret2 rfl () rfl rfl rfl (fun q s => world_back (k := 0) hw hrs hb hi (by omega) q (Ent.sep enn q s))
 rw [if_neg (by rintro (h | h); exact hc1.1.2 h; exact h hc1.2)] at hcr; refine sr fun _ K6 => ?_
 refine yv y_mv <| callE rfl fk169 (cap_ct _ m) sq ?_; intro _; refine yv (y_not rfl) <| yv y_as <| fk [(0,_),(1,_),(2,_),(53,_)] K6 ?_; refine qz ?_ ?_ <;> intro hc2 <;> try simp only [hyZ] at hc2
 ·refine sr fun _ K7 => ?_
  refine yv y_as <| yv y_as <| fk [(6,_),(7,_)] K7 ?_; refine Hd.ret <| Hd.inBret <| Hd.thenRet ?_; rw [hcr, if_pos (by omega)]; exact Hd.ret2 rfl () rfl rfl rfl (fun q s => world_back (k := 0) hw hrs hb hi (by omega) q (Ent.sep enn q s))
 rw [if_neg (by omega)] at hcr; refine Hd.seq fun _ K8 => ?_
 refine Hd.quiet mixed kq ?_; refine Hq.yv y_mv ?_; refine Hq.yv y_np ?_; refine Hq.yv (y_f 288 208 Tryz.underlying210 sz208) ?_; refine Hq.yv (y_load1 ag208 rfl (Rd.pt1 pkk (by exact woT_at (j := 0) (by omega) rfl))) ?_; refine Hq.yv y_mv ?_; refine Hq.yv (y_idxR Tryz.underlying208 sz191 rfl rfl (by omega) (by exact RdS.own pkk)) ?_; refine Hq.yv (y_loadR1 ag191 rfl (by exact RdS.own pkk) (by exact pws_at hb)) ?_; refine Hq.yv y_np ?_; refine Hq.yv (y_f 16 44 Tryz.underlying199 sz44) ?_; refine Hq.yv (y_l1 ag44 rfl) ?_; refine Hq.yv (y_len Tryz.underlying44 rfl) ?_; refine Hq.yv y_mv ?_; refine Hq.yv y_np ?_; refine Hq.yv (y_f 288 208 Tryz.underlying210 sz208) ?_; refine Hq.yv (y_load1 ag208 rfl (Rd.pt1 pkk (by exact woT_at (j := 0) (by omega) rfl))) ?_; refine Hq.yv y_mv ?_; refine Hq.yv (y_idxR Tryz.underlying208 sz191 rfl rfl (by omega) (by exact RdS.own pkk)) ?_; refine Hq.yv (y_loadR1 ag191 rfl (by exact RdS.own pkk) (by exact pws_at hb)) ?_
 refine Hq.yv y_np ?_; refine Hq.yv (y_f 15 3 Tryz.underlying199 sz3) ?_; refine Hq.yv (y_l1 ag3 rfl) ?_; refine Hq.yv (y_geq rfl rfl) ?_; refine Hq.yv y_as ?_; refine Hq.nil ?_; refine sk [(0,_),(1,_),(2,_),(57,_)] K8 ?_; refine qz ?_ ?_ <;> intro hc3 <;> try simp only [hyZ] at hc3
 ·refine sr fun _ K9 => ?_
  refine yv y_as <| yv y_as <| fk [(6,_),(7,_)] K9 ?_; refine Hd.ret <| Hd.inBret <| Hd.thenRet ?_; rw [hcr, if_pos (by omega)]; exact Hd.ret2 rfl () rfl rfl rfl (fun q s => world_back (k := 0) hw hrs hb hi (by omega) q (Ent.sep enn q s))
 rw [if_neg (by omega)] at hcr; refine sr fun _ K10 => ?_
 refine yv y_mv <| yv y_np <| yv (y_f 288 208 Tryz.underlying210 sz208) <| yv (y_load1 ag208 rfl (Rd.pt1 pkk (by exact woT_at (j := 0) (by omega) rfl))) ?_; refine yv (y_len Tryz.underlying208 rfl) ?_; refine yv (y_geq rfl rfl) ?_; refine yv y_as <| fk [(0,_),(1,_),(2,_),(80,_)] K10 ?_; refine qz ?_ ?_ <;> intro hc4 <;> try simp only [hyZ] at hc4
 ·refine sr fun _ K11 => ?_
  refine yv y_as <| yv y_as <| fk [(6,_),(7,_)] K11 ?_; refine Hd.ret <| Hd.inBret <| Hd.thenRet ?_; rw [hcr, if_pos (by omega)]; exact Hd.ret2 rfl () rfl rfl rfl (fun q s => world_back (k := 0) hw hrs hb hi (by omega) q (Ent.sep enn q s))
 rw [if_neg (by omega)] at hcr
 obtain ⟨mm, rfl⟩ : ∃ k : Nat, m = (k : Int) := ⟨m.toNat, by omega⟩
 rw [Int.toNat_natCast] at hcr; refine Hd.skip <| Hd.inB <| Hd.toK K2 ?_; refine sr fun _ K12 => ?_
 refine yv y_mv <| callE rfl fk109 (both_ct _ mm (by omega) (by omega)) sq ?_; intro bn; refine yv y_as <| fk [(0,_),(1,_),(8,_)] K12 ?_; refine Hd.seq fun _ K13 => ?_
 refine Hd.wire .here 1 (by omega) (fun i3 hi3 => ?_); refine Hd.region <| yv y_mv <| yv y_np <| yv (y_f 0 197 Tryz.underlying199 sz197) <| yv (y_idxA Tryz.underlying197 sz196 rfl rfl (by decide)) ?_; refine yv (y_f 0 3 Tryz.underlying196 sz3) <| Hd.store1 sz3 rfl rfl rfl pkk (by simp; done) ?_
 try simp only [hyS]
 refine Hd.nil ?_; rw [show (encW (halfW mm 2) i3).set (0 + 0 + 1 * 7 + 0) (.int .i64 2) = encW (connW mm) i3 from rfl]; refine Hd.heap (WireP bn (connW mm) :: _) (fun q s => wire_close (x := halfW mm 2) (f := fun e => { e with what := 2 }) (k := 1) (k' := 1) hi3 (by omega) (fun _ => rfl) (fun _ => rfl) q (by exact Ent.sep enn q s)) ?_; refine sk [(0,_),(1,_),(8,_)] K13 ?_; refine sr fun _ K14 => ?_
 refine yv y_mv <| yv y_np <| yv (y_f 288 208 Tryz.underlying210 sz208) <| yv (y_load1 ag208 rfl (Rd.pt1 pkk (by exact woT_at (j := 0) (by omega) rfl))) ?_; refine yv y_mv <| yv (y_idxR Tryz.underlying208 sz191 rfl rfl (by omega) (by exact RdS.own pkk)) ?_; refine yv (y_loadR1 ag191 rfl (by exact RdS.own pkk) (by exact pws_at hb)) ?_; refine yv y_as <| fk [(0,_),(8,_),(9,_)] K14 ?_; refine Hd.cutK (ι := Option Addr × Nat) [(0,_),(8,_),(9,_)] (fun _ => []) (fun j => pt b (encW (x.wts (x.wt ++ [w.ws.length])) { i2 with wa := j.1, wc := j.2 }) 199 :: own 3 1 j.1 (x.wt ++ [w.ws.length]).length j.2 (nats (x.wt ++ [w.ws.length])) :: RgO (i2.p 0) x.cap (x.e 0).b :: RgO (i2.p (1 - 0)) x.cap (x.e (1 - 0)).b :: WireP bn (connW mm) :: WoR wb n w i L) ?_ ?_ ⟨rfl, rfl, rfl, trivial⟩
 ·refine Hd.drawsH ([WireH b x i2, WoH wb w.at w i.rs.length i, own 3 1 i2.wa x.wt.length i2.wc (nats x.wt)]) (fun j => !([15].contains j)) mixed ?_
  simp only [List.length, Nat.zero_add, Nat.reduceAdd]; refine tH 0 rfl y_mv <| tH 1 rfl y_mv <| tH 2 rfl y_np <| tH 3 rfl (y_f 16 44 Tryz.underlying199 sz44) <| tH 4 rfl (y_l1 ag44 rfl) <| tH 6 rfl y_mv <| tH 7 rfl y_np <| tH 8 rfl (y_f 288 208 Tryz.underlying210 sz208) <| tH 9 rfl (y_load1 ag208 rfl (Rd.pt1 pkk (by exact woT_at (j := 0) (by omega) rfl))) ?_; refine tH 10 rfl (y_len Tryz.underlying208 rfl) ?_; refine Hd.eitherH 5 11 rfl rfl kq ?_ ?_
  ·refine callE rfl fk179 (clonen_ct _ i2.wa i2.wc x.wt ?hD (by omega)) sq ?_
   case hD => exact RdS.own pkk
   rintro ⟨ca, cc⟩; dsimp only; refine qk <| qo 11 ?_; refine Hd.bslice (vs := [(0,_)]) rfl (by exact bs133_112 ..) (fun b112 => ?_); refine qk <| qo 12 ?_; refine Hd.append Tryz.underlying44 ty3 rfl rfl rfl pkk (by exact RdS.rd (Rd.pt pkk (fun j v e => by simpa using e)) rfl) (by simp [Value.oneCell']; done) (by simp only [maxLen]; omega) (by omega) (fun ad113 cap113 => ?_); refine qk <| qo 13 ?_; refine yv y_np <| qk <| tH 14 rfl (y_f 16 44 Tryz.underlying199 sz44) <| qo 15 ?_; refine Hd.store1 sz44 rfl rfl rfl pkk (by simp; done) ?_
   try simp only [hyS]
   refine qn <| endH kq ?_; refine slots [(0,_),(8,_),(9,_)] sbq ?_; refine thenN ?_
   have el : (x.wt ++ [w.ws.length]).length = x.wt.length + 1 := by simp
   exact Hd.meet (ad113, cap113) sbq (Ent.sep (.eq pkk (pt_eq (by show _ = encW (x.wts (x.wt ++ [w.ws.length])) { i2 with wa := ad113, wc := cap113 }; show _ = encE _ _ ++ (encE _ _ ++ [_, _, Value.slice ad113 (x.wt ++ [w.ws.length]).length cap113]); rw [el]; rfl)) (.eq pkk (own_eq3 el.symm rfl (by simp [nats, hrl])) enn)))
  refine Hd.bslice (vs := [(0,_)]) rfl (by exact bs133_112 ..) (fun b112 => ?_); refine qk <| qo 5 ?_; refine callE rfl fk179 (clonen_ct _ i2.wa i2.wc x.wt ?hD (by omega)) sq ?_
  case hD => exact RdS.own pkk
  rintro ⟨ca, cc⟩; dsimp only; refine qk <| qo 12 ?_; refine Hd.append Tryz.underlying44 ty3 rfl rfl rfl pkk (by exact RdS.rd (Rd.pt pkk (fun j v e => by simpa using e)) rfl) (by simp [Value.oneCell']; done) (by simp only [maxLen]; omega) (by omega) (fun ad113 cap113 => ?_); refine qk <| qo 13 ?_; refine yv y_np <| qk <| tH 14 rfl (y_f 16 44 Tryz.underlying199 sz44) <| qo 15 ?_; refine Hd.store1 sz44 rfl rfl rfl pkk (by simp; done) ?_
  try simp only [hyS]
  refine qn <| endH kq ?_; refine slots [(0,_),(8,_),(9,_)] sbq ?_; refine thenN ?_
  have el : (x.wt ++ [w.ws.length]).length = x.wt.length + 1 := by simp
  exact Hd.meet (ad113, cap113) sbq (Ent.sep (.eq pkk (pt_eq (by show _ = encW (x.wts (x.wt ++ [w.ws.length])) { i2 with wa := ad113, wc := cap113 }; show _ = encE _ _ ++ (encE _ _ ++ [_, _, Value.slice ad113 (x.wt ++ [w.ws.length]).length cap113]); rw [el]; rfl)) (.eq pkk (own_eq3 el.symm rfl (by simp [nats, hrl])) enn)))
 rintro ⟨ad113, cap113⟩; dsimp only; refine Hd.seq fun _ K15 => ?_
 refine Hd.tail 11 mixed kq ?_; simp only [List.take, List.drop]; refine Ht.yv y_mv ?_; refine Ht.yv y_np ?_; refine Ht.yv (y_f 0 197 Tryz.underlying199 sz197) ?_; refine Ht.yv (y_idxA Tryz.underlying197 sz196 rfl rfl (by decide)) ?_; refine Ht.yv (y_f 5 30 Tryz.underlying196 sz30) ?_; refine Ht.yv (y_l1 ag30 rfl) ?_; refine Ht.yv (y_add rfl rfl) ?_; refine Ht.yv y_np ?_; refine Ht.yv (y_f 0 197 Tryz.underlying199 sz197) ?_; refine Ht.yv (y_idxA Tryz.underlying197 sz196 rfl rfl (by decide)) ?_; refine Ht.yv (y_f 5 30 Tryz.underlying196 sz30) ?_; refine Ht.nil ?_; refine Hd.store1 sz30 rfl rfl rfl pkk (by simp; done) ?_
 try simp only [hyS]
 refine Hd.nil <| Hd.heap (WireP b (waitW x w.ws.length) :: _) (fun q s => wire_wait (x := x) (i := i2) (m := w.ws.length) hi q (by exact Ent.sep (.eq pkk (pt_eq (by rfl)) enn) q s)) ?_; refine sk [(0,_),(8,_)] K15 ?_; refine sr fun _ K16 => ?_
 refine yv y_mv <| yv y_mv <| yv y_np <| yv (y_f 288 208 Tryz.underlying210 sz208) <| yv (y_load1 ag208 rfl (Rd.pt1 pkk (by exact woT_at (j := 0) (by omega) rfl))) ?_; refine yv y_mv <| Hd.bslice (vs := [(0,_)]) rfl (by exact bs133_133 ..) (fun b133 => ?_); refine Hd.append Tryz.underlying208 ty191 rfl rfl rfl pkk (by exact RdS.rd (Rd.pt pkk (fun j v e => by simpa using e)) rfl) (by simp [Value.oneCell']; done) (by simp only [maxLen]; omega) (by omega) (fun ad134 cap134 => ?_); refine yv y_np <| yv (y_f 288 208 Tryz.underlying210 sz208) <| Hd.store1 sz208 rfl rfl rfl pkk (by rw [List.length_append, fdC_len]; simp) ?_
 try simp only [hyS]
 refine Hd.nil ?_; rw [show (fdC w.at ++ woT w i.rs.length i).set (0 + 288) (.slice ad134 (i.rs.length + 1) cap134) = fdC w.at ++ woT w (i.rs.length + 1) { i with wa := ad134, wc := cap134 } by rw [List.set_append_right _ _ (by rw [fdC_len]; omega), fdC_len]; rfl]; refine sk [(0,_)] K16 ?_; refine sr fun _ K17 => ?_
 refine yv y_mv <| yv y_np <| yv (y_f 288 208 Tryz.underlying210 sz208) <| yv (y_load1 ag208 rfl (Rd.pt1 pkk (by exact woT_at (j := 0) (by omega) rfl))) ?_; refine yv (y_len Tryz.underlying208 rfl) ?_; refine yv (y_to (v' := .int .i64 (w.ws.length : Int)) (y_subn rfl rfl (by simp only [InK]; omega)) (by (congr 1; omega))) ?_; refine yv y_as <| yv y_as <| fk [(6,_),(7,_)] K17 ?_; refine Hd.ret ?_; rw [hcr] at hok ⊢
 have hl : (i.rs ++ [(bn, connW mm)]).length = i.rs.length + 1 := by simp
 have hbb : (i.rs ++ [(bn, connW mm)])[n]? = some (b, x) := by rw [List.getElem?_append_left hnl]; exact hb
 have hst : (i.rs ++ [(bn, connW mm)]).set n (b, waitW x w.ws.length) = i.rs.set n (b, waitW x w.ws.length) ++ [(bn, connW mm)] := List.set_append_left _ _ hnl
 have hfs : (i.rs.set n (b, waitW x w.ws.length) ++ [(bn, connW mm)]).map Prod.fst = (i.rs ++ [(bn, connW mm)]).map Prod.fst := by rw [← hst, set_fst hbb]
 have hws : (i.rs.set n (b, waitW x w.ws.length) ++ [(bn, connW mm)]).map Prod.snd = ((w.addW (connW mm)).setW n (waitW x w.ws.length)).ws := by
  rw [← hst, List.map_set, List.map_append, hrs]; rfl
 refine Hd.ret2 rfl () rfl rfl rfl (sep_trans (B := WireP b (waitW x w.ws.length) :: Wires (i.rs.take n) :: Wires (i.rs.drop (n + 1)) :: WireP bn (connW mm) :: WoH wb w.at w (i.rs.length + 1) { i with wa := ad134, wc := cap134 } :: own 191 1 ad134 (i.rs.length + 1) cap134 (pws i.rs ++ [ptr (some bn)]) :: SigP i.sb w.hd w.ct :: L) (Ent.sep (.pick pkk (.pick pkk (.pick pkk (.pick pkk (.pick pkk (.eq pkk (own_eq3 rfl rfl (by rfl)) enn))))))) ?_); refine sep_trans (fun q s => ws_in hnl s) ?_; refine sep_trans (B := WireP bn (connW mm) :: Wires (i.rs.set n (b, waitW x w.ws.length)) :: _) (Ent.sep (.pick pkk (.pick pkk .same))) ?_; refine sep_trans (fun q s => ws_add s) ?_; refine sep_trans (Ent.sep ?_) (world_all (w := w) (i := { i with rs := i.rs ++ [(bn, connW mm)], wa := ad134, wc := cap134 }) (rs' := i.rs.set n (b, waitW x w.ws.length) ++ [(bn, connW mm)]) hok.1 hfs hws hok.2.1 rfl); exact .pick pkk (.eq pkk (pt_eq (show fdC w.at ++ woT w (i.rs.length + 1) { i with wa := ad134, wc := cap134 } = fdC w.at ++ woT w (i.rs ++ [(bn, connW mm)]).length { i with rs := i.rs ++ [(bn, connW mm)], wa := ad134, wc := cap134 } by rw [hl])) (.eq pkk (own_eq3 hl.symm rfl (pws_app ..)) enn))
theorem wconn_ct (L : List SP) (wb : Nat) (w : WA) (n m : Int) :
  Ct Tryz.prog 133 #[.pointer (some ⟨wb, 0, none⟩), .int .i64 n, .int .i64 m] (WorldP wb w :: L) (fun _ : Unit => .tuple #[.int .i64 (connR w n m).1.1, .int .i64 (connR w n m).1.2]) (fun _ => WorldP wb (connR w n m).2 :: L) := by
 by_cases h : n < 0 ∨ (w.ws.length : Int) ≤ n
 ·rw [conn_off h]
  exact conn0_ct L wb w n m h
 ·obtain ⟨k, rfl⟩ : ∃ k : Nat, n = (k : Int) := ⟨n.toNat, by omega⟩
  exact conn1_ct L wb w k _ (List.getElem?_eq_getElem (by omega)) m
end Wo
end Go.Proofs.YtbfddabjbkohdaaGreat
namespace Go.Proofs.YtbfddabjbkohdaaGreat
open Go.RX Fx
namespace Rf
open Wo
theorem mkX1_r (n j : Nat) (hj : j < 2) : (encRW (mkX 1 n j j, jz)).set (0 + 0 + j * 8 + 2) (.bool true) = encRW (mkX 1 n (j + 1) j, jz) := by
 rcases (show j = 0 ∨ j = 1 by omega) with rfl | rfl <;> rfl
theorem mkX1_w (n j : Nat) (hj : j < 2) : (encRW (mkX 1 n (j + 1) j, jz)).set (0 + 0 + j * 8 + 3) (.bool true) = encRW (mkX 1 n (j + 1) (j + 1), jz) := by
 rcases (show j = 0 ∨ j = 1 by omega) with rfl | rfl <;> rfl
theorem conn_b (n : Nat) : ((connW n).e 0).b = [] ∧ ((connW n).e 1).b = [] ∧ (connW n).wt = [] := ⟨rfl, rfl, rfl⟩
theorem conn_set {w : WA} {n : Nat} {y z : WireA} (h : n < w.ws.length) : (w.addW y).setW n z = (w.setW n z).addW y := by
 show ({ w with ws := (w.ws ++ [y]).set n z } : WA) = { w with ws := w.ws.set n z ++ [y] }
 rw [List.set_append_left _ _ h]
theorem rConn0_ct (L : List SP) (b : Nat) (w : WA) (n m : Int) (hn : n < 0 ∨ (w.ws.length : Int) ≤ n) : Ct Tryz.prog 134 #[.pointer (some ⟨b, 0, none⟩), .int .i64 n, .int .i64 m] (RwP b w :: L) (fun _ : Unit => .tuple #[.int .i64 0, .int .i64 116]) (fun _ : Unit => RwP b w :: L) := by
 refine Ct.o3 Tryz.func134 ?_; intro E
 show Hd E 149 _ _ _ _
 refine Hd.rw .here (fun i hi => ?_)
 have hrl := rows_n hi
 refine sr fun _ K1 => ?_
 refine yv y_as <| yv y_as <| fk [(0,_),(1,_),(2,_)] K1 ?_; refine Hd.seq fun _ K2 => ?_
 refine sr fun _ K3 => ?_
 refine yv y_mv <| yv (y_lss rfl rfl) ?_; refine yv y_mv <| Hd.part (gd := 13) rfl (fun hg1_13 => ?_) (fun hg1_13 => ?_)
 ·try simp only [hyZ] at hg1_13
  refine n1 <| n1 <| n1 <| n1 <| n1 <| n1 <| n1 <| yv (y_pickT rfl rfl) ?_; refine yv y_mv <| Hd.part (gd := 22) rfl (fun hg1_22 => ?_) (fun hg1_22 => ?_)
  ·try simp only [hyZ] at hg1_22
   refine n1 <| n1 <| n1 <| n1 <| n1 <| n1 <| n1 <| n1 <| n1 <| yv (y_pickT rfl rfl) ?_; refine yv y_mv <| Hd.part (gd := 33) rfl (fun hg1_33 => ?_) (fun hg1_33 => ?_)
   ·try simp only [hyZ] at hg1_33
    refine n1 <| n1 <| n1 <| n1 <| n1 <| n1 <| n1 <| n1 <| n1 <| n1 <| n1 <| yv (y_pickT rfl rfl) ?_; refine fk [(0,_),(1,_),(2,_),(45,_)] K3 ?_; refine Hd.condT rfl ?_; refine sr fun _ K4 => ?_
    refine yv y_as <| yv y_as <| fk [(6,_),(7,_)] K4 ?_; refine Hd.ret <| Hd.thenRet ?_; exact Hd.ret2 rfl () rfl rfl rfl (rw_fold hi)
   try simp only [hyZ] at hg1_33
   exfalso; simp at hg1_33; done
  try simp only [hyZ] at hg1_22
  exfalso; simp at hg1_22; done
 try simp only [hyZ] at hg1_13
 refine y2 y_mv <| y2 y_mv <| y2 y_np <| y2 (y_f 0 129 Tryz.underlying133 sz129) <| y2 (y_l1 ag129 rfl) <| y2 (y_len Tryz.underlying129 rfl) ?_; refine y2 (y_geq rfl rfl) ?_; refine yv (y_pickF rfl rfl) ?_; refine yv y_mv <| Hd.part (gd := 22) rfl (fun hg1_22 => ?_) (fun hg1_22 => ?_)
 ·try simp only [hyZ] at hg1_22
  refine n1 <| n1 <| n1 <| n1 <| n1 <| n1 <| n1 <| n1 <| n1 <| yv (y_pickT rfl rfl) ?_; refine yv y_mv <| Hd.part (gd := 33) rfl (fun hg1_33 => ?_) (fun hg1_33 => ?_)
  ·try simp only [hyZ] at hg1_33
   refine n1 <| n1 <| n1 <| n1 <| n1 <| n1 <| n1 <| n1 <| n1 <| n1 <| n1 <| yv (y_pickT rfl rfl) ?_; refine fk [(0,_),(1,_),(2,_),(45,_)] K3 ?_; refine Hd.condT rfl ?_; refine sr fun _ K5 => ?_
   refine yv y_as <| yv y_as <| fk [(6,_),(7,_)] K5 ?_; refine Hd.ret <| Hd.thenRet ?_; exact Hd.ret2 rfl () rfl rfl rfl (rw_fold hi)
  try simp only [hyZ] at hg1_33
  exfalso; simp at hg1_33; done
 try simp only [hyZ] at hg1_22
 exfalso; omega
theorem rConn1_ct (L : List SP) (b : Nat) (w : WA) (hw : WOk w) (n : Nat) (x : WireA) (hx : w.ws[n]? = some x) (m : Int) : Ct Tryz.prog 134 #[.pointer (some ⟨b, 0, none⟩), .int .i64 (n : Int), .int .i64 m] (RwP b w :: L) (fun _ : Unit => .tuple #[.int .i64 (connR w n m).1.1, .int .i64 (connR w n m).1.2]) (fun _ : Unit => RwP b (connR w n m).2 :: L) := by
 refine Ct.o3 Tryz.func134 ?_; intro E
 show Hd E 149 _ _ _ _
 refine Hd.rw .here (fun i hi => ?_)
 have hrl := rows_n hi
 obtain ⟨j, hrow⟩ := row_at hi hx
 have hn : n < i.1.length := (List.getElem?_eq_some_iff.1 hrow).1
 have hlen := hw.len
 have hwt := wt_le hw hx
 have hcr := conn_yes (m := m) hx
 refine sr fun _ K1 => ?_
 refine yv y_as <| yv y_as <| fk [(0,_),(1,_),(2,_)] K1 ?_; refine Hd.seq fun _ K2 => ?_
 refine sr fun _ K3 => ?_
 refine yv y_mv <| yv (y_lss rfl rfl) ?_; refine yv y_mv <| Hd.part (gd := 13) rfl (fun hg1_13 => ?_) (fun hg1_13 => ?_)
 ·try simp only [hyZ] at hg1_13
  exfalso; omega
 try simp only [hyZ] at hg1_13
 refine y2 y_mv <| y2 y_mv <| y2 y_np <| y2 (y_f 0 129 Tryz.underlying133 sz129) <| y2 (y_l1 ag129 rfl) <| y2 (y_len Tryz.underlying129 rfl) ?_; refine y2 (y_geq rfl rfl) ?_; refine yv (y_pickF rfl rfl) ?_; refine yv y_mv <| Hd.part (gd := 22) rfl (fun hg1_22 => ?_) (fun hg1_22 => ?_)
 ·try simp only [hyZ] at hg1_22
  exfalso; omega
 try simp only [hyZ] at hg1_22
 refine y2 y_mv <| y2 y_np <| y2 (y_f 0 129 Tryz.underlying133 sz129) <| y2 (y_l1 ag129 rfl) <| y2 y_mv <| y2 (y_idxR Tryz.underlying129 sz221 rfl rfl (by omega) (by exact RdS.own pkk)) ?_; refine y2 (y_fR 18 3 Tryz.underlying221 sz3) ?_; refine y2 (y_rw ag3 rfl hrow 18 rfl) ?_; refine y2 (y_eql rfl rfl) ?_; refine yv (y_pickF rfl rfl) ?_; refine yv y_mv <| Hd.part (gd := 33) rfl (fun hg1_33 => ?_) (fun hg1_33 => ?_)
 ·try simp only [hyZ] at hg1_33
  refine n1 <| n1 <| n1 <| n1 <| n1 <| n1 <| n1 <| n1 <| n1 <| n1 <| n1 <| yv (y_pickT rfl rfl) ?_; refine fk [(0,_),(1,_),(2,_),(45,_)] K3 ?_; refine Hd.condT rfl ?_; refine sr fun _ K4 => ?_
  refine yv y_as <| yv y_as <| fk [(6,_),(7,_)] K4 ?_; refine Hd.ret <| Hd.thenRet ?_
  have h1 : x.bl = 0 := by simpa using hg1_33
  rw [hcr, if_pos (.inl h1)]; exact Hd.ret2 rfl () rfl rfl rfl (rw_fold hi)
 try simp only [hyZ] at hg1_33
 refine y2 y_mv <| y2 y_np <| y2 (y_f 0 129 Tryz.underlying133 sz129) <| y2 (y_l1 ag129 rfl) <| y2 y_mv <| y2 (y_idxR Tryz.underlying129 sz221 rfl rfl (by omega) (by exact RdS.own pkk)) ?_; refine y2 (y_fR 0 219 Tryz.underlying221 sz219) ?_; refine y2 (y_idxAR Tryz.underlying219 sz218 rfl rfl (by decide)) ?_; refine y2 (y_fR 0 3 Tryz.underlying218 sz3) ?_; refine y2 (y_rc ag3 rfl hrow (k := 0) (by decide) 0 rfl (ho := by show n * 20 + 0 + 0 * 8 + 0 = n * 20 + 0 * 8 + 0; omega)) ?_; refine y2 (y_neq rfl rfl) ?_; refine yv (y_pickF rfl rfl) ?_; refine fk [(0,_),(1,_),(2,_),(45,_)] K3 ?_; refine qz ?_ ?_ <;> intro hc0 <;> try simp only [hyZ] at hc0
 ·refine sr fun _ K5 => ?_
  refine yv y_as <| yv y_as <| fk [(6,_),(7,_)] K5 ?_; refine Hd.ret <| Hd.thenRet ?_
  have h1 : (x.e 0).what ≠ 1 := by simpa using hc0
  rw [hcr, if_pos (.inr h1)]; exact Hd.ret2 rfl () rfl rfl rfl (rw_fold hi)
 have hbl : ¬ (x.bl = 0) := by simpa using hg1_33
 have hwh : (x.e 0).what = 1 := by simpa using hc0
 rw [if_neg (by rintro (h | h); exact hbl h; exact h hwh)] at hcr; refine qv K2 <| Hd.seq fun _ K6 => ?_
 refine sr fun _ K7 => ?_
 refine yv y_mv <| yv (y_lss rfl rfl) ?_; refine yv y_mv ?_; apply Hd.org 3 48 51 [(0,_),(1,_),(2,_)] rfl sbq
 ·intro hg3_48
  try simp only [hyZ] at hg3_48
  simp only [List.take]; refine n1 <| n1 <| yv (y_pickT rfl rfl) ?_; exact Hd.mn
 ·intro hg3_48
  try simp only [hyZ] at hg3_48
  simp only [List.take]; refine y2 y_mv <| y2 (y_gtr rfl rfl) ?_; refine yv (y_pickF rfl rfl) ?_; exact Hd.mn
 simp only [List.drop]; refine fk [(0,_),(1,_),(2,_),(51,_)] K7 ?_; refine qz ?_ ?_ <;> intro hc1 <;> try simp only [hyZ] at hc1
 ·refine sr fun _ K8 => ?_
  refine yv y_as <| yv y_as <| fk [(6,_),(7,_)] K8 ?_; refine Hd.ret <| Hd.thenRet ?_; rw [hcr, if_pos (by omega)]; exact Hd.ret2 rfl () rfl rfl rfl (rw_fold hi)
 rw [if_neg (by omega)] at hcr; refine qv K6 <| Hd.seq fun _ K9 => ?_
 refine Hd.seq fun _ K10 => ?_
 refine Hd.quiet mixed kq ?_; refine Hq.yv y_mv ?_; refine Hq.yv y_np ?_; refine Hq.yv (y_f 0 129 Tryz.underlying133 sz129) ?_; refine Hq.yv (y_l1 ag129 rfl) ?_; refine Hq.yv y_mv ?_; refine Hq.yv (y_idxR Tryz.underlying129 sz221 rfl rfl (by omega) (by exact RdS.own pkk)) ?_; refine Hq.yv (y_fR 19 44 Tryz.underlying221 sz44) ?_; refine Hq.yv (y_rw ag44 rfl hrow 19 rfl) ?_; refine Hq.yv (y_len Tryz.underlying44 rfl) ?_; refine Hq.yv y_mv ?_; refine Hq.yv y_np ?_; refine Hq.yv (y_f 0 129 Tryz.underlying133 sz129) ?_; refine Hq.yv (y_l1 ag129 rfl) ?_; refine Hq.yv y_mv ?_; refine Hq.yv (y_idxR Tryz.underlying129 sz221 rfl rfl (by omega) (by exact RdS.own pkk)) ?_; refine Hq.yv (y_fR 18 3 Tryz.underlying221 sz3) ?_; refine Hq.yv (y_rw ag3 rfl hrow 18 rfl) ?_; refine Hq.yv (y_geq rfl rfl) ?_; refine Hq.nil ?_; refine sk [(0,_),(1,_),(2,_),(69,_)] K10 ?_; refine qz ?_ ?_ <;> intro hc2 <;> try simp only [hyZ] at hc2
 ·refine sr fun _ K11 => ?_
  refine yv y_as <| yv y_as <| fk [(6,_),(7,_)] K11 ?_; refine Hd.ret <| Hd.thenRet ?_; rw [hcr, if_pos (by omega)]; exact Hd.ret2 rfl () rfl rfl rfl (rw_fold hi)
 rw [if_neg (by omega)] at hcr; refine qv K9 <| Hd.seq fun _ K12 => ?_
 refine sr fun _ K13 => ?_
 refine yv y_mv <| yv y_np <| yv (y_f 0 129 Tryz.underlying133 sz129) <| yv (y_l1 ag129 rfl) <| yv (y_len Tryz.underlying129 rfl) ?_; refine yv (y_geq rfl rfl) ?_; refine fk [(0,_),(1,_),(2,_),(75,_)] K13 ?_; refine qz ?_ ?_ <;> intro hc3 <;> try simp only [hyZ] at hc3
 ·refine sr fun _ K14 => ?_
  refine yv y_as <| yv y_as <| fk [(6,_),(7,_)] K14 ?_; refine Hd.ret <| Hd.thenRet ?_; rw [hcr, if_pos (by omega)]; exact Hd.ret2 rfl () rfl rfl rfl (rw_fold hi)
 rw [if_neg (by omega)] at hcr
 obtain ⟨mm, rfl⟩ : ∃ k : Nat, m = (k : Int) := ⟨m.toNat, by omega⟩
 rw [Int.toNat_natCast] at hcr; refine qv K12 <| sr fun _ K15 => ?_
 refine yv y_mv <| yv (y_build (vs := [(1,_)]) rfl (bd_rx mm)) ?_; refine Hd.alloc zr221 (fun b8 => ?_); refine Hd.storeA (us := encRW (mkX 0 mm 0 0, jz)) sz221 rfl rfl rfl (encRW_one _) pkk (by exact rfl) ?_; refine fk [(0,_),(1,_),(8,_)] K15 ?_; refine Hd.seq fun _ K16 => ?_
 refine sr fun _ K17 => ?_
 refine Hd.heap (pt b8 (encRW (mkX 1 mm 0 0, jz)) 221 :: RwL b w i L) (Ent.sep (.eq pkk (pt_eq (by rfl)) enn)) ?_; refine yv y_as <| fk [(0,_),(1,_),(8,_),(9,_)] K17 ?_; refine Hd.block <| Hd.loopK (ι := Nat) [(0,_),(1,_),(8,_)] (fun q => [(9, .int .i64 (q : Int))]) (fun q => pu (q ≤ 2) :: pt b8 (encRW (mkX 1 mm q q, jz)) 221 :: RwL b w i L) (fun q => 2 - q) 0 sbq sbq (Ent.sep (.pure (by omega) enn)) ?_; intro q
 try dsimp only
 refine Hd.pure (fun hp0 => ?_)
 try dsimp only at hp0
 refine Hd.seq fun _ K18 => ?_
 refine sr fun _ K19 => ?_
 refine yv y_mv <| yv (y_lss rfl rfl) ?_; refine fk [(0,_),(1,_),(8,_),(9,_),(79,_)] K19 ?_; refine qz ?_ ?_ <;> intro hc4 <;> try simp only [hyZ] at hc4
 ·have hq : q < 2 := by omega
  refine qv K18 <| Hd.seq fun _ K20 => ?_
  refine Hd.block <| sr fun _ K21 => ?_
  refine yv y_mv <| yv (y_f 0 219 Tryz.underlying221 sz219) <| yv (y_idxA Tryz.underlying219 sz218 rfl rfl (by omega)) ?_; refine yv (y_f 2 4 Tryz.underlying218 sz4) <| Hd.store1 sz4 rfl rfl rfl pkk (by simp; omega) ?_
  try simp only [hyS]
  refine Hd.nil ?_; rw [mkX1_r mm q hq]; refine sk [(0,_),(1,_),(8,_),(9,_)] K21 ?_; refine Hd.region <| yv y_mv <| yv (y_f 0 219 Tryz.underlying221 sz219) <| yv (y_idxA Tryz.underlying219 sz218 rfl rfl (by omega)) ?_; refine yv (y_f 3 4 Tryz.underlying218 sz4) <| Hd.store1 sz4 rfl rfl rfl pkk (by simp; omega) ?_
  try simp only [hyS]
  refine Hd.nil ?_; rw [mkX1_w mm q hq]; refine slots [(0,_),(1,_),(8,_),(9,_)] sbq ?_; refine Hd.inB <| Hd.toK K20 ?_; refine Hd.region <| yv y_mv <| yv (y_addn rfl rfl (by simp only [InK]; omega)) ?_; refine yv y_as <| Hd.nil <| slots [(0,_),(1,_),(8,_),(9,_)] sbq ?_; refine thenN ?_; exact Hd.again (q + 1) (by omega) sbq (Ent.sep (.pure (by omega) enn))
 obtain rfl : q = 2 := by omega
 refine Hd.exit <| Hd.thenExit <| Hd.thenExit <| Hd.inBexit <| Hd.toK K16 ?_; refine sr fun _ K22 => ?_
 refine yv (y_f 0 219 Tryz.underlying221 sz219) <| yv (y_idxA Tryz.underlying219 sz218 rfl rfl (by decide)) ?_; refine yv (y_f 0 3 Tryz.underlying218 sz3) <| Hd.store1 sz3 rfl rfl rfl pkk (by simp; done) ?_
 try simp only [hyS]
 refine Hd.nil ?_; rw [show (encRW (mkX 1 mm 2 2, jz)).set (0 + 0 + 1 * 8 + 0) (.int .i64 2) = encRW (connW mm, jz) from rfl]; refine Hd.bagOut pkk hrow ?_; refine Hd.sd .here 0 (by decide) ?_; refine Hd.heap (own 3 1 none 0 0 [] :: _) (Ent.sep (.ownNil .same)) ?_; refine sk [(0,_),(1,_),(8,_)] K22 ?_; refine sr fun _ K23 => ?_
 refine yv y_as <| fk [(0,_),(1,_),(8,_),(10,_)] K23 ?_; refine sr fun _ K24 => ?_
 refine yv y_mv <| yv y_mv <| yv y_np <| yv (y_f 0 129 Tryz.underlying133 sz129) <| yv (y_l1 ag129 rfl) <| yv y_mv <| yv (y_idxR Tryz.underlying129 sz221 rfl rfl (by omega) (by exact RdS.own pkk)) ?_; refine yv (y_fR 19 44 Tryz.underlying221 sz44) ?_; refine yv (y_to (v' := .slice j.wa x.wt.length j.wc) (y_rw ag44 rfl hrow 19 rfl) (by rfl)) ?_; refine Hd.append Tryz.underlying44 ty3 rfl rfl rfl (us := []) pkk (RdS.own (ad := j.wa) (us := nats x.wt) pkk) nat_one (by simp only [maxLen]; omega) (by omega) (fun ad102 cap102 => ?_); refine yv y_as <| Hd.nil ?_; rw [Nat.zero_add, List.nil_append]; refine sk [(0,_),(1,_),(8,_),(10,_)] K24 ?_; refine Hd.seq fun _ K25 => ?_
 refine Hd.drawsH ([RwH b w i.1.length i.2.1 i.2.2, OwR i]) (fun j => !([15].contains j)) mixed ?_; simp only [List.length, Nat.zero_add, Nat.reduceAdd]; refine tH 0 rfl y_mv <| tH 1 rfl y_np <| tH 2 rfl (y_f 0 129 Tryz.underlying133 sz129) <| tH 3 rfl (y_l1 ag129 rfl) <| tH 4 rfl y_mv <| tH 5 rfl y_mv <| tH 6 rfl y_mv <| tH 7 rfl y_np <| tH 8 rfl (y_f 0 129 Tryz.underlying133 sz129) <| tH 9 rfl (y_l1 ag129 rfl) <| tH 10 rfl (y_len Tryz.underlying129 rfl) ?_; refine qo 11 ?_; refine Hd.bslice (vs := [(0,_)]) rfl (by exact bs134_114 ..) (fun b114 => ?_); refine qk <| qo 12 ?_; refine Hd.append Tryz.underlying44 ty3 rfl rfl rfl pkk (by exact RdS.rd (Rd.pt pkk (fun j v e => by simpa using e)) rfl) (by simp [Value.oneCell']; done) (by simp only [maxLen]; omega) (by omega) (fun ad115 cap115 => ?_); refine qk ?_
 refine qo 13 ?_; refine yv (y_idxR Tryz.underlying129 sz221 rfl rfl (by omega) (by exact RdS.own pkk)) ?_; refine qk <| tH 14 rfl (y_fR 19 44 Tryz.underlying221 sz44) ?_; refine qo 15 ?_; refine Hd.storeO1 sz44 rfl rfl rfl pkk (by rw [rows_len encRW_len]; omega) ?_
 try simp only [hyS]
 refine qn <| endH kq ?_; rw [rset_wts (l := x.wt ++ [w.ws.length]) hrow (by omega) (by simp)]
 obtain ⟨X1, hX1⟩ : ∃ X1, X1 = x.wts (x.wt ++ [w.ws.length]) := ⟨_, rfl⟩
 have hx3 : (w.setW n X1).ws[n]? = some X1 := setW_self hx
 have hup : (X1.up 0 fun e => { e with inn := IntKind.u64.wrap ((X1.e 0).inn + 1) }) = waitW x w.ws.length := by
  rw [hX1]; exact (up_eq (x := x.wts (x.wt ++ [w.ws.length])) (k := 0) (g := fun e => { e with inn := IntKind.u64.wrap (e.inn + 1) }) rfl).trans rfl
 refine Hd.heap (RwP b (w.setW n (x.wts (x.wt ++ [w.ws.length]))) :: pt b8 (encRW (connW mm, jz)) 221 :: L) (fun q s => rw_put hi hn q (Ent.sep enn q (sd_wts (X := x) (j := j) (l := x.wt ++ [w.ws.length]) (a := ad115) (c := cap115) q (Ent.sep (.eq pkk (own_eq3 (by simp) rfl (by simp [nats, hrl])) enn) q s)))) ?_; rw [← hX1]; refine Hd.rw .here (fun i3 hi3 => ?_)
 have hrl3 := rows_n hi3
 obtain ⟨j3, hrow3⟩ := row_at hi3 hx3
 have hn3 : n < i3.1.length := (List.getElem?_eq_some_iff.1 hrow3).1
 refine sk [(0,_),(1,_),(8,_)] K25 ?_; refine Hd.seq fun _ K26 => ?_
 refine Hd.drawsH ([RwH b (w.setW n X1) i3.1.length i3.2.1 i3.2.2, OwR i3]) (fun j => !([15].contains j)) mixed ?_; simp only [List.length, Nat.zero_add, Nat.reduceAdd]; refine tH 0 rfl y_mv <| tH 1 rfl y_np <| tH 2 rfl (y_f 0 129 Tryz.underlying133 sz129) <| tH 3 rfl (y_l1 ag129 rfl) <| tH 4 rfl y_mv <| tH 5 rfl (y_idxR Tryz.underlying129 sz221 rfl rfl (by omega) (by exact RdS.own pkk)) ?_; refine tH 6 rfl (y_fR 0 219 Tryz.underlying221 sz219) ?_; refine tH 7 rfl (y_idxAR Tryz.underlying219 sz218 rfl rfl (by decide)) ?_; refine tH 8 rfl (y_fR 6 30 Tryz.underlying218 sz30) ?_; refine tH 9 rfl (y_rc ag30 rfl hrow3 (k := 0) (by decide) 6 rfl (ho := by show n * 20 + 0 + 0 * 8 + 6 = n * 20 + 0 * 8 + 6; omega)) ?_; refine tH 10 rfl (y_add rfl rfl) ?_; refine qo 11 ?_; refine yv (y_idxR Tryz.underlying129 sz221 rfl rfl (by omega) (by exact RdS.own pkk)) ?_
 refine qk <| qo 12 ?_; refine yv (y_fR 0 219 Tryz.underlying221 sz219) ?_; refine qk <| qo 13 ?_; refine yv (y_idxAR Tryz.underlying219 sz218 rfl rfl (by decide)) ?_; refine qk <| tH 14 rfl (y_fR 6 30 Tryz.underlying218 sz30) ?_; refine qo 15 ?_; refine Hd.storeO1 sz30 rfl rfl rfl pkk (show n * 20 + 0 + 0 * 8 + 6 < (i3.1.flatMap encRW).length by rw [rows_len encRW_len]; omega) ?_; refine qn <| endH kq ?_; rw [rset_inn (k := 0) (o := n * 20 + 0 + 0 * 8 + 6) hrow3 (by decide) (by omega), hup]
 refine Hd.heap (RwP b (w.setW n (waitW x w.ws.length)) :: pt b8 (encRW (connW mm, jz)) 221 :: L) (fun q s => by
  have h := rw_head (x' := waitW x w.ws.length) (L := pt b8 (encRW (connW mm, jz)) 221 :: L) hi3 hrow3 (fun k hk => by rw [← hup]; exact up_b X1 0 (f := fun e => { e with inn := IntKind.u64.wrap ((X1.e 0).inn + 1) }) (fun _ => rfl) k) (by rw [← hup]; rfl) q (Ent.sep enn q s)
  rwa [setW_setW] at h) ?_
 refine Hd.rw .here (fun i4 hi4 => ?_)
 have hrl4 := rows_n hi4
 rw [setW_len] at hrl4; refine sk [(0,_),(8,_)] K26 ?_; refine Hd.seq fun _ K27 => ?_
 refine Hd.drawsH ([RwH b (w.setW n (waitW x w.ws.length)) i4.1.length i4.2.1 i4.2.2, pt b8 (encRW (connW mm, jz)) 221]) (fun j => !([10].contains j)) mixed ?_; simp only [List.length, Nat.zero_add, Nat.reduceAdd]; refine tH 0 rfl y_mv <| tH 1 rfl y_mv <| tH 2 rfl y_np <| tH 3 rfl (y_f 0 129 Tryz.underlying133 sz129) <| tH 4 rfl (y_l1 ag129 rfl) <| tH 5 rfl (y_loadn ag221 rfl (Rd.pt pkk (by exact fun j v e => by rw [Nat.zero_add]; exact e)) (by exact sz221)) ?_; refine qo 6 ?_; refine Hd.bslice (vs := [(0,_)]) rfl (by exact bs134_139 ..) (fun b139 => ?_); refine qk <| qo 7 ?_; refine Hd.append Tryz.underlying129 ty221 rfl rfl rfl pkk (by exact RdS.rd (Rd.pt pkk (fun j v e => by simpa using e)) rfl) (by simp [Value.oneCell']; done) (by simp only [maxLen]; omega) (by omega) (fun ad140 cap140 => ?_); refine qk <| qo 8 ?_; refine yv y_np ?_
 refine qk <| tH 9 rfl (y_f 0 129 Tryz.underlying133 sz129) <| qo 10 ?_; refine Hd.store1 sz129 rfl rfl rfl pkk (by simp; done) ?_
 try simp only [hyS]
 refine qn <| endH kq ?_; refine Hd.heap (RwP b ((w.setW n (waitW x w.ws.length)).addW (connW mm)) :: L) (fun q s => rw_add (i := i4) hi4 (conn_b mm) q (by exact Ent.sep (.pick pkk (.eq pkk (own_eq3 rfl rfl (by rfl)) enn)) q s)) ?_; rw [← conn_set (w := w) (n := n) (by omega)]; refine Hd.rw .here (fun i5 hi5 => ?_)
 have hrl5 := rows_n hi5
 rw [setW_len, show (w.addW (connW mm)).ws.length = w.ws.length + 1 from by show (w.ws ++ [_]).length = _; rw [List.length_append]; rfl] at hrl5; refine sk [(0,_)] K27 ?_; refine sr fun _ K28 => ?_
 refine yv y_mv <| yv y_np <| yv (y_f 0 129 Tryz.underlying133 sz129) <| yv (y_l1 ag129 rfl) <| yv (y_len Tryz.underlying129 rfl) ?_; refine yv (y_to (v' := .int .i64 ((w.ws.length : Nat) : Int)) (y_subn rfl rfl (by simp only [InK]; omega)) (by (congr 1; omega))) ?_; refine yv y_as <| yv y_as <| fk [(6,_),(7,_)] K28 ?_; refine Hd.ret ?_; rw [hcr]; exact Hd.ret2 rfl () rfl rfl rfl (rw_fold hi5)
theorem rConnect_ct (L : List SP) (b : Nat) (w : WA) (hw : WOk w) (n m : Int) : Ct Tryz.prog 134 #[.pointer (some ⟨b, 0, none⟩), .int .i64 n, .int .i64 m] (RwP b w :: L) (fun _ : Unit => .tuple #[.int .i64 (connR w n m).1.1, .int .i64 (connR w n m).1.2]) (fun _ => RwP b (connR w n m).2 :: L) := by
 by_cases h : n < 0 ∨ (w.ws.length : Int) ≤ n
 ·have e : connR w n m = ((0, 116), w) := by
   unfold connR
   by_cases h0 : n < 0
   ·rw [if_pos h0]
   ·rw [if_neg h0, List.getElem?_eq_none (by omega)]
  rw [e]; exact rConn0_ct L b w n m h
 ·obtain ⟨q, rfl⟩ : ∃ q : Nat, n = (q : Int) := ⟨n.toNat, by omega⟩
  exact rConn1_ct L b w hw q _ (List.getElem?_eq_getElem (by omega)) m
end Rf
end Go.Proofs.YtbfddabjbkohdaaGreat
namespace Go.Proofs.YtbfddabjbkohdaaGreat
open Go.RX Fx
namespace Wo
abbrev encO (o : Ov) : List Value := [.int .i64 o.k, .int .i64 o.a, .int .i64 o.n, .int .u64 o.t, .slice o.ad o.d.length o.c]
structure OvOk (L : List SP) (o : Ov) : Prop where
 rd : RdS L 1 o.ad o.d.length (bsl o.d)
 c : o.d.length ≤ o.c
 k : InK .i64 o.k
 a : InK .i64 o.a
 n : InK .i64 o.n
 t : InK .u64 o.t
def gO (xs : List Ov) : Int := if 200 < xs.length then 1 else if ∀ o ∈ xs, o.d.length ≤ 300 then 0 else 1
theorem gO_ok {xs : List Ov} (h : ¬ 0 < gO xs) : xs.length ≤ 200 ∧ ∀ o ∈ xs, o.d.length ≤ 300 := by
 unfold gO at h
 split at h
 ·exact absurd (by decide) h
 ·split at h
  ·rename_i h1 h2; exact ⟨by omega, h2⟩
  ·exact absurd (by decide) h
theorem great11_ct (L : List SP) (ad : Option Addr) (c : Nat) (xs : List Ov) (hR : RdS L 5 ad xs.length (xs.flatMap encO)) : Ct Tryz.prog 14 #[.slice ad xs.length c] (L) (fun _ : Unit => .int .i64 (gO xs)) (fun _ : Unit => L) := by
 refine Ct.o1 Tryz.func14 ?_; intro E
 show Hd E 20 _ _ _ _
 refine sr fun _ K1 => ?_
 refine yv y_as <| fk [(0,_)] K1 ?_; refine Hd.seq fun _ K2 => ?_
 refine sr fun _ K3 => ?_
 refine yv y_mv <| yv (y_len Tryz.underlying22 rfl) ?_; refine yv (y_gtr rfl rfl) ?_; refine fk [(0,_),(6,_)] K3 ?_; refine qz ?_ ?_ <;> intro hc0 <;> try simp only [hyZ] at hc0
 ·refine sr fun _ K4 => ?_
  refine yv y_as <| fk [(2,_)] K4 ?_; refine Hd.ret <| Hd.thenRet ?_; exact Hd.ret1 rfl () (by unfold gO; rw [if_pos (by omega)]; rfl) sq
 have hx : xs.length ≤ 200 := by omega
 refine qv K2 <| Hd.seq fun _ K5 => ?_
 refine sr fun _ K6 => ?_
 refine yv y_mv <| yv (y_len Tryz.underlying22 rfl) ?_; refine yv y_mv <| fk [(0,_),(8,_),(9,_)] K6 ?_; refine Hd.block <| Hd.loopK (ι := Nat) [(0,_),(8,_)] (fun i => [(9, .int .i64 (i : Int))]) (fun i => pu (i ≤ xs.length ∧ ∀ o ∈ xs.take i, o.d.length ≤ 300) :: L) (fun i => xs.length - i) 0 sbq sbq (Ent.sep (.pure ⟨Nat.zero_le _, fun o ho => by simp at ho⟩ enn)) ?_; intro i
 try dsimp only
 refine Hd.pure (fun hp0 => ?_)
 try dsimp only at hp0
 refine sr fun _ K7 => ?_
 refine yv (y_lss rfl rfl) ?_; refine fk [(0,_),(8,_),(9,_),(10,_)] K7 ?_; refine Hd.seq fun _ K8 => ?_
 refine qz ?_ ?_ <;> intro hc1 <;> try simp only [hyZ] at hc1
 ·have hi : i < xs.length := by omega
  obtain ⟨o, ho⟩ : ∃ o, xs[i]? = some o := ⟨_, List.getElem?_eq_getElem hi⟩
  refine qv K8 <| Hd.seq fun _ K9 => ?_
  refine Hd.block <| sr fun _ K10 => ?_
  refine yv y_mv <| yv y_as <| fk [(0,_),(3,_),(8,_),(9,_)] K10 ?_; refine sr fun _ K11 => ?_
  refine yv y_mv <| yv y_mv <| yv (y_idxR Tryz.underlying22 sz33 rfl rfl (by omega) (by exact RdS.mono hR sq)) ?_; refine yv (y_fR 4 31 Tryz.underlying33 sz31) ?_; refine yv (y_loadR1 ag31 rfl (by exact RdS.mono hR sq) (by exact flat_cells encO 5 (fun _ => rfl) ho 4 _ rfl)) ?_; refine yv (y_len Tryz.underlying31 rfl) ?_; refine yv (y_gtr rfl rfl) ?_; refine fk [(0,_),(8,_),(9,_),(18,_)] K11 ?_; refine qz ?_ ?_ <;> intro hc2 <;> try simp only [hyZ] at hc2
  ·refine sr fun _ K12 => ?_
   refine yv y_as <| fk [(2,_)] K12 ?_; refine Hd.ret <| Hd.inBret <| Hd.thenRet <| Hd.thenRet <| Hd.inBret <| Hd.thenRet ?_; exact Hd.ret1 rfl () (by unfold gO; rw [if_neg (by omega), if_neg (fun h => by have := h o (List.mem_of_getElem? ho); omega)]; rfl) sq
  refine Hd.skip <| Hd.inB <| Hd.toK K9 ?_; refine Hd.region <| yv (y_addn rfl rfl (by simp only [InK]; omega)) ?_; refine yv y_mv <| Hd.nil <| slots [(0,_),(8,_),(9,_)] sbq ?_; refine thenN ?_
  have hnew : ∀ q ∈ xs.take (i + 1), q.d.length ≤ 300 := by
   intro q hq; rw [List.take_add_one, ho] at hq
   rcases List.mem_append.1 hq with h | h
   ·exact hp0.2 q h
   ·obtain rfl : q = o := by simpa using h
    omega
  exact Hd.again (i + 1) (by omega) sbq (Ent.sep (.pure ⟨hi, hnew⟩ enn))
 refine Hd.exit <| Hd.thenExit <| Hd.thenExit <| Hd.inBexit <| Hd.toK K5 ?_; refine sr fun _ K13 => ?_
 refine yv y_as <| fk [(2,_)] K13 ?_; refine Hd.ret ?_; exact Hd.ret1 rfl () (by unfold gO; rw [if_neg (by omega), if_pos (by rw [List.take_of_length_le (by omega)] at hp0; exact hp0.2)]; rfl) sq
theorem Hd.wokW {E : World} {n : Nat} {ds : List Deferred} {st : List (Nat × Value)} {L L' : List SP} {K : Act → World → Prop} {wb : Nat} {w : WA} (p : Pick L (WorldP wb w) L') (h : WOk w → Hd E n ds st L K) : Hd E n ds st L K := fun a v f s => by
 refine h ?_ a v f s
 obtain ⟨h1, s1, i, x⟩ := sep.one p s.2.2.2
 obtain ⟨_, _, _, _, _, hq, _⟩ := x
 exact hq.1
abbrev BoP (pb wb rb : Nat) : SP := pt pb [.pointer (some ⟨wb, 0, none⟩), .pointer (some ⟨rb, 0, none⟩)] 41
theorem fresh_ct (L : List SP) : Ct Tryz.prog 16 #[] (L) (fun q_ : Nat × Nat × Nat => .pointer (some ⟨q_.1, 0, none⟩)) (fun q_ : Nat × Nat × Nat => BoP q_.1 q_.2.1 q_.2.2 :: WorldP q_.2.1 newA :: Rf.RwP q_.2.2 newA :: L) := by
 refine Ct.o0 Tryz.func16 ?_; intro E
 show Hd E 5 _ _ _ _
 refine sr fun _ K1 => ?_
 refine yv y_as <| fk [] K1 ?_; refine sr fun _ K2 => ?_
 refine callE rfl fk49 (wnew_ct _) sq ?_; intro wb; refine callE rfl fk53 (Rf.rNew_ct _) sq ?_; intro rb; refine yv (y_build (vs := [(0,_),(1,_)]) rfl (by exact bd16_3 ..)) ?_; refine Hd.box rfl rfl (fun b4 => ?_); refine yv y_as <| fk [(0,_)] K2 ?_; refine Hd.ret ?_; exact Hd.ret1 rfl (b4, wb, rb) rfl sq
theorem more_ct (L : List SP) (pb wb rb : Nat) (w : WA) (K : Nat) (hK : K ≤ 100000000) (hl : Lo K w) (o : Ov) (hk : o.k < 0 ∨ 8 < o.k) (ht : InK .u64 o.t) (hd : o.d.length ≤ 300) (hR : RdS L 1 o.ad o.d.length (bsl o.d)) (hc : o.d.length ≤ o.c) (ad : Option Addr) (c : Nat) (hR2 : RdS L 1 ad o.d.length (bsl o.d)) (hc2 : o.d.length ≤ c) : Ct Tryz.prog 69 #[.pointer (some ⟨pb, 0, none⟩), .agg (encO o).toArray, .slice ad o.d.length c] (BoP pb wb rb :: WorldP wb w :: Rf.RwP rb w :: L) (fun _ : Unit => .bool true) (fun _ : Unit => BoP pb wb rb :: WorldP wb (doA w o) :: Rf.RwP rb (doA w o) :: L) := by
 refine Ct.o3 Tryz.func69 ?_; intro E
 show Hd E 333 _ _ _ _
 simp only [InK] at ht
 have hnow := hl.now
 have hb2 := hl.bd (B := 2000000000) (by omega)
 have hb1 := hl.bd (B := 1000000000) (by omega)
 refine Hd.wokW (.there .here) (fun hw => ?_); refine sr fun _ K1 => ?_
 refine Hd.box rfl rfl (fun b4 => ?_); refine yv y_as <| fk [(0,_),(2,_),(4,_)] K1 ?_; refine Hd.seq fun _ K2 => ?_
 refine sr fun _ K3 => ?_
 refine yv (y_f 0 3 Tryz.underlying33 sz3) <| yv (y_l1 ag3 rfl) <| fk [(0,_),(2,_),(4,_),(33,_)] K3 ?_; refine Hd.block <| sr fun _ K4 => ?_
 refine yv (y_eql rfl rfl) ?_; refine yv y_as <| fk [(0,_),(2,_),(4,_),(33,_),(34,_)] K4 ?_; refine qz ?_ ?_ <;> intro hc0 <;> try simp only [hyZ] at hc0
 ·refine Hd.seq fun _ K5 => ?_
  refine Hd.drawsH ([BoP pb wb rb, pt b4 (encO o) 33]) (fun _ => true) mixed ?_; simp only [List.length, Nat.zero_add, Nat.reduceAdd]; refine tH 0 rfl y_mv <| tH 1 rfl y_np <| tH 2 rfl (y_f 0 38 Tryz.underlying41 sz38) <| tH 3 rfl (y_l1 ag38 rfl) <| tH 4 rfl (y_f 1 3 Tryz.underlying33 sz3) <| tH 5 rfl (y_l1 ag3 rfl) <| tH 6 rfl y_mv <| qo 7 ?_; refine callE rfl fk52 (wput_ct _ wb w o.a ad o.d.length c o.d rfl ?hD (by omega) hc2) sq ?_
  case hD => exact RdS.mono hR2 sq
  intro _; refine qk <| tH 8 rfl y_mv <| tH 9 rfl y_ex <| tH 10 rfl y_ex <| tH 11 rfl y_as <| tH 12 rfl y_as <| endH kq ?_; refine sk [(0,_),(4,_),(7,_),(8,_)] K5 ?_; refine Hd.seq fun _ K6 => ?_
  refine Hd.drawsH ([BoP pb wb rb, pt b4 (encO o) 33]) (fun _ => true) mixed ?_; simp only [List.length, Nat.zero_add, Nat.reduceAdd]; refine tH 0 rfl y_mv <| tH 1 rfl y_np <| tH 2 rfl (y_f 1 39 Tryz.underlying41 sz39) <| tH 3 rfl (y_l1 ag39 rfl) <| tH 4 rfl (y_f 1 3 Tryz.underlying33 sz3) <| tH 5 rfl (y_l1 ag3 rfl) <| tH 6 rfl (y_f 4 31 Tryz.underlying33 sz31) <| tH 7 rfl (y_l1 ag31 rfl) <| qo 8 ?_; refine callE rfl fk124 (Rf.rPut_ct _ rb w hw o.a o.ad o.d.length o.c o.d rfl ?hD (by omega) hc) sq ?_
  case hD => exact RdS.mono hR sq
  intro _; refine qk <| tH 9 rfl y_mv <| tH 10 rfl y_ex <| tH 11 rfl y_ex <| tH 12 rfl y_as <| tH 13 rfl y_as <| endH kq ?_; refine sk [(7,_),(8,_),(9,_),(10,_)] K6 ?_; refine sr fun _ K7 => ?_
  refine yv y_mv <| yv y_mv <| yv (y_eqlT rfl rfl) ?_; refine yv y_mv ?_; apply Hd.andg 4 62 66 [] rfl sbq
  ·intro hg5_62
   try simp only [hyZ] at hg5_62
   simp only [List.take]; refine y2 y_mv <| y2 y_mv <| y2 (y_eqlT rfl rfl) ?_; refine yv (y_pickT rfl rfl) ?_; exact Hd.mn
  ·intro hg5_62
   try simp only [hyZ] at hg5_62
   simp only [List.take]; refine n1 <| n1 <| n1 <| yv (y_pickF rfl rfl) ?_; exact Hd.mn
  simp only [List.drop]; refine yv y_as <| fk [(6,_)] K7 ?_; refine Hd.ret <| Hd.inBret <| Hd.thenRet ?_; rw [do_9 hc0]; exact Hd.ret1 rfl () (by rfl) sq
 refine sr fun _ K8 => ?_
 refine yv (y_eql rfl rfl) ?_; refine yv y_as <| fk [(0,_),(4,_),(33,_),(67,_)] K8 ?_; refine qz ?_ ?_ <;> intro hc1 <;> try simp only [hyZ] at hc1
 ·refine Hd.seq fun _ K9 => ?_
  refine Hd.drawsH ([BoP pb wb rb, pt b4 (encO o) 33]) (fun _ => true) mixed ?_; simp only [List.length, Nat.zero_add, Nat.reduceAdd]; refine tH 0 rfl y_mv <| tH 1 rfl y_np <| tH 2 rfl (y_f 0 38 Tryz.underlying41 sz38) <| tH 3 rfl (y_l1 ag38 rfl) <| tH 4 rfl (y_f 1 3 Tryz.underlying33 sz3) <| tH 5 rfl (y_l1 ag3 rfl) <| tH 6 rfl (y_f 2 3 Tryz.underlying33 sz3) <| tH 7 rfl (y_l1 ag3 rfl) <| qo 8 ?_; refine callE rfl fk125 (wtake_ct _ wb w o.a o.n) sq ?_; rintro ⟨ta, tc⟩; dsimp only; refine qk <| tH 9 rfl y_mv <| tH 10 rfl y_ex <| tH 11 rfl y_ex <| tH 12 rfl y_as <| tH 13 rfl y_as <| endH kq ?_; refine sk [(0,_),(4,_),(11,_),(12,_)] K9 ?_; refine Hd.seq fun _ K10 => ?_
  refine Hd.drawsH ([BoP pb wb rb, pt b4 (encO o) 33]) (fun _ => true) mixed ?_; simp only [List.length, Nat.zero_add, Nat.reduceAdd]; refine tH 0 rfl y_mv <| tH 1 rfl y_np <| tH 2 rfl (y_f 1 39 Tryz.underlying41 sz39) <| tH 3 rfl (y_l1 ag39 rfl) <| tH 4 rfl (y_f 1 3 Tryz.underlying33 sz3) <| tH 5 rfl (y_l1 ag3 rfl) <| tH 6 rfl (y_f 2 3 Tryz.underlying33 sz3) <| tH 7 rfl (y_l1 ag3 rfl) <| qo 8 ?_; refine callE rfl fk126 (Rf.rTake_ct _ rb w o.a o.n) sq ?_; rintro ⟨ua, uc⟩; dsimp only; refine qk <| tH 9 rfl y_mv <| tH 10 rfl y_ex <| tH 11 rfl y_ex <| tH 12 rfl y_as <| tH 13 rfl y_as <| endH kq ?_; refine sk [(11,_),(12,_),(13,_),(14,_)] K10 ?_; refine sr fun _ K11 => ?_
  refine yv y_mv <| yv (y_strOf (l := _) kq Tryz.underlying9 rfl (by exact RdS.own pkk)) ?_; refine yv y_mv <| yv (y_strOf (l := _) kq Tryz.underlying9 rfl (by exact RdS.own pkk)) ?_; refine yv (y_eqlstr rfl rfl) ?_; refine yv y_mv ?_; apply Hd.andg 4 98 102 [] rfl sbq
  ·intro hg9_98
   try simp only [hyZ] at hg9_98
   simp only [List.take]; refine y2 y_mv <| y2 y_mv <| y2 (y_eqlT rfl rfl) ?_; refine yv (y_pickT rfl rfl) ?_; exact Hd.mn
  ·intro hg9_98
   try simp only [hyZ] at hg9_98
   simp only [List.take]; refine n1 <| n1 <| n1 <| yv (y_pickF rfl rfl) ?_; exact Hd.mn
  simp only [List.drop]; refine yv y_as <| fk [(6,_)] K11 ?_; refine Hd.ret <| Hd.inBret <| Hd.thenRet ?_; rw [do_10 hc1]; exact Hd.ret1 rfl () (by rfl) sq
 refine sr fun _ K12 => ?_
 refine yv (y_eql rfl rfl) ?_; refine yv y_as <| fk [(0,_),(4,_),(33,_),(103,_)] K12 ?_; refine qz ?_ ?_ <;> intro hc2 <;> try simp only [hyZ] at hc2
 ·refine Hd.seq fun _ K13 => ?_
  refine Hd.drawsH ([BoP pb wb rb, pt b4 (encO o) 33]) (fun _ => true) mixed ?_; simp only [List.length, Nat.zero_add, Nat.reduceAdd]; refine tH 0 rfl y_mv <| tH 1 rfl y_np <| tH 2 rfl (y_f 0 38 Tryz.underlying41 sz38) <| tH 3 rfl (y_l1 ag38 rfl) <| tH 4 rfl (y_f 1 3 Tryz.underlying33 sz3) <| tH 5 rfl (y_l1 ag3 rfl) <| qo 6 ?_; refine callE rfl fk127 (pshut_ct _ wb w o.a) sq ?_; intro _; refine qk <| tH 7 rfl y_as <| endH kq ?_; refine sk [(0,_),(4,_),(15,_)] K13 ?_; refine Hd.seq fun _ K14 => ?_
  refine Hd.drawsH ([BoP pb wb rb, pt b4 (encO o) 33]) (fun _ => true) mixed ?_; simp only [List.length, Nat.zero_add, Nat.reduceAdd]; refine tH 0 rfl y_mv <| tH 1 rfl y_mv <| tH 2 rfl y_np <| tH 3 rfl (y_f 1 39 Tryz.underlying41 sz39) <| tH 4 rfl (y_l1 ag39 rfl) <| tH 5 rfl (y_f 1 3 Tryz.underlying33 sz3) <| tH 6 rfl (y_l1 ag3 rfl) <| qo 7 ?_; refine callE rfl fk128 (Rf.rPshut_ct _ rb w o.a) sq ?_; intro _; refine qk <| tH 8 rfl (y_eqlT rfl rfl) ?_; refine tH 9 rfl y_as <| endH kq ?_; refine sk [(6,_)] K14 ?_; refine Hd.ret <| Hd.inBret <| Hd.thenRet ?_; rw [do_11 hc2]; exact Hd.ret1 rfl () (by rfl) sq
 refine sr fun _ K15 => ?_
 refine yv (y_eql rfl rfl) ?_; refine yv y_as <| fk [(0,_),(4,_),(33,_),(121,_)] K15 ?_; refine qz ?_ ?_ <;> intro hc3 <;> try simp only [hyZ] at hc3
 ·refine Hd.seq fun _ K16 => ?_
  refine Hd.drawsH ([BoP pb wb rb, pt b4 (encO o) 33]) (fun _ => true) mixed ?_; simp only [List.length, Nat.zero_add, Nat.reduceAdd]; refine tH 0 rfl y_mv <| tH 1 rfl y_np <| tH 2 rfl (y_f 0 38 Tryz.underlying41 sz38) <| tH 3 rfl (y_l1 ag38 rfl) <| tH 4 rfl (y_f 1 3 Tryz.underlying33 sz3) <| tH 5 rfl (y_l1 ag3 rfl) <| qo 6 ?_; refine callE rfl fk129 (pclose_ct _ wb w o.a) sq ?_; intro _; refine qk <| tH 7 rfl y_as <| endH kq ?_; refine sk [(0,_),(4,_),(16,_)] K16 ?_; refine Hd.seq fun _ K17 => ?_
  refine Hd.drawsH ([BoP pb wb rb, pt b4 (encO o) 33]) (fun _ => true) mixed ?_; simp only [List.length, Nat.zero_add, Nat.reduceAdd]; refine tH 0 rfl y_mv <| tH 1 rfl y_mv <| tH 2 rfl y_np <| tH 3 rfl (y_f 1 39 Tryz.underlying41 sz39) <| tH 4 rfl (y_l1 ag39 rfl) <| tH 5 rfl (y_f 1 3 Tryz.underlying33 sz3) <| tH 6 rfl (y_l1 ag3 rfl) <| qo 7 ?_; refine callE rfl fk130 (Rf.rPclose_ct _ rb w o.a) sq ?_; intro _; refine qk <| tH 8 rfl (y_eqlT rfl rfl) ?_; refine tH 9 rfl y_as <| endH kq ?_; refine sk [(6,_)] K17 ?_; refine Hd.ret <| Hd.inBret <| Hd.thenRet ?_; rw [do_12 hc3]; exact Hd.ret1 rfl () (by rfl) sq
 refine sr fun _ K18 => ?_
 refine yv (y_eql rfl rfl) ?_; refine yv y_as <| fk [(0,_),(4,_),(33,_),(139,_)] K18 ?_; refine qz ?_ ?_ <;> intro hc4 <;> try simp only [hyZ] at hc4
 ·refine Hd.seq fun _ K19 => ?_
  refine Hd.drawsH ([BoP pb wb rb, pt b4 (encO o) 33]) (fun _ => true) mixed ?_; simp only [List.length, Nat.zero_add, Nat.reduceAdd]; refine tH 0 rfl y_mv <| tH 1 rfl y_np <| tH 2 rfl (y_f 0 38 Tryz.underlying41 sz38) <| tH 3 rfl (y_l1 ag38 rfl) <| tH 4 rfl (y_f 1 3 Tryz.underlying33 sz3) <| tH 5 rfl (y_l1 ag3 rfl) <| qo 6 ?_; refine callE rfl fk131 (wreset_ct _ wb w o.a) sq ?_; intro _; refine qk <| tH 7 rfl y_as <| endH kq ?_; refine sk [(0,_),(4,_),(17,_)] K19 ?_; refine Hd.seq fun _ K20 => ?_
  refine Hd.drawsH ([BoP pb wb rb, pt b4 (encO o) 33]) (fun _ => true) mixed ?_; simp only [List.length, Nat.zero_add, Nat.reduceAdd]; refine tH 0 rfl y_mv <| tH 1 rfl y_mv <| tH 2 rfl y_np <| tH 3 rfl (y_f 1 39 Tryz.underlying41 sz39) <| tH 4 rfl (y_l1 ag39 rfl) <| tH 5 rfl (y_f 1 3 Tryz.underlying33 sz3) <| tH 6 rfl (y_l1 ag3 rfl) <| qo 7 ?_; refine callE rfl fk132 (Rf.rReset_ct _ rb w o.a) sq ?_; intro _; refine qk <| tH 8 rfl (y_eqlT rfl rfl) ?_; refine tH 9 rfl y_as <| endH kq ?_; refine sk [(6,_)] K20 ?_; refine Hd.ret <| Hd.inBret <| Hd.thenRet ?_; rw [do_13 hc4]; exact Hd.ret1 rfl () (by rfl) sq
 refine sr fun _ K21 => ?_
 refine yv (y_eql rfl rfl) ?_; refine yv y_as <| fk [(0,_),(4,_),(33,_),(157,_)] K21 ?_; refine qz ?_ ?_ <;> intro hc5 <;> try simp only [hyZ] at hc5
 ·refine Hd.seq fun _ K22 => ?_
  refine Hd.drawsH ([BoP pb wb rb, pt b4 (encO o) 33]) (fun _ => true) mixed ?_; simp only [List.length, Nat.zero_add, Nat.reduceAdd]; refine tH 0 rfl y_mv <| tH 1 rfl y_np <| tH 2 rfl (y_f 0 38 Tryz.underlying41 sz38) <| tH 3 rfl (y_l1 ag38 rfl) <| tH 4 rfl (y_f 1 3 Tryz.underlying33 sz3) <| tH 5 rfl (y_l1 ag3 rfl) <| tH 6 rfl (y_f 2 3 Tryz.underlying33 sz3) <| tH 7 rfl (y_l1 ag3 rfl) <| qo 8 ?_; refine callE rfl fk133 (wconn_ct _ wb w o.a o.n) sq ?_; intro _; refine qk <| tH 9 rfl y_mv <| tH 10 rfl y_ex <| tH 11 rfl y_ex <| tH 12 rfl y_as <| tH 13 rfl y_as <| endH kq ?_; refine sk [(0,_),(4,_),(18,_),(19,_)] K22 ?_; refine Hd.seq fun _ K23 => ?_
  refine Hd.drawsH ([BoP pb wb rb, pt b4 (encO o) 33]) (fun _ => true) mixed ?_; simp only [List.length, Nat.zero_add, Nat.reduceAdd]; refine tH 0 rfl y_mv <| tH 1 rfl y_np <| tH 2 rfl (y_f 1 39 Tryz.underlying41 sz39) <| tH 3 rfl (y_l1 ag39 rfl) <| tH 4 rfl (y_f 1 3 Tryz.underlying33 sz3) <| tH 5 rfl (y_l1 ag3 rfl) <| tH 6 rfl (y_f 2 3 Tryz.underlying33 sz3) <| tH 7 rfl (y_l1 ag3 rfl) <| qo 8 ?_; refine callE rfl fk134 (Rf.rConnect_ct _ rb w hw o.a o.n) sq ?_; intro _; refine qk <| tH 9 rfl y_mv <| tH 10 rfl y_ex <| tH 11 rfl y_ex <| tH 12 rfl y_as <| tH 13 rfl y_as <| endH kq ?_; refine sk [(18,_),(19,_),(20,_),(21,_)] K23 ?_; refine sr fun _ K24 => ?_
  refine yv y_mv <| yv y_mv <| yv (y_eqlT rfl rfl) ?_; refine yv y_mv ?_; apply Hd.andg 4 186 190 [] rfl sbq
  ·intro hg22_186
   try simp only [hyZ] at hg22_186
   simp only [List.take]; refine y2 y_mv <| y2 y_mv <| y2 (y_eqlT rfl rfl) ?_; refine yv (y_pickT rfl rfl) ?_; exact Hd.mn
  ·intro hg22_186
   try simp only [hyZ] at hg22_186
   simp only [List.take]; refine n1 <| n1 <| n1 <| yv (y_pickF rfl rfl) ?_; exact Hd.mn
  simp only [List.drop]; refine yv y_as <| fk [(6,_)] K24 ?_; refine Hd.ret <| Hd.inBret <| Hd.thenRet ?_; rw [do_14 hc5]; exact Hd.ret1 rfl () (by rfl) sq
 refine sr fun _ K25 => ?_
 refine yv (y_eql rfl rfl) ?_; refine yv y_as <| fk [(0,_),(4,_),(33,_),(191,_)] K25 ?_; refine qz ?_ ?_ <;> intro hc6 <;> try simp only [hyZ] at hc6
 ·refine Hd.seq fun _ K26 => ?_
  refine Hd.drawsH ([BoP pb wb rb, pt b4 (encO o) 33]) (fun _ => true) mixed ?_; simp only [List.length, Nat.zero_add, Nat.reduceAdd]; refine tH 0 rfl y_mv <| tH 1 rfl y_np <| tH 2 rfl (y_f 0 38 Tryz.underlying41 sz38) <| tH 3 rfl (y_l1 ag38 rfl) <| tH 4 rfl (y_f 3 30 Tryz.underlying33 sz30) <| tH 5 rfl (y_l1 ag30 rfl) <| qo 6 ?_; refine callE rfl fk135 (pass_ct _ wb w o.t ht hnow) sq ?_; intro _; refine qk <| endH kq ?_; refine sk [(0,_),(4,_)] K26 ?_; refine Hd.drawsH ([BoP pb wb rb, pt b4 (encO o) 33]) (fun _ => true) mixed ?_; simp only [List.length, Nat.zero_add, Nat.reduceAdd]; refine tH 0 rfl y_mv <| tH 1 rfl y_np <| tH 2 rfl (y_f 1 39 Tryz.underlying41 sz39) <| tH 3 rfl (y_l1 ag39 rfl) <| tH 4 rfl (y_f 3 30 Tryz.underlying33 sz30) <| tH 5 rfl (y_l1 ag30 rfl) <| qo 6 ?_; refine callE rfl fk136 (Rf.rPass_ct _ rb w o.t ht hnow) sq ?_
  intro _; refine qk <| endH kq ?_; refine slots [] sbq ?_; refine Hd.inB <| Hd.toK K2 ?_; refine sr fun _ K27 => ?_
  refine yv y_as <| fk [(6,_)] K27 ?_; refine Hd.ret ?_; rw [do_15 hc6]; exact Hd.ret1 rfl () (by rfl) sq
 refine sr fun _ K28 => ?_
 refine yv (y_eql rfl rfl) ?_; refine yv y_as <| fk [(0,_),(4,_),(33,_),(207,_)] K28 ?_; refine qz ?_ ?_ <;> intro hc7 <;> try simp only [hyZ] at hc7
 ·refine Hd.seq fun _ K29 => ?_
  refine Hd.drawsH ([BoP pb wb rb, pt b4 (encO o) 33]) (fun _ => true) mixed ?_; simp only [List.length, Nat.zero_add, Nat.reduceAdd]; refine tH 0 rfl y_mv <| tH 1 rfl y_np <| tH 2 rfl (y_f 0 38 Tryz.underlying41 sz38) <| tH 3 rfl (y_l1 ag38 rfl) <| tH 4 rfl (y_f 1 3 Tryz.underlying33 sz3) <| tH 5 rfl (y_l1 ag3 rfl) <| tH 6 rfl (y_f 2 3 Tryz.underlying33 sz3) <| tH 7 rfl (y_l1 ag3 rfl) <| tH 8 rfl (y_gtr rfl rfl) ?_; refine qo 9 ?_; refine callE rfl fk137 (whandle_ct _ wb w hb2 o.a (decide (o.n > 0))) sq ?_; intro _; refine qk <| tH 10 rfl y_as <| endH kq ?_; refine sk [(0,_),(4,_),(22,_)] K29 ?_; refine Hd.seq fun _ K30 => ?_
  refine Hd.drawsH ([BoP pb wb rb, pt b4 (encO o) 33]) (fun _ => true) mixed ?_; simp only [List.length, Nat.zero_add, Nat.reduceAdd]; refine tH 0 rfl y_mv <| tH 1 rfl y_mv <| tH 2 rfl y_np <| tH 3 rfl (y_f 1 39 Tryz.underlying41 sz39) <| tH 4 rfl (y_l1 ag39 rfl) <| tH 5 rfl (y_f 1 3 Tryz.underlying33 sz3) <| tH 6 rfl (y_l1 ag3 rfl) <| tH 7 rfl (y_f 2 3 Tryz.underlying33 sz3) <| tH 8 rfl (y_l1 ag3 rfl) <| tH 9 rfl (y_gtr rfl rfl) ?_; refine qo 10 ?_; refine callE rfl fk138 (Rf.rHandle_ct _ rb w hw hb2 o.a (decide (o.n > 0))) sq ?_; intro _; refine qk <| tH 11 rfl (y_eqlT rfl rfl) ?_; refine tH 12 rfl y_as <| endH kq ?_; refine sk [(6,_)] K30 ?_; refine Hd.ret <| Hd.inBret <| Hd.thenRet ?_; rw [do_16 hc7]; exact Hd.ret1 rfl () (by rfl) sq
 refine sr fun _ K31 => ?_
 refine yv (y_eql rfl rfl) ?_; refine yv y_as <| fk [(0,_),(4,_),(33,_),(231,_)] K31 ?_; refine qz ?_ ?_ <;> intro hc8 <;> try simp only [hyZ] at hc8
 ·refine Hd.seq fun _ K32 => ?_
  refine Hd.drawsH ([BoP pb wb rb, pt b4 (encO o) 33]) (fun _ => true) mixed ?_; simp only [List.length, Nat.zero_add, Nat.reduceAdd]; refine tH 0 rfl y_mv <| tH 1 rfl y_np <| tH 2 rfl (y_f 0 38 Tryz.underlying41 sz38) <| tH 3 rfl (y_l1 ag38 rfl) <| tH 4 rfl (y_f 1 3 Tryz.underlying33 sz3) <| tH 5 rfl (y_l1 ag3 rfl) <| qo 6 ?_; refine callE rfl fk139 (wraise_ct _ wb w hb1 o.a) sq ?_; intro _; refine qk <| tH 7 rfl y_as <| endH kq ?_; refine sk [(0,_),(4,_),(23,_)] K32 ?_; refine Hd.seq fun _ K33 => ?_
  refine Hd.drawsH ([BoP pb wb rb, pt b4 (encO o) 33]) (fun _ => true) mixed ?_; simp only [List.length, Nat.zero_add, Nat.reduceAdd]; refine tH 0 rfl y_mv <| tH 1 rfl y_mv <| tH 2 rfl y_np <| tH 3 rfl (y_f 1 39 Tryz.underlying41 sz39) <| tH 4 rfl (y_l1 ag39 rfl) <| tH 5 rfl (y_f 1 3 Tryz.underlying33 sz3) <| tH 6 rfl (y_l1 ag3 rfl) <| qo 7 ?_; refine callE rfl fk140 (Rf.rRaise_ct _ rb w hw hb1 o.a) sq ?_; intro _; refine qk <| tH 8 rfl (y_eqlT rfl rfl) ?_; refine tH 9 rfl y_as <| endH kq ?_; refine sk [(6,_)] K33 ?_; refine Hd.ret <| Hd.inBret <| Hd.thenRet ?_; rw [do_17 hc8]; exact Hd.ret1 rfl () (by rfl) sq
 refine sr fun _ K34 => ?_
 refine yv (y_eql rfl rfl) ?_; refine yv y_as <| fk [(0,_),(4,_),(33,_),(249,_)] K34 ?_; refine qz ?_ ?_ <;> intro hc9 <;> try simp only [hyZ] at hc9
 ·have hgl : (sigR w).1.length ≤ 32 := by have := cntF_le w.ct 0; rw [hw.ctl] at this; exact this
  refine sr fun _ K35 => ?_
  refine yv y_mv <| yv y_np <| yv (y_f 0 38 Tryz.underlying41 sz38) <| yv (y_l1 ag38 rfl) <| callE rfl fk141 (wsignals_ct _ wb w hb2) sq ?_; rintro ⟨sa, sc⟩; dsimp only; refine yv y_as <| fk [(0,_),(24,_)] K35 ?_; refine sr fun _ K36 => ?_
  refine yv y_mv <| yv y_np <| yv (y_f 1 39 Tryz.underlying41 sz39) <| yv (y_l1 ag39 rfl) <| callE rfl fk142 (Rf.rSignals_ct _ rb w hw hb2) sq ?_; rintro ⟨va, vc⟩; dsimp only; refine yv y_as <| fk [(24,_),(25,_)] K36 ?_; refine Hd.seq fun _ K37 => ?_
  refine sr fun _ K38 => ?_
  refine yv y_mv <| yv (y_len Tryz.underlying238 rfl) ?_; refine yv y_mv <| yv (y_len Tryz.underlying238 rfl) ?_; refine yv (y_neq rfl rfl) ?_; refine fk [(24,_),(25,_),(265,_)] K38 ?_; refine qz ?_ ?_ <;> intro hc10 <;> try simp only [hyZ] at hc10
  ·exact absurd trivial hc10
  refine qv K37 <| sr fun _ K39 => ?_
  refine yv y_mv <| yv (y_len Tryz.underlying238 rfl) ?_; refine yv y_mv <| fk [(24,_),(25,_),(267,_),(268,_)] K39 ?_; refine Hd.block <| Hd.loopK (ι := Nat) [(24,_),(25,_),(267,_)] (fun i => [(268, .int .i64 (i : Int))]) (fun i => pu (i ≤ (sigR w).1.length) :: own 241 2 va (sigR w).1.length vc ((sigR w).1.flatMap encCn) :: own 241 2 sa (sigR w).1.length sc ((sigR w).1.flatMap encCn) :: BoP pb wb rb :: WorldP wb (sigR w).2 :: Rf.RwP rb (sigR w).2 :: L) (fun i => (sigR w).1.length - i) 0 sbq sbq (Ent.sep (.pure (by omega) enn)) ?_; intro i
  try dsimp only
  refine Hd.pure (fun hp0 => ?_)
  try dsimp only at hp0
  refine sr fun _ K40 => ?_
  refine yv (y_lss rfl rfl) ?_; refine fk [(24,_),(25,_),(267,_),(268,_),(269,_)] K40 ?_; refine Hd.seq fun _ K41 => ?_
  refine qz ?_ ?_ <;> intro hc11 <;> try simp only [hyZ] at hc11
  ·have hi : i < (sigR w).1.length := by omega
   obtain ⟨q, hq⟩ : ∃ q, (sigR w).1[i]? = some q := ⟨_, List.getElem?_eq_getElem hi⟩
   refine qv K41 <| Hd.seq fun _ K42 => ?_
   refine Hd.block <| sr fun _ K43 => ?_
   refine yv y_mv <| yv y_as <| fk [(24,_),(25,_),(26,_),(267,_),(268,_)] K43 ?_; refine Hd.seq fun _ K44 => ?_
   refine Hd.quiet mixed kq ?_; refine Hq.yv y_mv ?_; refine Hq.yv y_mv ?_; refine Hq.yv (y_idxR Tryz.underlying238 sz241 rfl rfl (by omega) (by exact RdS.own pkk)) ?_; refine Hq.yv (y_loadRn (vs := encCn q) ag241 rfl (RdS.own (ad := sa) (us := (sigR w).1.flatMap encCn) pkk) (flat_cells encCn 2 (fun _ => rfl) hq) sz241 (by simp)) ?_; refine Hq.yv y_mv ?_; refine Hq.yv y_mv ?_; refine Hq.yv (y_idxR Tryz.underlying238 sz241 rfl rfl (by omega) (by exact RdS.own pkk)) ?_; refine Hq.yv (y_loadRn (vs := encCn q) ag241 rfl (RdS.own (ad := va) (us := (sigR w).1.flatMap encCn) pkk) (flat_cells encCn 2 (fun _ => rfl) hq) sz241 (by simp)) ?_; refine Hq.yv (y_neq_agg rfl rfl eqt241 rfl ⟨rfl, rfl⟩) ?_; refine Hq.nil ?_; refine sk [(24,_),(25,_),(267,_),(268,_),(279,_)] K44 ?_; refine qz ?_ ?_ <;> intro hc12 <;> try simp only [hyZ] at hc12
   ·simp [allEq, eqv] at hc12
   refine Hd.skip <| Hd.inB <| Hd.toK K42 ?_; refine Hd.region <| yv (y_addn rfl rfl (by simp only [InK]; omega)) ?_; refine yv y_mv <| Hd.nil <| slots [(24,_),(25,_),(267,_),(268,_)] sbq ?_; refine thenN ?_; exact Hd.again (i + 1) (by omega) sbq (Ent.sep (.pure (by omega) enn))
  refine Hd.exit <| Hd.thenExit <| Hd.thenExit <| Hd.inBexit <| Hd.inB <| Hd.toK K2 ?_; refine sr fun _ K45 => ?_
  refine yv y_as <| fk [(6,_)] K45 ?_; refine Hd.ret ?_; rw [do_18 hc9]; exact Hd.ret1 rfl () rfl sq
 refine sr fun _ K46 => ?_
 refine yv (y_eql rfl rfl) ?_; refine yv y_as <| fk [(0,_),(4,_),(33,_),(281,_)] K46 ?_; refine qz ?_ ?_ <;> intro hc13 <;> try simp only [hyZ] at hc13
 ·refine Hd.seq fun _ K47 => ?_
  refine Hd.drawsH ([BoP pb wb rb, pt b4 (encO o) 33]) (fun _ => true) mixed ?_; simp only [List.length, Nat.zero_add, Nat.reduceAdd]; refine tH 0 rfl y_mv <| tH 1 rfl y_np <| tH 2 rfl (y_f 0 38 Tryz.underlying41 sz38) <| tH 3 rfl (y_l1 ag38 rfl) <| tH 4 rfl (y_f 1 3 Tryz.underlying33 sz3) <| tH 5 rfl (y_l1 ag3 rfl) <| tH 6 rfl (y_f 2 3 Tryz.underlying33 sz3) <| tH 7 rfl (y_l1 ag3 rfl) <| qo 8 ?_; refine callE rfl fk143 (wnotice_ct _ wb w hb2 o.a o.n) sq ?_; intro _; refine qk <| tH 9 rfl y_as <| endH kq ?_; refine sk [(0,_),(4,_),(27,_)] K47 ?_; refine Hd.seq fun _ K48 => ?_
  refine Hd.drawsH ([BoP pb wb rb, pt b4 (encO o) 33]) (fun _ => true) mixed ?_; simp only [List.length, Nat.zero_add, Nat.reduceAdd]; refine tH 0 rfl y_mv <| tH 1 rfl y_mv <| tH 2 rfl y_np <| tH 3 rfl (y_f 1 39 Tryz.underlying41 sz39) <| tH 4 rfl (y_l1 ag39 rfl) <| tH 5 rfl (y_f 1 3 Tryz.underlying33 sz3) <| tH 6 rfl (y_l1 ag3 rfl) <| tH 7 rfl (y_f 2 3 Tryz.underlying33 sz3) <| tH 8 rfl (y_l1 ag3 rfl) <| qo 9 ?_; refine callE rfl fk144 (Rf.rNotice_ct _ rb w hw hb2 o.a o.n) sq ?_; intro _; refine qk <| tH 10 rfl (y_eqlT rfl rfl) ?_; refine tH 11 rfl y_as <| endH kq ?_; refine sk [(6,_)] K48 ?_; refine Hd.ret <| Hd.inBret <| Hd.thenRet ?_; rw [do_19 hc13]; exact Hd.ret1 rfl () (by rfl) sq
 refine sr fun _ K49 => ?_
 refine yv (y_eql rfl rfl) ?_; refine yv y_as <| fk [(0,_),(4,_),(303,_)] K49 ?_; refine qz ?_ ?_ <;> intro hc14 <;> try simp only [hyZ] at hc14
 ·refine Hd.seq fun _ K50 => ?_
  refine Hd.quiet mixed kq ?_; refine Hq.yv y_mv ?_; refine Hq.yv y_np ?_; refine Hq.yv (y_f 0 38 Tryz.underlying41 sz38) ?_; refine Hq.yv (y_l1 ag38 rfl) ?_; refine Hq.yv (y_f 1 3 Tryz.underlying33 sz3) ?_; refine Hq.yv (y_l1 ag3 rfl) ?_; refine Hq.call rfl fk71 ((wwire_ct _ wb w o.a).swap sq sq) ?_; refine Hq.yv y_mv ?_; refine Hq.yv y_ex ?_; refine Hq.yv y_ex ?_; refine Hq.yv y_as ?_; refine Hq.yv y_as ?_; refine Hq.nil ?_; refine sk [(0,_),(4,_),(28,_),(29,_)] K50 ?_; refine Hd.seq fun _ K51 => ?_
  refine Hd.quiet mixed kq ?_; refine Hq.yv y_mv ?_; refine Hq.yv y_np ?_; refine Hq.yv (y_f 1 39 Tryz.underlying41 sz39) ?_; refine Hq.yv (y_l1 ag39 rfl) ?_; refine Hq.yv (y_f 1 3 Tryz.underlying33 sz3) ?_; refine Hq.yv (y_l1 ag3 rfl) ?_; refine Hq.call rfl fk79 ((Rf.rWire_ct _ rb w hw o.a).swap sq sq) ?_; refine Hq.yv y_mv ?_; refine Hq.yv y_ex ?_; refine Hq.yv y_ex ?_; refine Hq.yv y_as ?_; refine Hq.yv y_as ?_; refine Hq.nil ?_; refine sk [(28,_),(29,_),(30,_),(31,_)] K51 ?_; refine sr fun _ K52 => ?_
  refine yv y_mv <| yv y_mv <| yv (y_eqlT rfl rfl) ?_; refine yv y_mv ?_; apply Hd.andg 4 328 332 [] rfl sbq
  ·intro hg49_328
   try simp only [hyZ] at hg49_328
   simp only [List.take]; refine y2 y_mv <| y2 y_mv <| y2 (y_eqlT rfl rfl) ?_; refine yv (y_pickT rfl rfl) ?_; exact Hd.mn
  ·intro hg49_328
   try simp only [hyZ] at hg49_328
   simp only [List.take]; refine n1 <| n1 <| n1 <| yv (y_pickF rfl rfl) ?_; exact Hd.mn
  simp only [List.drop]; refine yv y_as <| fk [(6,_)] K52 ?_; refine Hd.ret <| Hd.inBret <| Hd.thenRet ?_; rw [do_oth (by omega)]; exact Hd.ret1 rfl () (by rfl) sq
 refine Hd.skip <| Hd.inB <| Hd.toK K2 ?_; refine sr fun _ K53 => ?_
 refine yv y_as <| fk [(6,_)] K53 ?_; refine Hd.ret ?_; rw [do_oth (by omega)]; exact Hd.ret1 rfl () rfl sq
end Wo
end Go.Proofs.YtbfddabjbkohdaaGreat
namespace Go.Proofs.YtbfddabjbkohdaaGreat
open Go.RX Fx
namespace Wo
open Rf (badK mkErr mkLst mk_bad mk_no mk_yes)
def mkA (w : WA) (k n : Int) : Int := if badK k n then 0 else mkI w (mkKE k) 0
def mkB (w : WA) (k n : Int) : Int := if badK k n then 0 else if k ≤ 1 then mkI w 2 1 else mkN w 1
theorem bad_of {k n : Int} (hk : k ≠ 3) : badK k n ↔ (n < 1 ∨ 65536 < n) := by unfold badK; omega
theorem wmk0_ct (L : List SP) (wb : Nat) (w : WA) (k n : Int) (hk : k = 0) : Ct Tryz.prog 54 #[.pointer (some ⟨wb, 0, none⟩), .int .i64 n] (WorldP wb w :: L) (fun _ : Unit => .tuple #[.int .i64 (mkA w k n), .int .i64 (mkB w k n), .int .i64 (mkErr w k n)]) (fun _ => WorldP wb (makeR w k n) :: L) := by
 subst hk
 by_cases h : badK 0 n
 ·obtain ⟨e1, _, e3⟩ := mk_bad (w := w) h
  rw [show mkA w 0 n = 0 from if_pos h, show mkB w 0 n = 0 from if_pos h, e1, e3]; exact pipe_bad L wb w n ((bad_of (by decide)).1 h)
 ·rw [show mkA w 0 n = mkI w 2 0 from if_neg h, show mkB w 0 n = mkI w 2 1 from if_neg h, show mkErr w 0 n = mkE w 2 from if_neg h, show makeR w 0 n = mkW w 2 (pipeW n.toNat) from if_neg h]
  rw [bad_of (by decide)] at h
  obtain ⟨m, rfl⟩ : ∃ m : Nat, n = (m : Int) := ⟨n.toNat, by omega⟩
  exact pipe_mk L wb w m (by omega) (by omega)
theorem wmk1_ct (L : List SP) (wb : Nat) (w : WA) (k n : Int) (hk : k = 1) : Ct Tryz.prog 55 #[.pointer (some ⟨wb, 0, none⟩), .int .i64 n] (WorldP wb w :: L) (fun _ : Unit => .tuple #[.int .i64 (mkA w k n), .int .i64 (mkB w k n), .int .i64 (mkErr w k n)]) (fun _ => WorldP wb (makeR w k n) :: L) := by
 subst hk
 by_cases h : badK 1 n
 ·obtain ⟨e1, _, e3⟩ := mk_bad (w := w) h
  rw [show mkA w 1 n = 0 from if_pos h, show mkB w 1 n = 0 from if_pos h, e1, e3]; exact pairbad_ct L wb w n ((bad_of (by decide)).1 h)
 ·rw [show mkA w 1 n = mkI w 2 0 from if_neg h, show mkB w 1 n = mkI w 2 1 from if_neg h, show mkErr w 1 n = mkE w 2 from if_neg h, show makeR w 1 n = mkW w 2 (halfW n.toNat 2) from if_neg h]
  rw [bad_of (by decide)] at h
  obtain ⟨m, rfl⟩ : ∃ m : Nat, n = (m : Int) := ⟨n.toNat, by omega⟩
  exact pair_ct L wb w m (by omega) (by omega)
theorem wmk2_ct (L : List SP) (wb : Nat) (w : WA) (k n : Int) (hk : k = 2) : Ct Tryz.prog 50 #[.pointer (some ⟨wb, 0, none⟩), .int .i64 n] (WorldP wb w :: L) (fun _ : Unit => .tuple #[.int .i64 (mkA w k n), .int .i64 (mkB w k n), .int .i64 (mkErr w k n)]) (fun _ => WorldP wb (makeR w k n) :: L) := by
 subst hk
 by_cases h : badK 2 n
 ·obtain ⟨e1, _, e3⟩ := mk_bad (w := w) h
  rw [show mkA w 2 n = 0 from if_pos h, show mkB w 2 n = 0 from if_pos h, e1, e3]; exact outer_bad L wb w n ((bad_of (by decide)).1 h)
 ·rw [show mkA w 2 n = mkI w 1 0 from if_neg h, show mkB w 2 n = mkN w 1 from if_neg h, show mkErr w 2 n = mkE w 1 from if_neg h, show makeR w 2 n = mkW w 1 (connW n.toNat) from if_neg h]
  rw [bad_of (by decide)] at h
  obtain ⟨m, rfl⟩ : ∃ m : Nat, n = (m : Int) := ⟨n.toNat, by omega⟩
  exact outer_mk L wb w m (by omega) (by omega)
theorem wmk3_ct (L : List SP) (wb : Nat) (w : WA) (k n : Int) (hk : k = 3) : Ct Tryz.prog 56 #[.pointer (some ⟨wb, 0, none⟩), .int .i64 n] (WorldP wb w :: L) (fun _ : Unit => .tuple #[.int .i64 (mkA w k n), .int .i64 (mkB w k n), .int .i64 (mkErr w k n)]) (fun _ => WorldP wb (makeR w k n) :: L) := by
 subst hk
 by_cases h : badK 3 n
 ·obtain ⟨e1, _, e3⟩ := mk_bad (w := w) h
  rw [show mkA w 3 n = 0 from if_pos h, show mkB w 3 n = 0 from if_pos h, e1, e3]; exact listen_bad L wb w n (by unfold badK at h; omega)
 ·rw [show mkA w 3 n = mkI w 1 0 from if_neg h, show mkB w 3 n = mkN w 1 from if_neg h, show mkErr w 3 n = mkE w 1 from if_neg h, show makeR w 3 n = mkW w 1 (listW n.toNat) from if_neg h]
  unfold badK at h
  obtain ⟨m, rfl⟩ : ∃ m : Nat, n = (m : Int) := ⟨n.toNat, by omega⟩
  exact listen_mk L wb w m (by omega) (by omega)
structure MadeOk (a b e wire : Int) (l : List Nat) : Prop where
 no : e ≠ 0 → a = 0 ∧ b = 0
 yes : e = 0 → ∃ f t, l = f :: t ∧ a = ((f : Nat) : Int) ∧ ((t = [] ∧ b = wire) ∨ ∃ g, t = [g] ∧ b = ((g : Nat) : Int))
theorem made_ok (w : WA) {k : Int} (hk : 0 ≤ k ∧ k ≤ 3) (n : Int) : MadeOk (mkA w k n) (mkB w k n) (mkErr w k n) (((makeR w k n).ws.length : Nat) - 1) (mkLst w k n) := by
 by_cases h : badK k n
 ·obtain ⟨e1, e2, e3⟩ := mk_bad (w := w) h
  exact ⟨fun _ => ⟨if_pos h, if_pos h⟩, fun e => by rw [e1] at e; exact absurd e (by decide)⟩
 have hA : mkA w k n = mkI w (mkKE k) 0 := if_neg h
 have hB : mkB w k n = if k ≤ 1 then mkI w 2 1 else mkN w 1 := if_neg h
 cases ho : mkOk w (mkKE k) with
 | false =>
  obtain ⟨e1, e2, e3⟩ := mk_no (w := w) h ho
  have hF : mkF w (mkKE k) = [] := by unfold mkF; rw [ho]; rfl
  refine ⟨fun _ => ⟨by rw [hA]; unfold mkI; rw [hF]; rfl, ?_⟩, fun e => by rw [e1] at e; exact absurd e (by decide)⟩; rw [hB]
  by_cases h1 : k ≤ 1
  ·rw [if_pos h1]
   have : mkKE k = 2 := if_pos (by omega)
   rw [this] at hF; unfold mkI; rw [hF]; rfl
  ·rw [if_neg h1]
   have : mkKE k = 1 := if_neg (by omega)
   rw [this] at ho; unfold mkN mkE; rw [ho]; rfl
 | true =>
  obtain ⟨e1, e2, e3⟩ := mk_yes (w := w) h ho
  have hF : mkF w (mkKE k) = (frees w.at).take (mkKE k) := by unfold mkF; rw [ho]; rfl
  have hl : ((frees w.at).take (mkKE k)).length = mkKE k := by unfold mkOk at ho; simp only [Bool.and_eq_true, decide_eq_true_eq] at ho; omega
  refine ⟨fun e => absurd e1 e, fun _ => ?_⟩; rw [e2, hA, hB]; unfold mkI; rw [hF]
  by_cases h1 : k ≤ 1
  ·have h2 : mkKE k = 2 := if_pos (by omega)
   rw [h2] at hl hF ⊢; rw [if_pos h1, hF]
   obtain ⟨f, g, hfg⟩ : ∃ f g, (frees w.at).take 2 = [f, g] := by
    match hm : (frees w.at).take 2, hl with
    | [f, g], _ => exact ⟨f, g, rfl⟩
   rw [hfg]; exact ⟨f, [g], rfl, rfl, .inr ⟨g, rfl, rfl⟩⟩
  ·have h2 : mkKE k = 1 := if_neg (by omega)
   rw [h2] at hl ho ⊢; rw [if_neg h1]
   obtain ⟨f, hf⟩ : ∃ f, (frees w.at).take 1 = [f] := by
    match hm : (frees w.at).take 1, hl with
    | [f], _ => exact ⟨f, rfl⟩
   rw [hf]; refine ⟨f, [], rfl, rfl, .inl ⟨rfl, ?_⟩⟩
   have he : mkE w 1 = 0 := by unfold mkE; rw [ho]; rfl
   rw [show mkN w 1 = (w.ws.length : Int) from if_pos he]
   have : makeR w k n = mkW w 1 (mkKW k n) := by
    rw [← h2]; exact if_neg h
   rw [this, mkW_len he]; omega
theorem made_ct (L : List SP) (a b e wire : Int) (l : List Nat) (ad : Option Addr) (c : Nat) (hR : RdS L 1 ad l.length (nats l)) (h : MadeOk a b e wire l) : Ct Tryz.prog 58 #[.int .i64 a, .int .i64 b, .int .i64 e, .slice ad l.length c, .int .i64 wire, .int .i64 e] (L) (fun _ : Unit => .bool true) (fun _ : Unit => L) := by
 refine Ct.o6 Tryz.func58 ?_; intro E
 show Hd E 55 _ _ _ _
 refine sr fun _ K1 => ?_
 refine yv y_as <| fk [(0,_),(1,_),(2,_),(3,_),(4,_),(5,_)] K1 ?_; refine Hd.seq fun _ K2 => ?_
 refine sr fun _ K3 => ?_
 refine yv y_mv <| yv (y_neq rfl rfl) ?_; refine yv y_mv ?_; apply Hd.org 3 15 18 [(0,_),(1,_),(2,_),(3,_),(4,_),(5,_)] rfl sbq
 ·intro hg1_15
  try simp only [hyZ] at hg1_15
  simp only [List.take]; refine n1 <| n1 <| yv (y_pickT rfl rfl) ?_; exact Hd.mn
 ·intro hg1_15
  try simp only [hyZ] at hg1_15
  simp only [List.take]; refine y2 y_mv <| y2 (y_neq rfl rfl) ?_; refine yv (y_pickF rfl rfl) ?_; exact Hd.mn
 simp only [List.drop]; refine fk [(0,_),(1,_),(2,_),(3,_),(4,_),(5,_),(18,_)] K3 ?_; refine qz ?_ ?_ <;> intro hc0 <;> try simp only [hyZ] at hc0
 ·refine sr fun _ K4 => ?_
  refine yv y_mv <| yv y_mv <| yv (y_eqlT rfl rfl) ?_; refine yv y_mv ?_; apply Hd.andg 3 22 25 [(1,_)] rfl sbq
  ·intro hg2_22
   try simp only [hyZ] at hg2_22
   simp only [List.take]; refine y2 y_mv <| y2 (y_eql rfl rfl) ?_; refine yv (y_pickT rfl rfl) ?_; exact Hd.mn
  ·intro hg2_22
   try simp only [hyZ] at hg2_22
   simp only [List.take]; refine n1 <| n1 <| yv (y_pickF rfl rfl) ?_; exact Hd.mn
  simp only [List.drop]; refine yv y_mv ?_; apply Hd.andg 3 26 29 [] rfl sbq
  ·intro hg2_26
   try simp only [hyZ] at hg2_26
   simp only [List.take]; refine y2 y_mv <| y2 (y_eql rfl rfl) ?_; refine yv (y_pickT rfl rfl) ?_; exact Hd.mn
  ·intro hg2_26
   try simp only [hyZ] at hg2_26
   simp only [List.take]; refine n1 <| n1 <| yv (y_pickF rfl rfl) ?_; exact Hd.mn
  simp only [List.drop]; refine yv y_as <| fk [(12,_)] K4 ?_; refine Hd.ret <| Hd.thenRet ?_
  obtain ⟨rfl, rfl⟩ := h.no (by omega)
  exact Hd.ret1 rfl () rfl sq
 obtain ⟨f, t, rfl, rfl, ht⟩ := h.yes (by omega)
 have hln : 0 < (f :: t).length := Nat.succ_pos _
 refine qv K2 <| Hd.seq fun _ K5 => ?_
 refine sr fun _ K6 => ?_
 refine yv y_mv <| yv (y_len Tryz.underlying44 rfl) ?_; refine yv (y_eql rfl rfl) ?_; refine fk [(0,_),(1,_),(3,_),(4,_),(32,_)] K6 ?_; refine qz ?_ ?_ <;> intro hc1 <;> try simp only [hyZ] at hc1
 ·obtain ⟨g, rfl, rfl⟩ : ∃ g, t = [g] ∧ b = ((g : Nat) : Int) := by
   rcases ht with ⟨rfl, _⟩ | h1
   ·simp at hc1
   ·exact h1
  refine sr fun _ K7 => ?_
  refine yv y_mv <| yv y_mv <| yv (y_idxR Tryz.underlying44 sz3 rfl rfl (by exact (show (0 : Nat) < _ by omega)) (by exact hR)) ?_; refine yv (y_loadR1 ag3 rfl (by exact hR) (by rfl)) ?_; refine yv (y_eqlT rfl rfl) ?_; refine yv y_mv ?_; apply Hd.andg 6 38 44 [] rfl sbq
  ·intro hg4_38
   try simp only [hyZ] at hg4_38
   simp only [List.take]; refine y2 y_mv <| y2 y_mv <| y2 (y_idxR Tryz.underlying44 sz3 rfl rfl (by exact (show (1 : Nat) < _ by omega)) (by exact hR)) ?_; refine y2 (y_loadR1 ag3 rfl (by exact hR) (by rfl)) ?_; refine y2 (y_eqlT rfl rfl) ?_; refine yv (y_pickT rfl rfl) ?_; exact Hd.mn
  ·intro hg4_38
   try simp only [hyZ] at hg4_38
   simp only [List.take]; refine n1 <| n1 <| n1 <| n1 <| n1 <| yv (y_pickF rfl rfl) ?_; exact Hd.mn
  simp only [List.drop]; refine yv y_as <| fk [(12,_)] K7 ?_; refine Hd.ret <| Hd.thenRet ?_; exact Hd.ret1 rfl () (by rfl) sq
 obtain ⟨rfl, rfl⟩ : t = [] ∧ b = wire := by
  rcases ht with h1 | ⟨g, rfl, _⟩
  ·exact h1
  ·exact absurd rfl hc1
 refine qv K5 <| sr fun _ K8 => ?_
 refine yv y_mv <| yv y_mv <| yv (y_idxR Tryz.underlying44 sz3 rfl rfl (by exact (show (0 : Nat) < _ by omega)) (by exact hR)) ?_; refine yv (y_loadR1 ag3 rfl (by exact hR) (by rfl)) ?_; refine yv (y_eqlT rfl rfl) ?_; refine yv y_mv ?_; apply Hd.andg 4 50 54 [] rfl sbq
 ·intro hg5_50
  try simp only [hyZ] at hg5_50
  simp only [List.take]; refine y2 y_mv <| y2 y_mv <| y2 (y_eqlT rfl rfl) ?_; refine yv (y_pickT rfl rfl) ?_; exact Hd.mn
 ·intro hg5_50
  try simp only [hyZ] at hg5_50
  simp only [List.take]; refine n1 <| n1 <| n1 <| yv (y_pickF rfl rfl) ?_; exact Hd.mn
 simp only [List.drop]; refine yv y_as <| fk [(12,_)] K8 ?_; refine Hd.ret ?_; exact Hd.ret1 rfl () (by rfl) sq
theorem do_ct (L : List SP) (pb wb rb : Nat) (w : WA) (K : Nat) (hK : K ≤ 100000000) (hl : Lo K w) (o : Ov) (ht : InK .u64 o.t) (hd : o.d.length ≤ 300) (hR : RdS L 1 o.ad o.d.length (bsl o.d)) (hc : o.d.length ≤ o.c) : Ct Tryz.prog 17 #[.pointer (some ⟨pb, 0, none⟩), .agg (encO o).toArray] (BoP pb wb rb :: WorldP wb w :: Rf.RwP rb w :: L) (fun _ : Unit => .bool true) (fun _ : Unit => BoP pb wb rb :: WorldP wb (doA w o) :: Rf.RwP rb (doA w o) :: L) := by
 refine Ct.o2 Tryz.func17 ?_; intro E
 show Hd E 289 _ _ _ _
 have ht0 := ht
 simp only [InK] at ht
 have hnow := hl.now
 refine Hd.wokW (.there .here) (fun hw => ?_); refine sr fun _ K1 => ?_
 refine Hd.box rfl rfl (fun b3 => ?_); refine yv y_as <| fk [(0,_),(3,_)] K1 ?_; refine sr fun _ K2 => ?_
 refine Hd.bslice (vs := []) rfl (by exact bs17_31 ..) (fun b31 => ?_); refine Hd.ownNil 5 1 (some ⟨b31, 0, none⟩) ?_; refine yv (y_f 4 31 Tryz.underlying33 sz31) <| yv (y_l1 ag31 rfl) <| Hd.append Tryz.underlying31 ty5 rfl rfl rfl pkk (by exact RdS.mono hR sq) (by simp [Value.oneCell']; done) (by simp only [maxLen]; omega) (by omega) (fun ad34 cap34 => ?_); refine yv y_as <| Hd.nil ?_; rw [Nat.zero_add, List.nil_append]; refine sk [(0,_),(3,_),(5,_)] K2 ?_; refine Hd.seq fun _ K3 => ?_
 refine Hd.ownCap (ad := ad34) (us := bsl o.d) pkk (fun hcap => ?_); refine Hd.region <| yv y_as <| fk [(0,_),(3,_),(5,_)] K3 ?_; refine Hd.cutK (ι := Unit) [(5,_)] (fun _ => [(6, .bool true)]) (fun _ => own 5 1 ad34 o.d.length cap34 (bsl o.d) :: BoP pb wb rb :: WorldP wb (doA w o) :: Rf.RwP rb (doA w o) :: L) ?_ ?_ ⟨rfl, trivial⟩
 ·refine sr fun _ K4 => ?_
  refine yv (y_f 0 3 Tryz.underlying33 sz3) <| yv (y_l1 ag3 rfl) <| fk [(0,_),(3,_),(5,_),(36,_)] K4 ?_; refine Hd.block <| Hd.seq fun _ K5 => ?_
  refine sr fun _ K6 => ?_
  refine yv (y_eql rfl rfl) ?_; refine yv y_as <| fk [(0,_),(3,_),(5,_),(36,_),(41,_)] K6 ?_; refine qz ?_ ?_ <;> intro hc0 <;> try simp only [hyZ] at hc0
  ·rw [decide_eq_true hc0]
   refine qv K5 <| Hd.condT rfl ?_; refine sr fun _ K7 => ?_
   refine yv y_as <| yv y_as <| fk [(0,_),(3,_),(5,_)] K7 ?_; refine sr fun _ K8 => ?_
   refine yv y_as <| fk [(0,_),(3,_),(5,_)] K8 ?_; refine Hd.seq fun _ K9 => ?_
   refine sr fun _ K10 => ?_
   refine yv (y_f 0 3 Tryz.underlying33 sz3) <| yv (y_l1 ag3 rfl) <| fk [(0,_),(3,_),(5,_),(47,_)] K10 ?_; refine Hd.block <| sr fun _ K11 => ?_
   refine yv (y_eql rfl rfl) ?_; refine yv y_as <| fk [(0,_),(3,_),(5,_),(47,_),(59,_)] K11 ?_; refine qz ?_ ?_ <;> intro hc4 <;> try simp only [hyZ] at hc4
   ·refine Hd.drawsH ([BoP pb wb rb, pt b3 (encO o) 33]) (fun _ => true) mixed ?_
    simp only [List.length, Nat.zero_add, Nat.reduceAdd]; refine tH 0 rfl y_mv <| tH 1 rfl y_np <| tH 2 rfl (y_f 0 38 Tryz.underlying41 sz38) <| tH 3 rfl (y_l1 ag38 rfl) <| tH 4 rfl (y_f 2 3 Tryz.underlying33 sz3) <| tH 5 rfl (y_l1 ag3 rfl) <| qo 6 ?_; refine callE rfl fk54 (wmk0_ct _ wb w o.k o.n (by omega)) sq ?_; intro _; refine qk <| tH 7 rfl y_mv <| tH 8 rfl y_ex <| tH 9 rfl y_ex <| tH 10 rfl y_ex <| tH 11 rfl y_as <| tH 12 rfl y_as <| tH 13 rfl y_as <| endH kq ?_; refine slots [(0,_),(3,_),(5,_),(7,_),(8,_),(9,_)] sbq ?_; refine Hd.inB <| Hd.toK K9 ?_; refine Hd.seq fun _ K12 => ?_
    refine Hd.drawsH ([BoP pb wb rb, pt b3 (encO o) 33]) (fun _ => true) mixed ?_; simp only [List.length, Nat.zero_add, Nat.reduceAdd]; refine tH 0 rfl y_mv <| tH 1 rfl y_np <| tH 2 rfl (y_f 1 39 Tryz.underlying41 sz39) <| tH 3 rfl (y_l1 ag39 rfl) <| tH 4 rfl (y_f 0 3 Tryz.underlying33 sz3) <| tH 5 rfl (y_l1 ag3 rfl) <| tH 6 rfl (y_f 2 3 Tryz.underlying33 sz3) <| tH 7 rfl (y_l1 ag3 rfl) <| qo 8 ?_; refine callE rfl fk57 (Rf.rMake_ct _ rb w hw o.k o.n (by omega)) sq ?_; rintro ⟨ma, mc⟩; dsimp only; refine qk <| tH 9 rfl y_mv <| tH 10 rfl y_ex <| tH 11 rfl y_ex <| tH 12 rfl y_as <| tH 13 rfl y_as <| endH kq ?_; refine sk [(0,_),(5,_),(7,_),(8,_),(9,_),(10,_),(11,_)] K12 ?_; refine Hd.wokW (wb := wb) (w := makeR w o.k o.n) pkk (fun hw2 => ?_); refine Rf.Hd.rw (b := rb) (w := makeR w o.k o.n) pkk (fun i hi => ?_)
    have hrl := Rf.rows_n hi
    have hlen := hw2.len
    refine Hd.region <| yv y_mv <| yv y_mv <| yv y_mv <| yv y_mv <| yv y_mv <| yv y_np <| yv (y_f 1 39 Tryz.underlying41 sz39) <| yv (y_l1 ag39 rfl) <| yv y_np <| yv (y_f 0 129 Tryz.underlying133 sz129) <| yv (y_l1 ag129 rfl) <| yv (y_len Tryz.underlying129 rfl) ?_; refine yv (y_to (v' := .int .i64 (((makeR w o.k o.n).ws.length : Nat) - 1)) (y_subn rfl rfl (by simp only [InK]; omega)) (by (congr 1; omega))) ?_; refine yv y_mv <| callE rfl fk58 (made_ct _ _ _ _ _ _ ma mc ?hD (made_ok w (k := o.k) (by omega) o.n)) sq ?_
    case hD => exact RdS.own pkk
    intro _; refine yv y_as <| Hd.nil <| slots [(5,_),(6,_)] sbq ?_; refine Hd.inB <| thenN ?_; rw [do_mk ⟨by omega, by omega⟩]; exact Hd.meet () sbq (Ent.sep (.pick pkk (.pick pkk (.pick pkk (.ex i (.pure hi enn))))))
   exact absurd hc0 hc4
  refine sr fun _ K13 => ?_
  refine yv (y_eql rfl rfl) ?_; refine yv y_as <| fk [(0,_),(3,_),(5,_),(36,_),(41,_)] K13 ?_; refine qz ?_ ?_ <;> intro hc1 <;> try simp only [hyZ] at hc1
  ·rw [decide_eq_true hc1]
   refine qv K5 <| Hd.condT rfl ?_; refine sr fun _ K14 => ?_
   refine yv y_as <| yv y_as <| fk [(0,_),(3,_),(5,_)] K14 ?_; refine sr fun _ K15 => ?_
   refine yv y_as <| fk [(0,_),(3,_),(5,_)] K15 ?_; refine Hd.seq fun _ K16 => ?_
   refine sr fun _ K17 => ?_
   refine yv (y_f 0 3 Tryz.underlying33 sz3) <| yv (y_l1 ag3 rfl) <| fk [(0,_),(3,_),(5,_),(47,_)] K17 ?_; refine Hd.block <| sr fun _ K18 => ?_
   refine yv (y_eql rfl rfl) ?_; refine yv y_as <| fk [(0,_),(3,_),(5,_),(47,_),(59,_)] K18 ?_; refine qz ?_ ?_ <;> intro hc4 <;> try simp only [hyZ] at hc4
   ·exact absurd (hc4.symm.trans hc1) (by decide)
   refine sr fun _ K19 => ?_
   refine yv (y_eql rfl rfl) ?_; refine yv y_as <| fk [(0,_),(3,_),(5,_),(47,_),(72,_)] K19 ?_; refine qz ?_ ?_ <;> intro hc5 <;> try simp only [hyZ] at hc5
   ·refine Hd.drawsH ([BoP pb wb rb, pt b3 (encO o) 33]) (fun _ => true) mixed ?_
    simp only [List.length, Nat.zero_add, Nat.reduceAdd]; refine tH 0 rfl y_mv <| tH 1 rfl y_np <| tH 2 rfl (y_f 0 38 Tryz.underlying41 sz38) <| tH 3 rfl (y_l1 ag38 rfl) <| tH 4 rfl (y_f 2 3 Tryz.underlying33 sz3) <| tH 5 rfl (y_l1 ag3 rfl) <| qo 6 ?_; refine callE rfl fk55 (wmk1_ct _ wb w o.k o.n (by omega)) sq ?_; intro _; refine qk <| tH 7 rfl y_mv <| tH 8 rfl y_ex <| tH 9 rfl y_ex <| tH 10 rfl y_ex <| tH 11 rfl y_as <| tH 12 rfl y_as <| tH 13 rfl y_as <| endH kq ?_; refine slots [(0,_),(3,_),(5,_),(7,_),(8,_),(9,_)] sbq ?_; refine Hd.inB <| Hd.toK K16 ?_; refine Hd.seq fun _ K20 => ?_
    refine Hd.drawsH ([BoP pb wb rb, pt b3 (encO o) 33]) (fun _ => true) mixed ?_; simp only [List.length, Nat.zero_add, Nat.reduceAdd]; refine tH 0 rfl y_mv <| tH 1 rfl y_np <| tH 2 rfl (y_f 1 39 Tryz.underlying41 sz39) <| tH 3 rfl (y_l1 ag39 rfl) <| tH 4 rfl (y_f 0 3 Tryz.underlying33 sz3) <| tH 5 rfl (y_l1 ag3 rfl) <| tH 6 rfl (y_f 2 3 Tryz.underlying33 sz3) <| tH 7 rfl (y_l1 ag3 rfl) <| qo 8 ?_; refine callE rfl fk57 (Rf.rMake_ct _ rb w hw o.k o.n (by omega)) sq ?_; rintro ⟨ma, mc⟩; dsimp only; refine qk <| tH 9 rfl y_mv <| tH 10 rfl y_ex <| tH 11 rfl y_ex <| tH 12 rfl y_as <| tH 13 rfl y_as <| endH kq ?_; refine sk [(0,_),(5,_),(7,_),(8,_),(9,_),(10,_),(11,_)] K20 ?_; refine Hd.wokW (wb := wb) (w := makeR w o.k o.n) pkk (fun hw2 => ?_); refine Rf.Hd.rw (b := rb) (w := makeR w o.k o.n) pkk (fun i hi => ?_)
    have hrl := Rf.rows_n hi
    have hlen := hw2.len
    refine Hd.region <| yv y_mv <| yv y_mv <| yv y_mv <| yv y_mv <| yv y_mv <| yv y_np <| yv (y_f 1 39 Tryz.underlying41 sz39) <| yv (y_l1 ag39 rfl) <| yv y_np <| yv (y_f 0 129 Tryz.underlying133 sz129) <| yv (y_l1 ag129 rfl) <| yv (y_len Tryz.underlying129 rfl) ?_; refine yv (y_to (v' := .int .i64 (((makeR w o.k o.n).ws.length : Nat) - 1)) (y_subn rfl rfl (by simp only [InK]; omega)) (by (congr 1; omega))) ?_; refine yv y_mv <| callE rfl fk58 (made_ct _ _ _ _ _ _ ma mc ?hD (made_ok w (k := o.k) (by omega) o.n)) sq ?_
    case hD => exact RdS.own pkk
    intro _; refine yv y_as <| Hd.nil <| slots [(5,_),(6,_)] sbq ?_; refine Hd.inB <| thenN ?_; rw [do_mk ⟨by omega, by omega⟩]; exact Hd.meet () sbq (Ent.sep (.pick pkk (.pick pkk (.pick pkk (.ex i (.pure hi enn))))))
   exact absurd hc1 hc5
  refine sr fun _ K21 => ?_
  refine yv (y_eql rfl rfl) ?_; refine yv y_as <| fk [(0,_),(3,_),(5,_),(36,_),(41,_)] K21 ?_; refine qz ?_ ?_ <;> intro hc2 <;> try simp only [hyZ] at hc2
  ·rw [decide_eq_true hc2]
   refine qv K5 <| Hd.condT rfl ?_; refine sr fun _ K22 => ?_
   refine yv y_as <| yv y_as <| fk [(0,_),(3,_),(5,_)] K22 ?_; refine sr fun _ K23 => ?_
   refine yv y_as <| fk [(0,_),(3,_),(5,_)] K23 ?_; refine Hd.seq fun _ K24 => ?_
   refine sr fun _ K25 => ?_
   refine yv (y_f 0 3 Tryz.underlying33 sz3) <| yv (y_l1 ag3 rfl) <| fk [(0,_),(3,_),(5,_),(47,_)] K25 ?_; refine Hd.block <| sr fun _ K26 => ?_
   refine yv (y_eql rfl rfl) ?_; refine yv y_as <| fk [(0,_),(3,_),(5,_),(47,_),(59,_)] K26 ?_; refine qz ?_ ?_ <;> intro hc4 <;> try simp only [hyZ] at hc4
   ·exact absurd (hc4.symm.trans hc2) (by decide)
   refine sr fun _ K27 => ?_
   refine yv (y_eql rfl rfl) ?_; refine yv y_as <| fk [(0,_),(3,_),(5,_),(47,_),(72,_)] K27 ?_; refine qz ?_ ?_ <;> intro hc5 <;> try simp only [hyZ] at hc5
   ·exact absurd (hc5.symm.trans hc2) (by decide)
   refine sr fun _ K28 => ?_
   refine yv (y_eql rfl rfl) ?_; refine yv y_as <| fk [(0,_),(3,_),(5,_),(85,_)] K28 ?_; refine qz ?_ ?_ <;> intro hc6 <;> try simp only [hyZ] at hc6
   ·refine Hd.drawsH ([BoP pb wb rb, pt b3 (encO o) 33]) (fun _ => true) mixed ?_
    simp only [List.length, Nat.zero_add, Nat.reduceAdd]; refine tH 0 rfl y_mv <| tH 1 rfl y_np <| tH 2 rfl (y_f 0 38 Tryz.underlying41 sz38) <| tH 3 rfl (y_l1 ag38 rfl) <| tH 4 rfl (y_f 2 3 Tryz.underlying33 sz3) <| tH 5 rfl (y_l1 ag3 rfl) <| qo 6 ?_; refine callE rfl fk50 (wmk2_ct _ wb w o.k o.n (by omega)) sq ?_; intro _; refine qk <| tH 7 rfl y_mv <| tH 8 rfl y_ex <| tH 9 rfl y_ex <| tH 10 rfl y_ex <| tH 11 rfl y_as <| tH 12 rfl y_as <| tH 13 rfl y_as <| endH kq ?_; refine slots [(0,_),(3,_),(5,_),(7,_),(8,_),(9,_)] sbq ?_; refine Hd.inB <| Hd.toK K24 ?_; refine Hd.seq fun _ K29 => ?_
    refine Hd.drawsH ([BoP pb wb rb, pt b3 (encO o) 33]) (fun _ => true) mixed ?_; simp only [List.length, Nat.zero_add, Nat.reduceAdd]; refine tH 0 rfl y_mv <| tH 1 rfl y_np <| tH 2 rfl (y_f 1 39 Tryz.underlying41 sz39) <| tH 3 rfl (y_l1 ag39 rfl) <| tH 4 rfl (y_f 0 3 Tryz.underlying33 sz3) <| tH 5 rfl (y_l1 ag3 rfl) <| tH 6 rfl (y_f 2 3 Tryz.underlying33 sz3) <| tH 7 rfl (y_l1 ag3 rfl) <| qo 8 ?_; refine callE rfl fk57 (Rf.rMake_ct _ rb w hw o.k o.n (by omega)) sq ?_; rintro ⟨ma, mc⟩; dsimp only; refine qk <| tH 9 rfl y_mv <| tH 10 rfl y_ex <| tH 11 rfl y_ex <| tH 12 rfl y_as <| tH 13 rfl y_as <| endH kq ?_; refine sk [(0,_),(5,_),(7,_),(8,_),(9,_),(10,_),(11,_)] K29 ?_; refine Hd.wokW (wb := wb) (w := makeR w o.k o.n) pkk (fun hw2 => ?_); refine Rf.Hd.rw (b := rb) (w := makeR w o.k o.n) pkk (fun i hi => ?_)
    have hrl := Rf.rows_n hi
    have hlen := hw2.len
    refine Hd.region <| yv y_mv <| yv y_mv <| yv y_mv <| yv y_mv <| yv y_mv <| yv y_np <| yv (y_f 1 39 Tryz.underlying41 sz39) <| yv (y_l1 ag39 rfl) <| yv y_np <| yv (y_f 0 129 Tryz.underlying133 sz129) <| yv (y_l1 ag129 rfl) <| yv (y_len Tryz.underlying129 rfl) ?_; refine yv (y_to (v' := .int .i64 (((makeR w o.k o.n).ws.length : Nat) - 1)) (y_subn rfl rfl (by simp only [InK]; omega)) (by (congr 1; omega))) ?_; refine yv y_mv <| callE rfl fk58 (made_ct _ _ _ _ _ _ ma mc ?hD (made_ok w (k := o.k) (by omega) o.n)) sq ?_
    case hD => exact RdS.own pkk
    intro _; refine yv y_as <| Hd.nil <| slots [(5,_),(6,_)] sbq ?_; refine Hd.inB <| thenN ?_; rw [do_mk ⟨by omega, by omega⟩]; exact Hd.meet () sbq (Ent.sep (.pick pkk (.pick pkk (.pick pkk (.ex i (.pure hi enn))))))
   exact absurd hc2 hc6
  refine Hd.region <| yv (y_eql rfl rfl) ?_; refine yv y_as <| fk [(0,_),(3,_),(5,_),(36,_),(41,_)] K5 ?_; refine qz ?_ ?_ <;> intro hc3 <;> try simp only [hyZ] at hc3
  ·refine sr fun _ K30 => ?_
   refine yv y_as <| yv y_as <| fk [(0,_),(3,_),(5,_)] K30 ?_; refine sr fun _ K31 => ?_
   refine yv y_as <| fk [(0,_),(3,_),(5,_)] K31 ?_; refine Hd.seq fun _ K32 => ?_
   refine sr fun _ K33 => ?_
   refine yv (y_f 0 3 Tryz.underlying33 sz3) <| yv (y_l1 ag3 rfl) <| fk [(0,_),(3,_),(5,_),(47,_)] K33 ?_; refine Hd.block <| sr fun _ K34 => ?_
   refine yv (y_eql rfl rfl) ?_; refine yv y_as <| fk [(0,_),(3,_),(5,_),(47,_),(59,_)] K34 ?_; refine qz ?_ ?_ <;> intro hc4 <;> try simp only [hyZ] at hc4
   ·exact absurd (hc4.symm.trans hc3) (by decide)
   refine sr fun _ K35 => ?_
   refine yv (y_eql rfl rfl) ?_; refine yv y_as <| fk [(0,_),(3,_),(5,_),(47,_),(72,_)] K35 ?_; refine qz ?_ ?_ <;> intro hc5 <;> try simp only [hyZ] at hc5
   ·exact absurd (hc5.symm.trans hc3) (by decide)
   refine sr fun _ K36 => ?_
   refine yv (y_eql rfl rfl) ?_; refine yv y_as <| fk [(0,_),(3,_),(5,_),(85,_)] K36 ?_; refine qz ?_ ?_ <;> intro hc6 <;> try simp only [hyZ] at hc6
   ·exact absurd (hc6.symm.trans hc3) (by decide)
   refine Hd.drawsH ([BoP pb wb rb, pt b3 (encO o) 33]) (fun _ => true) mixed ?_; simp only [List.length, Nat.zero_add, Nat.reduceAdd]; refine tH 0 rfl y_mv <| tH 1 rfl y_np <| tH 2 rfl (y_f 0 38 Tryz.underlying41 sz38) <| tH 3 rfl (y_l1 ag38 rfl) <| tH 4 rfl (y_f 2 3 Tryz.underlying33 sz3) <| tH 5 rfl (y_l1 ag3 rfl) <| qo 6 ?_; refine callE rfl fk56 (wmk3_ct _ wb w o.k o.n (by omega)) sq ?_; intro _; refine qk <| tH 7 rfl y_mv <| tH 8 rfl y_ex <| tH 9 rfl y_ex <| tH 10 rfl y_ex <| tH 11 rfl y_as <| tH 12 rfl y_as <| tH 13 rfl y_as <| endH kq ?_; refine slots [(0,_),(3,_),(5,_),(7,_),(8,_),(9,_)] sbq ?_; refine Hd.inB <| Hd.toK K32 ?_; refine Hd.seq fun _ K37 => ?_
   refine Hd.drawsH ([BoP pb wb rb, pt b3 (encO o) 33]) (fun _ => true) mixed ?_; simp only [List.length, Nat.zero_add, Nat.reduceAdd]; refine tH 0 rfl y_mv <| tH 1 rfl y_np <| tH 2 rfl (y_f 1 39 Tryz.underlying41 sz39) <| tH 3 rfl (y_l1 ag39 rfl) <| tH 4 rfl (y_f 0 3 Tryz.underlying33 sz3) <| tH 5 rfl (y_l1 ag3 rfl) <| tH 6 rfl (y_f 2 3 Tryz.underlying33 sz3) <| tH 7 rfl (y_l1 ag3 rfl) <| qo 8 ?_; refine callE rfl fk57 (Rf.rMake_ct _ rb w hw o.k o.n (by omega)) sq ?_; rintro ⟨ma, mc⟩; dsimp only; refine qk <| tH 9 rfl y_mv <| tH 10 rfl y_ex <| tH 11 rfl y_ex <| tH 12 rfl y_as <| tH 13 rfl y_as <| endH kq ?_; refine sk [(0,_),(5,_),(7,_),(8,_),(9,_),(10,_),(11,_)] K37 ?_; refine Hd.wokW (wb := wb) (w := makeR w o.k o.n) pkk (fun hw2 => ?_); refine Rf.Hd.rw (b := rb) (w := makeR w o.k o.n) pkk (fun i hi => ?_)
   have hrl := Rf.rows_n hi
   have hlen := hw2.len
   refine Hd.region <| yv y_mv <| yv y_mv <| yv y_mv <| yv y_mv <| yv y_mv <| yv y_np <| yv (y_f 1 39 Tryz.underlying41 sz39) <| yv (y_l1 ag39 rfl) <| yv y_np <| yv (y_f 0 129 Tryz.underlying133 sz129) <| yv (y_l1 ag129 rfl) <| yv (y_len Tryz.underlying129 rfl) ?_; refine yv (y_to (v' := .int .i64 (((makeR w o.k o.n).ws.length : Nat) - 1)) (y_subn rfl rfl (by simp only [InK]; omega)) (by (congr 1; omega))) ?_; refine yv y_mv <| callE rfl fk58 (made_ct _ _ _ _ _ _ ma mc ?hD (made_ok w (k := o.k) (by omega) o.n)) sq ?_
   case hD => exact RdS.own pkk
   intro _; refine yv y_as <| Hd.nil <| slots [(5,_),(6,_)] sbq ?_; refine Hd.inB <| thenN ?_; rw [do_mk ⟨by omega, by omega⟩]; exact Hd.meet () sbq (Ent.sep (.pick pkk (.pick pkk (.pick pkk (.ex i (.pure hi enn))))))
  refine sr fun _ K38 => ?_
  refine yv (y_eql rfl rfl) ?_; refine yv y_as <| fk [(0,_),(3,_),(5,_),(36,_),(125,_)] K38 ?_; refine qz ?_ ?_ <;> intro hc7 <;> try simp only [hyZ] at hc7
  ·refine Hd.seq fun _ K39 => ?_
   refine Hd.drawsH ([BoP pb wb rb, pt b3 (encO o) 33]) (fun _ => true) mixed ?_; simp only [List.length, Nat.zero_add, Nat.reduceAdd]; refine tH 0 rfl y_mv <| tH 1 rfl y_np <| tH 2 rfl (y_f 0 38 Tryz.underlying41 sz38) <| tH 3 rfl (y_l1 ag38 rfl) <| tH 4 rfl (y_f 1 3 Tryz.underlying33 sz3) <| tH 5 rfl (y_l1 ag3 rfl) <| qo 6 ?_; refine callE rfl fk59 (waccept_ct _ wb w o.a) sq ?_; intro _; refine qk <| tH 7 rfl y_mv <| tH 8 rfl y_ex <| tH 9 rfl y_ex <| tH 10 rfl y_ex <| tH 11 rfl y_as <| tH 12 rfl y_as <| tH 13 rfl y_as <| endH kq ?_; refine sk [(0,_),(3,_),(5,_),(12,_),(13,_),(14,_)] K39 ?_; refine Hd.seq fun _ K40 => ?_
   refine Hd.drawsH ([BoP pb wb rb, pt b3 (encO o) 33]) (fun _ => true) mixed ?_; simp only [List.length, Nat.zero_add, Nat.reduceAdd]; refine tH 0 rfl y_mv <| tH 1 rfl y_np <| tH 2 rfl (y_f 1 39 Tryz.underlying41 sz39) <| tH 3 rfl (y_l1 ag39 rfl) <| tH 4 rfl (y_f 1 3 Tryz.underlying33 sz3) <| tH 5 rfl (y_l1 ag3 rfl) <| qo 6 ?_; refine callE rfl fk60 (Rf.rAccept_ct _ rb w hw o.a) sq ?_; intro _; refine qk <| tH 7 rfl y_mv <| tH 8 rfl y_ex <| tH 9 rfl y_ex <| tH 10 rfl y_ex <| tH 11 rfl y_as <| tH 12 rfl y_as <| tH 13 rfl y_as <| endH kq ?_; refine sk [(5,_),(12,_),(13,_),(14,_),(15,_),(16,_),(17,_)] K40 ?_; refine Hd.region <| yv y_mv <| yv y_mv <| yv (y_eqlT rfl rfl) ?_; refine yv y_mv ?_; apply Hd.andg 4 152 156 [(5,_),(14,_),(17,_)] rfl sbq
   ·intro hg24_152
    try simp only [hyZ] at hg24_152
    simp only [List.take]; refine y2 y_mv <| y2 y_mv <| y2 (y_eqlT rfl rfl) ?_; refine yv (y_pickT rfl rfl) ?_; exact Hd.mn
   ·intro hg24_152
    try simp only [hyZ] at hg24_152
    simp only [List.take]; refine n1 <| n1 <| n1 <| yv (y_pickF rfl rfl) ?_; exact Hd.mn
   simp only [List.drop]; refine yv y_mv ?_; apply Hd.andg 4 157 161 [(5,_)] rfl sbq
   ·intro hg24_157
    try simp only [hyZ] at hg24_157
    simp only [List.take]; refine y2 y_mv <| y2 y_mv <| y2 (y_eqlT rfl rfl) ?_; refine yv (y_pickT rfl rfl) ?_; exact Hd.mn
   ·intro hg24_157
    try simp only [hyZ] at hg24_157
    simp only [List.take]; refine n1 <| n1 <| n1 <| yv (y_pickF rfl rfl) ?_; exact Hd.mn
   simp only [List.drop]; refine yv y_as <| Hd.nil <| slots [(5,_),(6,_)] sbq ?_; refine Hd.inB <| thenN ?_; rw [do_4 hc7]; exact Hd.meet () (by (repeat (first | exact trivial | refine ⟨rfl, ?_⟩)); done) sq
  refine sr fun _ K41 => ?_
  refine yv (y_eql rfl rfl) ?_; refine yv y_as <| fk [(0,_),(3,_),(5,_),(36,_),(162,_)] K41 ?_; refine qz ?_ ?_ <;> intro hc8 <;> try simp only [hyZ] at hc8
  ·refine Hd.seq fun _ K42 => ?_
   refine Hd.drawsH ([BoP pb wb rb, pt b3 (encO o) 33]) (fun _ => true) mixed ?_; simp only [List.length, Nat.zero_add, Nat.reduceAdd]; refine tH 0 rfl y_mv <| tH 1 rfl y_np <| tH 2 rfl (y_f 0 38 Tryz.underlying41 sz38) <| tH 3 rfl (y_l1 ag38 rfl) <| tH 4 rfl (y_f 1 3 Tryz.underlying33 sz3) <| tH 5 rfl (y_l1 ag3 rfl) <| tH 6 rfl (y_f 2 3 Tryz.underlying33 sz3) <| tH 7 rfl (y_l1 ag3 rfl) <| qo 8 ?_; refine callE rfl fk61 (wread_ct _ wb w o.a o.n) sq ?_; rintro ⟨ta, tc⟩; dsimp only; refine qk <| tH 9 rfl y_mv <| tH 10 rfl y_ex <| tH 11 rfl y_ex <| tH 12 rfl y_ex <| tH 13 rfl y_as <| tH 14 rfl y_as <| tH 15 rfl y_as <| endH kq ?_; refine sk [(0,_),(3,_),(5,_),(18,_),(19,_),(20,_)] K42 ?_; refine Hd.seq fun _ K43 => ?_
   refine Hd.drawsH ([BoP pb wb rb, pt b3 (encO o) 33]) (fun _ => true) mixed ?_; simp only [List.length, Nat.zero_add, Nat.reduceAdd]; refine tH 0 rfl y_mv <| tH 1 rfl y_np <| tH 2 rfl (y_f 1 39 Tryz.underlying41 sz39) <| tH 3 rfl (y_l1 ag39 rfl) <| tH 4 rfl (y_f 1 3 Tryz.underlying33 sz3) <| tH 5 rfl (y_l1 ag3 rfl) <| tH 6 rfl (y_f 2 3 Tryz.underlying33 sz3) <| tH 7 rfl (y_l1 ag3 rfl) <| qo 8 ?_; refine callE rfl fk62 (Rf.rRead_ct _ rb w hw o.a o.n) sq ?_; rintro ⟨ua, uc⟩; dsimp only; refine qk <| tH 9 rfl y_mv <| tH 10 rfl y_ex <| tH 11 rfl y_ex <| tH 12 rfl y_ex <| tH 13 rfl y_as <| tH 14 rfl y_as <| tH 15 rfl y_as <| endH kq ?_; refine sk [(5,_),(18,_),(19,_),(20,_),(21,_),(22,_),(23,_)] K43 ?_; refine Hd.region <| yv y_mv <| yv (y_strOf (l := _) kq Tryz.underlying9 rfl (by exact RdS.own pkk)) ?_
   refine yv y_mv <| yv (y_strOf (l := _) kq Tryz.underlying9 rfl (by exact RdS.own pkk)) ?_; refine yv (y_eqlstr rfl rfl) ?_; refine yv y_mv ?_; apply Hd.andg 4 195 199 [(5,_),(20,_),(23,_)] rfl sbq
   ·intro hg28_195
    try simp only [hyZ] at hg28_195
    simp only [List.take]; refine y2 y_mv <| y2 y_mv <| y2 (y_eqlb Tryz.underlying4 rfl rfl) ?_; refine yv (y_pickT rfl rfl) ?_; exact Hd.mn
   ·intro hg28_195
    try simp only [hyZ] at hg28_195
    simp only [List.take]; refine n1 <| n1 <| n1 <| yv (y_pickF rfl rfl) ?_; exact Hd.mn
   simp only [List.drop]; refine yv y_mv ?_; apply Hd.andg 4 200 204 [(5,_)] rfl sbq
   ·intro hg28_200
    try simp only [hyZ] at hg28_200
    simp only [List.take]; refine y2 y_mv <| y2 y_mv <| y2 (y_eqlT rfl rfl) ?_; refine yv (y_pickT rfl rfl) ?_; exact Hd.mn
   ·intro hg28_200
    try simp only [hyZ] at hg28_200
    simp only [List.take]; refine n1 <| n1 <| n1 <| yv (y_pickF rfl rfl) ?_; exact Hd.mn
   simp only [List.drop]; refine yv y_as <| Hd.nil <| slots [(5,_),(6,_)] sbq ?_; refine Hd.inB <| thenN ?_; rw [do_5 hc8]; exact Hd.meet () (by simp; repeat (first | exact trivial | refine ⟨rfl, ?_⟩)) sq
  refine sr fun _ K44 => ?_
  refine yv (y_eql rfl rfl) ?_; refine yv y_as <| fk [(0,_),(3,_),(5,_),(36,_),(205,_)] K44 ?_; refine qz ?_ ?_ <;> intro hc9 <;> try simp only [hyZ] at hc9
  ·refine Hd.seq fun _ K45 => ?_
   refine Hd.drawsH ([BoP pb wb rb, pt b3 (encO o) 33]) (fun _ => true) mixed ?_; simp only [List.length, Nat.zero_add, Nat.reduceAdd]; refine tH 0 rfl y_mv <| tH 1 rfl y_np <| tH 2 rfl (y_f 0 38 Tryz.underlying41 sz38) <| tH 3 rfl (y_l1 ag38 rfl) <| tH 4 rfl (y_f 1 3 Tryz.underlying33 sz3) <| tH 5 rfl (y_l1 ag3 rfl) <| tH 6 rfl y_mv <| qo 7 ?_; refine callE rfl fk63 (wwrite_ct _ wb w o.a ad34 o.d.length cap34 o.d rfl ?hD (by omega) hcap) sq ?_
   case hD => exact RdS.own pkk
   intro _; refine qk <| tH 8 rfl y_mv <| tH 9 rfl y_ex <| tH 10 rfl y_ex <| tH 11 rfl y_as <| tH 12 rfl y_as <| endH kq ?_; refine sk [(0,_),(3,_),(5,_),(24,_),(25,_)] K45 ?_; refine Hd.seq fun _ K46 => ?_
   refine Hd.drawsH ([BoP pb wb rb, pt b3 (encO o) 33]) (fun _ => true) mixed ?_; simp only [List.length, Nat.zero_add, Nat.reduceAdd]; refine tH 0 rfl y_mv <| tH 1 rfl y_np <| tH 2 rfl (y_f 1 39 Tryz.underlying41 sz39) <| tH 3 rfl (y_l1 ag39 rfl) <| tH 4 rfl (y_f 1 3 Tryz.underlying33 sz3) <| tH 5 rfl (y_l1 ag3 rfl) <| tH 6 rfl (y_f 4 31 Tryz.underlying33 sz31) <| tH 7 rfl (y_l1 ag31 rfl) <| qo 8 ?_; refine callE rfl fk64 (Rf.rWrite_ct _ rb w hw o.a o.ad o.d.length o.c o.d rfl ?hD (by omega) hc) sq ?_
   case hD => exact RdS.mono hR sq
   intro _; refine qk <| tH 9 rfl y_mv <| tH 10 rfl y_ex <| tH 11 rfl y_ex <| tH 12 rfl y_as <| tH 13 rfl y_as <| endH kq ?_; refine sk [(5,_),(24,_),(25,_),(26,_),(27,_)] K46 ?_; refine Hd.region <| yv y_mv <| yv y_mv <| yv (y_eqlT rfl rfl) ?_; refine yv y_mv ?_; apply Hd.andg 4 233 237 [(5,_)] rfl sbq
   ·intro hg32_233
    try simp only [hyZ] at hg32_233
    simp only [List.take]; refine y2 y_mv <| y2 y_mv <| y2 (y_eqlT rfl rfl) ?_; refine yv (y_pickT rfl rfl) ?_; exact Hd.mn
   ·intro hg32_233
    try simp only [hyZ] at hg32_233
    simp only [List.take]; refine n1 <| n1 <| n1 <| yv (y_pickF rfl rfl) ?_; exact Hd.mn
   simp only [List.drop]; refine yv y_as <| Hd.nil <| slots [(5,_),(6,_)] sbq ?_; refine Hd.inB <| thenN ?_; rw [do_6 hc9]; exact Hd.meet () (by (repeat (first | exact trivial | refine ⟨rfl, ?_⟩)); done) sq
  refine sr fun _ K47 => ?_
  refine yv (y_eql rfl rfl) ?_; refine yv y_as <| fk [(0,_),(3,_),(5,_),(36,_),(238,_)] K47 ?_; refine qz ?_ ?_ <;> intro hc10 <;> try simp only [hyZ] at hc10
  ·refine Hd.seq fun _ K48 => ?_
   refine Hd.drawsH ([BoP pb wb rb, pt b3 (encO o) 33]) (fun _ => true) mixed ?_; simp only [List.length, Nat.zero_add, Nat.reduceAdd]; refine tH 0 rfl y_mv <| tH 1 rfl y_np <| tH 2 rfl (y_f 0 38 Tryz.underlying41 sz38) <| tH 3 rfl (y_l1 ag38 rfl) <| tH 4 rfl (y_f 1 3 Tryz.underlying33 sz3) <| tH 5 rfl (y_l1 ag3 rfl) <| qo 6 ?_; refine callE rfl fk65 (wshut_ct _ wb w o.a) sq ?_; intro _; refine qk <| tH 7 rfl y_as <| endH kq ?_; refine sk [(0,_),(3,_),(5,_),(28,_)] K48 ?_; refine Hd.drawsH ([BoP pb wb rb, pt b3 (encO o) 33]) (fun _ => true) mixed ?_; simp only [List.length, Nat.zero_add, Nat.reduceAdd]; refine tH 0 rfl y_mv <| tH 1 rfl y_mv <| tH 2 rfl y_np <| tH 3 rfl (y_f 1 39 Tryz.underlying41 sz39) <| tH 4 rfl (y_l1 ag39 rfl) <| tH 5 rfl (y_f 1 3 Tryz.underlying33 sz3) <| tH 6 rfl (y_l1 ag3 rfl) ?_
   refine qo 7 ?_; refine callE rfl fk66 (Rf.rShut_ct _ rb w hw o.a) sq ?_; intro _; refine qk <| tH 8 rfl (y_eqlT rfl rfl) ?_; refine tH 9 rfl y_as <| endH kq ?_; refine slots [(5,_),(6,_)] sbq ?_; refine Hd.inB <| thenN ?_; rw [do_7 hc10]; exact Hd.meet () (by (repeat (first | exact trivial | refine ⟨rfl, ?_⟩)); done) sq
  refine sr fun _ K49 => ?_
  refine yv (y_eql rfl rfl) ?_; refine yv y_as <| fk [(0,_),(3,_),(5,_),(256,_)] K49 ?_; refine qz ?_ ?_ <;> intro hc11 <;> try simp only [hyZ] at hc11
  ·refine Hd.seq fun _ K50 => ?_
   refine Hd.drawsH ([BoP pb wb rb, pt b3 (encO o) 33]) (fun _ => true) mixed ?_; simp only [List.length, Nat.zero_add, Nat.reduceAdd]; refine tH 0 rfl y_mv <| tH 1 rfl y_np <| tH 2 rfl (y_f 0 38 Tryz.underlying41 sz38) <| tH 3 rfl (y_l1 ag38 rfl) <| tH 4 rfl (y_f 1 3 Tryz.underlying33 sz3) <| tH 5 rfl (y_l1 ag3 rfl) <| qo 6 ?_; refine callE rfl fk67 (wclose_ct _ wb w o.a) sq ?_; intro _; refine qk <| tH 7 rfl y_as <| endH kq ?_; refine sk [(0,_),(3,_),(5,_),(29,_)] K50 ?_; refine Hd.drawsH ([BoP pb wb rb, pt b3 (encO o) 33]) (fun _ => true) mixed ?_; simp only [List.length, Nat.zero_add, Nat.reduceAdd]; refine tH 0 rfl y_mv <| tH 1 rfl y_mv <| tH 2 rfl y_np <| tH 3 rfl (y_f 1 39 Tryz.underlying41 sz39) <| tH 4 rfl (y_l1 ag39 rfl) <| tH 5 rfl (y_f 1 3 Tryz.underlying33 sz3) <| tH 6 rfl (y_l1 ag3 rfl) ?_
   refine qo 7 ?_; refine callE rfl fk68 (Rf.rClose_ct _ rb w hw o.a) sq ?_; intro _; refine qk <| tH 8 rfl (y_eqlT rfl rfl) ?_; refine tH 9 rfl y_as <| endH kq ?_; refine slots [(5,_),(6,_)] sbq ?_; refine Hd.inB <| thenN ?_; rw [do_8 hc11]; exact Hd.meet () (by (repeat (first | exact trivial | refine ⟨rfl, ?_⟩)); done) sq
  refine Hd.region <| yv y_mv <| yv (y_loadn (us := [_, _, _, _, _]) ag33 rfl (Rd.pt pkk (by exact fun j v e => by rw [Nat.zero_add]; exact e)) (by exact sz33)) ?_; refine yv y_mv <| callE rfl fk69 (more_ct _ pb wb rb w K hK hl o (by omega) ht0 hd ?hD hc ad34 cap34 ?hD2 hcap) sq ?_
  case hD => exact RdS.mono hR sq
  case hD2 => exact RdS.own pkk
  intro _; refine yv y_as <| Hd.nil <| slots [(5,_),(6,_)] sbq ?_; refine Hd.inB <| thenN ?_; exact Hd.meet () sbq sq
 intro _; refine Hd.seq fun _ K51 => ?_
 refine sr fun _ K52 => ?_
 refine yv y_mv <| yv (y_len Tryz.underlying31 rfl) ?_; refine yv y_mv <| fk [(5,_),(6,_),(275,_),(276,_)] K52 ?_; refine Hd.block <| Hd.loopK (ι := Nat × List Value) [(5,_),(6,_),(275,_)] (fun q_ => [(276, .int .i64 (q_.1 : Int))]) (fun q_ => pu (q_.1 ≤ o.d.length ∧ q_.2.length = o.d.length ∧ ∀ v ∈ q_.2, ∃ x, v = .int .u8 x) :: own 5 1 ad34 o.d.length cap34 q_.2 :: BoP pb wb rb :: WorldP wb (doA w o) :: Rf.RwP rb (doA w o) :: L) (fun q_ => o.d.length - q_.1) (0, bsl o.d) sbq sbq (Ent.sep (.pure ⟨Nat.zero_le _, by simp [bsl], fun v hv => by obtain ⟨b, _, rfl⟩ := List.mem_map.1 hv; exact ⟨_, rfl⟩⟩ enn)) ?_; rintro ⟨i, us⟩
 try dsimp only
 refine Hd.pure (fun hp0 => ?_)
 try dsimp only at hp0
 refine sr fun _ K53 => ?_
 refine yv (y_lss rfl rfl) ?_; refine fk [(5,_),(6,_),(275,_),(276,_),(277,_)] K53 ?_; refine Hd.seq fun _ K54 => ?_
 refine qz ?_ ?_ <;> intro hc12 <;> try simp only [hyZ] at hc12
 ·have hi : i < o.d.length := by omega
  have hiu : i < us.length := by omega
  obtain ⟨x, hx⟩ := hp0.2.2 us[i] (List.getElem_mem hiu)
  have hg : us[i * 1]? = some (.int .u8 x) := by rw [Nat.mul_one, List.getElem?_eq_getElem hiu, hx]
  refine qv K54 <| Hd.seq fun _ K55 => ?_
  refine Hd.block <| sr fun _ K56 => ?_
  refine yv y_mv <| yv y_as <| fk [(5,_),(6,_),(30,_),(275,_),(276,_)] K56 ?_; refine Hd.region <| yv y_mv <| yv y_mv <| yv y_mv <| yv y_mv <| yv (y_idxR Tryz.underlying31 sz5 rfl rfl (by omega) (by exact RdS.own pkk)) ?_; refine yv (y_loadR1 ag5 rfl (by exact RdS.own pkk) (by exact hg)) ?_; refine yv (y_add rfl rfl) ?_; refine yv (y_idxR Tryz.underlying31 sz5 rfl rfl (by omega) (by exact RdS.own pkk)) ?_; refine Hd.storeO1 sz5 rfl rfl rfl pkk (by omega) ?_
  try simp only [hyS]
  refine Hd.nil <| slots [(5,_),(6,_),(275,_),(276,_)] sbq ?_; refine Hd.inB <| Hd.toK K55 ?_; refine Hd.region <| yv (y_addn rfl rfl (by simp only [InK]; omega)) ?_; refine yv y_mv <| Hd.nil <| slots [(5,_),(6,_),(275,_),(276,_)] sbq ?_; refine thenN ?_
  have hnew : ∀ v ∈ us.set (i * 1) (.int .u8 (IntKind.u8.wrap (x + 1))), ∃ x, v = .int .u8 x := fun v hv => (List.mem_or_eq_of_mem_set hv).elim (fun h => hp0.2.2 v h) (fun h => ⟨_, h⟩)
  exact Hd.again (i + 1, us.set (i * 1) (.int .u8 (IntKind.u8.wrap (x + 1)))) (by omega) sbq (Ent.sep (.pure ⟨hi, by rw [List.length_set]; exact hp0.2.1, hnew⟩ enn))
 refine Hd.exit <| Hd.thenExit <| Hd.thenExit <| Hd.inBexit <| Hd.toK K51 ?_; refine sr fun _ K57 => ?_
 refine yv y_mv <| yv y_as <| fk [(4,_)] K57 ?_; refine Hd.ret ?_; exact Hd.ret1 rfl () (by rfl) sq
end Wo
end Go.Proofs.YtbfddabjbkohdaaGreat
namespace Go.Proofs.YtbfddabjbkohdaaGreat
open Go.RX Fx
namespace Ep
open Wo
structure LvOk (g : Int → Option Value) (m : Nat) (S : List (Int × Int)) : Prop where
 mem : ∀ y ∈ S, g y.1 = some (.int .i64 y.2)
 no : ∀ a, a ∉ S.map Prod.fst → g a = none
 len : m = S.length
theorem LvOk.nil : LvOk (fun _ => none) 0 [] := ⟨fun _ h => (by cases h), fun _ _ => rfl, rfl⟩
theorem LvOk.add {g : Int → Option Value} {m : Nat} {S : List (Int × Int)} (h : LvOk g m S) {y : Int × Int} (hy : y.1 ∉ S.map Prod.fst) : LvOk (fun a => if a = y.1 then some (.int .i64 y.2) else g a) (if (g y.1).isSome = true then m else m + 1) (S ++ [y]) where
 mem z hz := by
  rcases List.mem_append.1 hz with hz | hz
  ·rw [if_neg (fun e : z.1 = y.1 => hy (e ▸ List.mem_map_of_mem hz))]; exact h.mem z hz
  ·obtain rfl : z = y := by simpa using hz
   rw [if_pos rfl]
 no a ha := by
  rw [List.map_append, List.mem_append] at ha; rw [if_neg (fun e => ha (.inr (by rw [e]; simp)))]; exact h.no a fun e => ha (.inl e)
 len := by rw [h.no _ hy, List.length_append, h.len]; rfl
theorem LvOk.same {g : Int → Option Value} {m : Nat} {S : List (Int × Int)} (h : LvOk g m S) {y : Int × Int} (hy : y ∈ S) : LvOk (fun a => if a = y.1 then some (.int .i64 y.2) else g a) (if (g y.1).isSome = true then m else m + 1) S where
 mem z hz := by
  by_cases e : z.1 = y.1
  ·rw [if_pos e, ← h.mem y hy, ← e]; exact h.mem z hz
  ·rw [if_neg e]; exact h.mem z hz
 no a ha := by
  rw [if_neg (fun e => ha (by rw [e]; exact List.mem_map_of_mem hy))]; exact h.no a ha
 len := by rw [h.mem y hy]; exact h.len
theorem tdiv_in {n k : Int} (hn : InK .i64 n) (hk : 1 ≤ k) : IntKind.i64.wrap (n.tdiv k) = n.tdiv k := by
 simp only [InK] at hn; rw [wrap_i64]
 rcases Int.le_total 0 n with h0 | h0
 ·have h1 := Int.tdiv_nonneg h0 (show 0 ≤ k by omega)
  have h2 := Int.tdiv_le_self k h0
  omega
 ·obtain ⟨m, rfl⟩ : ∃ m, n = -m := ⟨-n, by omega⟩
  rw [Int.neg_tdiv]
  have h1 := Int.tdiv_nonneg (show 0 ≤ m by omega) (show 0 ≤ k by omega)
  have h2 := Int.tdiv_le_self k (show 0 ≤ m by omega)
  omega
end Ep
end Go.Proofs.YtbfddabjbkohdaaGreat
namespace Go.Proofs.YtbfddabjbkohdaaGreat
open Go.RX Fx
namespace Kq
open Wo
theorem rhas16_ct (L : List SP) (n k : Int) (hk : 1 ≤ k) (hn : InK .i64 n) : Ct Tryz.prog 95 #[.int .i64 n, .int .i64 k] (L) (fun _ : Unit => .bool (hasN n k)) (fun _ : Unit => L) := by
 refine Ct.o2 Tryz.func95 ?_; intro E
 show Hd E 14 _ _ _ _
 refine sr fun _ K1 => ?_
 refine yv y_as <| fk [(0,_),(1,_)] K1 ?_; refine sr fun _ K2 => ?_
 refine yv y_mv <| yv (y_geq rfl rfl) ?_; refine yv y_mv ?_; apply Hd.andg 6 7 13 [] rfl sbq
 ·intro hg1_7
  try simp only [hyZ] at hg1_7
  simp only [List.take]; refine y2 y_mv <| y2 y_mv <| y2 (y_quo rfl rfl (by omega)) ?_; refine y2 (y_rem rfl rfl (by omega)) ?_; refine y2 (y_eql rfl rfl) ?_; refine yv (y_pickT rfl rfl) ?_; exact Hd.mn
 ·intro hg1_7
  try simp only [hyZ] at hg1_7
  simp only [List.take]; refine n1 <| n1 <| n1 <| n1 <| n1 <| yv (y_pickF rfl rfl) ?_; exact Hd.mn
 simp only [List.drop]; refine yv y_as <| fk [(4,_)] K2 ?_; refine Hd.ret ?_; exact Hd.ret1 rfl () (by rw [Ep.tdiv_in hn hk]; rfl) sq
theorem rmay16_ct (L : List SP) (p : NoA) (hp : InK .i64 p.2.2.1) : Ct Tryz.prog 163 #[.agg (encNo p).toArray] (L) (fun _ : Unit => .bool (mayR p)) (fun _ : Unit => L) := by
 refine Ct.o1 Tryz.func163 ?_; intro E
 show Hd E 76 _ _ _ _
 refine sr fun _ K1 => ?_
 refine Hd.box rfl rfl (fun b1 => ?_); refine yv y_as <| fk [(1,_)] K1 ?_; refine Hd.seq fun _ K2 => ?_
 refine sr fun _ K3 => ?_
 refine yv (y_f 3 3 Tryz.underlying82 sz3) <| yv (y_l1 ag3 rfl) <| yv (y_neq rfl rfl) ?_; refine yv y_mv ?_; apply Hd.org 4 11 15 [(1,_)] rfl sbq
 ·intro hg1_11
  try simp only [hyZ] at hg1_11
  simp only [List.take]; refine n1 <| n1 <| n1 <| yv (y_pickT rfl rfl) ?_; exact Hd.mn
 ·intro hg1_11
  try simp only [hyZ] at hg1_11
  simp only [List.take]; refine y2 (y_f 2 3 Tryz.underlying82 sz3) <| y2 (y_l1 ag3 rfl) <| y2 (y_lss rfl rfl) ?_; refine yv (y_pickF rfl rfl) ?_; exact Hd.mn
 simp only [List.drop]; refine yv y_mv ?_; apply Hd.org 4 16 20 [(1,_)] rfl sbq
 ·intro hg1_16
  try simp only [hyZ] at hg1_16
  simp only [List.take]; refine n1 <| n1 <| n1 <| yv (y_pickT rfl rfl) ?_; exact Hd.mn
 ·intro hg1_16
  try simp only [hyZ] at hg1_16
  simp only [List.take]; refine y2 (y_f 2 3 Tryz.underlying82 sz3) <| y2 (y_l1 ag3 rfl) <| y2 (y_gtr rfl rfl) ?_; refine yv (y_pickF rfl rfl) ?_; exact Hd.mn
 simp only [List.drop]; refine yv y_mv ?_; apply Hd.org 4 21 25 [(1,_)] rfl sbq
 ·intro hg1_21
  try simp only [hyZ] at hg1_21
  simp only [List.take]; refine n1 <| n1 <| n1 <| yv (y_pickT rfl rfl) ?_; exact Hd.mn
 ·intro hg1_21
  try simp only [hyZ] at hg1_21
  simp only [List.take]; refine y2 (y_f 1 3 Tryz.underlying82 sz3) <| y2 (y_l1 ag3 rfl) <| y2 (y_lss rfl rfl) ?_; refine yv (y_pickF rfl rfl) ?_; exact Hd.mn
 simp only [List.drop]; refine yv y_mv ?_; apply Hd.org 4 26 30 [(1,_)] rfl sbq
 ·intro hg1_26
  try simp only [hyZ] at hg1_26
  simp only [List.take]; refine n1 <| n1 <| n1 <| yv (y_pickT rfl rfl) ?_; exact Hd.mn
 ·intro hg1_26
  try simp only [hyZ] at hg1_26
  simp only [List.take]; refine y2 (y_f 1 3 Tryz.underlying82 sz3) <| y2 (y_l1 ag3 rfl) <| y2 (y_gtr rfl rfl) ?_; refine yv (y_pickF rfl rfl) ?_; exact Hd.mn
 simp only [List.drop]; refine fk [(1,_),(30,_)] K3 ?_; refine qz ?_ ?_ <;> intro hc0 <;> try simp only [hyZ] at hc0
 ·have hb : mayR p = false := if_pos (by omega)
  refine sr fun _ K4 => ?_
  refine yv y_as <| fk [(2,_)] K4 ?_; refine Hd.ret <| Hd.thenRet ?_; rw [hb]; exact Hd.ret1 rfl () rfl sq
 have hb : mayR p = mayF p.2.2.1 := if_neg (by omega)
 refine qv K2 <| sr fun _ K5 => ?_
 refine yv (y_f 2 3 Tryz.underlying82 sz3) <| yv (y_l1 ag3 rfl) <| callE rfl fk95 (rhas16_ct _ p.2.2.1 1 (by decide) hp) sq ?_; intro _; refine yv y_as <| fk [(1,_),(3,_)] K5 ?_; refine sr fun _ K6 => ?_
 refine yv (y_f 2 3 Tryz.underlying82 sz3) <| yv (y_l1 ag3 rfl) <| callE rfl fk95 (rhas16_ct _ p.2.2.1 2 (by decide) hp) sq ?_; intro _; refine yv y_as <| fk [(1,_),(3,_),(4,_)] K6 ?_; refine sr fun _ K7 => ?_
 refine yv (y_f 2 3 Tryz.underlying82 sz3) <| yv (y_l1 ag3 rfl) <| callE rfl fk95 (rhas16_ct _ p.2.2.1 4 (by decide) hp) sq ?_; intro _; refine yv y_as <| fk [(1,_),(3,_),(4,_),(5,_)] K7 ?_; refine sr fun _ K8 => ?_
 refine yv (y_f 2 3 Tryz.underlying82 sz3) <| yv (y_l1 ag3 rfl) <| callE rfl fk95 (rhas16_ct _ p.2.2.1 8 (by decide) hp) sq ?_; intro _; refine yv y_as <| fk [(1,_),(3,_),(4,_),(5,_),(6,_)] K8 ?_; refine sr fun _ K9 => ?_
 refine yv (y_f 2 3 Tryz.underlying82 sz3) <| yv (y_l1 ag3 rfl) <| callE rfl fk95 (rhas16_ct _ p.2.2.1 16 (by decide) hp) sq ?_; intro _; refine yv y_mv ?_; apply Hd.org 4 46 50 [(3,_),(4,_),(5,_),(6,_)] rfl sbq
 ·intro hg7_46
  try simp only [hyZ] at hg7_46
  simp only [List.take]; refine n1 <| n1 <| n1 <| yv (y_pickT rfl rfl) ?_; exact Hd.mn
 ·intro hg7_46
  try simp only [hyZ] at hg7_46
  simp only [List.take]; refine y2 (y_f 2 3 Tryz.underlying82 sz3) <| y2 (y_l1 ag3 rfl) <| Hd.unguard rfl rfl ?_; refine callE rfl fk95 (rhas16_ct _ p.2.2.1 32 (by decide) hp) sq ?_; intro _; refine yv (y_pickF rfl rfl) ?_; exact Hd.mn
 simp only [List.drop]; refine yv y_as <| fk [(3,_),(4,_),(5,_),(6,_),(7,_)] K9 ?_; refine Hd.seq fun _ K10 => ?_
 refine sr fun _ K11 => ?_
 refine yv y_mv <| fk [(4,_),(5,_),(6,_),(7,_),(51,_)] K11 ?_; refine qz ?_ ?_ <;> intro hc1 <;> try simp only [hyZ] at hc1
 ·refine sr fun _ K12 => ?_
  refine yv y_mv <| yv (y_not rfl) <| yv y_mv ?_; apply Hd.andg 3 54 57 [] rfl sbq
  ·intro hg9_54
   try simp only [hyZ] at hg9_54
   simp only [List.take]; refine y2 y_mv <| y2 (y_not rfl) <| yv (y_pickT rfl rfl) ?_; exact Hd.mn
  ·intro hg9_54
   try simp only [hyZ] at hg9_54
   simp only [List.take]; refine n1 <| n1 <| yv (y_pickF rfl rfl) ?_; exact Hd.mn
  simp only [List.drop]; refine yv y_as <| fk [(2,_)] K12 ?_; refine Hd.ret <| Hd.thenRet ?_; rw [hb]; unfold mayF; rw [if_pos hc1]; exact Hd.ret1 rfl () rfl sq
 refine qv K10 <| Hd.seq fun _ K13 => ?_
 refine sr fun _ K14 => ?_
 refine yv y_mv <| fk [(5,_),(6,_),(7,_),(58,_)] K14 ?_; refine qz ?_ ?_ <;> intro hc2 <;> try simp only [hyZ] at hc2
 ·refine sr fun _ K15 => ?_
  refine yv y_mv <| yv (y_not rfl) <| yv y_mv ?_; apply Hd.andg 3 61 64 [(7,_)] rfl sbq
  ·intro hg11_61
   try simp only [hyZ] at hg11_61
   simp only [List.take]; refine y2 y_mv <| y2 (y_not rfl) <| yv (y_pickT rfl rfl) ?_; exact Hd.mn
  ·intro hg11_61
   try simp only [hyZ] at hg11_61
   simp only [List.take]; refine n1 <| n1 <| yv (y_pickF rfl rfl) ?_; exact Hd.mn
  simp only [List.drop]; refine yv y_mv ?_; apply Hd.andg 3 65 68 [] rfl sbq
  ·intro hg11_65
   try simp only [hyZ] at hg11_65
   simp only [List.take]; refine y2 y_mv <| y2 (y_not rfl) <| yv (y_pickT rfl rfl) ?_; exact Hd.mn
  ·intro hg11_65
   try simp only [hyZ] at hg11_65
   simp only [List.take]; refine n1 <| n1 <| yv (y_pickF rfl rfl) ?_; exact Hd.mn
  simp only [List.drop]; refine yv y_as <| fk [(2,_)] K15 ?_; refine Hd.ret <| Hd.thenRet ?_; rw [hb]; unfold mayF; rw [if_neg (by rw [hc1]; decide), if_pos hc2]; exact Hd.ret1 rfl () rfl sq
 refine qv K13 <| sr fun _ K16 => ?_
 refine yv y_mv <| yv y_mv <| yv (y_neqb Tryz.underlying4 rfl rfl) ?_; refine yv y_mv ?_; apply Hd.andg 3 72 75 [] rfl sbq
 ·intro hg12_72
  try simp only [hyZ] at hg12_72
  simp only [List.take]; refine y2 y_mv <| y2 (y_not rfl) <| yv (y_pickT rfl rfl) ?_; exact Hd.mn
 ·intro hg12_72
  try simp only [hyZ] at hg12_72
  simp only [List.take]; refine n1 <| n1 <| yv (y_pickF rfl rfl) ?_; exact Hd.mn
 simp only [List.drop]; refine yv y_as <| fk [(2,_)] K16 ?_; refine Hd.ret ?_; rw [hb]; unfold mayF; rw [if_neg (by rw [hc1]; decide), if_neg (by rw [hc2]; decide)]; exact Hd.ret1 rfl () rfl sq
abbrev encRn (x : RnA) : List Value := [.int .i64 x.id, .int .i64 x.flt, .int .i64 x.wire, .bool x.d, .bool x.c, .bool x.o, .bool x.a, .int .u64 x.s]
theorem encRn_one (x : RnA) : ∀ u ∈ encRn x, u.oneCell' = true := by simp [Value.oneCell']
abbrev RkH (qb rb : Nat) (ad : Option Addr) (n c : Nat) : SP := pt qb [.pointer (some ⟨rb, 0, none⟩), .slice ad n c] 94
abbrev RkP (qb rb : Nat) (ad : Option Addr) (c : Nat) (l : List RnA) (L : List SP) : List SP := RkH qb rb ad l.length c :: own 183 8 ad l.length c (l.flatMap encRn) :: L
theorem rrises16_ct (L : List SP) (qb rb : Nat) (ad : Option Addr) (c : Nat) (l : List RnA) (w : WA) (hw : WOk w) (flt fd : Int) : Ct Tryz.prog 164 #[.pointer (some ⟨qb, 0, none⟩), .int .i64 flt, .int .i64 fd] (RkP qb rb ad c l (Rf.RwP rb w :: L)) (fun _ : Unit => .int .u64 (riseK flt (readyR w fd))) (fun _ : Unit => RkP qb rb ad c l (Rf.RwP rb w :: L)) := by
 refine Ct.o3 Tryz.func164 ?_; intro E
 show Hd E 20 _ _ _ _
 refine sr fun _ K1 => ?_
 refine yv y_as <| fk [(0,_),(1,_),(2,_)] K1 ?_; refine sr fun _ K2 => ?_
 refine yv y_mv <| yv y_np <| yv (y_f 0 39 Tryz.underlying94 sz39) <| yv (y_l1 ag39 rfl) <| yv y_mv <| callE rfl fk81 (Rf.rReady_ct _ rb w hw fd) sq ?_; intro _
 obtain ⟨r, hr⟩ : ∃ r, readyR w fd = r := ⟨_, rfl⟩
 rw [hr]; refine Hd.alloc zr105 (fun b7 => ?_); refine Hd.storeA (us := encR r) sz105 rfl rfl rfl (by simp [Value.oneCell']) pkk (by exact rfl) ?_; refine fk [(1,_),(7,_)] K2 ?_; refine Hd.seq fun _ K3 => ?_
 refine sr fun _ K4 => ?_
 refine yv y_mv <| yv (y_eql rfl rfl) ?_; refine fk [(7,_),(15,_)] K4 ?_; refine qz ?_ ?_ <;> intro hc0 <;> try simp only [hyZ] at hc0
 ·refine sr fun _ K5 => ?_
  refine yv (y_f 5 30 Tryz.underlying105 sz30) <| yv (y_l1 ag30 rfl) <| yv y_as <| fk [(6,_)] K5 ?_; refine Hd.ret <| Hd.thenRet ?_; rw [hr]; unfold riseK; rw [if_pos hc0]; exact Hd.ret1 rfl () rfl sq
 refine qv K3 <| sr fun _ K6 => ?_
 refine yv (y_f 6 30 Tryz.underlying105 sz30) <| yv (y_l1 ag30 rfl) <| yv y_as <| fk [(6,_)] K6 ?_; refine Hd.ret ?_; rw [hr]; unfold riseK; rw [if_neg hc0]; exact Hd.ret1 rfl () rfl sq
theorem rfind16_ct (L : List SP) (qb rb : Nat) (ad : Option Addr) (c : Nat) (l : List RnA) (fd flt : Int) (hl : l.length ≤ 1000000) : Ct Tryz.prog 96 #[.pointer (some ⟨qb, 0, none⟩), .int .i64 fd, .int .i64 flt] (RkP qb rb ad c l L) (fun _ : Unit => .int .i64 (posN l (fd, flt))) (fun _ : Unit => RkP qb rb ad c l L) := by
 refine Ct.o3 Tryz.func96 ?_; intro E
 show Hd E 40 _ _ _ _
 refine sr fun _ K1 => ?_
 refine yv y_as <| fk [(0,_),(1,_),(2,_)] K1 ?_; refine Hd.seq fun _ K2 => ?_
 refine sr fun _ K3 => ?_
 refine yv y_as <| fk [(0,_),(1,_),(2,_),(7,_)] K3 ?_; refine Hd.block <| Hd.loopK (ι := Nat) [(0,_),(1,_),(2,_)] (fun i => [(7, .int .i64 (i : Int))]) (fun i => pu (i ≤ l.length ∧ ∀ x ∈ l.take i, ¬ (x.id = fd ∧ x.flt = flt)) :: RkP qb rb ad c l L) (fun i => l.length - i) 0 sbq sbq (Ent.sep (.pure ⟨Nat.zero_le _, fun x h => (by cases h)⟩ enn)) ?_; intro i
 try dsimp only
 refine Hd.pure (fun hp0 => ?_)
 try dsimp only at hp0
 refine Hd.seq fun _ K4 => ?_
 refine sr fun _ K5 => ?_
 refine yv y_mv <| yv y_mv <| yv y_np <| yv (y_f 1 92 Tryz.underlying94 sz92) <| yv (y_l1 ag92 rfl) <| yv (y_len Tryz.underlying92 rfl) ?_; refine yv (y_lss rfl rfl) ?_; refine fk [(0,_),(1,_),(2,_),(7,_),(14,_)] K5 ?_; refine qz ?_ ?_ <;> intro hc0 <;> try simp only [hyZ] at hc0
 ·have hi : i < l.length := by omega
  obtain ⟨y, hy⟩ : ∃ y, l[i]? = some y := ⟨_, List.getElem?_eq_getElem hi⟩
  refine qv K4 <| Hd.seq fun _ K6 => ?_
  refine Hd.block <| sr fun _ K7 => ?_
  refine yv y_mv <| yv y_np <| yv (y_f 1 92 Tryz.underlying94 sz92) <| yv (y_l1 ag92 rfl) <| yv y_mv <| yv (y_idxR Tryz.underlying92 sz183 rfl rfl (by omega) (by exact RdS.own pkk)) ?_; refine yv (y_fR 0 3 Tryz.underlying183 sz3) ?_; refine yv (y_loadR1 ag3 rfl (RdS.own (ad := ad) (us := l.flatMap encRn) pkk) (flat_cells encRn 8 (fun _ => rfl) hy 0 _ rfl)) ?_; refine yv y_mv <| yv (y_eql rfl rfl) ?_; refine yv y_mv ?_; apply Hd.andg 11 27 38 [(0,_),(1,_),(2,_),(7,_)] rfl sbq
  ·intro hg4_27
   try simp only [hyZ] at hg4_27
   simp only [List.take]; refine y2 y_mv <| y2 y_np <| y2 (y_f 1 92 Tryz.underlying94 sz92) <| y2 (y_l1 ag92 rfl) <| y2 y_mv <| y2 (y_idxR Tryz.underlying92 sz183 rfl rfl (by omega) (by exact RdS.own pkk)) ?_; refine y2 (y_fR 1 3 Tryz.underlying183 sz3) ?_; refine y2 (y_loadR1 ag3 rfl (RdS.own (ad := ad) (us := l.flatMap encRn) pkk) (flat_cells encRn 8 (fun _ => rfl) hy 1 _ rfl)) ?_; refine y2 y_mv <| y2 (y_eql rfl rfl) ?_; refine yv (y_pickT rfl rfl) ?_; exact Hd.mn
  ·intro hg4_27
   try simp only [hyZ] at hg4_27
   simp only [List.take]; refine n1 <| n1 <| n1 <| n1 <| n1 <| n1 <| n1 <| n1 <| n1 <| n1 <| yv (y_pickF rfl rfl) ?_; exact Hd.mn
  simp only [List.drop]; refine fk [(0,_),(1,_),(2,_),(7,_),(38,_)] K7 ?_; refine qz ?_ ?_ <;> intro hc1 <;> try simp only [hyZ] at hc1
  ·have hpos : posN l (fd, flt) = (i : Int) := by
    unfold posN
    have : l.findIdx? (fun x => x.id == (fd, flt).1 && x.flt == (fd, flt).2) = some i := by
     obtain ⟨hi', rfl⟩ := List.getElem?_eq_some_iff.1 hy
     rw [List.findIdx?_eq_some_iff_getElem]; refine ⟨hi', by simpa using hc1, fun j hj => ?_⟩
     have := hp0.2 l[j] (List.mem_iff_getElem.2 ⟨j, by rw [List.length_take]; omega, by rw [List.getElem_take]⟩)
     simpa using this
    rw [this]
   refine sr fun _ K8 => ?_
   refine yv y_mv <| yv y_as <| fk [(6,_)] K8 ?_; refine Hd.ret <| Hd.inBret <| Hd.thenRet <| Hd.thenRet <| Hd.inBret <| Hd.thenRet ?_; exact Hd.ret1 rfl () (by rw [hpos]; rfl) sq
  have hne : ∀ x ∈ l.take (i + 1), ¬ (x.id = fd ∧ x.flt = flt) := fun x hx => by
   rw [List.take_add_one, hy, Option.toList_some] at hx
   rcases List.mem_append.1 hx with h | h
   ·exact hp0.2 x h
   ·rw [List.mem_singleton] at h
    subst h; rintro ⟨h1, h2⟩
    rcases hc1 with h | h
    ·exact h h1
    ·exact h h2
  refine Hd.skip <| Hd.inB <| Hd.toK K6 ?_; refine Hd.region <| yv y_mv <| yv (y_addn rfl rfl (by simp only [InK]; omega)) ?_; refine yv y_as <| Hd.nil <| slots [(0,_),(1,_),(2,_),(7,_)] sbq ?_; refine thenN ?_; exact Hd.again (i + 1) (by omega) sbq (Ent.sep (.pure ⟨hi, hne⟩ enn))
 obtain rfl : i = l.length := by omega
 have hpos : posN l (fd, flt) = -1 := by
  unfold posN
  have : l.findIdx? (fun x => x.id == (fd, flt).1 && x.flt == (fd, flt).2) = none := by
   rw [List.findIdx?_eq_none_iff]; intro x hx
   have := hp0.2 x (by rwa [List.take_of_length_le (Nat.le_refl _)])
   simpa using this
  rw [this]
 refine Hd.exit <| Hd.thenExit <| Hd.thenExit <| Hd.inBexit <| Hd.toK K2 ?_; refine sr fun _ K9 => ?_
 refine yv y_as <| fk [(6,_)] K9 ?_; refine Hd.ret ?_; exact Hd.ret1 rfl () (by rw [hpos]; rfl) sq
theorem flat_tk {α : Type} {enc : α → List Value} {k : Nat} (hk : ∀ x, (enc x).length = k) : ∀ (l : List α) (i : Nat), (l.flatMap enc).take (i * k) = (l.take i).flatMap enc
 | [], _ => by simp
 | x :: t, 0 => by simp
 | x :: t, i + 1 => by
  rw [List.flatMap_cons, List.take_succ_cons, List.flatMap_cons, ← flat_tk hk t i, List.take_append, hk, List.take_of_length_le (by rw [hk, Nat.succ_mul]; omega)]
  congr 2
  rw [Nat.succ_mul]; omega
theorem flat_dr {α : Type} {enc : α → List Value} {k : Nat} (hk : ∀ x, (enc x).length = k) : ∀ (l : List α) (i : Nat), (l.flatMap enc).drop (i * k) = (l.drop i).flatMap enc
 | [], _ => by simp
 | x :: t, 0 => by simp
 | x :: t, i + 1 => by
  rw [List.flatMap_cons, List.drop_succ_cons, ← flat_dr hk t i, List.drop_append, hk, List.drop_of_length_le (by rw [hk, Nat.succ_mul]; omega), List.nil_append]
  congr 1
  rw [Nat.succ_mul]; omega
theorem flat_one {α : Type} {enc : α → List Value} (h : ∀ x, ∀ u ∈ enc x, u.oneCell' = true) (l : List α) : ∀ u ∈ l.flatMap enc, u.oneCell' = true := fun u hu => by
 obtain ⟨x, _, hx⟩ := List.mem_flatMap.1 hu
 exact h x u hx
theorem rcut16_ct (L : List SP) (qb rb : Nat) (ad : Option Addr) (c : Nat) (l : List RnA) (hl : l.length ≤ 1000000) (i : Nat) (hi : i < l.length) : Ct Tryz.prog 97 #[.pointer (some ⟨qb, 0, none⟩), .int .i64 (i : Int)] (RkP qb rb ad c l L) (fun q_ : Option Addr × Nat => .tuple #[]) (fun q_ : Option Addr × Nat => RkP qb rb q_.1 q_.2 (cutN l i) L) := by
 refine Ct.o2 Tryz.func97 ?_; intro E
 show Hd E 25 _ _ _ _
 refine Hd.ownCap pkk (fun hcap => ?_); refine Hd.ownNil 183 8 none ?_; refine sr fun _ K1 => ?_
 refine yv y_as <| fk [(0,_),(1,_),(4,_)] K1 ?_; refine sr fun _ K2 => ?_
 refine yv y_mv <| yv y_mv <| yv y_np <| yv (y_f 1 92 Tryz.underlying94 sz92) <| yv (y_l1 ag92 rfl) <| yv y_mv <| yv (y_slo_xoxN (j := i) Tryz.underlying92 sz183 rfl rfl (by omega)) ?_; refine Hd.append Tryz.underlying92 ty183 rfl rfl rfl (.here) (RdS.head (RdS.own (ad := ad) (us := l.flatMap encRn) pkk) (by omega)) (fun u hu => flat_one encRn_one l u (List.mem_of_mem_take hu)) (by simp only [maxLen]; omega) (by omega) (fun ad12 cap12 => ?_); refine yv y_as <| fk [(0,_),(1,_),(4,_)] K2 ?_; refine Hd.region <| yv y_mv <| yv y_mv <| yv y_mv <| yv y_np <| yv (y_f 1 92 Tryz.underlying94 sz92) <| yv (y_l1 ag92 rfl) <| yv y_mv <| yv (y_addn rfl rfl (by simp only [InK]; omega)) ?_; refine yv (y_slo_oxxN (j := i + 1) Tryz.underlying92 sz183 rfl rfl (by omega)) ?_; refine Hd.append Tryz.underlying92 ty183 rfl rfl rfl (.here) (RdS.tail (RdS.own (ad := ad) (us := l.flatMap encRn) pkk) (by omega) hcap) (fun u hu => flat_one encRn_one l u (List.mem_of_mem_drop hu)) (by simp only [maxLen]; omega) (by omega) (fun ad22 cap22 => ?_)
 refine yv y_np <| yv (y_f 1 92 Tryz.underlying94 sz92) <| Hd.store1 sz92 rfl rfl rfl pkk (by simp; done) ?_
 try simp only [hyS]
 refine Hd.nil <| slots [] sbq ?_
 have hcl : (cutN l i).length = 0 + i + (l.length - (i + 1)) := by unfold cutN; rw [List.length_append, List.length_take, List.length_drop]; omega
 have hcf : (cutN l i).flatMap encRn = [] ++ (l.flatMap encRn).take (i * 8) ++ (l.flatMap encRn).drop ((i + 1) * 8) := by unfold cutN; rw [List.flatMap_append, flat_tk (enc := encRn) (k := 8) (fun _ => rfl), flat_dr (enc := encRn) (k := 8) (fun _ => rfl), List.nil_append]
 exact Hd.ret0 rfl (ad22, cap22) rfl (Ent.sep (.eq pkk (pt_eq (by rw [hcl])) (.eq pkk (own_eq3 hcl.symm rfl hcf.symm) enn)))
end Kq
end Go.Proofs.YtbfddabjbkohdaaGreat
