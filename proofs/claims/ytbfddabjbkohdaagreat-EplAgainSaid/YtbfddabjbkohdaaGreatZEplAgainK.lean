/-
  The world and the document's, side by side: what comes in; Fresh; more. The world and the document's, side by side: wires that are made; Do. Epoll's laws: calls as they come in, how many there may be. Epoll: EplAgain.
-/
import Derived.Test.YtbfddabjbkohdaaGreatZEplAgainJ
namespace Go.Proofs.YtbfddabjbkohdaaGreat
set_option maxHeartbeats 2000000
set_option linter.unusedSimpArgs false
set_option linter.unusedVariables false
set_option linter.unnecessarySimpa false
open Go.RX Fx
namespace Wo
set_option maxRecDepth 8000
abbrev encO (o : Ov) : List Value := [.int .i64 o.k, .int .i64 o.a, .int .i64 o.n, .int .u64 o.t, .slice o.ad o.d.length o.c]
structure OvOk (L : List SP) (o : Ov) : Prop where
 rd : RdS L 1 o.ad o.d.length (bsl o.d)
 c : o.d.length ≤ o.c
 k : InK .i64 o.k
 a : InK .i64 o.a
 n : InK .i64 o.n
 t : InK .u64 o.t
def gO (xs : List Ov) : Int := if 200 < xs.length then 1 else if ∀ o ∈ xs, o.d.length ≤ 300 then 0 else 1
theorem gO_ok {xs : List Ov} (h : ¬ 0 < gO xs) : xs.length ≤ 200 ∧ ∀ o ∈ xs, o.d.length ≤ 300 := by
 unfold gO at h
 split at h
 ·exact absurd (by decide) h
 ·split at h
  ·rename_i h1 h2; exact ⟨by omega, h2⟩
  ·exact absurd (by decide) h
theorem great11_ct (L : List SP) (ad : Option Addr) (c : Nat) (xs : List Ov) (hR : RdS L 5 ad xs.length (xs.flatMap encO)) : Ct Tryz.prog 14 #[.slice ad xs.length c] (L) (fun _ : Unit => .int .i64 (gO xs)) (fun _ : Unit => L) := by
 refine Ct.of (vs := [.slice ad xs.length c]) Tryz.func14 rfl rfl [(0, .slice ad xs.length c)] sbq ?_; intro E
 show Hd E 20 _ _ _ _
 refine Hd.sr fun _ hK1 => ?_
 refine Hd.yv y_as ?_; refine Hd.fk [(0, _)] hK1 ?_; refine Hd.seq fun _ hK2 => ?_
 refine Hd.sr fun _ hK3 => ?_
 refine Hd.yv y_mv ?_; refine Hd.yv (y_len Tryz.underlying22 rfl) ?_; refine Hd.yv (y_gtr rfl rfl) ?_; refine Hd.fk [(0, _), (6, _)] hK3 ?_; refine Hd.cond rfl (fun hc0 => ?_) (fun hc0 => ?_)
 ·
  try simp only [hyA, hyB, hyC, ne_eq] at hc0
  refine Hd.sr fun _ hK4 => ?_
  refine Hd.yv y_as ?_; refine Hd.fk [(2, _)] hK4 ?_; refine Hd.ret ?_; refine Hd.thenRet ?_; clear hK1 hK2 hK3 hK4; exact Hd.ret1 rfl () (by unfold gO; rw [if_pos (by omega)]; rfl) sq
 ·
  try simp only [hyA, hyB, hyC, ne_eq] at hc0
  have hx : xs.length ≤ 200 := by omega
  refine Hd.skip ?_; refine Hd.toK hK2 ?_; refine Hd.seq fun _ hK5 => ?_
  refine Hd.sr fun _ hK6 => ?_
  refine Hd.yv y_mv ?_; refine Hd.yv (y_len Tryz.underlying22 rfl) ?_; refine Hd.yv y_mv ?_; refine Hd.fk [(0, _), (8, _), (9, _)] hK6 ?_; refine Hd.block ?_; refine Hd.loopK (ι := Nat) [(0, _), (8, _)] (fun i => [(9, .int .i64 (i : Int))]) (fun i => pu (i ≤ xs.length ∧ ∀ o ∈ xs.take i, o.d.length ≤ 300) :: L) (fun i => xs.length - i) 0 sbq sbq (Ent.sep (.pure ⟨Nat.zero_le _, fun o ho => by simp at ho⟩ enn)) ?_; intro i
  try dsimp only
  refine Hd.pure (fun hp0 => ?_)
  try dsimp only at hp0
  refine Hd.sr fun _ hK7 => ?_
  refine Hd.yv (y_lss rfl rfl) ?_; refine Hd.fk [(0, _), (8, _), (9, _), (10, _)] hK7 ?_; refine Hd.seq fun _ hK8 => ?_
  refine Hd.cond rfl (fun hc1 => ?_) (fun hc1 => ?_)
  ·
   try simp only [hyA, hyB, hyC, ne_eq] at hc1
   have hi : i < xs.length := by omega
   obtain ⟨o, ho⟩ : ∃ o, xs[i]? = some o := ⟨_, List.getElem?_eq_getElem hi⟩
   refine Hd.skip ?_; refine Hd.toK hK8 ?_; refine Hd.seq fun _ hK9 => ?_
   refine Hd.block ?_; refine Hd.sr fun _ hK10 => ?_
   refine Hd.yv y_mv ?_; refine Hd.yv y_as ?_; refine Hd.fk [(0, _), (3, _), (8, _), (9, _)] hK10 ?_; refine Hd.sr fun _ hK11 => ?_
   refine Hd.yv y_mv ?_; refine Hd.yv y_mv ?_; refine Hd.yv (y_idxR Tryz.underlying22 sz33 rfl rfl (by omega) (by exact RdS.mono hR sq)) ?_; refine Hd.yv (y_fR 4 31 Tryz.underlying33 sz31) ?_; refine Hd.yv (y_loadR1 ag31 rfl (by exact RdS.mono hR sq) (by exact flat_cells encO 5 (fun _ => rfl) ho 4 _ rfl)) ?_; refine Hd.yv (y_len Tryz.underlying31 rfl) ?_; refine Hd.yv (y_gtr rfl rfl) ?_; refine Hd.fk [(0, _), (8, _), (9, _), (18, _)] hK11 ?_; refine Hd.cond rfl (fun hc2 => ?_) (fun hc2 => ?_)
   ·
    try simp only [hyA, hyB, hyC, ne_eq] at hc2
    refine Hd.sr fun _ hK12 => ?_
    refine Hd.yv y_as ?_; refine Hd.fk [(2, _)] hK12 ?_; refine Hd.ret ?_; refine Hd.inBret ?_; refine Hd.thenRet ?_; refine Hd.thenRet ?_; refine Hd.inBret ?_; refine Hd.thenRet ?_; clear hK1 hK2 hK3 hK5 hK6 hK7 hK8 hK9 hK10 hK11 hK12; exact Hd.ret1 rfl () (by unfold gO; rw [if_neg (by omega), if_neg (fun h => by have := h o (List.mem_of_getElem? ho); omega)]; rfl) sq
   ·
    try simp only [hyA, hyB, hyC, ne_eq] at hc2
    refine Hd.skip ?_; refine Hd.inB ?_; refine Hd.toK hK9 ?_; refine Hd.region ?_; refine Hd.yv (y_addn rfl rfl (by simp only [InK]; omega)) ?_; refine Hd.yv y_mv ?_; refine Hd.nil ?_; refine Hd.slots [(0, _), (8, _), (9, _)] sbq ?_; clear hK1 hK2 hK3 hK5 hK6 hK7 hK8 hK9 hK10 hK11; refine Hd.thenN ?_
    have hnew : ∀ q ∈ xs.take (i + 1), q.d.length ≤ 300 := by
     intro q hq; rw [List.take_add_one, ho] at hq
     rcases List.mem_append.1 hq with h | h
     ·exact hp0.2 q h
     ·obtain rfl : q = o := by simpa using h
      omega
    exact Hd.again (i + 1) (by omega) sbq (Ent.sep (.pure ⟨hi, hnew⟩ enn))
  ·
   try simp only [hyA, hyB, hyC, ne_eq] at hc1
   refine Hd.exit ?_; refine Hd.thenExit ?_; refine Hd.thenExit ?_; refine Hd.inBexit ?_; refine Hd.toK hK5 ?_; refine Hd.sr fun _ hK13 => ?_
   refine Hd.yv y_as ?_; refine Hd.fk [(2, _)] hK13 ?_; refine Hd.ret ?_; clear hK1 hK2 hK3 hK5 hK6 hK7 hK8 hK13; exact Hd.ret1 rfl () (by unfold gO; rw [if_neg (by omega), if_pos (by rw [List.take_of_length_le (by omega)] at hp0; exact hp0.2)]; rfl) sq
theorem Hd.wokW {E : World} {n : Nat} {ds : List Deferred} {st : List (Nat × Value)} {L L' : List SP} {K : Act → World → Prop} {wb : Nat} {w : WA} (p : Pick L (WorldP wb w) L') (h : WOk w → Hd E n ds st L K) : Hd E n ds st L K := fun a v f s => by
 refine h ?_ a v f s
 obtain ⟨h1, s1, i, x⟩ := sep.one p s.2.2.2
 obtain ⟨_, _, _, _, _, hq, _⟩ := x
 exact hq.1
abbrev BoP (pb wb rb : Nat) : SP := pt pb [.pointer (some ⟨wb, 0, none⟩), .pointer (some ⟨rb, 0, none⟩)] 41
theorem fresh_ct (L : List SP) : Ct Tryz.prog 16 #[] (L) (fun q_ : Nat × Nat × Nat => .pointer (some ⟨q_.1, 0, none⟩)) (fun q_ : Nat × Nat × Nat => BoP q_.1 q_.2.1 q_.2.2 :: WorldP q_.2.1 newA :: Rf.RwP q_.2.2 newA :: L) := by
 refine Ct.of (vs := []) Tryz.func16 rfl rfl [] sbq ?_; intro E
 show Hd E 5 _ _ _ _
 refine Hd.sr fun _ hK1 => ?_
 refine Hd.yv y_as ?_; refine Hd.fk [] hK1 ?_; refine Hd.sr fun _ hK2 => ?_
 refine Hd.callE rfl fk49 (wnew_ct _) sq ?_; intro wb; refine Hd.callE rfl fk53 (Rf.rNew_ct _) sq ?_; intro rb; refine Hd.yv (y_build (vs := [(0, _), (1, _)]) rfl (by exact bd16_3 ..)) ?_; refine Hd.box rfl rfl (fun b4 => ?_); refine Hd.yv y_as ?_; refine Hd.fk [(0, _)] hK2 ?_; refine Hd.ret ?_; clear hK1 hK2; exact Hd.ret1 rfl (b4, wb, rb) rfl sq
theorem more_ct (L : List SP) (pb wb rb : Nat) (w : WA) (K : Nat) (hK : K ≤ 100000000) (hl : Lo K w) (o : Ov) (hk : o.k < 0 ∨ 8 < o.k) (ht : InK .u64 o.t) (hd : o.d.length ≤ 300) (hR : RdS L 1 o.ad o.d.length (bsl o.d)) (hc : o.d.length ≤ o.c) (ad : Option Addr) (c : Nat) (hR2 : RdS L 1 ad o.d.length (bsl o.d)) (hc2 : o.d.length ≤ c) : Ct Tryz.prog 69 #[.pointer (some ⟨pb, 0, none⟩), .agg (encO o).toArray, .slice ad o.d.length c] (BoP pb wb rb :: WorldP wb w :: Rf.RwP rb w :: L) (fun _ : Unit => .bool true) (fun _ : Unit => BoP pb wb rb :: WorldP wb (doA w o) :: Rf.RwP rb (doA w o) :: L) := by
 refine Ct.of (vs := [.pointer (some ⟨pb, 0, none⟩), .agg (encO o).toArray, .slice ad o.d.length c]) Tryz.func69 rfl rfl [(0, .pointer (some ⟨pb, 0, none⟩)), (1, .agg (encO o).toArray), (2, .slice ad o.d.length c)] sbq ?_; intro E
 show Hd E 333 _ _ _ _
 simp only [InK] at ht
 have hnow := hl.now
 have hb2 := hl.bd (B := 2000000000) (by omega)
 have hb1 := hl.bd (B := 1000000000) (by omega)
 refine Hd.wokW (.there .here) (fun hw => ?_); refine Hd.sr fun _ hK1 => ?_
 refine Hd.box rfl rfl (fun b4 => ?_); refine Hd.yv y_as ?_; refine Hd.fk [(0, _), (2, _), (4, _)] hK1 ?_; refine Hd.seq fun _ hK2 => ?_
 refine Hd.sr fun _ hK3 => ?_
 refine Hd.yv (y_f 0 3 Tryz.underlying33 sz3) ?_; refine Hd.yv (y_l1 ag3 rfl) ?_; refine Hd.fk [(0, _), (2, _), (4, _), (33, _)] hK3 ?_; refine Hd.block ?_; refine Hd.sr fun _ hK4 => ?_
 refine Hd.yv (y_eql rfl rfl) ?_; refine Hd.yv y_as ?_; refine Hd.fk [(0, _), (2, _), (4, _), (33, _), (34, _)] hK4 ?_; refine Hd.cond rfl (fun hc0 => ?_) (fun hc0 => ?_)
 ·
  try simp only [hyA, hyB, hyC, ne_eq] at hc0
  refine Hd.seq fun _ hK5 => ?_
  refine Hd.drawsH ([BoP pb wb rb, pt b4 (encO o) 33]) (fun _ => true) mixed ?_; simp only [List.length, Nat.zero_add, Nat.reduceAdd]; refine Hd.takeH 0 rfl kq kq kq kq y_mv fq sq ?_; refine Hd.takeH 1 rfl kq kq kq kq y_np fq sq ?_; refine Hd.takeH 2 rfl kq kq kq kq (y_f 0 38 Tryz.underlying41 sz38) fq sq ?_; refine Hd.takeH 3 rfl kq kq kq kq (y_l1 ag38 rfl) fq sq ?_; refine Hd.takeH 4 rfl kq kq kq kq (y_f 1 3 Tryz.underlying33 sz3) fq sq ?_; refine Hd.takeH 5 rfl kq kq kq kq (y_l1 ag3 rfl) fq sq ?_; refine Hd.takeH 6 rfl kq kq kq kq y_mv fq sq ?_; refine Hd.onlyH 7 rfl kq ?_; refine Hd.callE rfl fk52 (wput_ct _ wb w o.a ad o.d.length c o.d rfl ?hD (by omega) hc2) sq ?_
  case hD => exact RdS.mono hR2 sq
  intro _; refine Hd.nil ?_; refine Hd.thenN ?_; refine Hd.heldK (J := (fun _ => true)) (i := 7) sq ?_; refine Hd.takeH 8 rfl kq kq kq kq y_mv fq sq ?_; refine Hd.takeH 9 rfl kq kq kq kq y_ex fq sq ?_; refine Hd.takeH 10 rfl kq kq kq kq y_ex fq sq ?_; refine Hd.takeH 11 rfl kq kq kq kq y_as fq sq ?_; refine Hd.takeH 12 rfl kq kq kq kq y_as fq sq ?_; refine Hd.endH kq ?_; refine Hd.sk [(0, _), (4, _), (7, _), (8, _)] hK5 ?_; refine Hd.seq fun _ hK6 => ?_
  refine Hd.drawsH ([BoP pb wb rb, pt b4 (encO o) 33]) (fun _ => true) mixed ?_; simp only [List.length, Nat.zero_add, Nat.reduceAdd]; refine Hd.takeH 0 rfl kq kq kq kq y_mv fq sq ?_; refine Hd.takeH 1 rfl kq kq kq kq y_np fq sq ?_; refine Hd.takeH 2 rfl kq kq kq kq (y_f 1 39 Tryz.underlying41 sz39) fq sq ?_; refine Hd.takeH 3 rfl kq kq kq kq (y_l1 ag39 rfl) fq sq ?_; refine Hd.takeH 4 rfl kq kq kq kq (y_f 1 3 Tryz.underlying33 sz3) fq sq ?_; refine Hd.takeH 5 rfl kq kq kq kq (y_l1 ag3 rfl) fq sq ?_; refine Hd.takeH 6 rfl kq kq kq kq (y_f 4 31 Tryz.underlying33 sz31) fq sq ?_; refine Hd.takeH 7 rfl kq kq kq kq (y_l1 ag31 rfl) fq sq ?_; refine Hd.onlyH 8 rfl kq ?_; refine Hd.callE rfl fk124 (Rf.rPut_ct _ rb w hw o.a o.ad o.d.length o.c o.d rfl ?hD (by omega) hc) sq ?_
  case hD => exact RdS.mono hR sq
  intro _; refine Hd.nil ?_; refine Hd.thenN ?_; refine Hd.heldK (J := (fun _ => true)) (i := 8) sq ?_; refine Hd.takeH 9 rfl kq kq kq kq y_mv fq sq ?_; refine Hd.takeH 10 rfl kq kq kq kq y_ex fq sq ?_; refine Hd.takeH 11 rfl kq kq kq kq y_ex fq sq ?_; refine Hd.takeH 12 rfl kq kq kq kq y_as fq sq ?_; refine Hd.takeH 13 rfl kq kq kq kq y_as fq sq ?_; refine Hd.endH kq ?_; refine Hd.sk [(7, _), (8, _), (9, _), (10, _)] hK6 ?_; refine Hd.sr fun _ hK7 => ?_
  refine Hd.yv y_mv ?_; refine Hd.yv y_mv ?_; refine Hd.yv (y_eqlT rfl rfl) ?_; refine Hd.yv y_mv ?_; apply Hd.andg 4 62 66 [] rfl trivial
  ·intro hg5_62
   try simp only [hyA, hyB, hyC, ne_eq] at hg5_62
   simp only [List.take]; refine Hd.yg rfl rfl y_mv ?_; refine Hd.yg rfl rfl y_mv ?_; refine Hd.yg rfl rfl (y_eqlT rfl rfl) ?_; refine Hd.yv (y_pickT rfl rfl) ?_; refine Hd.nil ?_; exact Hd.mq
  ·intro hg5_62
   try simp only [hyA, hyB, hyC, ne_eq] at hg5_62
   simp only [List.take]; refine Hd.ng rfl rfl rfl ?_; refine Hd.ng rfl rfl rfl ?_; refine Hd.ng rfl rfl rfl ?_; refine Hd.yv (y_pickF rfl rfl) ?_; refine Hd.nil ?_; exact Hd.mq
  simp only [List.drop]; refine Hd.yv y_as ?_; refine Hd.fk [(6, _)] hK7 ?_; refine Hd.ret ?_; refine Hd.inBret ?_; refine Hd.thenRet ?_; clear hK1 hK2 hK3 hK4 hK5 hK6 hK7; rw [do_9 hc0]; exact Hd.ret1 rfl () (by rfl) sq
 ·
  try simp only [hyA, hyB, hyC, ne_eq] at hc0
  refine Hd.sr fun _ hK8 => ?_
  refine Hd.yv (y_eql rfl rfl) ?_; refine Hd.yv y_as ?_; refine Hd.fk [(0, _), (4, _), (33, _), (67, _)] hK8 ?_; refine Hd.cond rfl (fun hc1 => ?_) (fun hc1 => ?_)
  ·
   try simp only [hyA, hyB, hyC, ne_eq] at hc1
   refine Hd.seq fun _ hK9 => ?_
   refine Hd.drawsH ([BoP pb wb rb, pt b4 (encO o) 33]) (fun _ => true) mixed ?_; simp only [List.length, Nat.zero_add, Nat.reduceAdd]; refine Hd.takeH 0 rfl kq kq kq kq y_mv fq sq ?_; refine Hd.takeH 1 rfl kq kq kq kq y_np fq sq ?_; refine Hd.takeH 2 rfl kq kq kq kq (y_f 0 38 Tryz.underlying41 sz38) fq sq ?_; refine Hd.takeH 3 rfl kq kq kq kq (y_l1 ag38 rfl) fq sq ?_; refine Hd.takeH 4 rfl kq kq kq kq (y_f 1 3 Tryz.underlying33 sz3) fq sq ?_; refine Hd.takeH 5 rfl kq kq kq kq (y_l1 ag3 rfl) fq sq ?_; refine Hd.takeH 6 rfl kq kq kq kq (y_f 2 3 Tryz.underlying33 sz3) fq sq ?_; refine Hd.takeH 7 rfl kq kq kq kq (y_l1 ag3 rfl) fq sq ?_; refine Hd.onlyH 8 rfl kq ?_; refine Hd.callE rfl fk125 (wtake_ct _ wb w o.a o.n) sq ?_; rintro ⟨ta, tc⟩; dsimp only; refine Hd.nil ?_; refine Hd.thenN ?_; refine Hd.heldK (J := (fun _ => true)) (i := 8) sq ?_; refine Hd.takeH 9 rfl kq kq kq kq y_mv fq sq ?_; refine Hd.takeH 10 rfl kq kq kq kq y_ex fq sq ?_
   refine Hd.takeH 11 rfl kq kq kq kq y_ex fq sq ?_; refine Hd.takeH 12 rfl kq kq kq kq y_as fq sq ?_; refine Hd.takeH 13 rfl kq kq kq kq y_as fq sq ?_; refine Hd.endH kq ?_; refine Hd.sk [(0, _), (4, _), (11, _), (12, _)] hK9 ?_; refine Hd.seq fun _ hK10 => ?_
   refine Hd.drawsH ([BoP pb wb rb, pt b4 (encO o) 33]) (fun _ => true) mixed ?_; simp only [List.length, Nat.zero_add, Nat.reduceAdd]; refine Hd.takeH 0 rfl kq kq kq kq y_mv fq sq ?_; refine Hd.takeH 1 rfl kq kq kq kq y_np fq sq ?_; refine Hd.takeH 2 rfl kq kq kq kq (y_f 1 39 Tryz.underlying41 sz39) fq sq ?_; refine Hd.takeH 3 rfl kq kq kq kq (y_l1 ag39 rfl) fq sq ?_; refine Hd.takeH 4 rfl kq kq kq kq (y_f 1 3 Tryz.underlying33 sz3) fq sq ?_; refine Hd.takeH 5 rfl kq kq kq kq (y_l1 ag3 rfl) fq sq ?_; refine Hd.takeH 6 rfl kq kq kq kq (y_f 2 3 Tryz.underlying33 sz3) fq sq ?_; refine Hd.takeH 7 rfl kq kq kq kq (y_l1 ag3 rfl) fq sq ?_; refine Hd.onlyH 8 rfl kq ?_; refine Hd.callE rfl fk126 (Rf.rTake_ct _ rb w o.a o.n) sq ?_; rintro ⟨ua, uc⟩; dsimp only; refine Hd.nil ?_; refine Hd.thenN ?_; refine Hd.heldK (J := (fun _ => true)) (i := 8) sq ?_; refine Hd.takeH 9 rfl kq kq kq kq y_mv fq sq ?_; refine Hd.takeH 10 rfl kq kq kq kq y_ex fq sq ?_
   refine Hd.takeH 11 rfl kq kq kq kq y_ex fq sq ?_; refine Hd.takeH 12 rfl kq kq kq kq y_as fq sq ?_; refine Hd.takeH 13 rfl kq kq kq kq y_as fq sq ?_; refine Hd.endH kq ?_; refine Hd.sk [(11, _), (12, _), (13, _), (14, _)] hK10 ?_; refine Hd.sr fun _ hK11 => ?_
   refine Hd.yv y_mv ?_; refine Hd.yv (y_strOf (l := _) kq Tryz.underlying9 rfl (by exact RdS.own pkk)) ?_; refine Hd.yv y_mv ?_; refine Hd.yv (y_strOf (l := _) kq Tryz.underlying9 rfl (by exact RdS.own pkk)) ?_; refine Hd.yv (y_eqlstr rfl rfl) ?_; refine Hd.yv y_mv ?_; apply Hd.andg 4 98 102 [] rfl trivial
   ·intro hg9_98
    try simp only [hyA, hyB, hyC, ne_eq] at hg9_98
    simp only [List.take]; refine Hd.yg rfl rfl y_mv ?_; refine Hd.yg rfl rfl y_mv ?_; refine Hd.yg rfl rfl (y_eqlT rfl rfl) ?_; refine Hd.yv (y_pickT rfl rfl) ?_; refine Hd.nil ?_; exact Hd.mq
   ·intro hg9_98
    try simp only [hyA, hyB, hyC, ne_eq] at hg9_98
    simp only [List.take]; refine Hd.ng rfl rfl rfl ?_; refine Hd.ng rfl rfl rfl ?_; refine Hd.ng rfl rfl rfl ?_; refine Hd.yv (y_pickF rfl rfl) ?_; refine Hd.nil ?_; exact Hd.mq
   simp only [List.drop]; refine Hd.yv y_as ?_; refine Hd.fk [(6, _)] hK11 ?_; refine Hd.ret ?_; refine Hd.inBret ?_; refine Hd.thenRet ?_; clear hK1 hK2 hK3 hK4 hK8 hK9 hK10 hK11; rw [do_10 hc1]; exact Hd.ret1 rfl () (by rfl) sq
  ·
   try simp only [hyA, hyB, hyC, ne_eq] at hc1
   refine Hd.sr fun _ hK12 => ?_
   refine Hd.yv (y_eql rfl rfl) ?_; refine Hd.yv y_as ?_; refine Hd.fk [(0, _), (4, _), (33, _), (103, _)] hK12 ?_; refine Hd.cond rfl (fun hc2 => ?_) (fun hc2 => ?_)
   ·
    try simp only [hyA, hyB, hyC, ne_eq] at hc2
    refine Hd.seq fun _ hK13 => ?_
    refine Hd.drawsH ([BoP pb wb rb, pt b4 (encO o) 33]) (fun _ => true) mixed ?_; simp only [List.length, Nat.zero_add, Nat.reduceAdd]; refine Hd.takeH 0 rfl kq kq kq kq y_mv fq sq ?_; refine Hd.takeH 1 rfl kq kq kq kq y_np fq sq ?_; refine Hd.takeH 2 rfl kq kq kq kq (y_f 0 38 Tryz.underlying41 sz38) fq sq ?_; refine Hd.takeH 3 rfl kq kq kq kq (y_l1 ag38 rfl) fq sq ?_; refine Hd.takeH 4 rfl kq kq kq kq (y_f 1 3 Tryz.underlying33 sz3) fq sq ?_; refine Hd.takeH 5 rfl kq kq kq kq (y_l1 ag3 rfl) fq sq ?_; refine Hd.onlyH 6 rfl kq ?_; refine Hd.callE rfl fk127 (pshut_ct _ wb w o.a) sq ?_; intro _; refine Hd.nil ?_; refine Hd.thenN ?_; refine Hd.heldK (J := (fun _ => true)) (i := 6) sq ?_; refine Hd.takeH 7 rfl kq kq kq kq y_as fq sq ?_; refine Hd.endH kq ?_; refine Hd.sk [(0, _), (4, _), (15, _)] hK13 ?_; refine Hd.seq fun _ hK14 => ?_
    refine Hd.drawsH ([BoP pb wb rb, pt b4 (encO o) 33]) (fun _ => true) mixed ?_; simp only [List.length, Nat.zero_add, Nat.reduceAdd]; refine Hd.takeH 0 rfl kq kq kq kq y_mv fq sq ?_; refine Hd.takeH 1 rfl kq kq kq kq y_mv fq sq ?_; refine Hd.takeH 2 rfl kq kq kq kq y_np fq sq ?_; refine Hd.takeH 3 rfl kq kq kq kq (y_f 1 39 Tryz.underlying41 sz39) fq sq ?_; refine Hd.takeH 4 rfl kq kq kq kq (y_l1 ag39 rfl) fq sq ?_; refine Hd.takeH 5 rfl kq kq kq kq (y_f 1 3 Tryz.underlying33 sz3) fq sq ?_; refine Hd.takeH 6 rfl kq kq kq kq (y_l1 ag3 rfl) fq sq ?_; refine Hd.onlyH 7 rfl kq ?_; refine Hd.callE rfl fk128 (Rf.rPshut_ct _ rb w o.a) sq ?_; intro _; refine Hd.nil ?_; refine Hd.thenN ?_; refine Hd.heldK (J := (fun _ => true)) (i := 7) sq ?_; refine Hd.takeH 8 rfl kq kq kq kq (y_eqlT rfl rfl) fq sq ?_; refine Hd.takeH 9 rfl kq kq kq kq y_as fq sq ?_; refine Hd.endH kq ?_; refine Hd.sk [(6, _)] hK14 ?_
    refine Hd.ret ?_; refine Hd.inBret ?_; refine Hd.thenRet ?_; clear hK1 hK2 hK3 hK4 hK8 hK12 hK13 hK14; rw [do_11 hc2]; exact Hd.ret1 rfl () (by rfl) sq
   ·
    try simp only [hyA, hyB, hyC, ne_eq] at hc2
    refine Hd.sr fun _ hK15 => ?_
    refine Hd.yv (y_eql rfl rfl) ?_; refine Hd.yv y_as ?_; refine Hd.fk [(0, _), (4, _), (33, _), (121, _)] hK15 ?_; refine Hd.cond rfl (fun hc3 => ?_) (fun hc3 => ?_)
    ·
     try simp only [hyA, hyB, hyC, ne_eq] at hc3
     refine Hd.seq fun _ hK16 => ?_
     refine Hd.drawsH ([BoP pb wb rb, pt b4 (encO o) 33]) (fun _ => true) mixed ?_; simp only [List.length, Nat.zero_add, Nat.reduceAdd]; refine Hd.takeH 0 rfl kq kq kq kq y_mv fq sq ?_; refine Hd.takeH 1 rfl kq kq kq kq y_np fq sq ?_; refine Hd.takeH 2 rfl kq kq kq kq (y_f 0 38 Tryz.underlying41 sz38) fq sq ?_; refine Hd.takeH 3 rfl kq kq kq kq (y_l1 ag38 rfl) fq sq ?_; refine Hd.takeH 4 rfl kq kq kq kq (y_f 1 3 Tryz.underlying33 sz3) fq sq ?_; refine Hd.takeH 5 rfl kq kq kq kq (y_l1 ag3 rfl) fq sq ?_; refine Hd.onlyH 6 rfl kq ?_; refine Hd.callE rfl fk129 (pclose_ct _ wb w o.a) sq ?_; intro _; refine Hd.nil ?_; refine Hd.thenN ?_; refine Hd.heldK (J := (fun _ => true)) (i := 6) sq ?_; refine Hd.takeH 7 rfl kq kq kq kq y_as fq sq ?_; refine Hd.endH kq ?_; refine Hd.sk [(0, _), (4, _), (16, _)] hK16 ?_; refine Hd.seq fun _ hK17 => ?_
     refine Hd.drawsH ([BoP pb wb rb, pt b4 (encO o) 33]) (fun _ => true) mixed ?_; simp only [List.length, Nat.zero_add, Nat.reduceAdd]; refine Hd.takeH 0 rfl kq kq kq kq y_mv fq sq ?_; refine Hd.takeH 1 rfl kq kq kq kq y_mv fq sq ?_; refine Hd.takeH 2 rfl kq kq kq kq y_np fq sq ?_; refine Hd.takeH 3 rfl kq kq kq kq (y_f 1 39 Tryz.underlying41 sz39) fq sq ?_; refine Hd.takeH 4 rfl kq kq kq kq (y_l1 ag39 rfl) fq sq ?_; refine Hd.takeH 5 rfl kq kq kq kq (y_f 1 3 Tryz.underlying33 sz3) fq sq ?_; refine Hd.takeH 6 rfl kq kq kq kq (y_l1 ag3 rfl) fq sq ?_; refine Hd.onlyH 7 rfl kq ?_; refine Hd.callE rfl fk130 (Rf.rPclose_ct _ rb w o.a) sq ?_; intro _; refine Hd.nil ?_; refine Hd.thenN ?_; refine Hd.heldK (J := (fun _ => true)) (i := 7) sq ?_; refine Hd.takeH 8 rfl kq kq kq kq (y_eqlT rfl rfl) fq sq ?_; refine Hd.takeH 9 rfl kq kq kq kq y_as fq sq ?_; refine Hd.endH kq ?_; refine Hd.sk [(6, _)] hK17 ?_
     refine Hd.ret ?_; refine Hd.inBret ?_; refine Hd.thenRet ?_; clear hK1 hK2 hK3 hK4 hK8 hK12 hK15 hK16 hK17; rw [do_12 hc3]; exact Hd.ret1 rfl () (by rfl) sq
    ·
     try simp only [hyA, hyB, hyC, ne_eq] at hc3
     refine Hd.sr fun _ hK18 => ?_
     refine Hd.yv (y_eql rfl rfl) ?_; refine Hd.yv y_as ?_; refine Hd.fk [(0, _), (4, _), (33, _), (139, _)] hK18 ?_; refine Hd.cond rfl (fun hc4 => ?_) (fun hc4 => ?_)
     ·
      try simp only [hyA, hyB, hyC, ne_eq] at hc4
      refine Hd.seq fun _ hK19 => ?_
      refine Hd.drawsH ([BoP pb wb rb, pt b4 (encO o) 33]) (fun _ => true) mixed ?_; simp only [List.length, Nat.zero_add, Nat.reduceAdd]; refine Hd.takeH 0 rfl kq kq kq kq y_mv fq sq ?_; refine Hd.takeH 1 rfl kq kq kq kq y_np fq sq ?_; refine Hd.takeH 2 rfl kq kq kq kq (y_f 0 38 Tryz.underlying41 sz38) fq sq ?_; refine Hd.takeH 3 rfl kq kq kq kq (y_l1 ag38 rfl) fq sq ?_; refine Hd.takeH 4 rfl kq kq kq kq (y_f 1 3 Tryz.underlying33 sz3) fq sq ?_; refine Hd.takeH 5 rfl kq kq kq kq (y_l1 ag3 rfl) fq sq ?_; refine Hd.onlyH 6 rfl kq ?_; refine Hd.callE rfl fk131 (wreset_ct _ wb w o.a) sq ?_; intro _; refine Hd.nil ?_; refine Hd.thenN ?_; refine Hd.heldK (J := (fun _ => true)) (i := 6) sq ?_; refine Hd.takeH 7 rfl kq kq kq kq y_as fq sq ?_; refine Hd.endH kq ?_; refine Hd.sk [(0, _), (4, _), (17, _)] hK19 ?_; refine Hd.seq fun _ hK20 => ?_
      refine Hd.drawsH ([BoP pb wb rb, pt b4 (encO o) 33]) (fun _ => true) mixed ?_; simp only [List.length, Nat.zero_add, Nat.reduceAdd]; refine Hd.takeH 0 rfl kq kq kq kq y_mv fq sq ?_; refine Hd.takeH 1 rfl kq kq kq kq y_mv fq sq ?_; refine Hd.takeH 2 rfl kq kq kq kq y_np fq sq ?_; refine Hd.takeH 3 rfl kq kq kq kq (y_f 1 39 Tryz.underlying41 sz39) fq sq ?_; refine Hd.takeH 4 rfl kq kq kq kq (y_l1 ag39 rfl) fq sq ?_; refine Hd.takeH 5 rfl kq kq kq kq (y_f 1 3 Tryz.underlying33 sz3) fq sq ?_; refine Hd.takeH 6 rfl kq kq kq kq (y_l1 ag3 rfl) fq sq ?_; refine Hd.onlyH 7 rfl kq ?_; refine Hd.callE rfl fk132 (Rf.rReset_ct _ rb w o.a) sq ?_; intro _; refine Hd.nil ?_; refine Hd.thenN ?_; refine Hd.heldK (J := (fun _ => true)) (i := 7) sq ?_; refine Hd.takeH 8 rfl kq kq kq kq (y_eqlT rfl rfl) fq sq ?_; refine Hd.takeH 9 rfl kq kq kq kq y_as fq sq ?_; refine Hd.endH kq ?_; refine Hd.sk [(6, _)] hK20 ?_
      refine Hd.ret ?_; refine Hd.inBret ?_; refine Hd.thenRet ?_; clear hK1 hK2 hK3 hK4 hK8 hK12 hK15 hK18 hK19 hK20; rw [do_13 hc4]; exact Hd.ret1 rfl () (by rfl) sq
     ·
      try simp only [hyA, hyB, hyC, ne_eq] at hc4
      refine Hd.sr fun _ hK21 => ?_
      refine Hd.yv (y_eql rfl rfl) ?_; refine Hd.yv y_as ?_; refine Hd.fk [(0, _), (4, _), (33, _), (157, _)] hK21 ?_; refine Hd.cond rfl (fun hc5 => ?_) (fun hc5 => ?_)
      ·
       try simp only [hyA, hyB, hyC, ne_eq] at hc5
       refine Hd.seq fun _ hK22 => ?_
       refine Hd.drawsH ([BoP pb wb rb, pt b4 (encO o) 33]) (fun _ => true) mixed ?_; simp only [List.length, Nat.zero_add, Nat.reduceAdd]; refine Hd.takeH 0 rfl kq kq kq kq y_mv fq sq ?_; refine Hd.takeH 1 rfl kq kq kq kq y_np fq sq ?_; refine Hd.takeH 2 rfl kq kq kq kq (y_f 0 38 Tryz.underlying41 sz38) fq sq ?_; refine Hd.takeH 3 rfl kq kq kq kq (y_l1 ag38 rfl) fq sq ?_; refine Hd.takeH 4 rfl kq kq kq kq (y_f 1 3 Tryz.underlying33 sz3) fq sq ?_; refine Hd.takeH 5 rfl kq kq kq kq (y_l1 ag3 rfl) fq sq ?_; refine Hd.takeH 6 rfl kq kq kq kq (y_f 2 3 Tryz.underlying33 sz3) fq sq ?_; refine Hd.takeH 7 rfl kq kq kq kq (y_l1 ag3 rfl) fq sq ?_; refine Hd.onlyH 8 rfl kq ?_; refine Hd.callE rfl fk133 (wconn_ct _ wb w o.a o.n) sq ?_; intro _; refine Hd.nil ?_; refine Hd.thenN ?_; refine Hd.heldK (J := (fun _ => true)) (i := 8) sq ?_; refine Hd.takeH 9 rfl kq kq kq kq y_mv fq sq ?_; refine Hd.takeH 10 rfl kq kq kq kq y_ex fq sq ?_
       refine Hd.takeH 11 rfl kq kq kq kq y_ex fq sq ?_; refine Hd.takeH 12 rfl kq kq kq kq y_as fq sq ?_; refine Hd.takeH 13 rfl kq kq kq kq y_as fq sq ?_; refine Hd.endH kq ?_; refine Hd.sk [(0, _), (4, _), (18, _), (19, _)] hK22 ?_; refine Hd.seq fun _ hK23 => ?_
       refine Hd.drawsH ([BoP pb wb rb, pt b4 (encO o) 33]) (fun _ => true) mixed ?_; simp only [List.length, Nat.zero_add, Nat.reduceAdd]; refine Hd.takeH 0 rfl kq kq kq kq y_mv fq sq ?_; refine Hd.takeH 1 rfl kq kq kq kq y_np fq sq ?_; refine Hd.takeH 2 rfl kq kq kq kq (y_f 1 39 Tryz.underlying41 sz39) fq sq ?_; refine Hd.takeH 3 rfl kq kq kq kq (y_l1 ag39 rfl) fq sq ?_; refine Hd.takeH 4 rfl kq kq kq kq (y_f 1 3 Tryz.underlying33 sz3) fq sq ?_; refine Hd.takeH 5 rfl kq kq kq kq (y_l1 ag3 rfl) fq sq ?_; refine Hd.takeH 6 rfl kq kq kq kq (y_f 2 3 Tryz.underlying33 sz3) fq sq ?_; refine Hd.takeH 7 rfl kq kq kq kq (y_l1 ag3 rfl) fq sq ?_; refine Hd.onlyH 8 rfl kq ?_; refine Hd.callE rfl fk134 (Rf.rConnect_ct _ rb w hw o.a o.n) sq ?_; intro _; refine Hd.nil ?_; refine Hd.thenN ?_; refine Hd.heldK (J := (fun _ => true)) (i := 8) sq ?_; refine Hd.takeH 9 rfl kq kq kq kq y_mv fq sq ?_; refine Hd.takeH 10 rfl kq kq kq kq y_ex fq sq ?_
       refine Hd.takeH 11 rfl kq kq kq kq y_ex fq sq ?_; refine Hd.takeH 12 rfl kq kq kq kq y_as fq sq ?_; refine Hd.takeH 13 rfl kq kq kq kq y_as fq sq ?_; refine Hd.endH kq ?_; refine Hd.sk [(18, _), (19, _), (20, _), (21, _)] hK23 ?_; refine Hd.sr fun _ hK24 => ?_
       refine Hd.yv y_mv ?_; refine Hd.yv y_mv ?_; refine Hd.yv (y_eqlT rfl rfl) ?_; refine Hd.yv y_mv ?_; apply Hd.andg 4 186 190 [] rfl trivial
       ·intro hg22_186
        try simp only [hyA, hyB, hyC, ne_eq] at hg22_186
        simp only [List.take]; refine Hd.yg rfl rfl y_mv ?_; refine Hd.yg rfl rfl y_mv ?_; refine Hd.yg rfl rfl (y_eqlT rfl rfl) ?_; refine Hd.yv (y_pickT rfl rfl) ?_; refine Hd.nil ?_; exact Hd.mq
       ·intro hg22_186
        try simp only [hyA, hyB, hyC, ne_eq] at hg22_186
        simp only [List.take]; refine Hd.ng rfl rfl rfl ?_; refine Hd.ng rfl rfl rfl ?_; refine Hd.ng rfl rfl rfl ?_; refine Hd.yv (y_pickF rfl rfl) ?_; refine Hd.nil ?_; exact Hd.mq
       simp only [List.drop]; refine Hd.yv y_as ?_; refine Hd.fk [(6, _)] hK24 ?_; refine Hd.ret ?_; refine Hd.inBret ?_; refine Hd.thenRet ?_; clear hK1 hK2 hK3 hK4 hK8 hK12 hK15 hK18 hK21 hK22 hK23 hK24; rw [do_14 hc5]; exact Hd.ret1 rfl () (by rfl) sq
      ·
       try simp only [hyA, hyB, hyC, ne_eq] at hc5
       refine Hd.sr fun _ hK25 => ?_
       refine Hd.yv (y_eql rfl rfl) ?_; refine Hd.yv y_as ?_; refine Hd.fk [(0, _), (4, _), (33, _), (191, _)] hK25 ?_; refine Hd.cond rfl (fun hc6 => ?_) (fun hc6 => ?_)
       ·
        try simp only [hyA, hyB, hyC, ne_eq] at hc6
        refine Hd.seq fun _ hK26 => ?_
        refine Hd.drawsH ([BoP pb wb rb, pt b4 (encO o) 33]) (fun _ => true) mixed ?_; simp only [List.length, Nat.zero_add, Nat.reduceAdd]; refine Hd.takeH 0 rfl kq kq kq kq y_mv fq sq ?_; refine Hd.takeH 1 rfl kq kq kq kq y_np fq sq ?_; refine Hd.takeH 2 rfl kq kq kq kq (y_f 0 38 Tryz.underlying41 sz38) fq sq ?_; refine Hd.takeH 3 rfl kq kq kq kq (y_l1 ag38 rfl) fq sq ?_; refine Hd.takeH 4 rfl kq kq kq kq (y_f 3 30 Tryz.underlying33 sz30) fq sq ?_; refine Hd.takeH 5 rfl kq kq kq kq (y_l1 ag30 rfl) fq sq ?_; refine Hd.onlyH 6 rfl kq ?_; refine Hd.callE rfl fk135 (pass_ct _ wb w o.t ht hnow) sq ?_; intro _; refine Hd.nil ?_; refine Hd.thenN ?_; refine Hd.heldK (J := (fun _ => true)) (i := 6) sq ?_; refine Hd.endH kq ?_; refine Hd.sk [(0, _), (4, _)] hK26 ?_; refine Hd.drawsH ([BoP pb wb rb, pt b4 (encO o) 33]) (fun _ => true) mixed ?_; simp only [List.length, Nat.zero_add, Nat.reduceAdd]; refine Hd.takeH 0 rfl kq kq kq kq y_mv fq sq ?_
        refine Hd.takeH 1 rfl kq kq kq kq y_np fq sq ?_; refine Hd.takeH 2 rfl kq kq kq kq (y_f 1 39 Tryz.underlying41 sz39) fq sq ?_; refine Hd.takeH 3 rfl kq kq kq kq (y_l1 ag39 rfl) fq sq ?_; refine Hd.takeH 4 rfl kq kq kq kq (y_f 3 30 Tryz.underlying33 sz30) fq sq ?_; refine Hd.takeH 5 rfl kq kq kq kq (y_l1 ag30 rfl) fq sq ?_; refine Hd.onlyH 6 rfl kq ?_; refine Hd.callE rfl fk136 (Rf.rPass_ct _ rb w o.t ht hnow) sq ?_; intro _; refine Hd.nil ?_; refine Hd.thenN ?_; refine Hd.heldK (J := (fun _ => true)) (i := 6) sq ?_; refine Hd.endH kq ?_; refine Hd.slots [] sbq ?_; refine Hd.inB ?_; refine Hd.toK hK2 ?_; refine Hd.sr fun _ hK27 => ?_
        refine Hd.yv y_as ?_; refine Hd.fk [(6, _)] hK27 ?_; refine Hd.ret ?_; clear hK1 hK2 hK3 hK4 hK8 hK12 hK15 hK18 hK21 hK25 hK26 hK27; rw [do_15 hc6]; exact Hd.ret1 rfl () (by rfl) sq
       ·
        try simp only [hyA, hyB, hyC, ne_eq] at hc6
        refine Hd.sr fun _ hK28 => ?_
        refine Hd.yv (y_eql rfl rfl) ?_; refine Hd.yv y_as ?_; refine Hd.fk [(0, _), (4, _), (33, _), (207, _)] hK28 ?_; refine Hd.cond rfl (fun hc7 => ?_) (fun hc7 => ?_)
        ·
         try simp only [hyA, hyB, hyC, ne_eq] at hc7
         refine Hd.seq fun _ hK29 => ?_
         refine Hd.drawsH ([BoP pb wb rb, pt b4 (encO o) 33]) (fun _ => true) mixed ?_; simp only [List.length, Nat.zero_add, Nat.reduceAdd]; refine Hd.takeH 0 rfl kq kq kq kq y_mv fq sq ?_; refine Hd.takeH 1 rfl kq kq kq kq y_np fq sq ?_; refine Hd.takeH 2 rfl kq kq kq kq (y_f 0 38 Tryz.underlying41 sz38) fq sq ?_; refine Hd.takeH 3 rfl kq kq kq kq (y_l1 ag38 rfl) fq sq ?_; refine Hd.takeH 4 rfl kq kq kq kq (y_f 1 3 Tryz.underlying33 sz3) fq sq ?_; refine Hd.takeH 5 rfl kq kq kq kq (y_l1 ag3 rfl) fq sq ?_; refine Hd.takeH 6 rfl kq kq kq kq (y_f 2 3 Tryz.underlying33 sz3) fq sq ?_; refine Hd.takeH 7 rfl kq kq kq kq (y_l1 ag3 rfl) fq sq ?_; refine Hd.takeH 8 rfl kq kq kq kq (y_gtr rfl rfl) fq sq ?_; refine Hd.onlyH 9 rfl kq ?_; refine Hd.callE rfl fk137 (whandle_ct _ wb w hb2 o.a (decide (o.n > 0))) sq ?_; intro _; refine Hd.nil ?_; refine Hd.thenN ?_; refine Hd.heldK (J := (fun _ => true)) (i := 9) sq ?_
         refine Hd.takeH 10 rfl kq kq kq kq y_as fq sq ?_; refine Hd.endH kq ?_; refine Hd.sk [(0, _), (4, _), (22, _)] hK29 ?_; refine Hd.seq fun _ hK30 => ?_
         refine Hd.drawsH ([BoP pb wb rb, pt b4 (encO o) 33]) (fun _ => true) mixed ?_; simp only [List.length, Nat.zero_add, Nat.reduceAdd]; refine Hd.takeH 0 rfl kq kq kq kq y_mv fq sq ?_; refine Hd.takeH 1 rfl kq kq kq kq y_mv fq sq ?_; refine Hd.takeH 2 rfl kq kq kq kq y_np fq sq ?_; refine Hd.takeH 3 rfl kq kq kq kq (y_f 1 39 Tryz.underlying41 sz39) fq sq ?_; refine Hd.takeH 4 rfl kq kq kq kq (y_l1 ag39 rfl) fq sq ?_; refine Hd.takeH 5 rfl kq kq kq kq (y_f 1 3 Tryz.underlying33 sz3) fq sq ?_; refine Hd.takeH 6 rfl kq kq kq kq (y_l1 ag3 rfl) fq sq ?_; refine Hd.takeH 7 rfl kq kq kq kq (y_f 2 3 Tryz.underlying33 sz3) fq sq ?_; refine Hd.takeH 8 rfl kq kq kq kq (y_l1 ag3 rfl) fq sq ?_; refine Hd.takeH 9 rfl kq kq kq kq (y_gtr rfl rfl) fq sq ?_; refine Hd.onlyH 10 rfl kq ?_; refine Hd.callE rfl fk138 (Rf.rHandle_ct _ rb w hw hb2 o.a (decide (o.n > 0))) sq ?_; intro _; refine Hd.nil ?_; refine Hd.thenN ?_
         refine Hd.heldK (J := (fun _ => true)) (i := 10) sq ?_; refine Hd.takeH 11 rfl kq kq kq kq (y_eqlT rfl rfl) fq sq ?_; refine Hd.takeH 12 rfl kq kq kq kq y_as fq sq ?_; refine Hd.endH kq ?_; refine Hd.sk [(6, _)] hK30 ?_; refine Hd.ret ?_; refine Hd.inBret ?_; refine Hd.thenRet ?_; clear hK1 hK2 hK3 hK4 hK8 hK12 hK15 hK18 hK21 hK25 hK28 hK29 hK30; rw [do_16 hc7]; exact Hd.ret1 rfl () (by rfl) sq
        ·
         try simp only [hyA, hyB, hyC, ne_eq] at hc7
         refine Hd.sr fun _ hK31 => ?_
         refine Hd.yv (y_eql rfl rfl) ?_; refine Hd.yv y_as ?_; refine Hd.fk [(0, _), (4, _), (33, _), (231, _)] hK31 ?_; refine Hd.cond rfl (fun hc8 => ?_) (fun hc8 => ?_)
         ·
          try simp only [hyA, hyB, hyC, ne_eq] at hc8
          refine Hd.seq fun _ hK32 => ?_
          refine Hd.drawsH ([BoP pb wb rb, pt b4 (encO o) 33]) (fun _ => true) mixed ?_; simp only [List.length, Nat.zero_add, Nat.reduceAdd]; refine Hd.takeH 0 rfl kq kq kq kq y_mv fq sq ?_; refine Hd.takeH 1 rfl kq kq kq kq y_np fq sq ?_; refine Hd.takeH 2 rfl kq kq kq kq (y_f 0 38 Tryz.underlying41 sz38) fq sq ?_; refine Hd.takeH 3 rfl kq kq kq kq (y_l1 ag38 rfl) fq sq ?_; refine Hd.takeH 4 rfl kq kq kq kq (y_f 1 3 Tryz.underlying33 sz3) fq sq ?_; refine Hd.takeH 5 rfl kq kq kq kq (y_l1 ag3 rfl) fq sq ?_; refine Hd.onlyH 6 rfl kq ?_; refine Hd.callE rfl fk139 (wraise_ct _ wb w hb1 o.a) sq ?_; intro _; refine Hd.nil ?_; refine Hd.thenN ?_; refine Hd.heldK (J := (fun _ => true)) (i := 6) sq ?_; refine Hd.takeH 7 rfl kq kq kq kq y_as fq sq ?_; refine Hd.endH kq ?_; refine Hd.sk [(0, _), (4, _), (23, _)] hK32 ?_; refine Hd.seq fun _ hK33 => ?_
          refine Hd.drawsH ([BoP pb wb rb, pt b4 (encO o) 33]) (fun _ => true) mixed ?_; simp only [List.length, Nat.zero_add, Nat.reduceAdd]; refine Hd.takeH 0 rfl kq kq kq kq y_mv fq sq ?_; refine Hd.takeH 1 rfl kq kq kq kq y_mv fq sq ?_; refine Hd.takeH 2 rfl kq kq kq kq y_np fq sq ?_; refine Hd.takeH 3 rfl kq kq kq kq (y_f 1 39 Tryz.underlying41 sz39) fq sq ?_; refine Hd.takeH 4 rfl kq kq kq kq (y_l1 ag39 rfl) fq sq ?_; refine Hd.takeH 5 rfl kq kq kq kq (y_f 1 3 Tryz.underlying33 sz3) fq sq ?_; refine Hd.takeH 6 rfl kq kq kq kq (y_l1 ag3 rfl) fq sq ?_; refine Hd.onlyH 7 rfl kq ?_; refine Hd.callE rfl fk140 (Rf.rRaise_ct _ rb w hw hb1 o.a) sq ?_; intro _; refine Hd.nil ?_; refine Hd.thenN ?_; refine Hd.heldK (J := (fun _ => true)) (i := 7) sq ?_; refine Hd.takeH 8 rfl kq kq kq kq (y_eqlT rfl rfl) fq sq ?_; refine Hd.takeH 9 rfl kq kq kq kq y_as fq sq ?_; refine Hd.endH kq ?_; refine Hd.sk [(6, _)] hK33 ?_
          refine Hd.ret ?_; refine Hd.inBret ?_; refine Hd.thenRet ?_; clear hK1 hK2 hK3 hK4 hK8 hK12 hK15 hK18 hK21 hK25 hK28 hK31 hK32 hK33; rw [do_17 hc8]; exact Hd.ret1 rfl () (by rfl) sq
         ·
          try simp only [hyA, hyB, hyC, ne_eq] at hc8
          refine Hd.sr fun _ hK34 => ?_
          refine Hd.yv (y_eql rfl rfl) ?_; refine Hd.yv y_as ?_; refine Hd.fk [(0, _), (4, _), (33, _), (249, _)] hK34 ?_; refine Hd.cond rfl (fun hc9 => ?_) (fun hc9 => ?_)
          ·
           try simp only [hyA, hyB, hyC, ne_eq] at hc9
           have hgl : (sigR w).1.length ≤ 32 := by have := cntF_le w.ct 0; rw [hw.ctl] at this; exact this
           refine Hd.sr fun _ hK35 => ?_
           refine Hd.yv y_mv ?_; refine Hd.yv y_np ?_; refine Hd.yv (y_f 0 38 Tryz.underlying41 sz38) ?_; refine Hd.yv (y_l1 ag38 rfl) ?_; refine Hd.callE rfl fk141 (wsignals_ct _ wb w hb2) sq ?_; rintro ⟨sa, sc⟩; dsimp only; refine Hd.yv y_as ?_; refine Hd.fk [(0, _), (24, _)] hK35 ?_; refine Hd.sr fun _ hK36 => ?_
           refine Hd.yv y_mv ?_; refine Hd.yv y_np ?_; refine Hd.yv (y_f 1 39 Tryz.underlying41 sz39) ?_; refine Hd.yv (y_l1 ag39 rfl) ?_; refine Hd.callE rfl fk142 (Rf.rSignals_ct _ rb w hw hb2) sq ?_; rintro ⟨va, vc⟩; dsimp only; refine Hd.yv y_as ?_; refine Hd.fk [(24, _), (25, _)] hK36 ?_; refine Hd.seq fun _ hK37 => ?_
           refine Hd.sr fun _ hK38 => ?_
           refine Hd.yv y_mv ?_; refine Hd.yv (y_len Tryz.underlying238 rfl) ?_; refine Hd.yv y_mv ?_; refine Hd.yv (y_len Tryz.underlying238 rfl) ?_; refine Hd.yv (y_neq rfl rfl) ?_; refine Hd.fk [(24, _), (25, _), (265, _)] hK38 ?_; refine Hd.cond rfl (fun hc10 => ?_) (fun hc10 => ?_)
           ·
            try simp only [hyA, hyB, hyC, ne_eq] at hc10
            exact absurd trivial hc10
           ·
            try simp only [hyA, hyB, hyC, ne_eq] at hc10
            refine Hd.skip ?_; refine Hd.toK hK37 ?_; refine Hd.sr fun _ hK39 => ?_
            refine Hd.yv y_mv ?_; refine Hd.yv (y_len Tryz.underlying238 rfl) ?_; refine Hd.yv y_mv ?_; refine Hd.fk [(24, _), (25, _), (267, _), (268, _)] hK39 ?_; refine Hd.block ?_; refine Hd.loopK (ι := Nat) [(24, _), (25, _), (267, _)] (fun i => [(268, .int .i64 (i : Int))]) (fun i => pu (i ≤ (sigR w).1.length) :: own 241 2 va (sigR w).1.length vc ((sigR w).1.flatMap encCn) :: own 241 2 sa (sigR w).1.length sc ((sigR w).1.flatMap encCn) :: BoP pb wb rb :: WorldP wb (sigR w).2 :: Rf.RwP rb (sigR w).2 :: L) (fun i => (sigR w).1.length - i) 0 sbq sbq (Ent.sep (.pure (by omega) enn)) ?_; intro i
            try dsimp only
            refine Hd.pure (fun hp0 => ?_)
            try dsimp only at hp0
            refine Hd.sr fun _ hK40 => ?_
            refine Hd.yv (y_lss rfl rfl) ?_; refine Hd.fk [(24, _), (25, _), (267, _), (268, _), (269, _)] hK40 ?_; refine Hd.seq fun _ hK41 => ?_
            refine Hd.cond rfl (fun hc11 => ?_) (fun hc11 => ?_)
            ·
             try simp only [hyA, hyB, hyC, ne_eq] at hc11
             have hi : i < (sigR w).1.length := by omega
             obtain ⟨q, hq⟩ : ∃ q, (sigR w).1[i]? = some q := ⟨_, List.getElem?_eq_getElem hi⟩
             refine Hd.skip ?_; refine Hd.toK hK41 ?_; refine Hd.seq fun _ hK42 => ?_
             refine Hd.block ?_; refine Hd.sr fun _ hK43 => ?_
             refine Hd.yv y_mv ?_; refine Hd.yv y_as ?_; refine Hd.fk [(24, _), (25, _), (26, _), (267, _), (268, _)] hK43 ?_; refine Hd.seq fun _ hK44 => ?_
             refine Hd.quiet mixed kq ?_; refine Hq.yv y_mv ?_; refine Hq.yv y_mv ?_; refine Hq.yv (y_idxR Tryz.underlying238 sz241 rfl rfl (by omega) (by exact RdS.own pkk)) ?_; refine Hq.yv (y_loadRn (vs := encCn q) ag241 rfl (RdS.own (ad := sa) (us := (sigR w).1.flatMap encCn) pkk) (flat_cells encCn 2 (fun _ => rfl) hq) sz241 (by simp)) ?_; refine Hq.yv y_mv ?_; refine Hq.yv y_mv ?_; refine Hq.yv (y_idxR Tryz.underlying238 sz241 rfl rfl (by omega) (by exact RdS.own pkk)) ?_; refine Hq.yv (y_loadRn (vs := encCn q) ag241 rfl (RdS.own (ad := va) (us := (sigR w).1.flatMap encCn) pkk) (flat_cells encCn 2 (fun _ => rfl) hq) sz241 (by simp)) ?_; refine Hq.yv (y_neq_agg rfl rfl eqt241 rfl ⟨rfl, rfl⟩) ?_; refine Hq.nil ?_; refine Hd.sk [(24, _), (25, _), (267, _), (268, _), (279, _)] hK44 ?_; refine Hd.cond rfl (fun hc12 => ?_) (fun hc12 => ?_)
             ·
              try simp only [hyA, hyB, hyC, ne_eq] at hc12
              simp [allEq, eqv] at hc12
             ·
              try simp only [hyA, hyB, hyC, ne_eq] at hc12
              refine Hd.skip ?_; refine Hd.inB ?_; refine Hd.toK hK42 ?_; refine Hd.region ?_; refine Hd.yv (y_addn rfl rfl (by simp only [InK]; omega)) ?_; refine Hd.yv y_mv ?_; refine Hd.nil ?_; refine Hd.slots [(24, _), (25, _), (267, _), (268, _)] sbq ?_; clear hK1 hK2 hK3 hK4 hK8 hK12 hK15 hK18 hK21 hK25 hK28 hK31 hK34 hK35 hK36 hK37 hK38 hK39 hK40 hK41 hK42 hK43 hK44; refine Hd.thenN ?_; exact Hd.again (i + 1) (by omega) sbq (Ent.sep (.pure (by omega) enn))
            ·
             try simp only [hyA, hyB, hyC, ne_eq] at hc11
             refine Hd.exit ?_; refine Hd.thenExit ?_; refine Hd.thenExit ?_; refine Hd.inBexit ?_; refine Hd.inB ?_; refine Hd.toK hK2 ?_; refine Hd.sr fun _ hK45 => ?_
             refine Hd.yv y_as ?_; refine Hd.fk [(6, _)] hK45 ?_; refine Hd.ret ?_; clear hK1 hK2 hK3 hK4 hK8 hK12 hK15 hK18 hK21 hK25 hK28 hK31 hK34 hK35 hK36 hK37 hK38 hK39 hK40 hK41 hK45; rw [do_18 hc9]; exact Hd.ret1 rfl () rfl sq
          ·
           try simp only [hyA, hyB, hyC, ne_eq] at hc9
           refine Hd.sr fun _ hK46 => ?_
           refine Hd.yv (y_eql rfl rfl) ?_; refine Hd.yv y_as ?_; refine Hd.fk [(0, _), (4, _), (33, _), (281, _)] hK46 ?_; refine Hd.cond rfl (fun hc13 => ?_) (fun hc13 => ?_)
           ·
            try simp only [hyA, hyB, hyC, ne_eq] at hc13
            refine Hd.seq fun _ hK47 => ?_
            refine Hd.drawsH ([BoP pb wb rb, pt b4 (encO o) 33]) (fun _ => true) mixed ?_; simp only [List.length, Nat.zero_add, Nat.reduceAdd]; refine Hd.takeH 0 rfl kq kq kq kq y_mv fq sq ?_; refine Hd.takeH 1 rfl kq kq kq kq y_np fq sq ?_; refine Hd.takeH 2 rfl kq kq kq kq (y_f 0 38 Tryz.underlying41 sz38) fq sq ?_; refine Hd.takeH 3 rfl kq kq kq kq (y_l1 ag38 rfl) fq sq ?_; refine Hd.takeH 4 rfl kq kq kq kq (y_f 1 3 Tryz.underlying33 sz3) fq sq ?_; refine Hd.takeH 5 rfl kq kq kq kq (y_l1 ag3 rfl) fq sq ?_; refine Hd.takeH 6 rfl kq kq kq kq (y_f 2 3 Tryz.underlying33 sz3) fq sq ?_; refine Hd.takeH 7 rfl kq kq kq kq (y_l1 ag3 rfl) fq sq ?_; refine Hd.onlyH 8 rfl kq ?_; refine Hd.callE rfl fk143 (wnotice_ct _ wb w hb2 o.a o.n) sq ?_; intro _; refine Hd.nil ?_; refine Hd.thenN ?_; refine Hd.heldK (J := (fun _ => true)) (i := 8) sq ?_; refine Hd.takeH 9 rfl kq kq kq kq y_as fq sq ?_; refine Hd.endH kq ?_
            refine Hd.sk [(0, _), (4, _), (27, _)] hK47 ?_; refine Hd.seq fun _ hK48 => ?_
            refine Hd.drawsH ([BoP pb wb rb, pt b4 (encO o) 33]) (fun _ => true) mixed ?_; simp only [List.length, Nat.zero_add, Nat.reduceAdd]; refine Hd.takeH 0 rfl kq kq kq kq y_mv fq sq ?_; refine Hd.takeH 1 rfl kq kq kq kq y_mv fq sq ?_; refine Hd.takeH 2 rfl kq kq kq kq y_np fq sq ?_; refine Hd.takeH 3 rfl kq kq kq kq (y_f 1 39 Tryz.underlying41 sz39) fq sq ?_; refine Hd.takeH 4 rfl kq kq kq kq (y_l1 ag39 rfl) fq sq ?_; refine Hd.takeH 5 rfl kq kq kq kq (y_f 1 3 Tryz.underlying33 sz3) fq sq ?_; refine Hd.takeH 6 rfl kq kq kq kq (y_l1 ag3 rfl) fq sq ?_; refine Hd.takeH 7 rfl kq kq kq kq (y_f 2 3 Tryz.underlying33 sz3) fq sq ?_; refine Hd.takeH 8 rfl kq kq kq kq (y_l1 ag3 rfl) fq sq ?_; refine Hd.onlyH 9 rfl kq ?_; refine Hd.callE rfl fk144 (Rf.rNotice_ct _ rb w hw hb2 o.a o.n) sq ?_; intro _; refine Hd.nil ?_; refine Hd.thenN ?_; refine Hd.heldK (J := (fun _ => true)) (i := 9) sq ?_; refine Hd.takeH 10 rfl kq kq kq kq (y_eqlT rfl rfl) fq sq ?_
            refine Hd.takeH 11 rfl kq kq kq kq y_as fq sq ?_; refine Hd.endH kq ?_; refine Hd.sk [(6, _)] hK48 ?_; refine Hd.ret ?_; refine Hd.inBret ?_; refine Hd.thenRet ?_; clear hK1 hK2 hK3 hK4 hK8 hK12 hK15 hK18 hK21 hK25 hK28 hK31 hK34 hK46 hK47 hK48; rw [do_19 hc13]; exact Hd.ret1 rfl () (by rfl) sq
           ·
            try simp only [hyA, hyB, hyC, ne_eq] at hc13
            refine Hd.sr fun _ hK49 => ?_
            refine Hd.yv (y_eql rfl rfl) ?_; refine Hd.yv y_as ?_; refine Hd.fk [(0, _), (4, _), (303, _)] hK49 ?_; refine Hd.cond rfl (fun hc14 => ?_) (fun hc14 => ?_)
            ·
             try simp only [hyA, hyB, hyC, ne_eq] at hc14
             refine Hd.seq fun _ hK50 => ?_
             refine Hd.quiet mixed kq ?_; refine Hq.yv y_mv ?_; refine Hq.yv y_np ?_; refine Hq.yv (y_f 0 38 Tryz.underlying41 sz38) ?_; refine Hq.yv (y_l1 ag38 rfl) ?_; refine Hq.yv (y_f 1 3 Tryz.underlying33 sz3) ?_; refine Hq.yv (y_l1 ag3 rfl) ?_; refine Hq.call rfl fk71 ((wwire_ct _ wb w o.a).swap sq sq) ?_; refine Hq.yv y_mv ?_; refine Hq.yv y_ex ?_; refine Hq.yv y_ex ?_; refine Hq.yv y_as ?_; refine Hq.yv y_as ?_; refine Hq.nil ?_; refine Hd.sk [(0, _), (4, _), (28, _), (29, _)] hK50 ?_; refine Hd.seq fun _ hK51 => ?_
             refine Hd.quiet mixed kq ?_; refine Hq.yv y_mv ?_; refine Hq.yv y_np ?_; refine Hq.yv (y_f 1 39 Tryz.underlying41 sz39) ?_; refine Hq.yv (y_l1 ag39 rfl) ?_; refine Hq.yv (y_f 1 3 Tryz.underlying33 sz3) ?_; refine Hq.yv (y_l1 ag3 rfl) ?_; refine Hq.call rfl fk79 ((Rf.rWire_ct _ rb w hw o.a).swap sq sq) ?_; refine Hq.yv y_mv ?_; refine Hq.yv y_ex ?_; refine Hq.yv y_ex ?_; refine Hq.yv y_as ?_; refine Hq.yv y_as ?_; refine Hq.nil ?_; refine Hd.sk [(28, _), (29, _), (30, _), (31, _)] hK51 ?_; refine Hd.sr fun _ hK52 => ?_
             refine Hd.yv y_mv ?_; refine Hd.yv y_mv ?_; refine Hd.yv (y_eqlT rfl rfl) ?_; refine Hd.yv y_mv ?_; apply Hd.andg 4 328 332 [] rfl trivial
             ·intro hg49_328
              try simp only [hyA, hyB, hyC, ne_eq] at hg49_328
              simp only [List.take]; refine Hd.yg rfl rfl y_mv ?_; refine Hd.yg rfl rfl y_mv ?_; refine Hd.yg rfl rfl (y_eqlT rfl rfl) ?_; refine Hd.yv (y_pickT rfl rfl) ?_; refine Hd.nil ?_; exact Hd.mq
             ·intro hg49_328
              try simp only [hyA, hyB, hyC, ne_eq] at hg49_328
              simp only [List.take]; refine Hd.ng rfl rfl rfl ?_; refine Hd.ng rfl rfl rfl ?_; refine Hd.ng rfl rfl rfl ?_; refine Hd.yv (y_pickF rfl rfl) ?_; refine Hd.nil ?_; exact Hd.mq
             simp only [List.drop]; refine Hd.yv y_as ?_; refine Hd.fk [(6, _)] hK52 ?_; refine Hd.ret ?_; refine Hd.inBret ?_; refine Hd.thenRet ?_; clear hK1 hK2 hK3 hK4 hK8 hK12 hK15 hK18 hK21 hK25 hK28 hK31 hK34 hK46 hK49 hK50 hK51 hK52; rw [do_oth (by omega)]; exact Hd.ret1 rfl () (by rfl) sq
            ·
             try simp only [hyA, hyB, hyC, ne_eq] at hc14
             refine Hd.skip ?_; refine Hd.inB ?_; refine Hd.toK hK2 ?_; refine Hd.sr fun _ hK53 => ?_
             refine Hd.yv y_as ?_; refine Hd.fk [(6, _)] hK53 ?_; refine Hd.ret ?_; clear hK1 hK2 hK3 hK4 hK8 hK12 hK15 hK18 hK21 hK25 hK28 hK31 hK34 hK46 hK49 hK53; rw [do_oth (by omega)]; exact Hd.ret1 rfl () rfl sq
end Wo
end Go.Proofs.YtbfddabjbkohdaaGreat
namespace Go.Proofs.YtbfddabjbkohdaaGreat
set_option maxHeartbeats 2000000
set_option linter.unusedSimpArgs false
set_option linter.unusedVariables false
set_option linter.unnecessarySimpa false
open Go.RX Fx
namespace Wo
set_option maxRecDepth 8000
open Rf (badK mkErr mkLst mk_bad mk_no mk_yes)
def mkA (w : WA) (k n : Int) : Int := if badK k n then 0 else mkI w (mkKE k) 0
def mkB (w : WA) (k n : Int) : Int := if badK k n then 0 else if k ≤ 1 then mkI w 2 1 else mkN w 1
theorem bad_of {k n : Int} (hk : k ≠ 3) : badK k n ↔ (n < 1 ∨ 65536 < n) := by unfold badK; omega
theorem wmk0_ct (L : List SP) (wb : Nat) (w : WA) (k n : Int) (hk : k = 0) : Ct Tryz.prog 54 #[.pointer (some ⟨wb, 0, none⟩), .int .i64 n] (WorldP wb w :: L) (fun _ : Unit => .tuple #[.int .i64 (mkA w k n), .int .i64 (mkB w k n), .int .i64 (mkErr w k n)]) (fun _ => WorldP wb (makeR w k n) :: L) := by
 subst hk
 by_cases h : badK 0 n
 ·obtain ⟨e1, _, e3⟩ := mk_bad (w := w) h
  rw [show mkA w 0 n = 0 from if_pos h, show mkB w 0 n = 0 from if_pos h, e1, e3]; exact pipe_bad L wb w n ((bad_of (by decide)).1 h)
 ·rw [show mkA w 0 n = mkI w 2 0 from if_neg h, show mkB w 0 n = mkI w 2 1 from if_neg h, show mkErr w 0 n = mkE w 2 from if_neg h, show makeR w 0 n = mkW w 2 (pipeW n.toNat) from if_neg h]
  rw [bad_of (by decide)] at h
  obtain ⟨m, rfl⟩ : ∃ m : Nat, n = (m : Int) := ⟨n.toNat, by omega⟩
  exact pipe_mk L wb w m (by omega) (by omega)
theorem wmk1_ct (L : List SP) (wb : Nat) (w : WA) (k n : Int) (hk : k = 1) : Ct Tryz.prog 55 #[.pointer (some ⟨wb, 0, none⟩), .int .i64 n] (WorldP wb w :: L) (fun _ : Unit => .tuple #[.int .i64 (mkA w k n), .int .i64 (mkB w k n), .int .i64 (mkErr w k n)]) (fun _ => WorldP wb (makeR w k n) :: L) := by
 subst hk
 by_cases h : badK 1 n
 ·obtain ⟨e1, _, e3⟩ := mk_bad (w := w) h
  rw [show mkA w 1 n = 0 from if_pos h, show mkB w 1 n = 0 from if_pos h, e1, e3]; exact pairbad_ct L wb w n ((bad_of (by decide)).1 h)
 ·rw [show mkA w 1 n = mkI w 2 0 from if_neg h, show mkB w 1 n = mkI w 2 1 from if_neg h, show mkErr w 1 n = mkE w 2 from if_neg h, show makeR w 1 n = mkW w 2 (halfW n.toNat 2) from if_neg h]
  rw [bad_of (by decide)] at h
  obtain ⟨m, rfl⟩ : ∃ m : Nat, n = (m : Int) := ⟨n.toNat, by omega⟩
  exact pair_ct L wb w m (by omega) (by omega)
theorem wmk2_ct (L : List SP) (wb : Nat) (w : WA) (k n : Int) (hk : k = 2) : Ct Tryz.prog 50 #[.pointer (some ⟨wb, 0, none⟩), .int .i64 n] (WorldP wb w :: L) (fun _ : Unit => .tuple #[.int .i64 (mkA w k n), .int .i64 (mkB w k n), .int .i64 (mkErr w k n)]) (fun _ => WorldP wb (makeR w k n) :: L) := by
 subst hk
 by_cases h : badK 2 n
 ·obtain ⟨e1, _, e3⟩ := mk_bad (w := w) h
  rw [show mkA w 2 n = 0 from if_pos h, show mkB w 2 n = 0 from if_pos h, e1, e3]; exact outer_bad L wb w n ((bad_of (by decide)).1 h)
 ·rw [show mkA w 2 n = mkI w 1 0 from if_neg h, show mkB w 2 n = mkN w 1 from if_neg h, show mkErr w 2 n = mkE w 1 from if_neg h, show makeR w 2 n = mkW w 1 (connW n.toNat) from if_neg h]
  rw [bad_of (by decide)] at h
  obtain ⟨m, rfl⟩ : ∃ m : Nat, n = (m : Int) := ⟨n.toNat, by omega⟩
  exact outer_mk L wb w m (by omega) (by omega)
theorem wmk3_ct (L : List SP) (wb : Nat) (w : WA) (k n : Int) (hk : k = 3) : Ct Tryz.prog 56 #[.pointer (some ⟨wb, 0, none⟩), .int .i64 n] (WorldP wb w :: L) (fun _ : Unit => .tuple #[.int .i64 (mkA w k n), .int .i64 (mkB w k n), .int .i64 (mkErr w k n)]) (fun _ => WorldP wb (makeR w k n) :: L) := by
 subst hk
 by_cases h : badK 3 n
 ·obtain ⟨e1, _, e3⟩ := mk_bad (w := w) h
  rw [show mkA w 3 n = 0 from if_pos h, show mkB w 3 n = 0 from if_pos h, e1, e3]; exact listen_bad L wb w n (by unfold badK at h; omega)
 ·rw [show mkA w 3 n = mkI w 1 0 from if_neg h, show mkB w 3 n = mkN w 1 from if_neg h, show mkErr w 3 n = mkE w 1 from if_neg h, show makeR w 3 n = mkW w 1 (listW n.toNat) from if_neg h]
  unfold badK at h
  obtain ⟨m, rfl⟩ : ∃ m : Nat, n = (m : Int) := ⟨n.toNat, by omega⟩
  exact listen_mk L wb w m (by omega) (by omega)
structure MadeOk (a b e wire : Int) (l : List Nat) : Prop where
 no : e ≠ 0 → a = 0 ∧ b = 0
 yes : e = 0 → ∃ f t, l = f :: t ∧ a = ((f : Nat) : Int) ∧ ((t = [] ∧ b = wire) ∨ ∃ g, t = [g] ∧ b = ((g : Nat) : Int))
theorem made_ok (w : WA) {k : Int} (hk : 0 ≤ k ∧ k ≤ 3) (n : Int) : MadeOk (mkA w k n) (mkB w k n) (mkErr w k n) (((makeR w k n).ws.length : Nat) - 1) (mkLst w k n) := by
 by_cases h : badK k n
 ·obtain ⟨e1, e2, e3⟩ := mk_bad (w := w) h
  exact ⟨fun _ => ⟨if_pos h, if_pos h⟩, fun e => by rw [e1] at e; exact absurd e (by decide)⟩
 have hA : mkA w k n = mkI w (mkKE k) 0 := if_neg h
 have hB : mkB w k n = if k ≤ 1 then mkI w 2 1 else mkN w 1 := if_neg h
 cases ho : mkOk w (mkKE k) with
 | false =>
  obtain ⟨e1, e2, e3⟩ := mk_no (w := w) h ho
  have hF : mkF w (mkKE k) = [] := by unfold mkF; rw [ho]; rfl
  refine ⟨fun _ => ⟨by rw [hA]; unfold mkI; rw [hF]; rfl, ?_⟩, fun e => by rw [e1] at e; exact absurd e (by decide)⟩; rw [hB]
  by_cases h1 : k ≤ 1
  ·rw [if_pos h1]
   have : mkKE k = 2 := if_pos (by omega)
   rw [this] at hF; unfold mkI; rw [hF]; rfl
  ·rw [if_neg h1]
   have : mkKE k = 1 := if_neg (by omega)
   rw [this] at ho; unfold mkN mkE; rw [ho]; rfl
 | true =>
  obtain ⟨e1, e2, e3⟩ := mk_yes (w := w) h ho
  have hF : mkF w (mkKE k) = (frees w.at).take (mkKE k) := by unfold mkF; rw [ho]; rfl
  have hl : ((frees w.at).take (mkKE k)).length = mkKE k := by unfold mkOk at ho; simp only [Bool.and_eq_true, decide_eq_true_eq] at ho; omega
  refine ⟨fun e => absurd e1 e, fun _ => ?_⟩; rw [e2, hA, hB]; unfold mkI; rw [hF]
  by_cases h1 : k ≤ 1
  ·have h2 : mkKE k = 2 := if_pos (by omega)
   rw [h2] at hl hF ⊢; rw [if_pos h1, hF]
   obtain ⟨f, g, hfg⟩ : ∃ f g, (frees w.at).take 2 = [f, g] := by
    match hm : (frees w.at).take 2, hl with
    | [f, g], _ => exact ⟨f, g, rfl⟩
   rw [hfg]; exact ⟨f, [g], rfl, rfl, .inr ⟨g, rfl, rfl⟩⟩
  ·have h2 : mkKE k = 1 := if_neg (by omega)
   rw [h2] at hl ho ⊢; rw [if_neg h1]
   obtain ⟨f, hf⟩ : ∃ f, (frees w.at).take 1 = [f] := by
    match hm : (frees w.at).take 1, hl with
    | [f], _ => exact ⟨f, rfl⟩
   rw [hf]; refine ⟨f, [], rfl, rfl, .inl ⟨rfl, ?_⟩⟩
   have he : mkE w 1 = 0 := by unfold mkE; rw [ho]; rfl
   rw [show mkN w 1 = (w.ws.length : Int) from if_pos he]
   have : makeR w k n = mkW w 1 (mkKW k n) := by
    rw [← h2]; exact if_neg h
   rw [this, mkW_len he]; omega
theorem made_ct (L : List SP) (a b e wire : Int) (l : List Nat) (ad : Option Addr) (c : Nat) (hR : RdS L 1 ad l.length (nats l)) (h : MadeOk a b e wire l) : Ct Tryz.prog 58 #[.int .i64 a, .int .i64 b, .int .i64 e, .slice ad l.length c, .int .i64 wire, .int .i64 e] (L) (fun _ : Unit => .bool true) (fun _ : Unit => L) := by
 refine Ct.of (vs := [.int .i64 a, .int .i64 b, .int .i64 e, .slice ad l.length c, .int .i64 wire, .int .i64 e]) Tryz.func58 rfl rfl [(0, .int .i64 a), (1, .int .i64 b), (2, .int .i64 e), (3, .slice ad l.length c), (4, .int .i64 wire), (5, .int .i64 e)] sbq ?_; intro E
 show Hd E 55 _ _ _ _
 refine Hd.sr fun _ hK1 => ?_
 refine Hd.yv y_as ?_; refine Hd.fk [(0, _), (1, _), (2, _), (3, _), (4, _), (5, _)] hK1 ?_; refine Hd.seq fun _ hK2 => ?_
 refine Hd.sr fun _ hK3 => ?_
 refine Hd.yv y_mv ?_; refine Hd.yv (y_neq rfl rfl) ?_; refine Hd.yv y_mv ?_; apply Hd.org 3 15 18 [(0, _), (1, _), (2, _), (3, _), (4, _), (5, _)] rfl ⟨rfl, rfl, rfl, rfl, rfl, rfl, trivial⟩
 ·intro hg1_15
  try simp only [hyA, hyB, hyC, ne_eq] at hg1_15
  simp only [List.take]; refine Hd.ng rfl rfl rfl ?_; refine Hd.ng rfl rfl rfl ?_; refine Hd.yv (y_pickT rfl rfl) ?_; refine Hd.nil ?_; exact Hd.mq
 ·intro hg1_15
  try simp only [hyA, hyB, hyC, ne_eq] at hg1_15
  simp only [List.take]; refine Hd.yg rfl rfl y_mv ?_; refine Hd.yg rfl rfl (y_neq rfl rfl) ?_; refine Hd.yv (y_pickF rfl rfl) ?_; refine Hd.nil ?_; exact Hd.mq
 simp only [List.drop]; refine Hd.fk [(0, _), (1, _), (2, _), (3, _), (4, _), (5, _), (18, _)] hK3 ?_; refine Hd.cond rfl (fun hc0 => ?_) (fun hc0 => ?_)
 ·
  try simp only [hyA, hyB, hyC, ne_eq] at hc0
  refine Hd.sr fun _ hK4 => ?_
  refine Hd.yv y_mv ?_; refine Hd.yv y_mv ?_; refine Hd.yv (y_eqlT rfl rfl) ?_; refine Hd.yv y_mv ?_; apply Hd.andg 3 22 25 [(1, _)] rfl ⟨rfl, trivial⟩
  ·intro hg2_22
   try simp only [hyA, hyB, hyC, ne_eq] at hg2_22
   simp only [List.take]; refine Hd.yg rfl rfl y_mv ?_; refine Hd.yg rfl rfl (y_eql rfl rfl) ?_; refine Hd.yv (y_pickT rfl rfl) ?_; refine Hd.nil ?_; exact Hd.mq
  ·intro hg2_22
   try simp only [hyA, hyB, hyC, ne_eq] at hg2_22
   simp only [List.take]; refine Hd.ng rfl rfl rfl ?_; refine Hd.ng rfl rfl rfl ?_; refine Hd.yv (y_pickF rfl rfl) ?_; refine Hd.nil ?_; exact Hd.mq
  simp only [List.drop]; refine Hd.yv y_mv ?_; apply Hd.andg 3 26 29 [] rfl trivial
  ·intro hg2_26
   try simp only [hyA, hyB, hyC, ne_eq] at hg2_26
   simp only [List.take]; refine Hd.yg rfl rfl y_mv ?_; refine Hd.yg rfl rfl (y_eql rfl rfl) ?_; refine Hd.yv (y_pickT rfl rfl) ?_; refine Hd.nil ?_; exact Hd.mq
  ·intro hg2_26
   try simp only [hyA, hyB, hyC, ne_eq] at hg2_26
   simp only [List.take]; refine Hd.ng rfl rfl rfl ?_; refine Hd.ng rfl rfl rfl ?_; refine Hd.yv (y_pickF rfl rfl) ?_; refine Hd.nil ?_; exact Hd.mq
  simp only [List.drop]; refine Hd.yv y_as ?_; refine Hd.fk [(12, _)] hK4 ?_; refine Hd.ret ?_; refine Hd.thenRet ?_; clear hK1 hK2 hK3 hK4
  obtain ⟨rfl, rfl⟩ := h.no (by omega)
  exact Hd.ret1 rfl () rfl sq
 ·
  try simp only [hyA, hyB, hyC, ne_eq] at hc0
  obtain ⟨f, t, rfl, rfl, ht⟩ := h.yes (by omega)
  have hln : 0 < (f :: t).length := Nat.succ_pos _
  refine Hd.skip ?_; refine Hd.toK hK2 ?_; refine Hd.seq fun _ hK5 => ?_
  refine Hd.sr fun _ hK6 => ?_
  refine Hd.yv y_mv ?_; refine Hd.yv (y_len Tryz.underlying44 rfl) ?_; refine Hd.yv (y_eql rfl rfl) ?_; refine Hd.fk [(0, _), (1, _), (3, _), (4, _), (32, _)] hK6 ?_; refine Hd.cond rfl (fun hc1 => ?_) (fun hc1 => ?_)
  ·
   try simp only [hyA, hyB, hyC, ne_eq] at hc1
   obtain ⟨g, rfl, rfl⟩ : ∃ g, t = [g] ∧ b = ((g : Nat) : Int) := by
    rcases ht with ⟨rfl, _⟩ | h1
    ·simp at hc1
    ·exact h1
   refine Hd.sr fun _ hK7 => ?_
   refine Hd.yv y_mv ?_; refine Hd.yv y_mv ?_; refine Hd.yv (y_idxR Tryz.underlying44 sz3 rfl rfl (by exact (show (0 : Nat) < _ by omega)) (by exact hR)) ?_; refine Hd.yv (y_loadR1 ag3 rfl (by exact hR) (by rfl)) ?_; refine Hd.yv (y_eqlT rfl rfl) ?_; refine Hd.yv y_mv ?_; apply Hd.andg 6 38 44 [] rfl trivial
   ·intro hg4_38
    try simp only [hyA, hyB, hyC, ne_eq] at hg4_38
    simp only [List.take]; refine Hd.yg rfl rfl y_mv ?_; refine Hd.yg rfl rfl y_mv ?_; refine Hd.yg rfl rfl (y_idxR Tryz.underlying44 sz3 rfl rfl (by exact (show (1 : Nat) < _ by omega)) (by exact hR)) ?_; refine Hd.yg rfl rfl (y_loadR1 ag3 rfl (by exact hR) (by rfl)) ?_; refine Hd.yg rfl rfl (y_eqlT rfl rfl) ?_; refine Hd.yv (y_pickT rfl rfl) ?_; refine Hd.nil ?_; exact Hd.mq
   ·intro hg4_38
    try simp only [hyA, hyB, hyC, ne_eq] at hg4_38
    simp only [List.take]; refine Hd.ng rfl rfl rfl ?_; refine Hd.ng rfl rfl rfl ?_; refine Hd.ng rfl rfl rfl ?_; refine Hd.ng rfl rfl rfl ?_; refine Hd.ng rfl rfl rfl ?_; refine Hd.yv (y_pickF rfl rfl) ?_; refine Hd.nil ?_; exact Hd.mq
   simp only [List.drop]; refine Hd.yv y_as ?_; refine Hd.fk [(12, _)] hK7 ?_; refine Hd.ret ?_; refine Hd.thenRet ?_; clear hK1 hK2 hK3 hK5 hK6 hK7; exact Hd.ret1 rfl () (by rfl) sq
  ·
   try simp only [hyA, hyB, hyC, ne_eq] at hc1
   obtain ⟨rfl, rfl⟩ : t = [] ∧ b = wire := by
    rcases ht with h1 | ⟨g, rfl, _⟩
    ·exact h1
    ·exact absurd rfl hc1
   refine Hd.skip ?_; refine Hd.toK hK5 ?_; refine Hd.sr fun _ hK8 => ?_
   refine Hd.yv y_mv ?_; refine Hd.yv y_mv ?_; refine Hd.yv (y_idxR Tryz.underlying44 sz3 rfl rfl (by exact (show (0 : Nat) < _ by omega)) (by exact hR)) ?_; refine Hd.yv (y_loadR1 ag3 rfl (by exact hR) (by rfl)) ?_; refine Hd.yv (y_eqlT rfl rfl) ?_; refine Hd.yv y_mv ?_; apply Hd.andg 4 50 54 [] rfl trivial
   ·intro hg5_50
    try simp only [hyA, hyB, hyC, ne_eq] at hg5_50
    simp only [List.take]; refine Hd.yg rfl rfl y_mv ?_; refine Hd.yg rfl rfl y_mv ?_; refine Hd.yg rfl rfl (y_eqlT rfl rfl) ?_; refine Hd.yv (y_pickT rfl rfl) ?_; refine Hd.nil ?_; exact Hd.mq
   ·intro hg5_50
    try simp only [hyA, hyB, hyC, ne_eq] at hg5_50
    simp only [List.take]; refine Hd.ng rfl rfl rfl ?_; refine Hd.ng rfl rfl rfl ?_; refine Hd.ng rfl rfl rfl ?_; refine Hd.yv (y_pickF rfl rfl) ?_; refine Hd.nil ?_; exact Hd.mq
   simp only [List.drop]; refine Hd.yv y_as ?_; refine Hd.fk [(12, _)] hK8 ?_; refine Hd.ret ?_; clear hK1 hK2 hK3 hK5 hK6 hK8; exact Hd.ret1 rfl () (by rfl) sq
theorem do_ct (L : List SP) (pb wb rb : Nat) (w : WA) (K : Nat) (hK : K ≤ 100000000) (hl : Lo K w) (o : Ov) (ht : InK .u64 o.t) (hd : o.d.length ≤ 300) (hR : RdS L 1 o.ad o.d.length (bsl o.d)) (hc : o.d.length ≤ o.c) : Ct Tryz.prog 17 #[.pointer (some ⟨pb, 0, none⟩), .agg (encO o).toArray] (BoP pb wb rb :: WorldP wb w :: Rf.RwP rb w :: L) (fun _ : Unit => .bool true) (fun _ : Unit => BoP pb wb rb :: WorldP wb (doA w o) :: Rf.RwP rb (doA w o) :: L) := by
 refine Ct.of (vs := [.pointer (some ⟨pb, 0, none⟩), .agg (encO o).toArray]) Tryz.func17 rfl rfl [(0, .pointer (some ⟨pb, 0, none⟩)), (1, .agg (encO o).toArray)] sbq ?_; intro E
 show Hd E 289 _ _ _ _
 have ht0 := ht
 simp only [InK] at ht
 have hnow := hl.now
 refine Hd.wokW (.there .here) (fun hw => ?_); refine Hd.sr fun _ hK1 => ?_
 refine Hd.box rfl rfl (fun b3 => ?_); refine Hd.yv y_as ?_; refine Hd.fk [(0, _), (3, _)] hK1 ?_; refine Hd.sr fun _ hK2 => ?_
 refine Hd.bslice (vs := []) rfl (by exact bs17_31 ..) (fun b31 => ?_); refine Hd.ownNil 5 1 (some ⟨b31, 0, none⟩) ?_; refine Hd.yv (y_f 4 31 Tryz.underlying33 sz31) ?_; refine Hd.yv (y_l1 ag31 rfl) ?_; refine Hd.append Tryz.underlying31 ty5 rfl rfl rfl pkk (by exact RdS.mono hR sq) (by simp [Value.oneCell']; done) (by simp only [maxLen]; omega) (by omega) (fun ad34 cap34 => ?_); refine Hd.yv y_as ?_; refine Hd.nil ?_; rw [Nat.zero_add, List.nil_append]; refine Hd.sk [(0, _), (3, _), (5, _)] hK2 ?_; refine Hd.seq fun _ hK3 => ?_
 refine Hd.ownCap (ad := ad34) (us := bsl o.d) pkk (fun hcap => ?_); refine Hd.region ?_; refine Hd.yv y_as ?_; refine Hd.fk [(0, _), (3, _), (5, _)] hK3 ?_; refine Hd.cutK (ι := Unit) [(5, _)] (fun _ => [(6, .bool true)]) (fun _ => own 5 1 ad34 o.d.length cap34 (bsl o.d) :: BoP pb wb rb :: WorldP wb (doA w o) :: Rf.RwP rb (doA w o) :: L) ?_ ?_ ⟨rfl, trivial⟩
 ·
  refine Hd.sr fun _ hK4 => ?_
  refine Hd.yv (y_f 0 3 Tryz.underlying33 sz3) ?_; refine Hd.yv (y_l1 ag3 rfl) ?_; refine Hd.fk [(0, _), (3, _), (5, _), (36, _)] hK4 ?_; refine Hd.block ?_; refine Hd.seq fun _ hK5 => ?_
  refine Hd.sr fun _ hK6 => ?_
  refine Hd.yv (y_eql rfl rfl) ?_; refine Hd.yv y_as ?_; refine Hd.fk [(0, _), (3, _), (5, _), (36, _), (41, _)] hK6 ?_; refine Hd.cond rfl (fun hc0 => ?_) (fun hc0 => ?_)
  ·
   try simp only [hyA, hyB, hyC, ne_eq] at hc0
   rw [decide_eq_true hc0]; refine Hd.skip ?_; refine Hd.toK hK5 ?_; refine Hd.condT rfl ?_; refine Hd.sr fun _ hK7 => ?_
   refine Hd.yv y_as ?_; refine Hd.yv y_as ?_; refine Hd.fk [(0, _), (3, _), (5, _)] hK7 ?_; refine Hd.sr fun _ hK8 => ?_
   refine Hd.yv y_as ?_; refine Hd.fk [(0, _), (3, _), (5, _)] hK8 ?_; refine Hd.seq fun _ hK9 => ?_
   refine Hd.sr fun _ hK10 => ?_
   refine Hd.yv (y_f 0 3 Tryz.underlying33 sz3) ?_; refine Hd.yv (y_l1 ag3 rfl) ?_; refine Hd.fk [(0, _), (3, _), (5, _), (47, _)] hK10 ?_; refine Hd.block ?_; refine Hd.sr fun _ hK11 => ?_
   refine Hd.yv (y_eql rfl rfl) ?_; refine Hd.yv y_as ?_; refine Hd.fk [(0, _), (3, _), (5, _), (47, _), (59, _)] hK11 ?_; refine Hd.cond rfl (fun hc4 => ?_) (fun hc4 => ?_)
   ·
    try simp only [hyA, hyB, hyC, ne_eq] at hc4
    refine Hd.drawsH ([BoP pb wb rb, pt b3 (encO o) 33]) (fun _ => true) mixed ?_; simp only [List.length, Nat.zero_add, Nat.reduceAdd]; refine Hd.takeH 0 rfl kq kq kq kq y_mv fq sq ?_; refine Hd.takeH 1 rfl kq kq kq kq y_np fq sq ?_; refine Hd.takeH 2 rfl kq kq kq kq (y_f 0 38 Tryz.underlying41 sz38) fq sq ?_; refine Hd.takeH 3 rfl kq kq kq kq (y_l1 ag38 rfl) fq sq ?_; refine Hd.takeH 4 rfl kq kq kq kq (y_f 2 3 Tryz.underlying33 sz3) fq sq ?_; refine Hd.takeH 5 rfl kq kq kq kq (y_l1 ag3 rfl) fq sq ?_; refine Hd.onlyH 6 rfl kq ?_; refine Hd.callE rfl fk54 (wmk0_ct _ wb w o.k o.n (by omega)) sq ?_; intro _; refine Hd.nil ?_; refine Hd.thenN ?_; refine Hd.heldK (J := (fun _ => true)) (i := 6) sq ?_; refine Hd.takeH 7 rfl kq kq kq kq y_mv fq sq ?_; refine Hd.takeH 8 rfl kq kq kq kq y_ex fq sq ?_; refine Hd.takeH 9 rfl kq kq kq kq y_ex fq sq ?_; refine Hd.takeH 10 rfl kq kq kq kq y_ex fq sq ?_; refine Hd.takeH 11 rfl kq kq kq kq y_as fq sq ?_
    refine Hd.takeH 12 rfl kq kq kq kq y_as fq sq ?_; refine Hd.takeH 13 rfl kq kq kq kq y_as fq sq ?_; refine Hd.endH kq ?_; refine Hd.slots [(0, _), (3, _), (5, _), (7, _), (8, _), (9, _)] sbq ?_; refine Hd.inB ?_; refine Hd.toK hK9 ?_; refine Hd.seq fun _ hK12 => ?_
    refine Hd.drawsH ([BoP pb wb rb, pt b3 (encO o) 33]) (fun _ => true) mixed ?_; simp only [List.length, Nat.zero_add, Nat.reduceAdd]; refine Hd.takeH 0 rfl kq kq kq kq y_mv fq sq ?_; refine Hd.takeH 1 rfl kq kq kq kq y_np fq sq ?_; refine Hd.takeH 2 rfl kq kq kq kq (y_f 1 39 Tryz.underlying41 sz39) fq sq ?_; refine Hd.takeH 3 rfl kq kq kq kq (y_l1 ag39 rfl) fq sq ?_; refine Hd.takeH 4 rfl kq kq kq kq (y_f 0 3 Tryz.underlying33 sz3) fq sq ?_; refine Hd.takeH 5 rfl kq kq kq kq (y_l1 ag3 rfl) fq sq ?_; refine Hd.takeH 6 rfl kq kq kq kq (y_f 2 3 Tryz.underlying33 sz3) fq sq ?_; refine Hd.takeH 7 rfl kq kq kq kq (y_l1 ag3 rfl) fq sq ?_; refine Hd.onlyH 8 rfl kq ?_; refine Hd.callE rfl fk57 (Rf.rMake_ct _ rb w hw o.k o.n (by omega)) sq ?_; rintro ⟨ma, mc⟩; dsimp only; refine Hd.nil ?_; refine Hd.thenN ?_; refine Hd.heldK (J := (fun _ => true)) (i := 8) sq ?_; refine Hd.takeH 9 rfl kq kq kq kq y_mv fq sq ?_
    refine Hd.takeH 10 rfl kq kq kq kq y_ex fq sq ?_; refine Hd.takeH 11 rfl kq kq kq kq y_ex fq sq ?_; refine Hd.takeH 12 rfl kq kq kq kq y_as fq sq ?_; refine Hd.takeH 13 rfl kq kq kq kq y_as fq sq ?_; refine Hd.endH kq ?_; refine Hd.sk [(0, _), (5, _), (7, _), (8, _), (9, _), (10, _), (11, _)] hK12 ?_; refine Hd.wokW (wb := wb) (w := makeR w o.k o.n) pkk (fun hw2 => ?_); refine Rf.Hd.rw (b := rb) (w := makeR w o.k o.n) pkk (fun i hi => ?_)
    have hrl := Rf.rows_n hi
    have hlen := hw2.len
    refine Hd.region ?_; refine Hd.yv y_mv ?_; refine Hd.yv y_mv ?_; refine Hd.yv y_mv ?_; refine Hd.yv y_mv ?_; refine Hd.yv y_mv ?_; refine Hd.yv y_np ?_; refine Hd.yv (y_f 1 39 Tryz.underlying41 sz39) ?_; refine Hd.yv (y_l1 ag39 rfl) ?_; refine Hd.yv y_np ?_; refine Hd.yv (y_f 0 129 Tryz.underlying133 sz129) ?_; refine Hd.yv (y_l1 ag129 rfl) ?_; refine Hd.yv (y_len Tryz.underlying129 rfl) ?_; refine Hd.yv (y_to (v' := .int .i64 (((makeR w o.k o.n).ws.length : Nat) - 1)) (y_subn rfl rfl (by simp only [InK]; omega)) (by (congr 1; omega))) ?_; refine Hd.yv y_mv ?_; refine Hd.callE rfl fk58 (made_ct _ _ _ _ _ _ ma mc ?hD (made_ok w (k := o.k) (by omega) o.n)) sq ?_
    case hD => exact RdS.own pkk
    intro _; refine Hd.yv y_as ?_; refine Hd.nil ?_; refine Hd.slots [(5, _), (6, _)] sbq ?_; refine Hd.inB ?_; clear hK1 hK2 hK3 hK4 hK5 hK6 hK7 hK8 hK9 hK10 hK11 hK12; refine Hd.thenN ?_; rw [do_mk ⟨by omega, by omega⟩]; exact Hd.meet () sbq (Ent.sep (.pick pkk (.pick pkk (.pick pkk (.ex i (.pure hi enn))))))
   ·
    try simp only [hyA, hyB, hyC, ne_eq] at hc4
    exact absurd hc0 hc4
  ·
   try simp only [hyA, hyB, hyC, ne_eq] at hc0
   refine Hd.sr fun _ hK13 => ?_
   refine Hd.yv (y_eql rfl rfl) ?_; refine Hd.yv y_as ?_; refine Hd.fk [(0, _), (3, _), (5, _), (36, _), (41, _)] hK13 ?_; refine Hd.cond rfl (fun hc1 => ?_) (fun hc1 => ?_)
   ·
    try simp only [hyA, hyB, hyC, ne_eq] at hc1
    rw [decide_eq_true hc1]; refine Hd.skip ?_; refine Hd.toK hK5 ?_; refine Hd.condT rfl ?_; refine Hd.sr fun _ hK14 => ?_
    refine Hd.yv y_as ?_; refine Hd.yv y_as ?_; refine Hd.fk [(0, _), (3, _), (5, _)] hK14 ?_; refine Hd.sr fun _ hK15 => ?_
    refine Hd.yv y_as ?_; refine Hd.fk [(0, _), (3, _), (5, _)] hK15 ?_; refine Hd.seq fun _ hK16 => ?_
    refine Hd.sr fun _ hK17 => ?_
    refine Hd.yv (y_f 0 3 Tryz.underlying33 sz3) ?_; refine Hd.yv (y_l1 ag3 rfl) ?_; refine Hd.fk [(0, _), (3, _), (5, _), (47, _)] hK17 ?_; refine Hd.block ?_; refine Hd.sr fun _ hK18 => ?_
    refine Hd.yv (y_eql rfl rfl) ?_; refine Hd.yv y_as ?_; refine Hd.fk [(0, _), (3, _), (5, _), (47, _), (59, _)] hK18 ?_; refine Hd.cond rfl (fun hc4 => ?_) (fun hc4 => ?_)
    ·
     try simp only [hyA, hyB, hyC, ne_eq] at hc4
     exact absurd (hc4.symm.trans hc1) (by decide)
    ·
     try simp only [hyA, hyB, hyC, ne_eq] at hc4
     refine Hd.sr fun _ hK19 => ?_
     refine Hd.yv (y_eql rfl rfl) ?_; refine Hd.yv y_as ?_; refine Hd.fk [(0, _), (3, _), (5, _), (47, _), (72, _)] hK19 ?_; refine Hd.cond rfl (fun hc5 => ?_) (fun hc5 => ?_)
     ·
      try simp only [hyA, hyB, hyC, ne_eq] at hc5
      refine Hd.drawsH ([BoP pb wb rb, pt b3 (encO o) 33]) (fun _ => true) mixed ?_; simp only [List.length, Nat.zero_add, Nat.reduceAdd]; refine Hd.takeH 0 rfl kq kq kq kq y_mv fq sq ?_; refine Hd.takeH 1 rfl kq kq kq kq y_np fq sq ?_; refine Hd.takeH 2 rfl kq kq kq kq (y_f 0 38 Tryz.underlying41 sz38) fq sq ?_; refine Hd.takeH 3 rfl kq kq kq kq (y_l1 ag38 rfl) fq sq ?_; refine Hd.takeH 4 rfl kq kq kq kq (y_f 2 3 Tryz.underlying33 sz3) fq sq ?_; refine Hd.takeH 5 rfl kq kq kq kq (y_l1 ag3 rfl) fq sq ?_; refine Hd.onlyH 6 rfl kq ?_; refine Hd.callE rfl fk55 (wmk1_ct _ wb w o.k o.n (by omega)) sq ?_; intro _; refine Hd.nil ?_; refine Hd.thenN ?_; refine Hd.heldK (J := (fun _ => true)) (i := 6) sq ?_; refine Hd.takeH 7 rfl kq kq kq kq y_mv fq sq ?_; refine Hd.takeH 8 rfl kq kq kq kq y_ex fq sq ?_; refine Hd.takeH 9 rfl kq kq kq kq y_ex fq sq ?_; refine Hd.takeH 10 rfl kq kq kq kq y_ex fq sq ?_; refine Hd.takeH 11 rfl kq kq kq kq y_as fq sq ?_
      refine Hd.takeH 12 rfl kq kq kq kq y_as fq sq ?_; refine Hd.takeH 13 rfl kq kq kq kq y_as fq sq ?_; refine Hd.endH kq ?_; refine Hd.slots [(0, _), (3, _), (5, _), (7, _), (8, _), (9, _)] sbq ?_; refine Hd.inB ?_; refine Hd.toK hK16 ?_; refine Hd.seq fun _ hK20 => ?_
      refine Hd.drawsH ([BoP pb wb rb, pt b3 (encO o) 33]) (fun _ => true) mixed ?_; simp only [List.length, Nat.zero_add, Nat.reduceAdd]; refine Hd.takeH 0 rfl kq kq kq kq y_mv fq sq ?_; refine Hd.takeH 1 rfl kq kq kq kq y_np fq sq ?_; refine Hd.takeH 2 rfl kq kq kq kq (y_f 1 39 Tryz.underlying41 sz39) fq sq ?_; refine Hd.takeH 3 rfl kq kq kq kq (y_l1 ag39 rfl) fq sq ?_; refine Hd.takeH 4 rfl kq kq kq kq (y_f 0 3 Tryz.underlying33 sz3) fq sq ?_; refine Hd.takeH 5 rfl kq kq kq kq (y_l1 ag3 rfl) fq sq ?_; refine Hd.takeH 6 rfl kq kq kq kq (y_f 2 3 Tryz.underlying33 sz3) fq sq ?_; refine Hd.takeH 7 rfl kq kq kq kq (y_l1 ag3 rfl) fq sq ?_; refine Hd.onlyH 8 rfl kq ?_; refine Hd.callE rfl fk57 (Rf.rMake_ct _ rb w hw o.k o.n (by omega)) sq ?_; rintro ⟨ma, mc⟩; dsimp only; refine Hd.nil ?_; refine Hd.thenN ?_; refine Hd.heldK (J := (fun _ => true)) (i := 8) sq ?_; refine Hd.takeH 9 rfl kq kq kq kq y_mv fq sq ?_
      refine Hd.takeH 10 rfl kq kq kq kq y_ex fq sq ?_; refine Hd.takeH 11 rfl kq kq kq kq y_ex fq sq ?_; refine Hd.takeH 12 rfl kq kq kq kq y_as fq sq ?_; refine Hd.takeH 13 rfl kq kq kq kq y_as fq sq ?_; refine Hd.endH kq ?_; refine Hd.sk [(0, _), (5, _), (7, _), (8, _), (9, _), (10, _), (11, _)] hK20 ?_; refine Hd.wokW (wb := wb) (w := makeR w o.k o.n) pkk (fun hw2 => ?_); refine Rf.Hd.rw (b := rb) (w := makeR w o.k o.n) pkk (fun i hi => ?_)
      have hrl := Rf.rows_n hi
      have hlen := hw2.len
      refine Hd.region ?_; refine Hd.yv y_mv ?_; refine Hd.yv y_mv ?_; refine Hd.yv y_mv ?_; refine Hd.yv y_mv ?_; refine Hd.yv y_mv ?_; refine Hd.yv y_np ?_; refine Hd.yv (y_f 1 39 Tryz.underlying41 sz39) ?_; refine Hd.yv (y_l1 ag39 rfl) ?_; refine Hd.yv y_np ?_; refine Hd.yv (y_f 0 129 Tryz.underlying133 sz129) ?_; refine Hd.yv (y_l1 ag129 rfl) ?_; refine Hd.yv (y_len Tryz.underlying129 rfl) ?_; refine Hd.yv (y_to (v' := .int .i64 (((makeR w o.k o.n).ws.length : Nat) - 1)) (y_subn rfl rfl (by simp only [InK]; omega)) (by (congr 1; omega))) ?_; refine Hd.yv y_mv ?_; refine Hd.callE rfl fk58 (made_ct _ _ _ _ _ _ ma mc ?hD (made_ok w (k := o.k) (by omega) o.n)) sq ?_
      case hD => exact RdS.own pkk
      intro _; refine Hd.yv y_as ?_; refine Hd.nil ?_; refine Hd.slots [(5, _), (6, _)] sbq ?_; refine Hd.inB ?_; clear hK1 hK2 hK3 hK4 hK5 hK6 hK13 hK14 hK15 hK16 hK17 hK18 hK19 hK20; refine Hd.thenN ?_; rw [do_mk ⟨by omega, by omega⟩]; exact Hd.meet () sbq (Ent.sep (.pick pkk (.pick pkk (.pick pkk (.ex i (.pure hi enn))))))
     ·
      try simp only [hyA, hyB, hyC, ne_eq] at hc5
      exact absurd hc1 hc5
   ·
    try simp only [hyA, hyB, hyC, ne_eq] at hc1
    refine Hd.sr fun _ hK21 => ?_
    refine Hd.yv (y_eql rfl rfl) ?_; refine Hd.yv y_as ?_; refine Hd.fk [(0, _), (3, _), (5, _), (36, _), (41, _)] hK21 ?_; refine Hd.cond rfl (fun hc2 => ?_) (fun hc2 => ?_)
    ·
     try simp only [hyA, hyB, hyC, ne_eq] at hc2
     rw [decide_eq_true hc2]; refine Hd.skip ?_; refine Hd.toK hK5 ?_; refine Hd.condT rfl ?_; refine Hd.sr fun _ hK22 => ?_
     refine Hd.yv y_as ?_; refine Hd.yv y_as ?_; refine Hd.fk [(0, _), (3, _), (5, _)] hK22 ?_; refine Hd.sr fun _ hK23 => ?_
     refine Hd.yv y_as ?_; refine Hd.fk [(0, _), (3, _), (5, _)] hK23 ?_; refine Hd.seq fun _ hK24 => ?_
     refine Hd.sr fun _ hK25 => ?_
     refine Hd.yv (y_f 0 3 Tryz.underlying33 sz3) ?_; refine Hd.yv (y_l1 ag3 rfl) ?_; refine Hd.fk [(0, _), (3, _), (5, _), (47, _)] hK25 ?_; refine Hd.block ?_; refine Hd.sr fun _ hK26 => ?_
     refine Hd.yv (y_eql rfl rfl) ?_; refine Hd.yv y_as ?_; refine Hd.fk [(0, _), (3, _), (5, _), (47, _), (59, _)] hK26 ?_; refine Hd.cond rfl (fun hc4 => ?_) (fun hc4 => ?_)
     ·
      try simp only [hyA, hyB, hyC, ne_eq] at hc4
      exact absurd (hc4.symm.trans hc2) (by decide)
     ·
      try simp only [hyA, hyB, hyC, ne_eq] at hc4
      refine Hd.sr fun _ hK27 => ?_
      refine Hd.yv (y_eql rfl rfl) ?_; refine Hd.yv y_as ?_; refine Hd.fk [(0, _), (3, _), (5, _), (47, _), (72, _)] hK27 ?_; refine Hd.cond rfl (fun hc5 => ?_) (fun hc5 => ?_)
      ·
       try simp only [hyA, hyB, hyC, ne_eq] at hc5
       exact absurd (hc5.symm.trans hc2) (by decide)
      ·
       try simp only [hyA, hyB, hyC, ne_eq] at hc5
       refine Hd.sr fun _ hK28 => ?_
       refine Hd.yv (y_eql rfl rfl) ?_; refine Hd.yv y_as ?_; refine Hd.fk [(0, _), (3, _), (5, _), (85, _)] hK28 ?_; refine Hd.cond rfl (fun hc6 => ?_) (fun hc6 => ?_)
       ·
        try simp only [hyA, hyB, hyC, ne_eq] at hc6
        refine Hd.drawsH ([BoP pb wb rb, pt b3 (encO o) 33]) (fun _ => true) mixed ?_; simp only [List.length, Nat.zero_add, Nat.reduceAdd]; refine Hd.takeH 0 rfl kq kq kq kq y_mv fq sq ?_; refine Hd.takeH 1 rfl kq kq kq kq y_np fq sq ?_; refine Hd.takeH 2 rfl kq kq kq kq (y_f 0 38 Tryz.underlying41 sz38) fq sq ?_; refine Hd.takeH 3 rfl kq kq kq kq (y_l1 ag38 rfl) fq sq ?_; refine Hd.takeH 4 rfl kq kq kq kq (y_f 2 3 Tryz.underlying33 sz3) fq sq ?_; refine Hd.takeH 5 rfl kq kq kq kq (y_l1 ag3 rfl) fq sq ?_; refine Hd.onlyH 6 rfl kq ?_; refine Hd.callE rfl fk50 (wmk2_ct _ wb w o.k o.n (by omega)) sq ?_; intro _; refine Hd.nil ?_; refine Hd.thenN ?_; refine Hd.heldK (J := (fun _ => true)) (i := 6) sq ?_; refine Hd.takeH 7 rfl kq kq kq kq y_mv fq sq ?_; refine Hd.takeH 8 rfl kq kq kq kq y_ex fq sq ?_; refine Hd.takeH 9 rfl kq kq kq kq y_ex fq sq ?_; refine Hd.takeH 10 rfl kq kq kq kq y_ex fq sq ?_; refine Hd.takeH 11 rfl kq kq kq kq y_as fq sq ?_
        refine Hd.takeH 12 rfl kq kq kq kq y_as fq sq ?_; refine Hd.takeH 13 rfl kq kq kq kq y_as fq sq ?_; refine Hd.endH kq ?_; refine Hd.slots [(0, _), (3, _), (5, _), (7, _), (8, _), (9, _)] sbq ?_; refine Hd.inB ?_; refine Hd.toK hK24 ?_; refine Hd.seq fun _ hK29 => ?_
        refine Hd.drawsH ([BoP pb wb rb, pt b3 (encO o) 33]) (fun _ => true) mixed ?_; simp only [List.length, Nat.zero_add, Nat.reduceAdd]; refine Hd.takeH 0 rfl kq kq kq kq y_mv fq sq ?_; refine Hd.takeH 1 rfl kq kq kq kq y_np fq sq ?_; refine Hd.takeH 2 rfl kq kq kq kq (y_f 1 39 Tryz.underlying41 sz39) fq sq ?_; refine Hd.takeH 3 rfl kq kq kq kq (y_l1 ag39 rfl) fq sq ?_; refine Hd.takeH 4 rfl kq kq kq kq (y_f 0 3 Tryz.underlying33 sz3) fq sq ?_; refine Hd.takeH 5 rfl kq kq kq kq (y_l1 ag3 rfl) fq sq ?_; refine Hd.takeH 6 rfl kq kq kq kq (y_f 2 3 Tryz.underlying33 sz3) fq sq ?_; refine Hd.takeH 7 rfl kq kq kq kq (y_l1 ag3 rfl) fq sq ?_; refine Hd.onlyH 8 rfl kq ?_; refine Hd.callE rfl fk57 (Rf.rMake_ct _ rb w hw o.k o.n (by omega)) sq ?_; rintro ⟨ma, mc⟩; dsimp only; refine Hd.nil ?_; refine Hd.thenN ?_; refine Hd.heldK (J := (fun _ => true)) (i := 8) sq ?_; refine Hd.takeH 9 rfl kq kq kq kq y_mv fq sq ?_
        refine Hd.takeH 10 rfl kq kq kq kq y_ex fq sq ?_; refine Hd.takeH 11 rfl kq kq kq kq y_ex fq sq ?_; refine Hd.takeH 12 rfl kq kq kq kq y_as fq sq ?_; refine Hd.takeH 13 rfl kq kq kq kq y_as fq sq ?_; refine Hd.endH kq ?_; refine Hd.sk [(0, _), (5, _), (7, _), (8, _), (9, _), (10, _), (11, _)] hK29 ?_; refine Hd.wokW (wb := wb) (w := makeR w o.k o.n) pkk (fun hw2 => ?_); refine Rf.Hd.rw (b := rb) (w := makeR w o.k o.n) pkk (fun i hi => ?_)
        have hrl := Rf.rows_n hi
        have hlen := hw2.len
        refine Hd.region ?_; refine Hd.yv y_mv ?_; refine Hd.yv y_mv ?_; refine Hd.yv y_mv ?_; refine Hd.yv y_mv ?_; refine Hd.yv y_mv ?_; refine Hd.yv y_np ?_; refine Hd.yv (y_f 1 39 Tryz.underlying41 sz39) ?_; refine Hd.yv (y_l1 ag39 rfl) ?_; refine Hd.yv y_np ?_; refine Hd.yv (y_f 0 129 Tryz.underlying133 sz129) ?_; refine Hd.yv (y_l1 ag129 rfl) ?_; refine Hd.yv (y_len Tryz.underlying129 rfl) ?_; refine Hd.yv (y_to (v' := .int .i64 (((makeR w o.k o.n).ws.length : Nat) - 1)) (y_subn rfl rfl (by simp only [InK]; omega)) (by (congr 1; omega))) ?_; refine Hd.yv y_mv ?_; refine Hd.callE rfl fk58 (made_ct _ _ _ _ _ _ ma mc ?hD (made_ok w (k := o.k) (by omega) o.n)) sq ?_
        case hD => exact RdS.own pkk
        intro _; refine Hd.yv y_as ?_; refine Hd.nil ?_; refine Hd.slots [(5, _), (6, _)] sbq ?_; refine Hd.inB ?_; clear hK1 hK2 hK3 hK4 hK5 hK6 hK13 hK21 hK22 hK23 hK24 hK25 hK26 hK27 hK28 hK29; refine Hd.thenN ?_; rw [do_mk ⟨by omega, by omega⟩]; exact Hd.meet () sbq (Ent.sep (.pick pkk (.pick pkk (.pick pkk (.ex i (.pure hi enn))))))
       ·
        try simp only [hyA, hyB, hyC, ne_eq] at hc6
        exact absurd hc2 hc6
    ·
     try simp only [hyA, hyB, hyC, ne_eq] at hc2
     refine Hd.region ?_; refine Hd.yv (y_eql rfl rfl) ?_; refine Hd.yv y_as ?_; refine Hd.fk [(0, _), (3, _), (5, _), (36, _), (41, _)] hK5 ?_; refine Hd.cond rfl (fun hc3 => ?_) (fun hc3 => ?_)
     ·
      try simp only [hyA, hyB, hyC, ne_eq] at hc3
      refine Hd.sr fun _ hK30 => ?_
      refine Hd.yv y_as ?_; refine Hd.yv y_as ?_; refine Hd.fk [(0, _), (3, _), (5, _)] hK30 ?_; refine Hd.sr fun _ hK31 => ?_
      refine Hd.yv y_as ?_; refine Hd.fk [(0, _), (3, _), (5, _)] hK31 ?_; refine Hd.seq fun _ hK32 => ?_
      refine Hd.sr fun _ hK33 => ?_
      refine Hd.yv (y_f 0 3 Tryz.underlying33 sz3) ?_; refine Hd.yv (y_l1 ag3 rfl) ?_; refine Hd.fk [(0, _), (3, _), (5, _), (47, _)] hK33 ?_; refine Hd.block ?_; refine Hd.sr fun _ hK34 => ?_
      refine Hd.yv (y_eql rfl rfl) ?_; refine Hd.yv y_as ?_; refine Hd.fk [(0, _), (3, _), (5, _), (47, _), (59, _)] hK34 ?_; refine Hd.cond rfl (fun hc4 => ?_) (fun hc4 => ?_)
      ·
       try simp only [hyA, hyB, hyC, ne_eq] at hc4
       exact absurd (hc4.symm.trans hc3) (by decide)
      ·
       try simp only [hyA, hyB, hyC, ne_eq] at hc4
       refine Hd.sr fun _ hK35 => ?_
       refine Hd.yv (y_eql rfl rfl) ?_; refine Hd.yv y_as ?_; refine Hd.fk [(0, _), (3, _), (5, _), (47, _), (72, _)] hK35 ?_; refine Hd.cond rfl (fun hc5 => ?_) (fun hc5 => ?_)
       ·
        try simp only [hyA, hyB, hyC, ne_eq] at hc5
        exact absurd (hc5.symm.trans hc3) (by decide)
       ·
        try simp only [hyA, hyB, hyC, ne_eq] at hc5
        refine Hd.sr fun _ hK36 => ?_
        refine Hd.yv (y_eql rfl rfl) ?_; refine Hd.yv y_as ?_; refine Hd.fk [(0, _), (3, _), (5, _), (85, _)] hK36 ?_; refine Hd.cond rfl (fun hc6 => ?_) (fun hc6 => ?_)
        ·
         try simp only [hyA, hyB, hyC, ne_eq] at hc6
         exact absurd (hc6.symm.trans hc3) (by decide)
        ·
         try simp only [hyA, hyB, hyC, ne_eq] at hc6
         refine Hd.drawsH ([BoP pb wb rb, pt b3 (encO o) 33]) (fun _ => true) mixed ?_; simp only [List.length, Nat.zero_add, Nat.reduceAdd]; refine Hd.takeH 0 rfl kq kq kq kq y_mv fq sq ?_; refine Hd.takeH 1 rfl kq kq kq kq y_np fq sq ?_; refine Hd.takeH 2 rfl kq kq kq kq (y_f 0 38 Tryz.underlying41 sz38) fq sq ?_; refine Hd.takeH 3 rfl kq kq kq kq (y_l1 ag38 rfl) fq sq ?_; refine Hd.takeH 4 rfl kq kq kq kq (y_f 2 3 Tryz.underlying33 sz3) fq sq ?_; refine Hd.takeH 5 rfl kq kq kq kq (y_l1 ag3 rfl) fq sq ?_; refine Hd.onlyH 6 rfl kq ?_; refine Hd.callE rfl fk56 (wmk3_ct _ wb w o.k o.n (by omega)) sq ?_; intro _; refine Hd.nil ?_; refine Hd.thenN ?_; refine Hd.heldK (J := (fun _ => true)) (i := 6) sq ?_; refine Hd.takeH 7 rfl kq kq kq kq y_mv fq sq ?_; refine Hd.takeH 8 rfl kq kq kq kq y_ex fq sq ?_; refine Hd.takeH 9 rfl kq kq kq kq y_ex fq sq ?_; refine Hd.takeH 10 rfl kq kq kq kq y_ex fq sq ?_; refine Hd.takeH 11 rfl kq kq kq kq y_as fq sq ?_
         refine Hd.takeH 12 rfl kq kq kq kq y_as fq sq ?_; refine Hd.takeH 13 rfl kq kq kq kq y_as fq sq ?_; refine Hd.endH kq ?_; refine Hd.slots [(0, _), (3, _), (5, _), (7, _), (8, _), (9, _)] sbq ?_; refine Hd.inB ?_; refine Hd.toK hK32 ?_; refine Hd.seq fun _ hK37 => ?_
         refine Hd.drawsH ([BoP pb wb rb, pt b3 (encO o) 33]) (fun _ => true) mixed ?_; simp only [List.length, Nat.zero_add, Nat.reduceAdd]; refine Hd.takeH 0 rfl kq kq kq kq y_mv fq sq ?_; refine Hd.takeH 1 rfl kq kq kq kq y_np fq sq ?_; refine Hd.takeH 2 rfl kq kq kq kq (y_f 1 39 Tryz.underlying41 sz39) fq sq ?_; refine Hd.takeH 3 rfl kq kq kq kq (y_l1 ag39 rfl) fq sq ?_; refine Hd.takeH 4 rfl kq kq kq kq (y_f 0 3 Tryz.underlying33 sz3) fq sq ?_; refine Hd.takeH 5 rfl kq kq kq kq (y_l1 ag3 rfl) fq sq ?_; refine Hd.takeH 6 rfl kq kq kq kq (y_f 2 3 Tryz.underlying33 sz3) fq sq ?_; refine Hd.takeH 7 rfl kq kq kq kq (y_l1 ag3 rfl) fq sq ?_; refine Hd.onlyH 8 rfl kq ?_; refine Hd.callE rfl fk57 (Rf.rMake_ct _ rb w hw o.k o.n (by omega)) sq ?_; rintro ⟨ma, mc⟩; dsimp only; refine Hd.nil ?_; refine Hd.thenN ?_; refine Hd.heldK (J := (fun _ => true)) (i := 8) sq ?_; refine Hd.takeH 9 rfl kq kq kq kq y_mv fq sq ?_
         refine Hd.takeH 10 rfl kq kq kq kq y_ex fq sq ?_; refine Hd.takeH 11 rfl kq kq kq kq y_ex fq sq ?_; refine Hd.takeH 12 rfl kq kq kq kq y_as fq sq ?_; refine Hd.takeH 13 rfl kq kq kq kq y_as fq sq ?_; refine Hd.endH kq ?_; refine Hd.sk [(0, _), (5, _), (7, _), (8, _), (9, _), (10, _), (11, _)] hK37 ?_; refine Hd.wokW (wb := wb) (w := makeR w o.k o.n) pkk (fun hw2 => ?_); refine Rf.Hd.rw (b := rb) (w := makeR w o.k o.n) pkk (fun i hi => ?_)
         have hrl := Rf.rows_n hi
         have hlen := hw2.len
         refine Hd.region ?_; refine Hd.yv y_mv ?_; refine Hd.yv y_mv ?_; refine Hd.yv y_mv ?_; refine Hd.yv y_mv ?_; refine Hd.yv y_mv ?_; refine Hd.yv y_np ?_; refine Hd.yv (y_f 1 39 Tryz.underlying41 sz39) ?_; refine Hd.yv (y_l1 ag39 rfl) ?_; refine Hd.yv y_np ?_; refine Hd.yv (y_f 0 129 Tryz.underlying133 sz129) ?_; refine Hd.yv (y_l1 ag129 rfl) ?_; refine Hd.yv (y_len Tryz.underlying129 rfl) ?_; refine Hd.yv (y_to (v' := .int .i64 (((makeR w o.k o.n).ws.length : Nat) - 1)) (y_subn rfl rfl (by simp only [InK]; omega)) (by (congr 1; omega))) ?_; refine Hd.yv y_mv ?_; refine Hd.callE rfl fk58 (made_ct _ _ _ _ _ _ ma mc ?hD (made_ok w (k := o.k) (by omega) o.n)) sq ?_
         case hD => exact RdS.own pkk
         intro _; refine Hd.yv y_as ?_; refine Hd.nil ?_; refine Hd.slots [(5, _), (6, _)] sbq ?_; refine Hd.inB ?_; clear hK1 hK2 hK3 hK4 hK5 hK6 hK13 hK21 hK30 hK31 hK32 hK33 hK34 hK35 hK36 hK37; refine Hd.thenN ?_; rw [do_mk ⟨by omega, by omega⟩]; exact Hd.meet () sbq (Ent.sep (.pick pkk (.pick pkk (.pick pkk (.ex i (.pure hi enn))))))
     ·
      try simp only [hyA, hyB, hyC, ne_eq] at hc3
      refine Hd.sr fun _ hK38 => ?_
      refine Hd.yv (y_eql rfl rfl) ?_; refine Hd.yv y_as ?_; refine Hd.fk [(0, _), (3, _), (5, _), (36, _), (125, _)] hK38 ?_; refine Hd.cond rfl (fun hc7 => ?_) (fun hc7 => ?_)
      ·
       try simp only [hyA, hyB, hyC, ne_eq] at hc7
       refine Hd.seq fun _ hK39 => ?_
       refine Hd.drawsH ([BoP pb wb rb, pt b3 (encO o) 33]) (fun _ => true) mixed ?_; simp only [List.length, Nat.zero_add, Nat.reduceAdd]; refine Hd.takeH 0 rfl kq kq kq kq y_mv fq sq ?_; refine Hd.takeH 1 rfl kq kq kq kq y_np fq sq ?_; refine Hd.takeH 2 rfl kq kq kq kq (y_f 0 38 Tryz.underlying41 sz38) fq sq ?_; refine Hd.takeH 3 rfl kq kq kq kq (y_l1 ag38 rfl) fq sq ?_; refine Hd.takeH 4 rfl kq kq kq kq (y_f 1 3 Tryz.underlying33 sz3) fq sq ?_; refine Hd.takeH 5 rfl kq kq kq kq (y_l1 ag3 rfl) fq sq ?_; refine Hd.onlyH 6 rfl kq ?_; refine Hd.callE rfl fk59 (waccept_ct _ wb w o.a) sq ?_; intro _; refine Hd.nil ?_; refine Hd.thenN ?_; refine Hd.heldK (J := (fun _ => true)) (i := 6) sq ?_; refine Hd.takeH 7 rfl kq kq kq kq y_mv fq sq ?_; refine Hd.takeH 8 rfl kq kq kq kq y_ex fq sq ?_; refine Hd.takeH 9 rfl kq kq kq kq y_ex fq sq ?_; refine Hd.takeH 10 rfl kq kq kq kq y_ex fq sq ?_; refine Hd.takeH 11 rfl kq kq kq kq y_as fq sq ?_
       refine Hd.takeH 12 rfl kq kq kq kq y_as fq sq ?_; refine Hd.takeH 13 rfl kq kq kq kq y_as fq sq ?_; refine Hd.endH kq ?_; refine Hd.sk [(0, _), (3, _), (5, _), (12, _), (13, _), (14, _)] hK39 ?_; refine Hd.seq fun _ hK40 => ?_
       refine Hd.drawsH ([BoP pb wb rb, pt b3 (encO o) 33]) (fun _ => true) mixed ?_; simp only [List.length, Nat.zero_add, Nat.reduceAdd]; refine Hd.takeH 0 rfl kq kq kq kq y_mv fq sq ?_; refine Hd.takeH 1 rfl kq kq kq kq y_np fq sq ?_; refine Hd.takeH 2 rfl kq kq kq kq (y_f 1 39 Tryz.underlying41 sz39) fq sq ?_; refine Hd.takeH 3 rfl kq kq kq kq (y_l1 ag39 rfl) fq sq ?_; refine Hd.takeH 4 rfl kq kq kq kq (y_f 1 3 Tryz.underlying33 sz3) fq sq ?_; refine Hd.takeH 5 rfl kq kq kq kq (y_l1 ag3 rfl) fq sq ?_; refine Hd.onlyH 6 rfl kq ?_; refine Hd.callE rfl fk60 (Rf.rAccept_ct _ rb w hw o.a) sq ?_; intro _; refine Hd.nil ?_; refine Hd.thenN ?_; refine Hd.heldK (J := (fun _ => true)) (i := 6) sq ?_; refine Hd.takeH 7 rfl kq kq kq kq y_mv fq sq ?_; refine Hd.takeH 8 rfl kq kq kq kq y_ex fq sq ?_; refine Hd.takeH 9 rfl kq kq kq kq y_ex fq sq ?_; refine Hd.takeH 10 rfl kq kq kq kq y_ex fq sq ?_; refine Hd.takeH 11 rfl kq kq kq kq y_as fq sq ?_
       refine Hd.takeH 12 rfl kq kq kq kq y_as fq sq ?_; refine Hd.takeH 13 rfl kq kq kq kq y_as fq sq ?_; refine Hd.endH kq ?_; refine Hd.sk [(5, _), (12, _), (13, _), (14, _), (15, _), (16, _), (17, _)] hK40 ?_; refine Hd.region ?_; refine Hd.yv y_mv ?_; refine Hd.yv y_mv ?_; refine Hd.yv (y_eqlT rfl rfl) ?_; refine Hd.yv y_mv ?_; apply Hd.andg 4 152 156 [(5, _), (14, _), (17, _)] rfl ⟨rfl, rfl, rfl, trivial⟩
       ·intro hg24_152
        try simp only [hyA, hyB, hyC, ne_eq] at hg24_152
        simp only [List.take]; refine Hd.yg rfl rfl y_mv ?_; refine Hd.yg rfl rfl y_mv ?_; refine Hd.yg rfl rfl (y_eqlT rfl rfl) ?_; refine Hd.yv (y_pickT rfl rfl) ?_; refine Hd.nil ?_; exact Hd.mq
       ·intro hg24_152
        try simp only [hyA, hyB, hyC, ne_eq] at hg24_152
        simp only [List.take]; refine Hd.ng rfl rfl rfl ?_; refine Hd.ng rfl rfl rfl ?_; refine Hd.ng rfl rfl rfl ?_; refine Hd.yv (y_pickF rfl rfl) ?_; refine Hd.nil ?_; exact Hd.mq
       simp only [List.drop]; refine Hd.yv y_mv ?_; apply Hd.andg 4 157 161 [(5, _)] rfl ⟨rfl, trivial⟩
       ·intro hg24_157
        try simp only [hyA, hyB, hyC, ne_eq] at hg24_157
        simp only [List.take]; refine Hd.yg rfl rfl y_mv ?_; refine Hd.yg rfl rfl y_mv ?_; refine Hd.yg rfl rfl (y_eqlT rfl rfl) ?_; refine Hd.yv (y_pickT rfl rfl) ?_; refine Hd.nil ?_; exact Hd.mq
       ·intro hg24_157
        try simp only [hyA, hyB, hyC, ne_eq] at hg24_157
        simp only [List.take]; refine Hd.ng rfl rfl rfl ?_; refine Hd.ng rfl rfl rfl ?_; refine Hd.ng rfl rfl rfl ?_; refine Hd.yv (y_pickF rfl rfl) ?_; refine Hd.nil ?_; exact Hd.mq
       simp only [List.drop]; refine Hd.yv y_as ?_; refine Hd.nil ?_; refine Hd.slots [(5, _), (6, _)] sbq ?_; refine Hd.inB ?_; clear hK1 hK2 hK3 hK4 hK5 hK6 hK13 hK21 hK38 hK39 hK40; refine Hd.thenN ?_; rw [do_4 hc7]; exact Hd.meet () (by (repeat (first | exact trivial | refine ⟨rfl, ?_⟩)); done) sq
      ·
       try simp only [hyA, hyB, hyC, ne_eq] at hc7
       refine Hd.sr fun _ hK41 => ?_
       refine Hd.yv (y_eql rfl rfl) ?_; refine Hd.yv y_as ?_; refine Hd.fk [(0, _), (3, _), (5, _), (36, _), (162, _)] hK41 ?_; refine Hd.cond rfl (fun hc8 => ?_) (fun hc8 => ?_)
       ·
        try simp only [hyA, hyB, hyC, ne_eq] at hc8
        refine Hd.seq fun _ hK42 => ?_
        refine Hd.drawsH ([BoP pb wb rb, pt b3 (encO o) 33]) (fun _ => true) mixed ?_; simp only [List.length, Nat.zero_add, Nat.reduceAdd]; refine Hd.takeH 0 rfl kq kq kq kq y_mv fq sq ?_; refine Hd.takeH 1 rfl kq kq kq kq y_np fq sq ?_; refine Hd.takeH 2 rfl kq kq kq kq (y_f 0 38 Tryz.underlying41 sz38) fq sq ?_; refine Hd.takeH 3 rfl kq kq kq kq (y_l1 ag38 rfl) fq sq ?_; refine Hd.takeH 4 rfl kq kq kq kq (y_f 1 3 Tryz.underlying33 sz3) fq sq ?_; refine Hd.takeH 5 rfl kq kq kq kq (y_l1 ag3 rfl) fq sq ?_; refine Hd.takeH 6 rfl kq kq kq kq (y_f 2 3 Tryz.underlying33 sz3) fq sq ?_; refine Hd.takeH 7 rfl kq kq kq kq (y_l1 ag3 rfl) fq sq ?_; refine Hd.onlyH 8 rfl kq ?_; refine Hd.callE rfl fk61 (wread_ct _ wb w o.a o.n) sq ?_; rintro ⟨ta, tc⟩; dsimp only; refine Hd.nil ?_; refine Hd.thenN ?_; refine Hd.heldK (J := (fun _ => true)) (i := 8) sq ?_; refine Hd.takeH 9 rfl kq kq kq kq y_mv fq sq ?_; refine Hd.takeH 10 rfl kq kq kq kq y_ex fq sq ?_
        refine Hd.takeH 11 rfl kq kq kq kq y_ex fq sq ?_; refine Hd.takeH 12 rfl kq kq kq kq y_ex fq sq ?_; refine Hd.takeH 13 rfl kq kq kq kq y_as fq sq ?_; refine Hd.takeH 14 rfl kq kq kq kq y_as fq sq ?_; refine Hd.takeH 15 rfl kq kq kq kq y_as fq sq ?_; refine Hd.endH kq ?_; refine Hd.sk [(0, _), (3, _), (5, _), (18, _), (19, _), (20, _)] hK42 ?_; refine Hd.seq fun _ hK43 => ?_
        refine Hd.drawsH ([BoP pb wb rb, pt b3 (encO o) 33]) (fun _ => true) mixed ?_; simp only [List.length, Nat.zero_add, Nat.reduceAdd]; refine Hd.takeH 0 rfl kq kq kq kq y_mv fq sq ?_; refine Hd.takeH 1 rfl kq kq kq kq y_np fq sq ?_; refine Hd.takeH 2 rfl kq kq kq kq (y_f 1 39 Tryz.underlying41 sz39) fq sq ?_; refine Hd.takeH 3 rfl kq kq kq kq (y_l1 ag39 rfl) fq sq ?_; refine Hd.takeH 4 rfl kq kq kq kq (y_f 1 3 Tryz.underlying33 sz3) fq sq ?_; refine Hd.takeH 5 rfl kq kq kq kq (y_l1 ag3 rfl) fq sq ?_; refine Hd.takeH 6 rfl kq kq kq kq (y_f 2 3 Tryz.underlying33 sz3) fq sq ?_; refine Hd.takeH 7 rfl kq kq kq kq (y_l1 ag3 rfl) fq sq ?_; refine Hd.onlyH 8 rfl kq ?_; refine Hd.callE rfl fk62 (Rf.rRead_ct _ rb w hw o.a o.n) sq ?_; rintro ⟨ua, uc⟩; dsimp only; refine Hd.nil ?_; refine Hd.thenN ?_; refine Hd.heldK (J := (fun _ => true)) (i := 8) sq ?_; refine Hd.takeH 9 rfl kq kq kq kq y_mv fq sq ?_
        refine Hd.takeH 10 rfl kq kq kq kq y_ex fq sq ?_; refine Hd.takeH 11 rfl kq kq kq kq y_ex fq sq ?_; refine Hd.takeH 12 rfl kq kq kq kq y_ex fq sq ?_; refine Hd.takeH 13 rfl kq kq kq kq y_as fq sq ?_; refine Hd.takeH 14 rfl kq kq kq kq y_as fq sq ?_; refine Hd.takeH 15 rfl kq kq kq kq y_as fq sq ?_; refine Hd.endH kq ?_; refine Hd.sk [(5, _), (18, _), (19, _), (20, _), (21, _), (22, _), (23, _)] hK43 ?_; refine Hd.region ?_; refine Hd.yv y_mv ?_; refine Hd.yv (y_strOf (l := _) kq Tryz.underlying9 rfl (by exact RdS.own pkk)) ?_; refine Hd.yv y_mv ?_; refine Hd.yv (y_strOf (l := _) kq Tryz.underlying9 rfl (by exact RdS.own pkk)) ?_; refine Hd.yv (y_eqlstr rfl rfl) ?_; refine Hd.yv y_mv ?_; apply Hd.andg 4 195 199 [(5, _), (20, _), (23, _)] rfl ⟨rfl, rfl, rfl, trivial⟩
        ·intro hg28_195
         try simp only [hyA, hyB, hyC, ne_eq] at hg28_195
         simp only [List.take]; refine Hd.yg rfl rfl y_mv ?_; refine Hd.yg rfl rfl y_mv ?_; refine Hd.yg rfl rfl (y_eqlb Tryz.underlying4 rfl rfl) ?_; refine Hd.yv (y_pickT rfl rfl) ?_; refine Hd.nil ?_; exact Hd.mq
        ·intro hg28_195
         try simp only [hyA, hyB, hyC, ne_eq] at hg28_195
         simp only [List.take]; refine Hd.ng rfl rfl rfl ?_; refine Hd.ng rfl rfl rfl ?_; refine Hd.ng rfl rfl rfl ?_; refine Hd.yv (y_pickF rfl rfl) ?_; refine Hd.nil ?_; exact Hd.mq
        simp only [List.drop]; refine Hd.yv y_mv ?_; apply Hd.andg 4 200 204 [(5, _)] rfl ⟨rfl, trivial⟩
        ·intro hg28_200
         try simp only [hyA, hyB, hyC, ne_eq] at hg28_200
         simp only [List.take]; refine Hd.yg rfl rfl y_mv ?_; refine Hd.yg rfl rfl y_mv ?_; refine Hd.yg rfl rfl (y_eqlT rfl rfl) ?_; refine Hd.yv (y_pickT rfl rfl) ?_; refine Hd.nil ?_; exact Hd.mq
        ·intro hg28_200
         try simp only [hyA, hyB, hyC, ne_eq] at hg28_200
         simp only [List.take]; refine Hd.ng rfl rfl rfl ?_; refine Hd.ng rfl rfl rfl ?_; refine Hd.ng rfl rfl rfl ?_; refine Hd.yv (y_pickF rfl rfl) ?_; refine Hd.nil ?_; exact Hd.mq
        simp only [List.drop]; refine Hd.yv y_as ?_; refine Hd.nil ?_; refine Hd.slots [(5, _), (6, _)] sbq ?_; refine Hd.inB ?_; clear hK1 hK2 hK3 hK4 hK5 hK6 hK13 hK21 hK38 hK41 hK42 hK43; refine Hd.thenN ?_; rw [do_5 hc8]; exact Hd.meet () (by simp; repeat (first | exact trivial | refine ⟨rfl, ?_⟩)) sq
       ·
        try simp only [hyA, hyB, hyC, ne_eq] at hc8
        refine Hd.sr fun _ hK44 => ?_
        refine Hd.yv (y_eql rfl rfl) ?_; refine Hd.yv y_as ?_; refine Hd.fk [(0, _), (3, _), (5, _), (36, _), (205, _)] hK44 ?_; refine Hd.cond rfl (fun hc9 => ?_) (fun hc9 => ?_)
        ·
         try simp only [hyA, hyB, hyC, ne_eq] at hc9
         refine Hd.seq fun _ hK45 => ?_
         refine Hd.drawsH ([BoP pb wb rb, pt b3 (encO o) 33]) (fun _ => true) mixed ?_; simp only [List.length, Nat.zero_add, Nat.reduceAdd]; refine Hd.takeH 0 rfl kq kq kq kq y_mv fq sq ?_; refine Hd.takeH 1 rfl kq kq kq kq y_np fq sq ?_; refine Hd.takeH 2 rfl kq kq kq kq (y_f 0 38 Tryz.underlying41 sz38) fq sq ?_; refine Hd.takeH 3 rfl kq kq kq kq (y_l1 ag38 rfl) fq sq ?_; refine Hd.takeH 4 rfl kq kq kq kq (y_f 1 3 Tryz.underlying33 sz3) fq sq ?_; refine Hd.takeH 5 rfl kq kq kq kq (y_l1 ag3 rfl) fq sq ?_; refine Hd.takeH 6 rfl kq kq kq kq y_mv fq sq ?_; refine Hd.onlyH 7 rfl kq ?_; refine Hd.callE rfl fk63 (wwrite_ct _ wb w o.a ad34 o.d.length cap34 o.d rfl ?hD (by omega) hcap) sq ?_
         case hD => exact RdS.own pkk
         intro _; refine Hd.nil ?_; refine Hd.thenN ?_; refine Hd.heldK (J := (fun _ => true)) (i := 7) sq ?_; refine Hd.takeH 8 rfl kq kq kq kq y_mv fq sq ?_; refine Hd.takeH 9 rfl kq kq kq kq y_ex fq sq ?_; refine Hd.takeH 10 rfl kq kq kq kq y_ex fq sq ?_; refine Hd.takeH 11 rfl kq kq kq kq y_as fq sq ?_; refine Hd.takeH 12 rfl kq kq kq kq y_as fq sq ?_; refine Hd.endH kq ?_; refine Hd.sk [(0, _), (3, _), (5, _), (24, _), (25, _)] hK45 ?_; refine Hd.seq fun _ hK46 => ?_
         refine Hd.drawsH ([BoP pb wb rb, pt b3 (encO o) 33]) (fun _ => true) mixed ?_; simp only [List.length, Nat.zero_add, Nat.reduceAdd]; refine Hd.takeH 0 rfl kq kq kq kq y_mv fq sq ?_; refine Hd.takeH 1 rfl kq kq kq kq y_np fq sq ?_; refine Hd.takeH 2 rfl kq kq kq kq (y_f 1 39 Tryz.underlying41 sz39) fq sq ?_; refine Hd.takeH 3 rfl kq kq kq kq (y_l1 ag39 rfl) fq sq ?_; refine Hd.takeH 4 rfl kq kq kq kq (y_f 1 3 Tryz.underlying33 sz3) fq sq ?_; refine Hd.takeH 5 rfl kq kq kq kq (y_l1 ag3 rfl) fq sq ?_; refine Hd.takeH 6 rfl kq kq kq kq (y_f 4 31 Tryz.underlying33 sz31) fq sq ?_; refine Hd.takeH 7 rfl kq kq kq kq (y_l1 ag31 rfl) fq sq ?_; refine Hd.onlyH 8 rfl kq ?_; refine Hd.callE rfl fk64 (Rf.rWrite_ct _ rb w hw o.a o.ad o.d.length o.c o.d rfl ?hD (by omega) hc) sq ?_
         case hD => exact RdS.mono hR sq
         intro _; refine Hd.nil ?_; refine Hd.thenN ?_; refine Hd.heldK (J := (fun _ => true)) (i := 8) sq ?_; refine Hd.takeH 9 rfl kq kq kq kq y_mv fq sq ?_; refine Hd.takeH 10 rfl kq kq kq kq y_ex fq sq ?_; refine Hd.takeH 11 rfl kq kq kq kq y_ex fq sq ?_; refine Hd.takeH 12 rfl kq kq kq kq y_as fq sq ?_; refine Hd.takeH 13 rfl kq kq kq kq y_as fq sq ?_; refine Hd.endH kq ?_; refine Hd.sk [(5, _), (24, _), (25, _), (26, _), (27, _)] hK46 ?_; refine Hd.region ?_; refine Hd.yv y_mv ?_; refine Hd.yv y_mv ?_; refine Hd.yv (y_eqlT rfl rfl) ?_; refine Hd.yv y_mv ?_; apply Hd.andg 4 233 237 [(5, _)] rfl ⟨rfl, trivial⟩
         ·intro hg32_233
          try simp only [hyA, hyB, hyC, ne_eq] at hg32_233
          simp only [List.take]; refine Hd.yg rfl rfl y_mv ?_; refine Hd.yg rfl rfl y_mv ?_; refine Hd.yg rfl rfl (y_eqlT rfl rfl) ?_; refine Hd.yv (y_pickT rfl rfl) ?_; refine Hd.nil ?_; exact Hd.mq
         ·intro hg32_233
          try simp only [hyA, hyB, hyC, ne_eq] at hg32_233
          simp only [List.take]; refine Hd.ng rfl rfl rfl ?_; refine Hd.ng rfl rfl rfl ?_; refine Hd.ng rfl rfl rfl ?_; refine Hd.yv (y_pickF rfl rfl) ?_; refine Hd.nil ?_; exact Hd.mq
         simp only [List.drop]; refine Hd.yv y_as ?_; refine Hd.nil ?_; refine Hd.slots [(5, _), (6, _)] sbq ?_; refine Hd.inB ?_; clear hK1 hK2 hK3 hK4 hK5 hK6 hK13 hK21 hK38 hK41 hK44 hK45 hK46; refine Hd.thenN ?_; rw [do_6 hc9]; exact Hd.meet () (by (repeat (first | exact trivial | refine ⟨rfl, ?_⟩)); done) sq
        ·
         try simp only [hyA, hyB, hyC, ne_eq] at hc9
         refine Hd.sr fun _ hK47 => ?_
         refine Hd.yv (y_eql rfl rfl) ?_; refine Hd.yv y_as ?_; refine Hd.fk [(0, _), (3, _), (5, _), (36, _), (238, _)] hK47 ?_; refine Hd.cond rfl (fun hc10 => ?_) (fun hc10 => ?_)
         ·
          try simp only [hyA, hyB, hyC, ne_eq] at hc10
          refine Hd.seq fun _ hK48 => ?_
          refine Hd.drawsH ([BoP pb wb rb, pt b3 (encO o) 33]) (fun _ => true) mixed ?_; simp only [List.length, Nat.zero_add, Nat.reduceAdd]; refine Hd.takeH 0 rfl kq kq kq kq y_mv fq sq ?_; refine Hd.takeH 1 rfl kq kq kq kq y_np fq sq ?_; refine Hd.takeH 2 rfl kq kq kq kq (y_f 0 38 Tryz.underlying41 sz38) fq sq ?_; refine Hd.takeH 3 rfl kq kq kq kq (y_l1 ag38 rfl) fq sq ?_; refine Hd.takeH 4 rfl kq kq kq kq (y_f 1 3 Tryz.underlying33 sz3) fq sq ?_; refine Hd.takeH 5 rfl kq kq kq kq (y_l1 ag3 rfl) fq sq ?_; refine Hd.onlyH 6 rfl kq ?_; refine Hd.callE rfl fk65 (wshut_ct _ wb w o.a) sq ?_; intro _; refine Hd.nil ?_; refine Hd.thenN ?_; refine Hd.heldK (J := (fun _ => true)) (i := 6) sq ?_; refine Hd.takeH 7 rfl kq kq kq kq y_as fq sq ?_; refine Hd.endH kq ?_; refine Hd.sk [(0, _), (3, _), (5, _), (28, _)] hK48 ?_; refine Hd.drawsH ([BoP pb wb rb, pt b3 (encO o) 33]) (fun _ => true) mixed ?_; simp only [List.length, Nat.zero_add, Nat.reduceAdd]
          refine Hd.takeH 0 rfl kq kq kq kq y_mv fq sq ?_; refine Hd.takeH 1 rfl kq kq kq kq y_mv fq sq ?_; refine Hd.takeH 2 rfl kq kq kq kq y_np fq sq ?_; refine Hd.takeH 3 rfl kq kq kq kq (y_f 1 39 Tryz.underlying41 sz39) fq sq ?_; refine Hd.takeH 4 rfl kq kq kq kq (y_l1 ag39 rfl) fq sq ?_; refine Hd.takeH 5 rfl kq kq kq kq (y_f 1 3 Tryz.underlying33 sz3) fq sq ?_; refine Hd.takeH 6 rfl kq kq kq kq (y_l1 ag3 rfl) fq sq ?_; refine Hd.onlyH 7 rfl kq ?_; refine Hd.callE rfl fk66 (Rf.rShut_ct _ rb w hw o.a) sq ?_; intro _; refine Hd.nil ?_; refine Hd.thenN ?_; refine Hd.heldK (J := (fun _ => true)) (i := 7) sq ?_; refine Hd.takeH 8 rfl kq kq kq kq (y_eqlT rfl rfl) fq sq ?_; refine Hd.takeH 9 rfl kq kq kq kq y_as fq sq ?_; refine Hd.endH kq ?_; refine Hd.slots [(5, _), (6, _)] sbq ?_; refine Hd.inB ?_; clear hK1 hK2 hK3 hK4 hK5 hK6 hK13 hK21 hK38 hK41 hK44 hK47 hK48; refine Hd.thenN ?_; rw [do_7 hc10]; exact Hd.meet () (by (repeat (first | exact trivial | refine ⟨rfl, ?_⟩)); done) sq
         ·
          try simp only [hyA, hyB, hyC, ne_eq] at hc10
          refine Hd.sr fun _ hK49 => ?_
          refine Hd.yv (y_eql rfl rfl) ?_; refine Hd.yv y_as ?_; refine Hd.fk [(0, _), (3, _), (5, _), (256, _)] hK49 ?_; refine Hd.cond rfl (fun hc11 => ?_) (fun hc11 => ?_)
          ·
           try simp only [hyA, hyB, hyC, ne_eq] at hc11
           refine Hd.seq fun _ hK50 => ?_
           refine Hd.drawsH ([BoP pb wb rb, pt b3 (encO o) 33]) (fun _ => true) mixed ?_; simp only [List.length, Nat.zero_add, Nat.reduceAdd]; refine Hd.takeH 0 rfl kq kq kq kq y_mv fq sq ?_; refine Hd.takeH 1 rfl kq kq kq kq y_np fq sq ?_; refine Hd.takeH 2 rfl kq kq kq kq (y_f 0 38 Tryz.underlying41 sz38) fq sq ?_; refine Hd.takeH 3 rfl kq kq kq kq (y_l1 ag38 rfl) fq sq ?_; refine Hd.takeH 4 rfl kq kq kq kq (y_f 1 3 Tryz.underlying33 sz3) fq sq ?_; refine Hd.takeH 5 rfl kq kq kq kq (y_l1 ag3 rfl) fq sq ?_; refine Hd.onlyH 6 rfl kq ?_; refine Hd.callE rfl fk67 (wclose_ct _ wb w o.a) sq ?_; intro _; refine Hd.nil ?_; refine Hd.thenN ?_; refine Hd.heldK (J := (fun _ => true)) (i := 6) sq ?_; refine Hd.takeH 7 rfl kq kq kq kq y_as fq sq ?_; refine Hd.endH kq ?_; refine Hd.sk [(0, _), (3, _), (5, _), (29, _)] hK50 ?_; refine Hd.drawsH ([BoP pb wb rb, pt b3 (encO o) 33]) (fun _ => true) mixed ?_; simp only [List.length, Nat.zero_add, Nat.reduceAdd]
           refine Hd.takeH 0 rfl kq kq kq kq y_mv fq sq ?_; refine Hd.takeH 1 rfl kq kq kq kq y_mv fq sq ?_; refine Hd.takeH 2 rfl kq kq kq kq y_np fq sq ?_; refine Hd.takeH 3 rfl kq kq kq kq (y_f 1 39 Tryz.underlying41 sz39) fq sq ?_; refine Hd.takeH 4 rfl kq kq kq kq (y_l1 ag39 rfl) fq sq ?_; refine Hd.takeH 5 rfl kq kq kq kq (y_f 1 3 Tryz.underlying33 sz3) fq sq ?_; refine Hd.takeH 6 rfl kq kq kq kq (y_l1 ag3 rfl) fq sq ?_; refine Hd.onlyH 7 rfl kq ?_; refine Hd.callE rfl fk68 (Rf.rClose_ct _ rb w hw o.a) sq ?_; intro _; refine Hd.nil ?_; refine Hd.thenN ?_; refine Hd.heldK (J := (fun _ => true)) (i := 7) sq ?_; refine Hd.takeH 8 rfl kq kq kq kq (y_eqlT rfl rfl) fq sq ?_; refine Hd.takeH 9 rfl kq kq kq kq y_as fq sq ?_; refine Hd.endH kq ?_; refine Hd.slots [(5, _), (6, _)] sbq ?_; refine Hd.inB ?_; clear hK1 hK2 hK3 hK4 hK5 hK6 hK13 hK21 hK38 hK41 hK44 hK47 hK49 hK50; refine Hd.thenN ?_; rw [do_8 hc11]; exact Hd.meet () (by (repeat (first | exact trivial | refine ⟨rfl, ?_⟩)); done) sq
          ·
           try simp only [hyA, hyB, hyC, ne_eq] at hc11
           refine Hd.region ?_; refine Hd.yv y_mv ?_; refine Hd.yv (y_loadn (us := [_, _, _, _, _]) ag33 rfl (Rd.pt pkk (by exact fun j v e => by rw [Nat.zero_add]; exact e)) (by exact sz33)) ?_; refine Hd.yv y_mv ?_; refine Hd.callE rfl fk69 (more_ct _ pb wb rb w K hK hl o (by omega) ht0 hd ?hD hc ad34 cap34 ?hD2 hcap) sq ?_
           case hD => exact RdS.mono hR sq
           case hD2 => exact RdS.own pkk
           intro _; refine Hd.yv y_as ?_; refine Hd.nil ?_; refine Hd.slots [(5, _), (6, _)] sbq ?_; refine Hd.inB ?_; clear hK1 hK2 hK3 hK4 hK5 hK6 hK13 hK21 hK38 hK41 hK44 hK47 hK49; refine Hd.thenN ?_; exact Hd.meet () sbq sq
 ·
  intro _; refine Hd.seq fun _ hK51 => ?_
  refine Hd.sr fun _ hK52 => ?_
  refine Hd.yv y_mv ?_; refine Hd.yv (y_len Tryz.underlying31 rfl) ?_; refine Hd.yv y_mv ?_; refine Hd.fk [(5, _), (6, _), (275, _), (276, _)] hK52 ?_; refine Hd.block ?_; refine Hd.loopK (ι := Nat × List Value) [(5, _), (6, _), (275, _)] (fun q_ => [(276, .int .i64 (q_.1 : Int))]) (fun q_ => pu (q_.1 ≤ o.d.length ∧ q_.2.length = o.d.length ∧ ∀ v ∈ q_.2, ∃ x, v = .int .u8 x) :: own 5 1 ad34 o.d.length cap34 q_.2 :: BoP pb wb rb :: WorldP wb (doA w o) :: Rf.RwP rb (doA w o) :: L) (fun q_ => o.d.length - q_.1) (0, bsl o.d) sbq sbq (Ent.sep (.pure ⟨Nat.zero_le _, by simp [bsl], fun v hv => by obtain ⟨b, _, rfl⟩ := List.mem_map.1 hv; exact ⟨_, rfl⟩⟩ enn)) ?_; rintro ⟨i, us⟩
  try dsimp only
  refine Hd.pure (fun hp0 => ?_)
  try dsimp only at hp0
  refine Hd.sr fun _ hK53 => ?_
  refine Hd.yv (y_lss rfl rfl) ?_; refine Hd.fk [(5, _), (6, _), (275, _), (276, _), (277, _)] hK53 ?_; refine Hd.seq fun _ hK54 => ?_
  refine Hd.cond rfl (fun hc12 => ?_) (fun hc12 => ?_)
  ·
   try simp only [hyA, hyB, hyC, ne_eq] at hc12
   have hi : i < o.d.length := by omega
   have hiu : i < us.length := by omega
   obtain ⟨x, hx⟩ := hp0.2.2 us[i] (List.getElem_mem hiu)
   have hg : us[i * 1]? = some (.int .u8 x) := by rw [Nat.mul_one, List.getElem?_eq_getElem hiu, hx]
   refine Hd.skip ?_; refine Hd.toK hK54 ?_; refine Hd.seq fun _ hK55 => ?_
   refine Hd.block ?_; refine Hd.sr fun _ hK56 => ?_
   refine Hd.yv y_mv ?_; refine Hd.yv y_as ?_; refine Hd.fk [(5, _), (6, _), (30, _), (275, _), (276, _)] hK56 ?_; refine Hd.region ?_; refine Hd.yv y_mv ?_; refine Hd.yv y_mv ?_; refine Hd.yv y_mv ?_; refine Hd.yv y_mv ?_; refine Hd.yv (y_idxR Tryz.underlying31 sz5 rfl rfl (by omega) (by exact RdS.own pkk)) ?_; refine Hd.yv (y_loadR1 ag5 rfl (by exact RdS.own pkk) (by exact hg)) ?_; refine Hd.yv (y_add rfl rfl) ?_; refine Hd.yv (y_idxR Tryz.underlying31 sz5 rfl rfl (by omega) (by exact RdS.own pkk)) ?_; refine Hd.storeO1 sz5 rfl rfl rfl pkk (by omega) ?_
   try simp only [List.set_cons_zero, List.set_cons_succ]
   refine Hd.nil ?_; refine Hd.slots [(5, _), (6, _), (275, _), (276, _)] sbq ?_; refine Hd.inB ?_; refine Hd.toK hK55 ?_; refine Hd.region ?_; refine Hd.yv (y_addn rfl rfl (by simp only [InK]; omega)) ?_; refine Hd.yv y_mv ?_; refine Hd.nil ?_; refine Hd.slots [(5, _), (6, _), (275, _), (276, _)] sbq ?_; clear hK1 hK2 hK3 hK51 hK52 hK53 hK54 hK55 hK56; refine Hd.thenN ?_
   have hnew : ∀ v ∈ us.set (i * 1) (.int .u8 (IntKind.u8.wrap (x + 1))), ∃ x, v = .int .u8 x := fun v hv => (List.mem_or_eq_of_mem_set hv).elim (fun h => hp0.2.2 v h) (fun h => ⟨_, h⟩)
   exact Hd.again (i + 1, us.set (i * 1) (.int .u8 (IntKind.u8.wrap (x + 1)))) (by omega) sbq (Ent.sep (.pure ⟨hi, by rw [List.length_set]; exact hp0.2.1, hnew⟩ enn))
  ·
   try simp only [hyA, hyB, hyC, ne_eq] at hc12
   refine Hd.exit ?_; refine Hd.thenExit ?_; refine Hd.thenExit ?_; refine Hd.inBexit ?_; refine Hd.toK hK51 ?_; refine Hd.sr fun _ hK57 => ?_
   refine Hd.yv y_mv ?_; refine Hd.yv y_as ?_; refine Hd.fk [(4, _)] hK57 ?_; refine Hd.ret ?_; clear hK1 hK2 hK3 hK51 hK52 hK53 hK54 hK57; exact Hd.ret1 rfl () (by rfl) sq
end Wo
end Go.Proofs.YtbfddabjbkohdaaGreat
namespace Go.Proofs.YtbfddabjbkohdaaGreat
set_option maxHeartbeats 2000000
set_option linter.unusedSimpArgs false
set_option linter.unusedVariables false
set_option linter.unnecessarySimpa false
open Go.RX Fx
namespace Ep
open Wo
set_option maxRecDepth 8000
structure Pv where
 k : Int
 x : Ov
 fd : Int
 n : Int
 ev : Int
 ad : Option Addr
 c : Nat
 ord : List Int
abbrev encPv (p : Pv) : List Value := [.int .i64 p.k, .int .i64 p.x.k, .int .i64 p.x.a, .int .i64 p.x.n, .int .u64 p.x.t, .slice p.x.ad p.x.d.length p.x.c, .int .i64 p.fd, .int .i64 p.n, .int .i64 p.ev, .slice p.ad p.ord.length p.c]
structure PvOk (L : List SP) (p : Pv) : Prop where
 x : OvOk L p.x
 rd : RdS L 1 p.ad p.ord.length (vi p.ord)
 k : InK .i64 p.k
 fd : InK .i64 p.fd
 n : InK .i64 p.n
 ev : InK .i64 p.ev
def gP (xs : List Pv) : Int := if 150 < xs.length then 1 else if ∀ p ∈ xs, p.ord.length ≤ 60 ∧ p.x.d.length ≤ 300 then 0 else 1
theorem gP_ok {xs : List Pv} (h : ¬ 0 < gP xs) : xs.length ≤ 150 ∧ ∀ p ∈ xs, p.ord.length ≤ 60 ∧ p.x.d.length ≤ 300 := by
 unfold gP at h
 split at h
 ·exact absurd (by decide) h
 ·split at h
  ·rename_i h1 h2; exact ⟨by omega, h2⟩
  ·exact absurd (by decide) h
theorem gO_one (o : Ov) : gO [o] = if o.d.length ≤ 300 then 0 else 1 := by
 unfold gO; rw [if_neg (by simp)]
 by_cases h : o.d.length ≤ 300
 ·rw [if_pos h, if_pos (by intro q hq; obtain rfl : q = o := (by simpa using hq); exact h)]
 ·rw [if_neg h, if_neg (fun g => h (g o List.mem_cons_self))]
theorem pv_x {xs : List Pv} {i : Nat} {p : Pv} (h : xs[i]? = some p) : ∀ (j : Nat) v, (encO p.x)[j]? = some v → (xs.flatMap encPv)[i * 10 + 1 + j]? = some v := fun j v e => by
 rw [Nat.add_assoc]; refine flat_cells encPv 10 (fun _ => rfl) h (1 + j) v ?_; rw [Nat.add_comm]
 show (encO p.x ++ [Value.int .i64 p.fd, .int .i64 p.n, .int .i64 p.ev, .slice p.ad p.ord.length p.c])[j]? = some v
 rw [List.getElem?_append_left (List.getElem?_eq_some_iff.1 e).1]; exact e
theorem great15_ct (L : List SP) (ad : Option Addr) (c : Nat) (xs : List Pv) (hR : RdS L 10 ad xs.length (xs.flatMap encPv)) : Ct Tryz.prog 15 #[.slice ad xs.length c] (L) (fun _ : Unit => .int .i64 (gP xs)) (fun _ : Unit => L) := by
 refine Ct.of (vs := [.slice ad xs.length c]) Tryz.func15 rfl rfl [(0, .slice ad xs.length c)] sbq ?_; intro E
 show Hd E 30 _ _ _ _
 refine Hd.sr fun _ hK1 => ?_
 refine Hd.yv y_as ?_; refine Hd.fk [(0, _)] hK1 ?_; refine Hd.seq fun _ hK2 => ?_
 refine Hd.sr fun _ hK3 => ?_
 refine Hd.yv y_mv ?_; refine Hd.yv (y_len Tryz.underlying23 rfl) ?_; refine Hd.yv (y_gtr rfl rfl) ?_; refine Hd.fk [(0, _), (6, _)] hK3 ?_; refine Hd.cond rfl (fun hc0 => ?_) (fun hc0 => ?_)
 ·
  try simp only [hyA, hyB, hyC, ne_eq] at hc0
  refine Hd.sr fun _ hK4 => ?_
  refine Hd.yv y_as ?_; refine Hd.fk [(2, _)] hK4 ?_; refine Hd.ret ?_; refine Hd.thenRet ?_; clear hK1 hK2 hK3 hK4; exact Hd.ret1 rfl () (by unfold gP; rw [if_pos (by omega)]; rfl) sq
 ·
  try simp only [hyA, hyB, hyC, ne_eq] at hc0
  have hx : xs.length ≤ 150 := by omega
  refine Hd.skip ?_; refine Hd.toK hK2 ?_; refine Hd.seq fun _ hK5 => ?_
  refine Hd.sr fun _ hK6 => ?_
  refine Hd.yv y_mv ?_; refine Hd.yv (y_len Tryz.underlying23 rfl) ?_; refine Hd.yv y_mv ?_; refine Hd.fk [(0, _), (8, _), (9, _)] hK6 ?_; refine Hd.block ?_; refine Hd.loopK (ι := Nat) [(0, _), (8, _)] (fun i => [(9, .int .i64 (i : Int))]) (fun i => pu (i ≤ xs.length ∧ ∀ p ∈ xs.take i, p.ord.length ≤ 60 ∧ p.x.d.length ≤ 300) :: L) (fun i => xs.length - i) 0 sbq sbq (Ent.sep (.pure ⟨Nat.zero_le _, fun o ho => by simp at ho⟩ enn)) ?_; intro i
  try dsimp only
  refine Hd.pure (fun hp0 => ?_)
  try dsimp only at hp0
  refine Hd.sr fun _ hK7 => ?_
  refine Hd.yv (y_lss rfl rfl) ?_; refine Hd.fk [(0, _), (8, _), (9, _), (10, _)] hK7 ?_; refine Hd.seq fun _ hK8 => ?_
  refine Hd.cond rfl (fun hc1 => ?_) (fun hc1 => ?_)
  ·
   try simp only [hyA, hyB, hyC, ne_eq] at hc1
   have hi : i < xs.length := by omega
   obtain ⟨p, hp⟩ : ∃ p, xs[i]? = some p := ⟨_, List.getElem?_eq_getElem hi⟩
   refine Hd.skip ?_; refine Hd.toK hK8 ?_; refine Hd.seq fun _ hK9 => ?_
   refine Hd.block ?_; refine Hd.sr fun _ hK10 => ?_
   refine Hd.yv y_mv ?_; refine Hd.yv y_as ?_; refine Hd.fk [(0, _), (3, _), (8, _), (9, _)] hK10 ?_; refine Hd.sr fun _ hK11 => ?_
   refine Hd.yv y_mv ?_; refine Hd.yv y_mv ?_; refine Hd.yv (y_idxR Tryz.underlying23 sz46 rfl rfl (by omega) (by exact RdS.mono hR sq)) ?_; refine Hd.yv (y_fR 9 44 Tryz.underlying46 sz44) ?_; refine Hd.yv (y_loadR1 ag44 rfl (by exact RdS.mono hR sq) (by exact flat_cells encPv 10 (fun _ => rfl) hp 9 _ rfl)) ?_; refine Hd.yv (y_len Tryz.underlying44 rfl) ?_; refine Hd.yv (y_gtr rfl rfl) ?_; refine Hd.yv y_mv ?_; apply Hd.org 9 19 28 [(0, _), (8, _), (9, _)] rfl ⟨rfl, rfl, rfl, trivial⟩
   ·intro hg6_19
    try simp only [hyA, hyB, hyC, ne_eq] at hg6_19
    simp only [List.take]; refine Hd.ng rfl rfl rfl ?_; refine Hd.ng rfl rfl rfl ?_; refine Hd.ng rfl rfl rfl ?_; refine Hd.ng rfl rfl rfl ?_; refine Hd.ng rfl rfl rfl ?_; refine Hd.ng rfl rfl rfl ?_; refine Hd.ng rfl rfl rfl ?_; refine Hd.ng rfl rfl rfl ?_; refine Hd.yv (y_pickT rfl rfl) ?_; refine Hd.nil ?_; exact Hd.mq
   ·intro hg6_19
    try simp only [hyA, hyB, hyC, ne_eq] at hg6_19
    simp only [List.take]; refine Hd.yg rfl rfl y_mv ?_; refine Hd.yg rfl rfl y_mv ?_; refine Hd.yg rfl rfl (y_idxR Tryz.underlying23 sz46 rfl rfl (by omega) (by exact RdS.mono hR sq)) ?_; refine Hd.yg rfl rfl (y_fR 1 33 Tryz.underlying46 sz33) ?_; refine Hd.yg rfl rfl (y_loadRn (vs := encO p.x) ag33 rfl (RdS.mono hR sq) (pv_x hp) sz33 (by simp)) ?_; refine Hd.unguard rfl rfl ?_; refine Hd.bslice (vs := [(0, _)]) rfl (by exact bs15_25 ..) (fun b25 => ?_); refine Hd.unguard rfl rfl ?_; refine Hd.callE rfl fk14 (great11_ct _ _ 1 [p.x] ?hD) sq ?_
    case hD => exact RdS.rd (Rd.pt pkk (fun j v e => by simpa using e)) rfl
    intro _; refine Hd.yg rfl rfl (y_gtr rfl rfl) ?_; refine Hd.yv (y_pickF rfl rfl) ?_; refine Hd.nil ?_; exact Hd.mq
   simp only [List.drop]; refine Hd.fk [(0, _), (8, _), (9, _), (28, _)] hK11 ?_; refine Hd.cond rfl (fun hc2 => ?_) (fun hc2 => ?_)
   ·
    try simp only [hyA, hyB, hyC, ne_eq] at hc2
    refine Hd.sr fun _ hK12 => ?_
    refine Hd.yv y_as ?_; refine Hd.fk [(2, _)] hK12 ?_; refine Hd.ret ?_; refine Hd.inBret ?_; refine Hd.thenRet ?_; refine Hd.thenRet ?_; refine Hd.inBret ?_; refine Hd.thenRet ?_; clear hK1 hK2 hK3 hK5 hK6 hK7 hK8 hK9 hK10 hK11 hK12
    have hb : ¬ (∀ p ∈ xs, p.ord.length ≤ 60 ∧ p.x.d.length ≤ 300) := fun h => by
     have h1 := h p (List.mem_of_getElem? hp)
     have h2 : gO [p.x] = 0 := by rw [gO_one, if_pos h1.2]
     omega
    exact Hd.ret1 rfl () (by unfold gP; rw [if_neg (by omega), if_neg hb]; rfl) sq
   ·
    try simp only [hyA, hyB, hyC, ne_eq] at hc2
    refine Hd.skip ?_; refine Hd.inB ?_; refine Hd.toK hK9 ?_; refine Hd.region ?_; refine Hd.yv (y_addn rfl rfl (by simp only [InK]; omega)) ?_; refine Hd.yv y_mv ?_; refine Hd.nil ?_; refine Hd.slots [(0, _), (8, _), (9, _)] sbq ?_; clear hK1 hK2 hK3 hK5 hK6 hK7 hK8 hK9 hK10 hK11; refine Hd.thenN ?_
    have hnew : ∀ q ∈ xs.take (i + 1), q.ord.length ≤ 60 ∧ q.x.d.length ≤ 300 := by
     intro q hq; rw [List.take_add_one, hp] at hq
     rcases List.mem_append.1 hq with h | h
     ·exact hp0.2 q h
     ·obtain rfl : q = p := by simpa using h
      have h2 := gO_one q.x
      by_cases h3 : q.x.d.length ≤ 300
      ·exact ⟨by omega, h3⟩
      ·rw [if_neg h3] at h2; omega
    exact Hd.again (i + 1) (by omega) sbq (Ent.sep (.pure ⟨hi, hnew⟩ enn))
  ·
   try simp only [hyA, hyB, hyC, ne_eq] at hc1
   refine Hd.exit ?_; refine Hd.thenExit ?_; refine Hd.thenExit ?_; refine Hd.inBexit ?_; refine Hd.toK hK5 ?_; refine Hd.sr fun _ hK13 => ?_
   refine Hd.yv y_as ?_; refine Hd.fk [(2, _)] hK13 ?_; refine Hd.ret ?_; clear hK1 hK2 hK3 hK5 hK6 hK7 hK8 hK13; exact Hd.ret1 rfl () (by unfold gP; rw [if_neg (by omega), if_pos (by have h := hp0.2; rwa [List.take_of_length_le (by omega)] at h)]; rfl) sq
end Ep
end Go.Proofs.YtbfddabjbkohdaaGreat
namespace Go.Proofs.YtbfddabjbkohdaaGreat
set_option maxHeartbeats 2000000
set_option linter.unusedSimpArgs false
set_option linter.unusedVariables false
set_option linter.unnecessarySimpa false
open Go.RX Fx
namespace Ep
open Wo
set_option maxRecDepth 8000
structure LvOk (g : Int → Option Value) (m : Nat) (S : List (Int × Int)) : Prop where
 mem : ∀ y ∈ S, g y.1 = some (.int .i64 y.2)
 no : ∀ a, a ∉ S.map Prod.fst → g a = none
 len : m = S.length
theorem LvOk.nil : LvOk (fun _ => none) 0 [] := ⟨fun _ h => (by cases h), fun _ _ => rfl, rfl⟩
theorem LvOk.add {g : Int → Option Value} {m : Nat} {S : List (Int × Int)} (h : LvOk g m S) {y : Int × Int} (hy : y.1 ∉ S.map Prod.fst) : LvOk (fun a => if a = y.1 then some (.int .i64 y.2) else g a) (if (g y.1).isSome = true then m else m + 1) (S ++ [y]) where
 mem z hz := by
  rcases List.mem_append.1 hz with hz | hz
  ·rw [if_neg (fun e : z.1 = y.1 => hy (e ▸ List.mem_map_of_mem hz))]; exact h.mem z hz
  ·obtain rfl : z = y := by simpa using hz
   rw [if_pos rfl]
 no a ha := by
  rw [List.map_append, List.mem_append] at ha; rw [if_neg (fun e => ha (.inr (by rw [e]; simp)))]; exact h.no a fun e => ha (.inl e)
 len := by rw [h.no _ hy, List.length_append, h.len]; rfl
theorem LvOk.same {g : Int → Option Value} {m : Nat} {S : List (Int × Int)} (h : LvOk g m S) {y : Int × Int} (hy : y ∈ S) : LvOk (fun a => if a = y.1 then some (.int .i64 y.2) else g a) (if (g y.1).isSome = true then m else m + 1) S where
 mem z hz := by
  by_cases e : z.1 = y.1
  ·rw [if_pos e, ← h.mem y hy, ← e]; exact h.mem z hz
  ·rw [if_neg e]; exact h.mem z hz
 no a ha := by
  rw [if_neg (fun e => ha (by rw [e]; exact List.mem_map_of_mem hy))]; exact h.no a ha
 len := by rw [h.mem y hy]; exact h.len
def nE (f : Int → Option IxA) (l : List (Int × Int)) : List (Int × Int) := l.filter fun y => !(edF f y.1)
def eE (f : Int → Option IxA) (l : List (Int × Int)) : List (Int × Int) := l.filter fun y => edF f y.1
theorem nE_succ (f : Int → Option IxA) {l : List (Int × Int)} {i : Nat} {y : Int × Int} (h : l[i]? = some y) : nE f (l.take (i + 1)) = nE f (l.take i) ++ (if edF f y.1 = true then [] else [y]) := by
 unfold nE; rw [List.take_add_one, h, Option.toList_some, List.filter_append, List.filter_cons, List.filter_nil]
 cases edF f y.1 <;> rfl
theorem eE_succ (f : Int → Option IxA) {l : List (Int × Int)} {i : Nat} {y : Int × Int} (h : l[i]? = some y) : eE f (l.take (i + 1)) = eE f (l.take i) ++ (if edF f y.1 = true then [y] else []) := by
 unfold eE; rw [List.take_add_one, h, Option.toList_some, List.filter_append, List.filter_cons, List.filter_nil]
theorem nd_new {l : List (Int × Int)} (hn : (l.map Prod.fst).Nodup) {i : Nat} {y : Int × Int} (h : l[i]? = some y) : y.1 ∉ (l.take i).map Prod.fst := fun hm => by
 have e : l = l.take i ++ l.drop i := (List.take_append_drop i l).symm
 have hd : y ∈ l.drop i := by
  rw [List.drop_eq_getElem_cons (List.getElem?_eq_some_iff.1 h).1, (List.getElem?_eq_some_iff.1 h).2]; exact List.mem_cons_self
 rw [e, List.map_append, List.nodup_append] at hn; exact hn.2.2 _ hm _ (List.mem_map_of_mem hd) rfl
theorem eE_one (f : Int → Option IxA) {l : List (Int × Int)} (hn : (l.map Prod.fst).Nodup) (i : Nat) (a : Int) : ((eE f (l.take i)).map Prod.fst).count a ≤ 1 := by
 have hs : ((eE f (l.take i)).map Prod.fst).Sublist (l.map Prod.fst) := (List.filter_sublist.trans (List.take_sublist i l)).map Prod.fst
 exact List.nodup_iff_count.1 (hn.sublist hs) a
def wtF (f : Int → Option IxA) (a : Int) : Int := ((f a).map IxA.events).getD 0
theorem edF_wt {f : Int → Option IxA} {a : Int} : edF f a = decide (bits .and .i64 (wtF f a) 32 ≠ 0) := by
 unfold edF wtF edgE
 cases f a <;> rfl
theorem again_ct (L : List SP) (a1 : Option Addr) (c1 : Nat) (fs : List Ov) (hF : RdS L 5 a1 fs.length (fs.flatMap encO)) (hFo : ∀ o ∈ fs, OvOk L o) (a2 : Option Addr) (c2 : Nat) (xs : List Pv) (hX : RdS L 10 a2 xs.length (xs.flatMap encPv)) (hXo : ∀ p ∈ xs, PvOk L p) : Ct Tryz.prog 3 #[.slice a1 fs.length c1, .slice a2 xs.length c2] (L) (fun _ : Unit => .bool true) (fun _ : Unit => L) := by
 refine Ct.of (vs := [.slice a1 fs.length c1, .slice a2 xs.length c2]) Tryz.func3 rfl rfl [(0, .slice a1 fs.length c1), (1, .slice a2 xs.length c2)] sbq ?_; intro E
 show Hd E 169 _ _ _ _
 refine Hd.sr fun _ hK1 => ?_
 refine Hd.yv y_as ?_; refine Hd.fk [(0, _), (1, _)] hK1 ?_; refine Hd.sr fun _ hK2 => ?_
 refine Hd.callE rfl fk13 (alive15_ct L) sq ?_; intro _; refine Hd.yv y_as ?_; refine Hd.fk [(0, _), (1, _), (5, _)] hK2 ?_; refine Hd.seq fun _ hK3 => ?_
 refine Hd.sr fun _ hK4 => ?_
 refine Hd.yv y_mv ?_; refine Hd.callE rfl fk14 (great11_ct _ a1 c1 fs hF) sq ?_; intro _; refine Hd.yv (y_gtr rfl rfl) ?_; refine Hd.yv y_mv ?_; apply Hd.org 4 25 29 [(0, _), (1, _), (5, _)] rfl ⟨rfl, rfl, rfl, trivial⟩
 ·intro hg2_25
  try simp only [hyA, hyB, hyC, ne_eq] at hg2_25
  simp only [List.take]; refine Hd.ng rfl rfl rfl ?_; refine Hd.ng rfl rfl rfl ?_; refine Hd.ng rfl rfl rfl ?_; refine Hd.yv (y_pickT rfl rfl) ?_; refine Hd.nil ?_; exact Hd.mq
 ·intro hg2_25
  try simp only [hyA, hyB, hyC, ne_eq] at hg2_25
  simp only [List.take]; refine Hd.yg rfl rfl y_mv ?_; refine Hd.yg rfl rfl (y_len Tryz.underlying22 rfl) ?_; refine Hd.yg rfl rfl (y_gtr rfl rfl) ?_; refine Hd.yv (y_pickF rfl rfl) ?_; refine Hd.nil ?_; exact Hd.mq
 simp only [List.drop]; refine Hd.yv y_mv ?_; apply Hd.org 4 30 34 [(0, _), (1, _), (5, _)] rfl ⟨rfl, rfl, rfl, trivial⟩
 ·intro hg2_30
  try simp only [hyA, hyB, hyC, ne_eq] at hg2_30
  simp only [List.take]; refine Hd.ng rfl rfl rfl ?_; refine Hd.ng rfl rfl rfl ?_; refine Hd.ng rfl rfl rfl ?_; refine Hd.yv (y_pickT rfl rfl) ?_; refine Hd.nil ?_; exact Hd.mq
 ·intro hg2_30
  try simp only [hyA, hyB, hyC, ne_eq] at hg2_30
  simp only [List.take]; refine Hd.yg rfl rfl y_mv ?_; refine Hd.unguard rfl rfl ?_; refine Hd.callE rfl fk15 (great15_ct _ a2 c2 xs hX) sq ?_; intro _; refine Hd.yg rfl rfl (y_gtr rfl rfl) ?_; refine Hd.yv (y_pickF rfl rfl) ?_; refine Hd.nil ?_; exact Hd.mq
 simp only [List.drop]; refine Hd.yv y_mv ?_; apply Hd.org 4 35 39 [(0, _), (1, _), (5, _)] rfl ⟨rfl, rfl, rfl, trivial⟩
 ·intro hg2_35
  try simp only [hyA, hyB, hyC, ne_eq] at hg2_35
  simp only [List.take]; refine Hd.ng rfl rfl rfl ?_; refine Hd.ng rfl rfl rfl ?_; refine Hd.ng rfl rfl rfl ?_; refine Hd.yv (y_pickT rfl rfl) ?_; refine Hd.nil ?_; exact Hd.mq
 ·intro hg2_35
  try simp only [hyA, hyB, hyC, ne_eq] at hg2_35
  simp only [List.take]; refine Hd.yg rfl rfl y_mv ?_; refine Hd.yg rfl rfl (y_len Tryz.underlying23 rfl) ?_; refine Hd.yg rfl rfl (y_gtr rfl rfl) ?_; refine Hd.yv (y_pickF rfl rfl) ?_; refine Hd.nil ?_; exact Hd.mq
 simp only [List.drop]; refine Hd.yv y_mv ?_; apply Hd.org 3 40 43 [(0, _), (1, _), (5, _)] rfl ⟨rfl, rfl, rfl, trivial⟩
 ·intro hg2_40
  try simp only [hyA, hyB, hyC, ne_eq] at hg2_40
  simp only [List.take]; refine Hd.ng rfl rfl rfl ?_; refine Hd.ng rfl rfl rfl ?_; refine Hd.yv (y_pickT rfl rfl) ?_; refine Hd.nil ?_; exact Hd.mq
 ·intro hg2_40
  try simp only [hyA, hyB, hyC, ne_eq] at hg2_40
  simp only [List.take]; refine Hd.yg rfl rfl y_mv ?_; refine Hd.yg rfl rfl (y_not rfl) ?_; refine Hd.yv (y_pickF rfl rfl) ?_; refine Hd.nil ?_; exact Hd.mq
 simp only [List.drop]; refine Hd.fk [(0, _), (1, _), (5, _), (43, _)] hK4 ?_; refine Hd.cond rfl (fun hc0 => ?_) (fun hc0 => ?_)
 ·
  try simp only [hyA, hyB, hyC, ne_eq] at hc0
  refine Hd.sr fun _ hK5 => ?_
  refine Hd.yv y_mv ?_; refine Hd.yv y_as ?_; refine Hd.fk [(4, _)] hK5 ?_; refine Hd.ret ?_; refine Hd.thenRet ?_; clear hK1 hK2 hK3 hK4 hK5; exact Hd.ret1 rfl () rfl sq
 ·
  try simp only [hyA, hyB, hyC, ne_eq] at hc0
  have hb1 : ¬ 0 < gO fs ∧ fs.length ≤ 60 ∧ ¬ 0 < gP xs ∧ xs.length ≤ 40 := by simp at hc0; omega
  have hgo := gO_ok hb1.1
  have hgp := gP_ok hb1.2.2.1
  refine Hd.skip ?_; refine Hd.toK hK3 ?_; refine Hd.sr fun _ hK6 => ?_
  refine Hd.callE rfl fk16 (fresh_ct _) sq ?_; rintro ⟨pb, wb, rb⟩; dsimp only; refine Hd.yv y_as ?_; refine Hd.fk [(0, _), (1, _), (5, _), (6, _)] hK6 ?_; refine Hd.seq fun _ hK7 => ?_
  refine Hd.sr fun _ hK8 => ?_
  refine Hd.yv y_mv ?_; refine Hd.yv (y_len Tryz.underlying22 rfl) ?_; refine Hd.yv y_mv ?_; refine Hd.fk [(0, _), (1, _), (5, _), (6, _), (47, _), (48, _)] hK8 ?_; refine Hd.block ?_; refine Hd.loopK (ι := Nat) [(0, _), (1, _), (5, _), (6, _), (47, _)] (fun i => [(48, .int .i64 (i : Int))]) (fun i => pu (i ≤ fs.length ∧ Lo (100 * i) (runA newA (fs.take i))) :: BoP pb wb rb :: WorldP wb (runA newA (fs.take i)) :: Rf.RwP rb (runA newA (fs.take i)) :: L) (fun i => fs.length - i) 0 sbq sbq (Ent.sep (.pure ⟨Nat.zero_le _, newA_lo⟩ enn)) ?_; intro i
  try dsimp only
  refine Hd.pure (fun hp0 => ?_)
  try dsimp only at hp0
  refine Hd.sr fun _ hK9 => ?_
  refine Hd.yv (y_lss rfl rfl) ?_; refine Hd.fk [(0, _), (1, _), (5, _), (6, _), (47, _), (48, _), (49, _)] hK9 ?_; refine Hd.seq fun _ hK10 => ?_
  refine Hd.cond rfl (fun hc1 => ?_) (fun hc1 => ?_)
  ·
   try simp only [hyA, hyB, hyC, ne_eq] at hc1
   have hi : i < fs.length := by omega
   obtain ⟨o, ho⟩ : ∃ o, fs[i]? = some o := ⟨_, List.getElem?_eq_getElem hi⟩
   have hoo := hFo o (List.mem_of_getElem? ho)
   have hod := hgo.2 o (List.mem_of_getElem? ho)
   have hrs : runA newA (fs.take (i + 1)) = doA (runA newA (fs.take i)) o := by rw [List.take_add_one, ho]; exact runA_snoc _ _ _
   refine Hd.wokW (.there .here) (fun hw => ?_)
   have hst := (do_stp hw o (by have := hoo.t; simp only [InK] at this; omega) (100 * i) (by omega) hp0.2).1
   rw [← hrs] at hst; refine Hd.skip ?_; refine Hd.toK hK10 ?_; refine Hd.seq fun _ hK11 => ?_
   refine Hd.block ?_; refine Hd.sr fun _ hK12 => ?_
   refine Hd.yv y_mv ?_; refine Hd.yv y_as ?_; refine Hd.fk [(0, _), (1, _), (5, _), (6, _), (7, _), (47, _), (48, _)] hK12 ?_; refine Hd.sr fun _ hK13 => ?_
   refine Hd.yv y_mv ?_; refine Hd.yv y_mv ?_; refine Hd.yv y_mv ?_; refine Hd.yv (y_idxR Tryz.underlying22 sz33 rfl rfl hi (RdS.mono hF sq)) ?_; refine Hd.yv (y_loadRn (vs := encO o) ag33 rfl (RdS.mono hF sq) (flat_cells encO 5 (fun _ => rfl) ho) sz33 (by simp)) ?_; refine Hd.callE rfl fk17 (do_ct _ pb wb rb _ (100 * i) (by omega) hp0.2 o hoo.t hod ?hD hoo.c) sq ?_
   case hD => exact RdS.mono hoo.rd sq
   intro _; rw [← hrs]; refine Hd.yv (y_not rfl) ?_; refine Hd.fk [(0, _), (1, _), (5, _), (6, _), (47, _), (48, _), (57, _)] hK13 ?_; refine Hd.condF rfl ?_; refine Hd.skip ?_; refine Hd.inB ?_; refine Hd.toK hK11 ?_; refine Hd.region ?_; refine Hd.yv (y_addn rfl rfl (by simp only [InK]; omega)) ?_; refine Hd.yv y_mv ?_; refine Hd.nil ?_; refine Hd.slots [(0, _), (1, _), (5, _), (6, _), (47, _), (48, _)] sbq ?_; clear hK1 hK2 hK3 hK4 hK6 hK7 hK8 hK9 hK10 hK11 hK12 hK13; refine Hd.thenN ?_; exact Hd.again (i + 1) (by omega) sbq (Ent.sep (.pure ⟨hi, hst⟩ enn))
  ·
   try simp only [hyA, hyB, hyC, ne_eq] at hc1
   obtain rfl : i = fs.length := by omega
   rw [List.take_of_length_le (Nat.le_refl _)] at hp0 ⊢
   obtain ⟨w, hrw⟩ : ∃ w, runA newA fs = w := ⟨_, rfl⟩
   rw [hrw] at hp0 ⊢; refine Hd.wokW (.there .here) (fun hw => ?_); refine Hd.exit ?_; refine Hd.thenExit ?_; refine Hd.thenExit ?_; refine Hd.inBexit ?_; refine Hd.toK hK7 ?_; refine Hd.sr fun _ hK14 => ?_
   refine Hd.yv y_mv ?_; refine Hd.yv y_np ?_; refine Hd.yv (y_f 0 38 Tryz.underlying41 sz38) ?_; refine Hd.yv (y_l1 ag38 rfl) ?_; refine Hd.callE rfl fk18 (enew_ct _ wb 99 (by decide)) sq ?_; rintro ⟨eb, mb⟩; dsimp only; refine Hd.yv y_mv ?_; refine Hd.yv (y_to (v' := .pointer (some ⟨eb, 0, none⟩)) y_ex (by rfl)) ?_; refine Hd.yv (y_to (v' := .int .i64 0) y_ex (by rfl)) ?_; refine Hd.yv y_as ?_; refine Hd.yv y_as ?_; refine Hd.fk [(1, _), (5, _), (8, _), (9, _)] hK14 ?_; refine Hd.seq fun _ hK15 => ?_
   refine Hd.sr fun _ hK16 => ?_
   refine Hd.yv y_mv ?_; refine Hd.yv (y_neq rfl rfl) ?_; refine Hd.fk [(1, _), (5, _), (8, _), (68, _)] hK16 ?_; refine Hd.condF rfl ?_; refine Hd.skip ?_; refine Hd.toK hK15 ?_; refine Hd.sr fun _ hK17 => ?_
   refine Hd.makeMap .i64 (fun b69 => ?_); refine Hd.yv y_as ?_; refine Hd.fk [(1, _), (5, _), (8, _), (10, _)] hK17 ?_; refine Hd.seq fun _ hK18 => ?_
   refine Hd.sr fun _ hK19 => ?_
   refine Hd.yv y_mv ?_; refine Hd.yv (y_len Tryz.underlying23 rfl) ?_; refine Hd.yv y_mv ?_; refine Hd.fk [(1, _), (5, _), (8, _), (10, _), (71, _), (72, _)] hK19 ?_; refine Hd.block ?_; refine Hd.loopK (ι := Nat × (Int → Option IxA) × Nat × (Int → Option Value) × Nat) [(1, _), (5, _), (8, _), (10, _), (71, _)] (fun q_ => [(72, .int .i64 (q_.1 : Int))]) (fun q_ => pu (q_.1 ≤ xs.length ∧ GdE q_.2.1 w ∧ q_.2.2.1 ≤ q_.1 ∧ ∀ a, (q_.2.2.2.1 a).getD zI = .int .i64 (wtF q_.2.1 a)) :: mp b69 .i64 q_.2.2.2.1 q_.2.2.2.2 :: EpB eb wb mb 99 q_.2.1 q_.2.2.1 w (BoP pb wb rb :: Rf.RwP rb w :: L)) (fun q_ => xs.length - q_.1) (0, f0, 0, fun _ => none, 0) sbq sbq (Ent.sep (.pure ⟨Nat.zero_le _, f0_gd w, Nat.le_refl _, fun a => rfl⟩ enn)) ?_; rintro ⟨i, f, m, W, mw⟩
   try dsimp only
   refine Hd.pure (fun hp1 => ?_)
   try dsimp only at hp1
   refine Hd.sr fun _ hK20 => ?_
   refine Hd.yv (y_lss rfl rfl) ?_; refine Hd.fk [(1, _), (5, _), (8, _), (10, _), (71, _), (72, _), (73, _)] hK20 ?_; refine Hd.seq fun _ hK21 => ?_
   refine Hd.cond rfl (fun hc4 => ?_) (fun hc4 => ?_)
   ·
    try simp only [hyA, hyB, hyC, ne_eq] at hc4
    have hi : i < xs.length := by omega
    obtain ⟨p, hp⟩ : ∃ p, xs[i]? = some p := ⟨_, List.getElem?_eq_getElem hi⟩
    have hpo := hXo p (List.mem_of_getElem? hp)
    have hmi := hp1.2.2.1
    refine Hd.skip ?_; refine Hd.toK hK21 ?_; refine Hd.seq fun _ hK22 => ?_
    refine Hd.block ?_; refine Hd.sr fun _ hK23 => ?_
    refine Hd.yv y_mv ?_; refine Hd.yv y_as ?_; refine Hd.fk [(1, _), (5, _), (8, _), (10, _), (11, _), (71, _), (72, _)] hK23 ?_; refine Hd.seq fun _ hK24 => ?_
    refine Hd.tail 11 mixed kq ?_; simp only [List.take, List.drop]; refine Ht.yv y_mv ?_; refine Ht.yv y_mv ?_; refine Ht.yv y_mv ?_; refine Ht.yv (y_idxR Tryz.underlying23 sz46 rfl rfl (by omega) (by exact RdS.mono hX sq)) ?_; refine Ht.yv (y_fR 6 3 Tryz.underlying46 sz3) ?_; refine Ht.yv (y_loadR1 ag3 rfl (RdS.mono hX sq) (flat_cells encPv 10 (fun _ => rfl) hp 6 _ rfl)) ?_; refine Ht.yv y_mv ?_; refine Ht.yv y_mv ?_; refine Ht.yv (y_idxR Tryz.underlying23 sz46 rfl rfl (by omega) (by exact RdS.mono hX sq)) ?_; refine Ht.yv (y_fR 8 3 Tryz.underlying46 sz3) ?_; refine Ht.yv (y_loadR1 ag3 rfl (RdS.mono hX sq) (flat_cells encPv 10 (fun _ => rfl) hp 8 _ rfl)) ?_; refine Ht.nil ?_; refine Hd.callE rfl fk19 (ctl_ct _ eb wb mb 99 f m (by omega) w 1 p.fd p.ev) sq ?_; intro m'; refine Hd.pure fun hm' => ?_
    have hag := add_gd hp1.2.1 (limit := 99) p.fd p.ev hpo.ev
    obtain ⟨f', hf'⟩ : ∃ f', (ctlR 99 f w 1 p.fd p.ev).2 = f' := ⟨_, rfl⟩
    obtain ⟨e', he'⟩ : ∃ e', (ctlR 99 f w 1 p.fd p.ev).1 = e' := ⟨_, rfl⟩
    rw [hf', he'] at hag; rw [hf', he']; refine Hd.yv (y_eql rfl rfl) ?_; refine Hd.fk [(1, _), (5, _), (8, _), (10, _), (11, _), (71, _), (72, _), (87, _)] hK24 ?_; refine Hd.cond rfl (fun hc5 => ?_) (fun hc5 => ?_)
    ·
     try simp only [hyA, hyB, hyC, ne_eq] at hc5
     have hh := hag.resolve_left (fun h => h.1 (by simpa using hc5))
     refine Hd.tail 11 mixed kq ?_; simp only [List.take, List.drop]; refine Ht.yv y_mv ?_; refine Ht.yv y_mv ?_; refine Ht.yv y_mv ?_; refine Ht.yv (y_idxR Tryz.underlying23 sz46 rfl rfl (by omega) (by exact RdS.mono hX sq)) ?_; refine Ht.yv (y_fR 6 3 Tryz.underlying46 sz3) ?_; refine Ht.yv (y_loadR1 ag3 rfl (RdS.mono hX sq) (flat_cells encPv 10 (fun _ => rfl) hp 6 _ rfl)) ?_; refine Ht.yv y_mv ?_; refine Ht.yv y_mv ?_; refine Ht.yv (y_idxR Tryz.underlying23 sz46 rfl rfl (by omega) (by exact RdS.mono hX sq)) ?_; refine Ht.yv (y_fR 8 3 Tryz.underlying46 sz3) ?_; refine Ht.yv (y_loadR1 ag3 rfl (RdS.mono hX sq) (flat_cells encPv 10 (fun _ => rfl) hp 8 _ rfl)) ?_; refine Ht.nil ?_; refine Hd.mapUpdate mapt42 rfl rfl rfl pkk ?_; refine Hd.nil ?_; refine Hd.slots [(1, _), (5, _), (8, _), (10, _), (71, _), (72, _)] sbq ?_; refine Hd.inB ?_; refine Hd.toK hK22 ?_; refine Hd.region ?_; refine Hd.yv (y_addn rfl rfl (by simp only [InK]; omega)) ?_
     refine Hd.yv y_mv ?_; refine Hd.nil ?_; refine Hd.slots [(1, _), (5, _), (8, _), (10, _), (71, _), (72, _)] sbq ?_; clear hK1 hK2 hK3 hK4 hK6 hK7 hK8 hK9 hK10 hK14 hK15 hK16 hK17 hK18 hK19 hK20 hK21 hK22 hK23 hK24; refine Hd.thenN ?_
     have hnw : ∀ a, ((fun a => if a = p.fd then some (Value.int .i64 p.ev) else W a) a).getD zI = .int .i64 (wtF f' a) := fun a => by
      by_cases e : a = p.fd
      ·simp only [if_pos e]; unfold wtF; rw [e, hh.2.2.2.2.1]; rfl
      ·simp only [if_neg e]; rw [hp1.2.2.2 a]; unfold wtF; rw [hh.2.2.1, updF_ne e]
     exact Hd.again (i + 1, f', m', (fun a => if a = p.fd then some (.int .i64 p.ev) else W a), if (W p.fd).isSome then mw else mw + 1) (by omega) sbq (Ent.sep (.pure ⟨hi, hh.2.2.2.1, (show m' ≤ i + 1 by omega), hnw⟩ enn))
    ·
     try simp only [hyA, hyB, hyC, ne_eq] at hc5
     have hh := hag.resolve_right (fun h => hc5 (by simpa using h.1))
     refine Hd.skip ?_; refine Hd.inB ?_; refine Hd.toK hK22 ?_; refine Hd.region ?_; refine Hd.yv (y_addn rfl rfl (by simp only [InK]; omega)) ?_; refine Hd.yv y_mv ?_; refine Hd.nil ?_; refine Hd.slots [(1, _), (5, _), (8, _), (10, _), (71, _), (72, _)] sbq ?_; clear hK1 hK2 hK3 hK4 hK6 hK7 hK8 hK9 hK10 hK14 hK15 hK16 hK17 hK18 hK19 hK20 hK21 hK22 hK23 hK24; refine Hd.thenN ?_; exact Hd.again (i + 1, f', m', W, mw) (by omega) sbq (Ent.sep (.pure ⟨hi, (show GdE f' w by rw [hh.2]; exact hp1.2.1), (show m' ≤ i + 1 by omega), fun a => (show (W a).getD zI = .int .i64 (wtF f' a) by rw [hh.2]; exact hp1.2.2.2 a)⟩ enn))
   ·
    try simp only [hyA, hyB, hyC, ne_eq] at hc4
    obtain rfl : i = xs.length := by omega
    obtain ⟨D, hD⟩ : ∃ D, nE f (dueL f w) = D := ⟨_, rfl⟩
    have hmf := hp1.2.2.1
    have hg0 := hp1.2.1
    have hwt := hp1.2.2.2
    refine Hd.exit ?_; refine Hd.thenExit ?_; refine Hd.thenExit ?_; refine Hd.inBexit ?_; refine Hd.toK hK18 ?_; refine Hd.sr fun _ hK25 => ?_
    refine Hd.makeMap .i64 (fun b100 => ?_); refine Hd.yv y_as ?_; refine Hd.fk [(1, _), (5, _), (8, _), (10, _), (12, _)] hK25 ?_; refine Hd.sr fun _ hK26 => ?_
    refine Hd.makeMap .i64 (fun b101 => ?_); refine Hd.yv y_as ?_; refine Hd.fk [(1, _), (5, _), (8, _), (10, _), (12, _), (13, _)] hK26 ?_; refine Hd.seq fun _ hK27 => ?_
    refine Hd.sr fun _ hK28 => ?_
    refine Hd.yv y_as ?_; refine Hd.fk [(1, _), (5, _), (8, _), (10, _), (12, _), (13, _), (14, _)] hK28 ?_; refine Hd.block ?_; refine Hd.loopK (ι := Nat × (Int → Option IxA) × Nat × (Int → Option Value) × Nat × (Int → Option Value) × Nat × List (Int × Int)) [(1, _), (5, _), (8, _), (10, _), (12, _), (13, _)] (fun q_ => [(14, .int .i64 (q_.1 : Int))]) (fun q_ => pu (q_.1 ≤ 4 ∧ GdE q_.2.1 w ∧ q_.2.2.1 ≤ 40 + 96 * q_.1 ∧ (∀ a, wtF q_.2.1 a = wtF f a) ∧ (q_.1 = 0 → dueL q_.2.1 w = dueL f w) ∧ (0 < q_.1 → dueL q_.2.1 w = D) ∧ LvOk q_.2.2.2.1 q_.2.2.2.2.1 q_.2.2.2.2.2.2.2 ∧ (q_.1 = 0 → q_.2.2.2.2.2.2.2 = []) ∧ (0 < q_.1 → q_.2.2.2.2.2.2.2.Perm D) ∧ (q_.1 = 0 → ∀ a, q_.2.2.2.2.2.1 a = none)) :: mp b100 .i64 q_.2.2.2.1 q_.2.2.2.2.1 :: mp b101 .i64 q_.2.2.2.2.2.1 q_.2.2.2.2.2.2.1 :: mp b69 .i64 W mw :: EpB eb wb mb 99 q_.2.1 q_.2.2.1 w (BoP pb wb rb :: Rf.RwP rb w :: L)) (fun q_ => 4 - q_.1) (0, f, m, fun _ => none, 0, fun _ => none, 0, []) sbq sbq (Ent.sep (.pure ⟨Nat.zero_le _, hg0, (show m ≤ 40 + 96 * 0 by omega), fun _ => rfl, fun _ => rfl, fun h => absurd h (show ¬ 0 < 0 by decide), LvOk.nil, fun _ => rfl, fun h => absurd h (show ¬ 0 < 0 by decide), fun _ _ => rfl⟩ enn)) ?_
    rintro ⟨r, g, mg, lev, ml, edg, me, S⟩
    try dsimp only
    refine Hd.pure (fun hp2 => ?_)
    try dsimp only at hp2
    refine Hd.seq fun _ hK29 => ?_
    refine Hd.sr fun _ hK30 => ?_
    refine Hd.yv y_mv ?_; refine Hd.yv (y_lss rfl rfl) ?_; refine Hd.fk [(1, _), (5, _), (8, _), (10, _), (12, _), (13, _), (14, _), (103, _)] hK30 ?_; refine Hd.cond rfl (fun hc6 => ?_) (fun hc6 => ?_)
    ·
     try simp only [hyA, hyB, hyC, ne_eq] at hc6
     have hr4 : r < 4 := by omega
     obtain ⟨hrl, hgg, hmg, hgw, hd0, hd1, hlv, hS0, hS1, he0⟩ := hp2
     refine Hd.skip ?_; refine Hd.toK hK29 ?_; refine Hd.seq fun _ hK31 => ?_
     refine Hd.block ?_; refine Hd.sr fun _ hK32 => ?_
     refine Hd.yv y_as ?_; refine Hd.fk [(1, _), (5, _), (8, _), (10, _), (12, _), (13, _), (14, _), (15, _)] hK32 ?_; refine Hd.cutK (ι := {q : List Int × Option Addr × Nat // q.1.length ≤ 60 ∧ RdS L 1 q.2.1 q.1.length (vi q.1)}) [(1, _), (5, _), (8, _), (10, _), (12, _), (13, _), (14, _)] (fun q => [(15, .slice q.1.2.1 q.1.1.length q.1.2.2)]) (fun _ => mp b100 .i64 lev ml :: mp b101 .i64 edg me :: mp b69 .i64 W mw :: EpB eb wb mb 99 g mg w (BoP pb wb rb :: Rf.RwP rb w :: L)) ?_ ?_ ⟨rfl, rfl, rfl, rfl, rfl, rfl, rfl, trivial⟩
     ·
      refine Hd.sr fun _ hK33 => ?_
      refine Hd.yv y_mv ?_; refine Hd.yv y_mv ?_; refine Hd.yv (y_len Tryz.underlying23 rfl) ?_; refine Hd.yv (y_lss rfl rfl) ?_; refine Hd.fk [(1, _), (5, _), (8, _), (10, _), (12, _), (13, _), (14, _), (15, _), (109, _)] hK33 ?_; refine Hd.cond rfl (fun hc7 => ?_) (fun hc7 => ?_)
      ·
       try simp only [hyA, hyB, hyC, ne_eq] at hc7
       have hrx : r < xs.length := by omega
       obtain ⟨p, hp⟩ : ∃ p, xs[r]? = some p := ⟨_, List.getElem?_eq_getElem hrx⟩
       have hpo := hXo p (List.mem_of_getElem? hp)
       have hpl := hgp.2 p (List.mem_of_getElem? hp)
       refine Hd.region ?_; refine Hd.yv y_mv ?_; refine Hd.yv y_mv ?_; refine Hd.yv (y_idxR Tryz.underlying23 sz46 rfl rfl (by omega) (by exact RdS.mono hX sq)) ?_; refine Hd.yv (y_fR 9 44 Tryz.underlying46 sz44) ?_; refine Hd.yv (y_loadR1 ag44 rfl (RdS.mono hX sq) (flat_cells encPv 10 (fun _ => rfl) hp 9 _ rfl)) ?_; refine Hd.yv y_as ?_; refine Hd.nil ?_; refine Hd.slots [(1, _), (5, _), (8, _), (10, _), (12, _), (13, _), (14, _), (15, _)] sbq ?_; clear hK1 hK2 hK3 hK4 hK6 hK7 hK8 hK9 hK10 hK14 hK15 hK16 hK17 hK18 hK19 hK20 hK21 hK25 hK26 hK27 hK28 hK29 hK30 hK31 hK32 hK33; refine Hd.thenN ?_; exact Hd.meet ⟨(p.ord, p.ad, p.c), hpl.1, hpo.rd⟩ sbq sq
      ·
       try simp only [hyA, hyB, hyC, ne_eq] at hc7
       refine Hd.skip ?_; clear hK1 hK2 hK3 hK4 hK6 hK7 hK8 hK9 hK10 hK14 hK15 hK16 hK17 hK18 hK19 hK20 hK21 hK25 hK26 hK27 hK28 hK29 hK30 hK31 hK32 hK33; refine Hd.thenN ?_; exact Hd.meet ⟨([], none, 0), Nat.zero_le _, RdS.none _ _ _⟩ sbq sq
     ·
      rintro ⟨⟨ord, oa, oc⟩, hol, hord⟩; dsimp only at hol hord ⊢; refine Hd.sr fun _ hK34 => ?_
      refine Hd.yv y_mv ?_; refine Hd.yv y_mv ?_; refine Hd.callE rfl fk20 (poll_ct _ eb wb mb 99 g mg (by omega) w 200 (by decide) oa oc ord ?hD (by omega)) sq ?_
      case hD => exact RdS.mono hord sq
      rintro ⟨pa, pc, m'⟩; dsimp only; refine Hd.pure fun hm' => ?_
      obtain ⟨ys, hys⟩ : ∃ ys, polL g w 200 ord = ys := ⟨_, rfl⟩
      have hper : ys.Perm (dueL g w) := by rw [← hys]; exact polL_perm g w ord
      have hsub : (∀ y ∈ ys, y ∈ dueL g w) ∧ (ys.map Prod.fst).Nodup := by rw [← hys]; exact polL_sub g w 200 ord
      rw [hys] at hm' ⊢
      have hyl : ys.length ≤ 96 := by rw [hper.length_eq]; exact dueL_len g w
      have hed : ∀ a, edF g a = edF f a := fun a => by rw [edF_wt, edF_wt, hgw]
      obtain ⟨o1, o2, o3, o4, o5⟩ := off_all hw hgg hsub.1 hsub.2
      have hDe : ∀ y ∈ D, edF f y.1 = false := fun y hy => by
       rw [← hD] at hy; simpa using (List.mem_filter.1 hy).2
      have hdue2 : dueL (offF w g ys) w = D := by
       rw [o5]
       have e : ((dueL g w).filter fun y => !(decide (y.1 ∈ ys.map Prod.fst) && edF g y.1)) = nE f (dueL g w) := List.filter_congr fun y hy => by
        rw [decide_eq_true (List.mem_map_of_mem (hper.mem_iff.2 hy)), Bool.true_and, hed]
       rw [e]
       rcases Nat.eq_zero_or_pos r with h0 | h0
       ·rw [hd0 h0, hD]
       ·rw [hd1 h0]
        exact List.filter_eq_self.2 fun y hy => by rw [hDe y hy]; rfl
      have hyD : 0 < r → ys.Perm D := fun h => by rw [← hd1 h]; exact hper
      have hlast : (nE f ys).Perm D := by
       rcases Nat.eq_zero_or_pos r with h0 | h0
       ·rw [← hD, ← hd0 h0]; exact hper.filter _
       ·have : nE f ys = ys := List.filter_eq_self.2 fun y hy => by rw [hDe y ((hyD h0).mem_iff.1 hy)]; rfl
        rw [this]; exact hyD h0
      have hwt2 : ∀ a, wtF (offF w g ys) a = wtF f a := fun a => by rw [← hgw a]; unfold wtF; rw [o4 a]
      refine Hd.yv y_mv ?_; refine Hd.yv (y_to (v' := .slice pa ys.length pc) y_ex (by rfl)) ?_; refine Hd.yv (y_to (v' := .int .i64 0) y_ex (by rfl)) ?_; refine Hd.yv y_as ?_; refine Hd.yv y_as ?_; refine Hd.fk [(1, _), (5, _), (8, _), (10, _), (12, _), (13, _), (14, _), (16, _), (17, _)] hK34 ?_; refine Hd.seq fun _ hK35 => ?_
      refine Hd.sr fun _ hK36 => ?_
      refine Hd.yv y_mv ?_; refine Hd.yv (y_neq rfl rfl) ?_; refine Hd.fk [(1, _), (5, _), (8, _), (10, _), (12, _), (13, _), (14, _), (16, _), (122, _)] hK36 ?_; refine Hd.condF rfl ?_; refine Hd.skip ?_; refine Hd.toK hK35 ?_; refine Hd.sr fun _ hK37 => ?_
      refine Hd.yv y_as ?_; refine Hd.fk [(1, _), (5, _), (8, _), (10, _), (12, _), (13, _), (14, _), (16, _), (18, _)] hK37 ?_; refine Hd.seq fun _ hK38 => ?_
      refine Hd.sr fun _ hK39 => ?_
      refine Hd.yv y_mv ?_; refine Hd.yv (y_len Tryz.underlying47 rfl) ?_; refine Hd.yv y_mv ?_; refine Hd.fk [(1, _), (5, _), (8, _), (10, _), (12, _), (13, _), (14, _), (18, _), (123, _), (124, _), (125, _)] hK39 ?_; refine Hd.block ?_; refine Hd.loopK (ι := Nat × (Int → Option Value) × Nat × (Int → Option Value) × Nat × List (Int × Int)) [(1, _), (5, _), (8, _), (10, _), (12, _), (13, _), (14, _), (123, _), (124, _)] (fun q_ => [(18, .int .i64 ((nE f (ys.take q_.1)).length : Nat)), (125, .int .i64 (q_.1 : Int))]) (fun q_ => pu (q_.1 ≤ ys.length ∧ LvOk q_.2.1 q_.2.2.1 q_.2.2.2.2.2 ∧ (r = 0 → q_.2.2.2.2.2 = nE f (ys.take q_.1)) ∧ (0 < r → q_.2.2.2.2.2.Perm D) ∧ (r = 0 → ∀ a, (q_.2.2.2.1 a).getD zI = .int .i64 (((eE f (ys.take q_.1)).map Prod.fst).count a : Nat))) :: mp b100 .i64 q_.2.1 q_.2.2.1 :: mp b101 .i64 q_.2.2.2.1 q_.2.2.2.2.1 :: mp b69 .i64 W mw :: own 51 2 pa ys.length pc (ys.flatMap encPo) :: EpB eb wb mb 99 (offF w g ys) m' w (BoP pb wb rb :: Rf.RwP rb w :: L)) (fun q_ => ys.length - q_.1) (0, lev, ml, edg, me, S) sbq sbq (Ent.sep (.pure ⟨Nat.zero_le _, hlv, fun h => by show S = []; exact hS0 h, hS1, fun h a => by show (edg a).getD zI = _; rw [he0 h a]; rfl⟩ enn)) ?_
      rintro ⟨i, lv, m3, ed, me3, T⟩
      try dsimp only
      refine Hd.pure (fun hp3 => ?_)
      try dsimp only at hp3
      refine Hd.sr fun _ hK40 => ?_
      refine Hd.yv (y_lss rfl rfl) ?_; refine Hd.fk [(1, _), (5, _), (8, _), (10, _), (12, _), (13, _), (14, _), (18, _), (123, _), (124, _), (125, _), (126, _)] hK40 ?_; refine Hd.seq fun _ hK41 => ?_
      refine Hd.cond rfl (fun hc9 => ?_) (fun hc9 => ?_)
      ·
       try simp only [hyA, hyB, hyC, ne_eq] at hc9
       have hi : i < ys.length := by omega
       obtain ⟨y, hy⟩ : ∃ y, ys[i]? = some y := ⟨_, List.getElem?_eq_getElem hi⟩
       have hym : y ∈ ys := List.mem_of_getElem? hy
       obtain ⟨hil, hlk, hT0, hT1, hcd⟩ := hp3
       have hns := nE_succ f hy
       have hes := eE_succ f hy
       have hnl : (nE f (ys.take i)).length ≤ 96 := by
        have := List.length_filter_le (fun y => !(edF f y.1)) (ys.take i)
        rw [List.length_take] at this
        have h2 : (nE f (ys.take i)).length ≤ min i ys.length := this
        omega
       refine Hd.skip ?_; refine Hd.toK hK41 ?_; refine Hd.seq fun _ hK42 => ?_
       refine Hd.block ?_; refine Hd.sr fun _ hK43 => ?_
       refine Hd.yv (y_idxR Tryz.underlying47 sz51 rfl rfl (by omega) (by exact RdS.own pkk)) ?_; refine Hd.yv (y_loadRn (vs := encPo y) ag51 rfl (RdS.own (ad := pa) (us := ys.flatMap encPo) pkk) (flat_cells encPo 2 (fun _ => rfl) hy) sz51 (by simp)) ?_; refine Hd.alloc zr51 (fun b20 => ?_); refine Hd.storeA (us := encPo y) sz51 rfl rfl rfl (by simp [Value.oneCell']) pkk (by exact rfl) ?_; refine Hd.fk [(1, _), (5, _), (8, _), (10, _), (12, _), (13, _), (14, _), (18, _), (20, _), (123, _), (124, _), (125, _)] hK43 ?_; refine Hd.seq fun _ hK44 => ?_
       refine Hd.sr fun _ hK45 => ?_
       refine Hd.yv y_mv ?_; refine Hd.yv (y_f 0 3 Tryz.underlying51 sz3) ?_; refine Hd.yv (y_l1 ag3 rfl) ?_; refine Hd.yv (y_to (v' := .int .i64 (wtF f y.1)) (y_lookup mapt42 rfl rfl pkk) (by exact hwt y.1)) ?_; refine Hd.yv (y_and rfl rfl) ?_; refine Hd.yv (y_neq rfl rfl) ?_; refine Hd.fk [(1, _), (5, _), (8, _), (10, _), (12, _), (13, _), (14, _), (18, _), (20, _), (123, _), (124, _), (125, _), (134, _)] hK45 ?_; refine Hd.cond rfl (fun hc10 => ?_) (fun hc10 => ?_)
       ·
        try simp only [hyA, hyB, hyC, ne_eq] at hc10
        have hee : edF f y.1 = true := by rw [edF_wt]; simpa using hc10
        have hr0 : r = 0 := by
         rcases Nat.eq_zero_or_pos r with h | h
         ·exact h
         ·have := hDe y ((hyD h).mem_iff.1 hym); rw [hee] at this; cases this
        rw [if_pos hee, List.append_nil] at hns; rw [if_pos hee] at hes
        obtain ⟨cn, hcn⟩ : ∃ cn, ((eE f (ys.take i)).map Prod.fst).count y.1 = cn := ⟨_, rfl⟩
        have hc1 := eE_one f hsub.2 (i + 1) y.1
        have hcs : ∀ a, ((eE f (ys.take (i + 1))).map Prod.fst).count a = ((eE f (ys.take i)).map Prod.fst).count a + (if a = y.1 then 1 else 0) := fun a => by
         rw [hes, List.map_append, List.count_append]
         congr 1
         by_cases e : a = y.1
         ·rw [if_pos e, e]; simp
         ·rw [if_neg e]; show List.count a [y.1] = 0; rw [List.count_singleton, if_neg (by simpa using fun h : y.1 = a => e h.symm)]
        rw [hcs, if_pos rfl, hcn] at hc1; refine Hd.sr fun _ hK46 => ?_
        refine Hd.yv y_mv ?_; refine Hd.yv (y_f 0 3 Tryz.underlying51 sz3) ?_; refine Hd.yv (y_l1 ag3 rfl) ?_; refine Hd.yv (y_to (v' := .int .i64 (cn : Nat)) (y_lookup mapt42 rfl rfl pkk) (by (rw [← hcn]; exact hcd hr0 y.1))) ?_; refine Hd.yv (y_addn rfl rfl (by simp only [InK]; omega)) ?_; refine Hd.mapUpdate mapt42 rfl rfl rfl pkk ?_; refine Hd.fk [(1, _), (5, _), (8, _), (10, _), (12, _), (13, _), (14, _), (18, _), (20, _), (123, _), (124, _), (125, _)] hK46 ?_; refine Hd.seq fun _ hK47 => ?_
        refine Hd.sr fun _ hK48 => ?_
        refine Hd.yv y_mv ?_; refine Hd.yv (y_f 0 3 Tryz.underlying51 sz3) ?_; refine Hd.yv (y_l1 ag3 rfl) ?_; refine Hd.yv (y_to (v' := .int .i64 ((cn : Nat) + 1)) (y_lookup mapt42 rfl rfl pkk) (by simp)) ?_; refine Hd.yv (y_gtr rfl rfl) ?_; refine Hd.fk [(1, _), (5, _), (8, _), (10, _), (12, _), (13, _), (14, _), (18, _), (123, _), (124, _), (125, _), (144, _)] hK48 ?_; refine Hd.cond rfl (fun hc11 => ?_) (fun hc11 => ?_)
        ·
         try simp only [hyA, hyB, hyC, ne_eq] at hc11
         exfalso; omega
        ·
         try simp only [hyA, hyB, hyC, ne_eq] at hc11
         refine Hd.skip ?_; refine Hd.toK hK47 ?_; refine Hd.exit ?_; refine Hd.thenExit ?_; refine Hd.inBexit ?_; refine Hd.toK hK42 ?_; refine Hd.region ?_; refine Hd.yv (y_addn rfl rfl (by simp only [InK]; omega)) ?_; refine Hd.yv y_mv ?_; refine Hd.nil ?_; refine Hd.slots [(1, _), (5, _), (8, _), (10, _), (12, _), (13, _), (14, _), (18, _), (123, _), (124, _), (125, _)] sbq ?_; clear hK1 hK2 hK3 hK4 hK6 hK7 hK8 hK9 hK10 hK14 hK15 hK16 hK17 hK18 hK19 hK20 hK21 hK25 hK26 hK27 hK28 hK29 hK30 hK31 hK32 hK34 hK35 hK36 hK37 hK38 hK39 hK40 hK41 hK42 hK43 hK44 hK45 hK46 hK47 hK48; refine Hd.thenN ?_
         have hnew : r = 0 → ∀ a, ((fun a => if a = y.1 then some (Value.int .i64 ((cn : Nat) + 1)) else ed a) a).getD zI = .int .i64 (((eE f (ys.take (i + 1))).map Prod.fst).count a : Nat) := fun h a => by
          rw [hcs a]
          by_cases e : a = y.1
          ·simp only [if_pos e]; rw [e, hcn]; rfl
          ·simp only [if_neg e]; exact hcd h a
         refine Hd.again (i + 1, lv, m3, (fun a => if a = y.1 then some (.int .i64 ((cn : Nat) + 1)) else ed a), (if (ed y.1).isSome then me3 else me3 + 1), T) (by show ys.length - (i + 1) < ys.length - i; omega) (by dsimp only; rw [hns]; repeat (first | exact trivial | refine ⟨rfl, ?_⟩)) (fun q t => ?_); exact Ent.sep (.pure (show i + 1 ≤ ys.length ∧ LvOk lv m3 T ∧ (r = 0 → T = nE f (ys.take (i + 1))) ∧ _ from ⟨hi, hlk, fun h => by rw [hns]; exact hT0 h, hT1, hnew⟩) enn) q t
       ·
        try simp only [hyA, hyB, hyC, ne_eq] at hc10
        have hee : edF f y.1 = false := by rw [edF_wt]; simpa using hc10
        rw [if_neg (by rw [hee]; decide)] at hns; rw [if_neg (by rw [hee]; decide), List.append_nil] at hes
        have hyT : 0 < r → y ∈ T := fun h => (hT1 h).mem_iff.2 ((hyD h).mem_iff.1 hym)
        refine Hd.skip ?_; refine Hd.toK hK44 ?_; refine Hd.seq fun _ hK49 => ?_
        refine Hd.sr fun _ hK50 => ?_
        refine Hd.yv y_mv ?_; refine Hd.yv (y_gtr rfl rfl) ?_; refine Hd.yv y_mv ?_; apply Hd.andg 8 147 155 [(1, _), (5, _), (8, _), (10, _), (12, _), (13, _), (14, _), (18, _), (20, _), (123, _), (124, _), (125, _)] rfl ⟨rfl, rfl, rfl, rfl, rfl, rfl, rfl, rfl, rfl, rfl, rfl, rfl, trivial⟩
        ·intro hg40_147
         try simp only [hyA, hyB, hyC, ne_eq] at hg40_147
         simp only [List.take]; refine Hd.yg rfl rfl y_mv ?_; refine Hd.yg rfl rfl (y_f 0 3 Tryz.underlying51 sz3) ?_; refine Hd.yg rfl rfl (y_l1 ag3 rfl) ?_; refine Hd.yg rfl rfl (y_to (v' := .int .i64 y.2) (y_lookup mapt42 rfl rfl pkk) (by (rw [hlk.mem y (hyT (by omega))]; rfl))) ?_; refine Hd.yg rfl rfl (y_f 1 3 Tryz.underlying51 sz3) ?_; refine Hd.yg rfl rfl (y_l1 ag3 rfl) ?_; refine Hd.yg rfl rfl (y_neq rfl rfl) ?_; refine Hd.yv (y_pickT rfl rfl) ?_; refine Hd.nil ?_; exact Hd.mq
        ·intro hg40_147
         try simp only [hyA, hyB, hyC, ne_eq] at hg40_147
         simp only [List.take]; refine Hd.ng rfl rfl rfl ?_; refine Hd.ng rfl rfl rfl ?_; refine Hd.ng rfl rfl rfl ?_; refine Hd.ng rfl rfl rfl ?_; refine Hd.ng rfl rfl rfl ?_; refine Hd.ng rfl rfl rfl ?_; refine Hd.ng rfl rfl rfl ?_; refine Hd.yv (y_pickF rfl rfl) ?_; refine Hd.nil ?_; exact Hd.mq
        simp only [List.drop]; refine Hd.fk [(1, _), (5, _), (8, _), (10, _), (12, _), (13, _), (14, _), (18, _), (20, _), (123, _), (124, _), (125, _), (155, _)] hK50 ?_; refine Hd.cond rfl (fun hc12 => ?_) (fun hc12 => ?_)
        ·
         try simp only [hyA, hyB, hyC, ne_eq] at hc12
         exfalso; simp at hc12
        ·
         try simp only [hyA, hyB, hyC, ne_eq] at hc12
         refine Hd.skip ?_; refine Hd.toK hK49 ?_; refine Hd.sr fun _ hK51 => ?_
         refine Hd.yv y_mv ?_; refine Hd.yv (y_f 0 3 Tryz.underlying51 sz3) ?_; refine Hd.yv (y_l1 ag3 rfl) ?_; refine Hd.yv (y_f 1 3 Tryz.underlying51 sz3) ?_; refine Hd.yv (y_l1 ag3 rfl) ?_; refine Hd.mapUpdate mapt42 rfl rfl rfl pkk ?_; refine Hd.fk [(1, _), (5, _), (8, _), (10, _), (12, _), (13, _), (14, _), (18, _), (123, _), (124, _), (125, _)] hK51 ?_; refine Hd.region ?_; refine Hd.yv y_mv ?_; refine Hd.yv (y_addn rfl rfl (by simp only [InK]; omega)) ?_; refine Hd.yv y_as ?_; refine Hd.nil ?_; refine Hd.slots [(1, _), (5, _), (8, _), (10, _), (12, _), (13, _), (14, _), (18, _), (123, _), (124, _), (125, _)] sbq ?_; refine Hd.inB ?_; refine Hd.toK hK42 ?_; refine Hd.region ?_; refine Hd.yv (y_addn rfl rfl (by simp only [InK]; omega)) ?_; refine Hd.yv y_mv ?_; refine Hd.nil ?_; refine Hd.slots [(1, _), (5, _), (8, _), (10, _), (12, _), (13, _), (14, _), (18, _), (123, _), (124, _), (125, _)] sbq ?_
         clear hK1 hK2 hK3 hK4 hK6 hK7 hK8 hK9 hK10 hK14 hK15 hK16 hK17 hK18 hK19 hK20 hK21 hK25 hK26 hK27 hK28 hK29 hK30 hK31 hK32 hK34 hK35 hK36 hK37 hK38 hK39 hK40 hK41 hK42 hK43 hK44 hK45 hK49 hK50 hK51; refine Hd.thenN ?_
         have hlk2 : LvOk (fun a => if a = y.1 then some (.int .i64 y.2) else lv a) (if (lv y.1).isSome = true then m3 else m3 + 1) (if r = 0 then T ++ [y] else T) := by
          by_cases h0 : r = 0
          ·rw [if_pos h0]
           refine hlk.add fun hm => ?_
           rw [hT0 h0] at hm; exact nd_new hsub.2 hy ((List.filter_sublist.map Prod.fst).subset hm)
          ·rw [if_neg h0]
           exact hlk.same (hyT (by omega))
         refine Hd.again (i + 1, (fun a => if a = y.1 then some (.int .i64 y.2) else lv a), (if (lv y.1).isSome then m3 else m3 + 1), ed, me3, (if r = 0 then T ++ [y] else T)) (by show ys.length - (i + 1) < ys.length - i; omega) (by dsimp only; rw [hns, List.length_append]; repeat (first | exact trivial | refine ⟨rfl, ?_⟩)) (fun q t => ?_); exact Ent.sep (.pure (show i + 1 ≤ ys.length ∧ LvOk _ _ (if r = 0 then T ++ [y] else T) ∧ (r = 0 → (if r = 0 then T ++ [y] else T) = nE f (ys.take (i + 1))) ∧ (0 < r → (if r = 0 then T ++ [y] else T).Perm D) ∧ _ from ⟨hi, hlk2, fun h => by rw [if_pos h, hns, hT0 h], fun h => by rw [if_neg (by omega)]; exact hT1 h, fun h a => by rw [hes]; exact hcd h a⟩) enn) q t
      ·
       try simp only [hyA, hyB, hyC, ne_eq] at hc9
       obtain ⟨hil, hlk, hT0, hT1, hcd⟩ := hp3
       obtain rfl : i = ys.length := by omega
       rw [List.take_of_length_le (Nat.le_refl _)] at hT0 hcd ⊢
       have hm3 : (nE f ys).length = m3 := by
        rw [hlk.len]
        rcases Nat.eq_zero_or_pos r with h0 | h0
        ·rw [hT0 h0]
        ·rw [(hT1 h0).length_eq, hlast.length_eq]
       rw [hm3]; refine Hd.exit ?_; refine Hd.thenExit ?_; refine Hd.thenExit ?_; refine Hd.inBexit ?_; refine Hd.toK hK38 ?_; refine Hd.sr fun _ hK52 => ?_
       refine Hd.yv y_mv ?_; refine Hd.yv y_mv ?_; refine Hd.yv (y_lenM Tryz.underlying42 rfl pkk) ?_; refine Hd.yv (y_neq rfl rfl) ?_; refine Hd.fk [(1, _), (5, _), (8, _), (10, _), (12, _), (13, _), (14, _), (167, _)] hK52 ?_; refine Hd.cond rfl (fun hc13 => ?_) (fun hc13 => ?_)
       ·
        try simp only [hyA, hyB, hyC, ne_eq] at hc13
        exfalso; simp at hc13
       ·
        try simp only [hyA, hyB, hyC, ne_eq] at hc13
        refine Hd.skip ?_; refine Hd.inB ?_; refine Hd.toK hK31 ?_; refine Hd.region ?_; refine Hd.yv y_mv ?_; refine Hd.yv (y_addn rfl rfl (by simp only [InK]; omega)) ?_; refine Hd.yv y_as ?_; refine Hd.nil ?_; refine Hd.slots [(1, _), (5, _), (8, _), (10, _), (12, _), (13, _), (14, _)] sbq ?_; clear hK1 hK2 hK3 hK4 hK6 hK7 hK8 hK9 hK10 hK14 hK15 hK16 hK17 hK18 hK19 hK20 hK21 hK25 hK26 hK27 hK28 hK29 hK30 hK31 hK32 hK34 hK35 hK36 hK37 hK38 hK39 hK40 hK41 hK52; refine Hd.thenN ?_
        have hTD : T.Perm D := by
         rcases Nat.eq_zero_or_pos r with h0 | h0
         ·rw [hT0 h0]; exact hlast
         ·exact hT1 h0
        exact Hd.again (r + 1, offF w g ys, m', lv, m3, ed, me3, T) (by omega) sbq (Ent.sep (.pure ⟨hr4, o1, (show m' ≤ 40 + 96 * (r + 1) by omega), hwt2, fun h => absurd h (Nat.succ_ne_zero r), fun _ => hdue2, hlk, fun h => absurd h (Nat.succ_ne_zero r), fun _ => hTD, fun h => absurd h (Nat.succ_ne_zero r)⟩ enn))
    ·
     try simp only [hyA, hyB, hyC, ne_eq] at hc6
     refine Hd.exit ?_; refine Hd.thenExit ?_; refine Hd.thenExit ?_; refine Hd.inBexit ?_; refine Hd.toK hK27 ?_; refine Hd.sr fun _ hK53 => ?_
     refine Hd.yv y_mv ?_; refine Hd.yv y_as ?_; refine Hd.fk [(4, _)] hK53 ?_; refine Hd.ret ?_; clear hK1 hK2 hK3 hK4 hK6 hK7 hK8 hK9 hK10 hK14 hK15 hK16 hK17 hK18 hK19 hK20 hK21 hK25 hK26 hK27 hK28 hK29 hK30 hK53; exact Hd.ret1 rfl () (by rfl) sq
end Ep
end Go.Proofs.YtbfddabjbkohdaaGreat
