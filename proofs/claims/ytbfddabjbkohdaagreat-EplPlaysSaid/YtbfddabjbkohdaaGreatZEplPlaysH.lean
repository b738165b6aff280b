/-
  Signals: Handle, Raise, Take. Worlds: Handle, Raise, Signals, Notice. The document's world: Pending, noticed. The document's world: free. The document's world: Close. Regions with a memory that is held: operations taken ahead that others wait for only through others. No program is named here. The document's world: noticed. The document's world: Handle, Raise. The document's world: SetNotice. The document's world: Signals. The document's world: Ready.
-/
import Derived.Test.YtbfddabjbkohdaaGreatZEplPlaysG
set_option linter.unusedSimpArgs false
set_option linter.unusedVariables false
set_option linter.unnecessarySimpa false
namespace Go.Proofs.YtbfddabjbkohdaaGreat
set_option maxHeartbeats 2000000
open Go.RX.Hd (yv y2 n1 fk sk sr tH callE heldK onlyH endH thenN slots)
open Go.RX Fx
namespace Wo
set_option maxRecDepth 8000
theorem sig_open {s : Int} (h : mayE s = 0) : ∃ k : Nat, s = (k : Int) ∧ 1 ≤ k ∧ k < 32 := by
 have := mayE_0.1 h
 exact ⟨s.toNat, by omega, by omega, by omega⟩
theorem shandle_ct (L : List SP) (sb : Nat) (hd : List Bool) (ct : List Int) (hl : hd.length = 32) (hcl : ct.length = 32) (s : Int) (on : Bool) : Ct Tryz.prog 180 #[.pointer (some ⟨sb, 0, none⟩), .int .i64 s, .bool on] (SigP sb hd ct :: L) (fun _ : Unit => .int .i64 (mayE s)) (fun _ : Unit => SigP sb (if mayE s = 0 then hd.set s.toNat on else hd) (if mayE s = 0 ∧ on = false then ct.set s.toNat 0 else ct) :: L) := by
 refine Ct.o3 Tryz.func180 ?_; intro E
 show Hd E 27 _ _ _ _
 refine sr fun _ hK1 => ?_
 refine yv y_as <| fk [(0, _), (1, _), (2, _)] hK1 ?_; refine Hd.seq fun _ hK2 => ?_
 refine sr fun _ hK3 => ?_
 refine yv y_mv <| yv y_mv <| callE rfl fk197 (may_ct _ sb s) sq ?_; intro _; refine yv y_as <| fk [(0, _), (1, _), (2, _), (7, _)] hK3 ?_; refine sr fun _ hK4 => ?_
 refine yv y_mv <| yv (y_neq rfl rfl) ?_; refine fk [(0, _), (1, _), (2, _), (7, _), (12, _)] hK4 ?_; refine Hd.cond rfl (fun hc0 => ?_) (fun hc0 => ?_)
 ·try simp only [hyZ] at hc0
  refine sr fun _ hK5 => ?_
  refine yv y_mv <| yv y_as <| fk [(6, _)] hK5 ?_; refine Hd.ret <| Hd.thenRet ?_; rw [if_neg hc0, if_neg (fun h => hc0 h.1)]; exact Hd.ret1 rfl () rfl sq
 ·try simp only [hyZ] at hc0
  obtain ⟨k, rfl, hk1, hk⟩ := sig_open hc0
  refine Hd.skip <| Hd.toK hK2 ?_; refine Hd.seq fun _ hK6 => ?_
  refine sr fun _ hK7 => ?_
  refine yv y_mv <| yv y_mv <| yv y_mv <| yv y_np <| yv (y_f 0 130 Tryz.underlying265 sz130) ?_; refine yv (y_idxA Tryz.underlying130 sz4 rfl rfl (by omega)) ?_; refine Hd.store1 sz4 rfl rfl rfl pkk (by rw [sg_len hl hcl]; omega) ?_
  try simp only [hyS]
  refine Hd.nil ?_; rw [show (hd.map Value.bool ++ ct.map (Value.int .i64)).set (0 + 0 + k * 1) (.bool on) = SgV (hd.set k on) ct from sg_set_hd hl hk (by omega)]; refine sk [(0, _), (1, _), (2, _)] hK7 ?_; refine sr fun _ hK8 => ?_
  refine yv y_mv <| yv (y_not rfl) ?_; refine fk [(0, _), (1, _), (21, _)] hK8 ?_; refine Hd.cond rfl (fun hc1 => ?_) (fun hc1 => ?_)
  ·try simp only [hyZ] at hc1
   refine Hd.region <| yv y_mv <| yv y_mv <| yv y_np <| yv (y_f 32 131 Tryz.underlying265 sz131) ?_; refine yv (y_idxA Tryz.underlying131 sz3 rfl rfl (by omega)) ?_; refine Hd.store1 sz3 rfl rfl rfl pkk (by rw [sg_len (by rw [List.length_set]; exact hl) hcl]; omega) ?_
   try simp only [hyS]
   refine Hd.nil ?_; rw [show (SgV (hd.set k on) ct).set (0 + 32 + k * 1) (.int .i64 0) = SgV (hd.set k on) (ct.set k 0) from sg_set_ct (by rw [List.length_set]; exact hl) hk (by omega)]; refine sk [] hK6 ?_; refine sr fun _ hK9 => ?_
   refine yv y_as <| fk [(6, _)] hK9 ?_; refine Hd.ret ?_; rw [if_pos hc0, if_pos ⟨hc0, by simpa using hc1⟩]; exact Hd.ret1 rfl () (by rw [hc0]; rfl) sq
  ·try simp only [hyZ] at hc1
   refine Hd.skip <| Hd.toK hK6 ?_; refine sr fun _ hK10 => ?_
   refine yv y_as <| fk [(6, _)] hK10 ?_; refine Hd.ret ?_; rw [if_pos hc0, if_neg (fun h => by rw [h.2] at hc1; simp at hc1)]; exact Hd.ret1 rfl () (by rw [hc0]; rfl) sq
theorem sraise_ct (L : List SP) (sb : Nat) (hd : List Bool) (ct : List Int) (hl : hd.length = 32) (hcl : ct.length = 32) (hb : ∀ c ∈ ct, 0 ≤ c ∧ c ≤ 2000000000) (s : Int) : Ct Tryz.prog 183 #[.pointer (some ⟨sb, 0, none⟩), .int .i64 s] (SigP sb hd ct :: L) (fun _ : Unit => .int .i64 (mayE s)) (fun _ : Unit => SigP sb hd (if mayE s = 0 ∧ hd.getD s.toNat false = true then ct.set s.toNat (ct.getD s.toNat 0 + 1) else ct) :: L) := by
 refine Ct.o2 Tryz.func183 ?_; intro E
 show Hd E 36 _ _ _ _
 refine sr fun _ hK1 => ?_
 refine yv y_as <| fk [(0, _), (1, _)] hK1 ?_; refine Hd.seq fun _ hK2 => ?_
 refine sr fun _ hK3 => ?_
 refine yv y_mv <| yv y_mv <| callE rfl fk197 (may_ct _ sb s) sq ?_; intro _; refine yv y_as <| fk [(0, _), (1, _), (5, _)] hK3 ?_; refine sr fun _ hK4 => ?_
 refine yv y_mv <| yv (y_neq rfl rfl) ?_; refine fk [(0, _), (1, _), (5, _), (10, _)] hK4 ?_; refine Hd.cond rfl (fun hc0 => ?_) (fun hc0 => ?_)
 ·try simp only [hyZ] at hc0
  refine sr fun _ hK5 => ?_
  refine yv y_mv <| yv y_as <| fk [(4, _)] hK5 ?_; refine Hd.ret <| Hd.thenRet ?_; rw [if_neg (fun h => hc0 h.1)]; exact Hd.ret1 rfl () rfl sq
 ·try simp only [hyZ] at hc0
  obtain ⟨k, rfl, hk1, hk⟩ := sig_open hc0
  have hcb : 0 ≤ ct.getD k 0 ∧ ct.getD k 0 ≤ 2000000000 := by
   rw [List.getD_eq_getElem?_getD, List.getElem?_eq_getElem (by omega)]; exact hb _ (List.getElem_mem _)
  refine Hd.skip <| Hd.toK hK2 ?_; refine Hd.seq fun _ hK6 => ?_
  refine sr fun _ hK7 => ?_
  refine yv y_mv <| yv y_mv <| yv y_np <| yv (y_f 0 130 Tryz.underlying265 sz130) ?_; refine yv (y_idxA Tryz.underlying130 sz4 rfl rfl (by omega)) ?_; refine yv (y_load1 ag4 rfl (Rd.pt1 pkk (by exact sg_hd hl hk (by omega)))) ?_; refine fk [(0, _), (1, _), (17, _)] hK7 ?_; refine Hd.cond rfl (fun hc1 => ?_) (fun hc1 => ?_)
  ·try simp only [hyZ] at hc1
   refine Hd.tail 18 mixed kq ?_; simp only [List.take, List.drop]; refine Ht.yv y_mv ?_; refine Ht.yv y_mv ?_; refine Ht.yv y_np ?_; refine Ht.yv (y_f 32 131 Tryz.underlying265 sz131) ?_; refine Ht.yv (y_idxA Tryz.underlying131 sz3 rfl rfl (by omega)) ?_; refine Ht.yv (y_load1 ag3 rfl (Rd.pt1 pkk (by exact sg_ct hl hcl hk (by omega)))) ?_; refine Ht.yv y_mv ?_; refine Ht.yv y_mv ?_; refine Ht.yv y_np ?_; refine Ht.yv (y_f 32 131 Tryz.underlying265 sz131) ?_; refine Ht.yv (y_idxA Tryz.underlying131 sz3 rfl rfl (by omega)) ?_; refine Ht.yv (y_load1 ag3 rfl (Rd.pt1 pkk (by exact sg_ct hl hcl hk (by omega)))) ?_; refine Ht.yv (y_subn rfl rfl (by simp only [InK]; omega)) ?_; refine Ht.yv (y_min rfl rfl) ?_; refine Ht.yv (y_to (v' := .int .i64 (ct.getD k 0 + 1)) (y_addn rfl rfl (by simp only [InK]; omega)) (by (congr 1; omega))) ?_; refine Ht.yv y_np ?_; refine Ht.yv (y_f 32 131 Tryz.underlying265 sz131) ?_
   refine Ht.yv (y_idxA Tryz.underlying131 sz3 rfl rfl (by omega)) ?_; refine Ht.nil ?_; refine Hd.store1 sz3 rfl rfl rfl pkk (by rw [sg_len hl hcl]; omega) ?_
   try simp only [hyS]
   refine Hd.nil ?_; rw [show (hd.map Value.bool ++ ct.map (Value.int .i64)).set (0 + 32 + k * 1) (.int .i64 (ct.getD k 0 + 1)) = SgV hd (ct.set k (ct.getD k 0 + 1)) from sg_set_ct hl hk (by omega)]; refine sk [] hK6 ?_; refine sr fun _ hK8 => ?_
   refine yv y_as <| fk [(4, _)] hK8 ?_; refine Hd.ret ?_; rw [if_pos ⟨hc0, hc1⟩]; exact Hd.ret1 rfl () (by rw [hc0]; rfl) sq
  ·try simp only [hyZ] at hc1
   refine Hd.skip <| Hd.toK hK6 ?_; refine sr fun _ hK9 => ?_
   refine yv y_as <| fk [(4, _)] hK9 ?_; refine Hd.ret ?_; rw [if_neg (fun h => by rw [show ((k : Int)).toNat = k from Int.toNat_natCast k] at h; rw [h.2] at hc1; cases hc1)]; exact Hd.ret1 rfl () (by rw [hc0]; rfl) sq
abbrev OutCn (b : Nat) (l : List (Int × Int)) : SP := RX.ex fun i : Option Addr × Nat => [pt b [.slice i.1 l.length i.2] 238, own 241 2 i.1 l.length i.2 (l.flatMap encCn)]
def zerF (ct : List Int) (l : List (Int × Int)) : List Int := l.foldl (fun ct p => ct.set p.1.toNat 0) ct
theorem zerF_len (l : List (Int × Int)) (ct : List Int) : (zerF ct l).length = ct.length := by
 induction l generalizing ct with
 | nil => rfl
 | cons p t ih => show (zerF (ct.set p.1.toNat 0) t).length = _; rw [ih, List.length_set]
theorem zerF_snoc (ct : List Int) (l : List (Int × Int)) (p : Int × Int) : zerF ct (l ++ [p]) = (zerF ct l).set p.1.toNat 0 := by unfold zerF; rw [List.foldl_append]; rfl
theorem zerF_at : ∀ (l : List (Int × Int)) (ct : List Int) (j : Nat), j < ct.length → (zerF ct l)[j]? = if ∃ p ∈ l, p.1.toNat = j then some 0 else ct[j]?
 | [], ct, j, _ => by simp [zerF]
 | p :: t, ct, j, h => by
  show (zerF (ct.set p.1.toNat 0) t)[j]? = _
  rw [zerF_at t _ j (by rw [List.length_set]; exact h)]
  by_cases h1 : ∃ q ∈ t, q.1.toNat = j
  ·rw [if_pos h1, if_pos]
   obtain ⟨q, hq, e⟩ := h1
   exact ⟨q, List.mem_cons_of_mem _ hq, e⟩
  ·rw [if_neg h1]
   by_cases h2 : p.1.toNat = j
   ·rw [if_pos ⟨p, List.mem_cons_self, h2⟩, h2, List.getElem?_set_self h]
   ·rw [List.getElem?_set_ne h2, if_neg]
    rintro ⟨q, hq, e⟩
    rcases List.mem_cons.1 hq with rfl | hq
    ·exact h2 e
    ·exact h1 ⟨q, hq, e⟩
theorem cntF_has : ∀ (l : List Int) (i j : Nat) (c : Int), l[j]? = some c → c ≠ 0 → 0 < i + j → (((i + j : Nat) : Int), c) ∈ cntF i l
 | [], _, _, _, h, _, _ => by simp at h
 | a :: t, i, 0, c, h, hc, hi => by
  obtain rfl : a = c := by simpa using h
  show _ ∈ (if i = 0 ∨ a = 0 then cntF (i + 1) t else ((i : Int), a) :: cntF (i + 1) t)
  rw [if_neg (by rintro (h | h); omega; exact hc h)]; exact List.mem_cons_self
 | a :: t, i, j + 1, c, h, hc, hi => by
  have := cntF_has t (i + 1) j c (by simpa using h) hc (by omega)
  rw [show i + 1 + j = i + (j + 1) by omega] at this
  show _ ∈ (if i = 0 ∨ a = 0 then cntF (i + 1) t else ((i : Int), a) :: cntF (i + 1) t)
  split
  ·exact this
  ·exact List.mem_cons_of_mem _ this
def zer1 : List Int → List Int
 | [] => []
 | c :: t => c :: t.map fun _ => 0
theorem zerF_all (ct : List Int) : zerF ct (cntF 0 ct) = zer1 ct := by
 apply List.ext_getElem?; intro j
 by_cases hj : j < ct.length
 ·rw [zerF_at _ _ _ hj]
  cases ct with
  | nil => simp at hj
  | cons c t =>
   cases j with
   | zero =>
    rw [if_neg]
    ·rfl
    ·rintro ⟨p, hp, e⟩
     obtain ⟨k, _, h2, h3⟩ := cntF_mem _ _ _ hp
     omega
   | succ j =>
    have hjt : j < t.length := by simpa using hj
    show _ = (t.map fun _ => (0 : Int))[j]?
    rw [List.getElem?_map, List.getElem?_eq_getElem hjt]
    by_cases hz : t[j] = 0
    ·have e : (c :: t)[j + 1]? = some 0 := by rw [List.getElem?_cons_succ, List.getElem?_eq_getElem hjt, hz]
     rw [e]; split <;> rfl
    ·rw [if_pos]
     ·rfl
     ·refine ⟨_, cntF_has (c :: t) 0 (j + 1) t[j] (by rw [List.getElem?_cons_succ, List.getElem?_eq_getElem hjt]) hz (by omega), ?_⟩
      show ((0 + (j + 1) : Nat) : Int).toNat = j + 1
      omega
 ·rw [List.getElem?_eq_none (by rw [zerF_len]; omega), List.getElem?_eq_none]
  cases ct with
  | nil => exact Nat.zero_le _
  | cons c t => simp [zer1] at hj ⊢; omega
theorem stake_ct (L : List SP) (sb : Nat) (hd : List Bool) (ct : List Int) (hl : hd.length = 32) (hcl : ct.length = 32) : Ct Tryz.prog 184 #[.pointer (some ⟨sb, 0, none⟩)] (SigP sb hd ct :: L) (fun q_ : Option Addr × Nat => .slice q_.1 (cntF 0 ct).length q_.2) (fun q_ : Option Addr × Nat => own 241 2 q_.1 (cntF 0 ct).length q_.2 ((cntF 0 ct).flatMap encCn) :: SigP sb hd (zer1 ct) :: L) := by
 refine Ct.o1M Tryz.func184 ?_; intro E
 show Hd E 28 _ _ _ _
 have hcle := cntF_le ct 0
 refine sr fun _ hK1 => ?_
 refine yv y_as <| fk [(0, _)] hK1 ?_; refine sr fun _ hK2 => ?_
 refine Hd.alloc zr238 (fun b3 => ?_); refine fk [(0, _), (3, _)] hK2 ?_; refine Hd.seq fun _ hK3 => ?_
 refine sr fun _ hK4 => ?_
 refine yv y_mv <| callE rfl fk200 (counts_ct _ sb) sq ?_; intro bx; refine fk [(0, _), (3, _), (8, _)] hK4 ?_; refine Hd.block <| Hd.rangeF (enc := encCA) (S := fun ys => ys = cntF 0 ct) (Sp := fun ys => ys <+: cntF 0 ct)
  (fun pre => OutCn b3 pre :: L) (fun _ _ => [pu False])
  rfl kq (fun _ => rfl) rfl (counts_it bx sb hd ct hl hcl) (by refine Ent.sep ?_; refine Ent.ex (none, 0) ?_; refine Ent.eq pkk (pt_eq (by rfl)) ?_; refine Ent.ownNil ?_; exact Ent.swap (L := [_, _])) ?_ ?_ ?_
 ·intro E l' R pre c N hR hG
  have hpl : pre.length + 1 ≤ 32 := by have h1 := hG.length_le; simp at h1; omega
  unfold Rnd; simp only [List.cons_append, List.nil_append, pz, encCA]; refine Hd.region <| Hd.alloc zr241 (fun b4 => ?_); refine Hd.storeA (us := encCn c) sz241 rfl rfl rfl (by simp [Value.oneCell']) pkk (by exact rfl) ?_; refine Hd.nil <| slots [(0, _), (3, _), (4, _)] sbq ?_; refine thenN <| Hd.begin hR pkk ?_; refine Hd.block <| Hd.exs pkk ?_; rintro ⟨a3, c3⟩; simp only [List.cons_append, List.nil_append]; refine Hd.region <| yv (y_l1 ag238 rfl) ?_; refine yv (y_loadn (us := encCn c) ag241 rfl (Rd.pt pkk (fun j v e => by rw [Nat.zero_add]; exact e)) (by exact sz241)) ?_; refine Hd.bslice (vs := [(0, _)]) rfl (by exact bs184_12 ..) (fun b12 => ?_); refine Hd.append Tryz.underlying238 ty241 rfl rfl rfl pkk (by exact RdS.rd (Rd.pt pkk (fun j v e => by simpa using e)) rfl) (by simp [Value.oneCell']; done) (by simp only [maxLen]; omega) (by omega) (fun ad13 cap13 => ?_)
  refine Hd.store1 sz238 rfl rfl rfl pkk (by simp; done) ?_
  try simp only [hyS]
  refine Hd.nil <| slots [(0, _), (3, _)] sbq ?_; refine Hd.inB <| Hd.reN ?_; simp only [List.cons_append, List.nil_append]; exact Ent.sep (.pick pkk (.ex (ad13, cap13) (.eq pkk (pt_eq (by simp)) (.eq pkk (own_eq (by simp) (by simp)) enn))))
 ·intro r0 ys hys
  obtain rfl : ys = cntF 0 ct := hys
  try simp only [List.cons_append, List.nil_append]
  refine Hd.inB <| Hd.toK hK3 ?_; refine Hd.seq fun _ hK5 => ?_
  refine Hd.seq fun _ hK6 => ?_
  refine Hd.exs pkk ?_; rintro ⟨a3, c3⟩; simp only [List.cons_append, List.nil_append]; refine Hd.region <| yv (y_l1 ag238 rfl) ?_; refine yv (y_len Tryz.underlying238 rfl) ?_; refine yv y_mv <| fk [(0, _), (3, _), (14, _), (15, _), (16, _)] hK6 ?_; refine Hd.block <| Hd.loopK (ι := Nat) [(0, _), (3, _), (14, _), (15, _)] (fun j => [(16, .int .i64 (j : Int))]) (fun j => pu (j ≤ (cntF 0 ct).length) :: ob r0 (Obj.deferred (some [])) :: pt b3 [.slice a3 (cntF 0 ct).length c3] 238 :: own 241 2 a3 (cntF 0 ct).length c3 ((cntF 0 ct).flatMap encCn) :: SigP sb hd (zerF ct ((cntF 0 ct).take j)) :: L) (fun j => (cntF 0 ct).length - j) 0 sbq sbq (Ent.sep (.pure (Nat.zero_le _) (.pick pkk (.pick pkk (.pick pkk (.eq pkk (show SigP sb hd ct = SigP sb hd (zerF ct ((cntF 0 ct).take 0)) from rfl) enn)))))) ?_; intro j
  try dsimp only
  refine Hd.pure (fun hp0 => ?_)
  try dsimp only at hp0
  refine sr fun _ hK7 => ?_
  refine yv (y_lss rfl rfl) ?_; refine fk [(0, _), (3, _), (14, _), (15, _), (16, _), (17, _)] hK7 ?_; refine Hd.seq fun _ hK8 => ?_
  refine Hd.cond rfl (fun hc0 => ?_) (fun hc0 => ?_)
  ·try simp only [hyZ] at hc0
   have hj : j < (cntF 0 ct).length := by omega
   have hgj : (cntF 0 ct)[j]? = some (cntF 0 ct)[j] := List.getElem?_eq_getElem hj
   obtain ⟨s, hs1, hs2, hs3⟩ := cntF_mem ct 0 _ (List.getElem_mem hj)
   have hsl : s < 32 := by rw [← hcl]; exact (List.getElem?_eq_some_iff.1 hs1).1
   have hsc : (cntF 0 ct).take (j + 1) = (cntF 0 ct).take j ++ [(cntF 0 ct)[j]] := by rw [List.take_add_one, hgj]; rfl
   rw [Nat.zero_add] at hs2; refine Hd.skip <| Hd.toK hK8 ?_; refine Hd.seq fun _ hK9 => ?_
   refine Hd.block <| sr fun _ hK10 => ?_
   refine yv (y_idxR Tryz.underlying238 sz241 rfl rfl (by omega) (by exact RdS.own pkk)) ?_; refine yv (y_loadRn (vs := encCn (cntF 0 ct)[j]) ag241 rfl (RdS.own (ad := a3) (us := (cntF 0 ct).flatMap encCn) pkk) (flat_cells encCn 2 (fun _ => rfl) hgj) (by exact sz241) (by simp)) ?_; refine Hd.alloc zr241 (fun b6 => ?_); refine Hd.storeA (us := encCn (cntF 0 ct)[j]) sz241 rfl rfl rfl (by simp [Value.oneCell']) pkk (by exact rfl) ?_; refine fk [(0, _), (3, _), (6, _), (14, _), (15, _), (16, _)] hK10 ?_; refine Hd.tail 6 mixed kq ?_; simp only [List.take, List.drop]; refine Ht.yv y_mv ?_; refine Ht.yv (y_f 0 3 Tryz.underlying241 sz3) ?_; refine Ht.yv (y_to (v' := .int .i64 (s : Int)) (y_l1 ag3 rfl) (by rw [hs2])) ?_; refine Ht.yv y_np ?_; refine Ht.yv (y_f 32 131 Tryz.underlying265 sz131) ?_; refine Ht.yv (y_idxA Tryz.underlying131 sz3 rfl rfl (by omega)) ?_; refine Ht.nil ?_; refine Hd.store1 sz3 rfl rfl rfl pkk (by rw [sg_len hl (by rw [zerF_len]; exact hcl)]; omega) ?_
   try simp only [hyS]
   refine Hd.nil ?_
   rw [show (hd.map Value.bool ++ (zerF ct ((cntF 0 ct).take j)).map (Value.int .i64)).set (0 + 32 + s * 1) (.int .i64 0) = SgV hd (zerF ct ((cntF 0 ct).take (j + 1))) from by
    rw [hsc, zerF_snoc, show (cntF 0 ct)[j].1.toNat = s by rw [hs2]; exact Int.toNat_natCast s]
    exact sg_set_ct hl hsl (by omega)]
   refine slots [(0, _), (3, _), (14, _), (15, _), (16, _)] sbq ?_; refine Hd.inB <| Hd.toK hK9 ?_; refine Hd.region <| yv (y_addn rfl rfl (by simp only [InK]; omega)) ?_; refine yv y_mv <| Hd.nil <| slots [(0, _), (3, _), (14, _), (15, _), (16, _)] sbq ?_; refine thenN ?_; exact Hd.again (j + 1) (by omega) sbq (Ent.sep (.pure (by omega) enn))
  ·try simp only [hyZ] at hc0
   obtain rfl : j = (cntF 0 ct).length := by omega
   rw [List.take_length, zerF_all]; refine Hd.exit <| Hd.thenExit <| Hd.thenExit <| Hd.inBexit <| Hd.toK hK5 ?_; refine sr fun _ hK11 => ?_
   refine yv (y_l1 ag238 rfl) ?_; refine yv y_as <| fk [(2, _)] hK11 ?_; refine Hd.ret ?_; exact Hd.retM (fun a fr => Lv.mark pkk (Lv.end1 fr rfl (a3, c3) rfl sq))
 ·rintro r0_0 (_ | id0) pre0 hG0
  ·exact Hd.absurd (by exact id)
  ·exact Hd.absurd (by exact id)
theorem plc_o {o : Option (Nat × Nat)} : plc o = [.bool o.isSome, .int .i64 (match o with | none => 0 | some p => (p.1 : Int)), .int .i64 (match o with | none => 0 | some p => (p.2 : Int))] := by
 cases o with
 | none => rfl
 | some p => rfl
theorem woT_nt {t : Int → Option (Nat × Nat)} {w : WA} {n j o : Nat} {i : WoI} {v : Value} (ho : o = 291 + j) (hv : (plc w.nt)[j]? = some v) : (fdC t ++ woT w n i)[o]? = some v := by
 refine woT_at (j := 3 + j) (by omega) ?_
 show ([.slice i.wa n i.wc, ptr (some i.sb), .int .u64 w.now] ++ plc w.nt)[3 + j]? = _
 rw [List.getElem?_append_right (by simp), show 3 + j - List.length ([.slice i.wa n i.wc, ptr (some i.sb), .int .u64 w.now] : List Value) = j by simp]; exact hv
theorem wire_ring_same {b : Nat} {x : WireA} {i : WI} {k rb : Nat} {L : List SP} (hi : WIOk x i) (hk : k < 2) (hrb : i.p k = some rb) : ∀ h, sep (WireH b x i :: Rg rb x.cap (x.e k).b :: RgO (i.p (1 - k)) x.cap (x.e (1 - k)).b :: own 3 1 i.wa x.wt.length i.wc (nats x.wt) :: L) h → sep (WireP b x :: L) h := fun h s => by
 have := wire_ring (l' := (x.e k).b) hi hk hrb h s
 rwa [show (x.up k fun e => { e with b := (x.e k).b }) = x from up_id rfl] at this
theorem noticed_ct (L : List SP) (wb : Nat) (w : WA) (hb : ∀ c ∈ w.ct, 0 ≤ c ∧ c ≤ 2000000000) : Ct Tryz.prog 181 #[.pointer (some ⟨wb, 0, none⟩)] (WorldP wb w :: L) (fun _ : Unit => .tuple #[]) (fun _ : Unit => WorldP wb (ntcR w) :: L) := by
 refine Ct.o1 Tryz.func181 ?_; intro E
 show Hd E 57 _ _ _ _
 refine Hd.world .here (fun i hw hrs => ?_); refine Hd.seq fun _ hK1 => ?_
 refine sr fun _ hK2 => ?_
 refine yv y_mv <| yv y_np <| yv (y_f 291 190 Tryz.underlying210 sz190) ?_; refine yv (y_f 0 4 Tryz.underlying190 sz4) ?_; refine yv (y_load1 (v := .bool w.nt.isSome) ag4 rfl (Rd.pt1 pkk (woT_nt (j := 0) (by omega) (by rw [plc_o]; rfl)))) ?_; refine yv (y_not rfl) ?_; refine fk [(0, _), (10, _)] hK2 ?_; refine Hd.cond rfl (fun hc0 => ?_) (fun hc0 => ?_)
 ·try simp only [hyZ] at hc0
  refine Hd.ret <| Hd.thenRet ?_
  have hn : w.nt = none := by cases h : w.nt with | none => rfl | some p => rw [h] at hc0; cases hc0
  rw [show ntcR w = w by unfold ntcR; rw [hn]]; exact Hd.ret0 rfl () rfl (Ent.sep (.ex i (.pure ⟨hw, hrs⟩ enn)))
 ·try simp only [hyZ] at hc0
  obtain ⟨n, k, hnt⟩ : ∃ n k, w.nt = some (n, k) := by cases h : w.nt with | none => rw [h] at hc0; cases hc0 | some p => exact ⟨p.1, p.2, rfl⟩
  obtain ⟨hk, x, hx, z0, z1⟩ := hw.nt n k hnt
  obtain ⟨b, hb'⟩ := rs_at hrs hx
  have hwf := hw.wf x (List.mem_of_getElem? hx)
  have hnl : n < i.rs.length := (List.getElem?_eq_some_iff.1 hb').1
  have hk1 : 1 - k < 2 := by omega
  have hrd : ∀ j, j < 2 → (x.e j).rd = true := fun j hj => by
   rcases (show j = 0 ∨ j = 1 by omega) with rfl | rfl
   ·exact z0
   ·exact z1
  have hsum : (w.ct.drop 1).sum = pendN w := rfl
  have hR : ntcR w = if pendN w = 0 then w.setW n (takeW x k (x.e k).b.length) else if (x.e k).b = [] then w.setW n (putW x (1 - k) [1]) else w := by
   unfold ntcR; rw [hnt]; dsimp only; rw [hx]
  refine Hd.skip <| Hd.toK hK1 ?_; refine Hd.seq fun _ hK3 => ?_
  refine Hd.quiet mixed kq ?_; refine Hq.yv y_mv ?_; refine Hq.yv y_np ?_; refine Hq.yv (y_f 288 208 Tryz.underlying210 sz208) ?_; refine Hq.yv (y_load1 ag208 rfl (Rd.pt1 pkk (by exact woT_at (j := 0) (by omega) rfl))) ?_; refine Hq.yv y_mv ?_; refine Hq.yv y_np ?_; refine Hq.yv (y_f 291 190 Tryz.underlying210 sz190) ?_; refine Hq.yv (y_f 1 3 Tryz.underlying190 sz3) ?_; refine Hq.yv (y_load1 ag3 rfl (Rd.pt1 pkk (by exact woT_nt (j := 1) (by omega) (by rw [hnt]; rfl)))) ?_; refine Hq.yv (y_idxR Tryz.underlying208 sz191 rfl rfl (by omega) (by exact RdS.own pkk)) ?_; refine Hq.yv (y_loadR1 ag191 rfl (by exact RdS.own pkk) (by exact pws_at hb')) ?_; refine Hq.yv y_mv ?_; refine Hq.yv y_np ?_; refine Hq.yv (y_f 291 190 Tryz.underlying210 sz190) ?_; refine Hq.yv (y_f 2 3 Tryz.underlying190 sz3) ?_; refine Hq.yv (y_load1 ag3 rfl (Rd.pt1 pkk (by exact woT_nt (j := 2) (by omega) (by rw [hnt]; rfl)))) ?_
  refine Hq.yv y_as ?_; refine Hq.yv y_as ?_; refine Hq.nil ?_; refine sk [(0, _), (2, _), (3, _)] hK3 ?_; refine Hd.seq fun _ hK4 => ?_
  refine Hd.wOut pkk hb' ?_; refine Hd.wireR .here k hk (hrd k hk) (fun i2 rb hi hrb => ?_); refine Hd.region <| yv y_mv <| yv y_mv <| yv y_np <| yv (y_f 0 197 Tryz.underlying199 sz197) ?_; refine yv (y_idxA Tryz.underlying197 sz196 rfl rfl (by omega)) ?_; refine yv (y_f 2 194 Tryz.underlying196 sz194) ?_; refine yv (y_to (v' := .pointer (some ⟨rb, 0, none⟩)) (y_load1 ag194 rfl (Rd.pt1 pkk (by exact enc_at 2 hk (by omega) (by omega) rfl))) (by (show ptr (i2.p k) = _; rw [hrb]; rfl))) ?_; refine yv y_as <| fk [(0, _), (2, _), (3, _), (4, _)] hK4 ?_; refine Hd.block <| sr fun _ hK5 => ?_
  refine yv y_mv <| yv y_np <| yv (y_f 289 205 Tryz.underlying210 sz205) ?_; refine yv (y_load1 ag205 rfl (Rd.pt1 pkk (by exact woT_at (j := 1) (by omega) rfl))) ?_; refine callE rfl fk198 (pending_ct _ i.sb w.hd w.ct hw.hdl hw.ctl hb) sq ?_; intro _; refine yv (y_eql rfl rfl) ?_; refine yv y_as <| fk [(2, _), (3, _), (4, _), (34, _)] hK5 ?_; refine Hd.cond rfl (fun hc1 => ?_) (fun hc1 => ?_)
  ·try simp only [hyZ] at hc1
   rw [if_pos (show pendN w = 0 from hc1)] at hR; refine Hd.region <| yv y_mv <| yv y_mv <| yv (y_to (v' := .int .i64 ((1 - k : Nat) : Int)) (y_subn rfl rfl (by simp only [InK]; omega)) (by (congr 1; omega))) ?_; refine yv y_mv <| callE rfl fk178 (rclear_ct _ rb x.cap (x.e k).b) sq ?_; intro _; refine Hd.heap (WireP b (x.up k fun e => { e with b := [] }) :: WoR wb n w i L) (fun q s => wire_ring (l' := []) hi hk hrb q (Ent.sep enn q s)) ?_; refine yv (y_to (v' := .bool (decide (0 < ((x.e k).b.take (x.e k).b.length).length))) (y_gtr rfl rfl) (by (congr 1; rw [List.take_length]; simp only [decide_eq_decide]; omega))) ?_; refine callE rfl fk173 (came_ct _ b (x.up k fun e => { e with b := [] }) (1 - k) hk1 false (decide (0 < ((x.e k).b.take (x.e k).b.length).length))) sq ?_; intro _; refine Hd.nil <| slots [] sbq ?_; refine Hd.inB ?_
   have e : (x.up k fun e => { e with b := [] }).up (1 - k) (riseE false (decide (0 < ((x.e k).b.take (x.e k).b.length).length))) = takeW x k (x.e k).b.length := by
    unfold takeW
    congr 1
    exact up_eq (by rw [List.drop_length])
   rw [hR, e]; exact Hd.end0 rfl () rfl (fun q s => world_fold' hw hrs hb' (smW_take hwf hk (hrd k hk)) q (Ent.sep enn q s))
  ·try simp only [hyZ] at hc1
   rw [if_neg (show ¬ pendN w = 0 from hc1)] at hR; refine sr fun _ hK6 => ?_
   refine yv y_mv <| callE rfl fk102 (rlen_ct _ rb x.cap (x.e k).b) sq ?_; intro _; refine yv (y_eql rfl rfl) ?_; refine yv y_as <| fk [(2, _), (3, _), (48, _)] hK6 ?_; refine Hd.cond rfl (fun hc2 => ?_) (fun hc2 => ?_)
   ·try simp only [hyZ] at hc2
    have hnil : (x.e k).b = [] := List.eq_nil_of_length_eq_zero (by omega)
    rw [if_pos hnil] at hR; refine Hd.region <| yv y_mv <| yv y_mv <| yv (y_to (v' := .int .i64 ((1 - k : Nat) : Int)) (y_subn rfl rfl (by simp only [InK]; omega)) (by (congr 1; omega))) ?_; refine Hd.bslice (vs := [(0, _)]) rfl (by exact bs181_55 ..) (fun b55 => ?_); refine Hd.heap (WireP b x :: pt b55 [.int .u8 1] 5 :: WoR wb n w i L) (fun q s => wire_ring_same hi hk hrb q (Ent.sep enn q s)) ?_; refine callE rfl fk112 (put_ct _ b x (1 - k) hk1 (hrd (1 - (1 - k)) (by omega)) (some ⟨b55, 0, none⟩) 1 1 [1] rfl ?hD (by omega) (by omega)) sq ?_
    case hD => exact RdS.rd (Rd.pt pkk (fun j v e => by rw [Nat.zero_add]; exact e)) rfl
    intro _; refine Hd.nil <| slots [] sbq ?_; refine Hd.inB ?_; rw [hR]; exact Hd.end0 rfl () rfl (fun q s => world_fold' hw hrs hb' (smW_put hwf hk1 [1] (hrd (1 - (1 - k)) (by omega))) q (Ent.sep enn q s))
   ·try simp only [hyZ] at hc2
    rw [if_neg (fun h => hc2 (by rw [h]; rfl))] at hR; refine Hd.skip <| Hd.inB ?_; rw [hR]; exact Hd.end0 rfl () rfl (fun q s => world_same hw hrs hb' q (wire_ring_same hi hk hrb q (Ent.sep enn q s)))
theorem world_ct {wb : Nat} {w : WA} {i : WoI} {hd : List Bool} {ct : List Int} {L : List SP} (hw : WOk w) (hrs : i.rs.map Prod.snd = w.ws) (h1 : hd.length = 32) (h2 : ct.length = 32) :
  ∀ h, sep (SigP i.sb hd ct :: WoH wb w.at w i.rs.length i :: own 191 1 i.wa i.rs.length i.wc (pws i.rs) :: Wires i.rs :: L) h → sep (WorldP wb { w with hd := hd, ct := ct } :: L) h := fun h s => by
 refine Ent.sep (.ex i (.pure ⟨ct_ok hw h1 h2, hrs⟩ ?_)) h s
 show Ent _ (WoH wb w.at w i.rs.length i :: own 191 1 i.wa i.rs.length i.wc (pws i.rs) :: Wires i.rs :: SigP i.sb hd ct :: L)
 exact enn
theorem whandle_ct (L : List SP) (wb : Nat) (w : WA) (hb : ∀ c ∈ w.ct, 0 ≤ c ∧ c ≤ 2000000000) (s : Int) (on : Bool) : Ct Tryz.prog 137 #[.pointer (some ⟨wb, 0, none⟩), .int .i64 s, .bool on] (WorldP wb w :: L) (fun _ : Unit => .int .i64 (hanR w s on).1) (fun _ : Unit => WorldP wb (hanR w s on).2 :: L) := by
 refine Ct.o3 Tryz.func137 ?_; intro E
 show Hd E 20 _ _ _ _
 refine Hd.world .here (fun i hw hrs => ?_); refine sr fun _ hK1 => ?_
 refine yv y_as <| fk [(0, _), (1, _), (2, _)] hK1 ?_; refine Hd.seq fun _ hK2 => ?_
 refine sr fun _ hK3 => ?_
 refine yv y_mv <| callE rfl fk113 (wnone_ct _ wb w.at w i.rs.length i) sq ?_; intro _; refine fk [(0, _), (1, _), (2, _), (9, _)] hK3 ?_; refine Hd.condF rfl ?_; refine Hd.skip <| Hd.toK hK2 ?_; refine sr fun _ hK4 => ?_
 refine yv y_mv <| yv y_np <| yv (y_f 289 205 Tryz.underlying210 sz205) ?_; refine yv (y_load1 ag205 rfl (Rd.pt1 pkk (by exact woT_at (j := 1) (by omega) rfl))) ?_; refine yv y_mv <| yv y_mv <| callE rfl fk180 (shandle_ct _ i.sb w.hd w.ct hw.hdl hw.ctl s on) sq ?_; intro _
 obtain ⟨hd', hhd⟩ : ∃ z, z = if mayE s = 0 then w.hd.set s.toNat on else w.hd := ⟨_, rfl⟩
 obtain ⟨ct', hct⟩ : ∃ z, z = if mayE s = 0 ∧ on = false then w.ct.set s.toNat 0 else w.ct := ⟨_, rfl⟩
 rw [← hhd, ← hct]
 have hb' : ∀ c ∈ ct', 0 ≤ c ∧ c ≤ 2000000000 := fun c hc => by
  rw [hct] at hc
  split at hc
  ·rcases List.mem_or_eq_of_mem_set hc with h | rfl
   ·exact hb c h
   ·decide
  ·exact hb c hc
 have hR : hanR w s on = (mayE s, ntcR { w with hd := hd', ct := ct' }) := by
  unfold hanR
  by_cases h : s < 1 ∨ 31 < s
  ·have h0 : mayE s = 100 := if_neg (by omega)
   rw [if_pos h, hhd, hct, h0, if_neg (by decide), if_neg (fun h => absurd h.1 (by decide))]
  ·have h0 : mayE s = 0 := if_pos (by omega)
   rw [if_neg h, hhd, hct, h0, if_pos rfl]
   cases on with
   | true => rw [if_pos rfl, if_neg (by simp)]
   | false => rw [if_neg (by simp), if_pos ⟨rfl, rfl⟩]
 refine Hd.heap (WorldP wb { w with hd := hd', ct := ct' } :: L) (fun q t => world_ct hw hrs (by rw [hhd]; split; rw [List.length_set]; exact hw.hdl; exact hw.hdl) (by rw [hct]; split; rw [List.length_set]; exact hw.ctl; exact hw.ctl) q (Ent.sep enn q t)) ?_; refine yv y_as <| fk [(0, _), (7, _)] hK4 ?_; refine sr fun _ hK5 => ?_
 refine yv y_mv <| callE rfl fk181 (noticed_ct _ wb { w with hd := hd', ct := ct' } hb') sq ?_; intro _; refine fk [(7, _)] hK5 ?_; refine sr fun _ hK6 => ?_
 refine yv y_mv <| yv y_as <| fk [(6, _)] hK6 ?_; refine Hd.ret ?_; rw [hR]; exact Hd.ret1 rfl () rfl sq
theorem wraise_ct (L : List SP) (wb : Nat) (w : WA) (hb : ∀ c ∈ w.ct, 0 ≤ c ∧ c ≤ 1000000000) (s : Int) : Ct Tryz.prog 139 #[.pointer (some ⟨wb, 0, none⟩), .int .i64 s] (WorldP wb w :: L) (fun _ : Unit => .int .i64 (raiR w s).1) (fun _ : Unit => WorldP wb (raiR w s).2 :: L) := by
 refine Ct.o2 Tryz.func139 ?_; intro E
 show Hd E 17 _ _ _ _
 refine Hd.world .here (fun i hw hrs => ?_); refine sr fun _ hK1 => ?_
 refine yv y_as <| fk [(0, _), (1, _)] hK1 ?_; refine Hd.seq fun _ hK2 => ?_
 refine sr fun _ hK3 => ?_
 refine yv y_mv <| callE rfl fk113 (wnone_ct _ wb w.at w i.rs.length i) sq ?_; intro _; refine fk [(0, _), (1, _), (7, _)] hK3 ?_; refine Hd.condF rfl ?_; refine Hd.skip <| Hd.toK hK2 ?_; refine sr fun _ hK4 => ?_
 refine yv y_mv <| yv y_np <| yv (y_f 289 205 Tryz.underlying210 sz205) ?_; refine yv (y_load1 ag205 rfl (Rd.pt1 pkk (by exact woT_at (j := 1) (by omega) rfl))) ?_; refine yv y_mv <| callE rfl fk183 (sraise_ct _ i.sb w.hd w.ct hw.hdl hw.ctl (fun c hc => by have := hb c hc; omega) s) sq ?_; intro _
 obtain ⟨ct', hct⟩ : ∃ z, z = if mayE s = 0 ∧ w.hd.getD s.toNat false = true then w.ct.set s.toNat (w.ct.getD s.toNat 0 + 1) else w.ct := ⟨_, rfl⟩
 rw [← hct]
 have hb' : ∀ c ∈ ct', 0 ≤ c ∧ c ≤ 2000000000 := fun c hc => by
  rw [hct] at hc
  split at hc
  ·rename_i hm
   rcases List.mem_or_eq_of_mem_set hc with h | rfl
   ·have := hb c h; omega
   ·obtain ⟨k, rfl, hk1, hk⟩ := sig_open hm.1
    obtain ⟨v, hv⟩ : ∃ v, w.ct[k]? = some v := ⟨_, List.getElem?_eq_getElem (by rw [hw.ctl]; omega)⟩
    rw [Int.toNat_natCast, List.getD_eq_getElem?_getD, hv]
    have := hb v (List.mem_of_getElem? hv)
    show 0 ≤ v + 1 ∧ v + 1 ≤ 2000000000
    omega
  ·have := hb c hc; omega
 have hR : raiR w s = (mayE s, ntcR { w with hd := w.hd, ct := ct' }) := by
  unfold raiR
  by_cases h : s < 1 ∨ 31 < s
  ·have h0 : mayE s = 100 := if_neg (by omega)
   rw [if_pos h, hct, h0, if_neg (fun h => absurd h.1 (by decide))]
  ·have h0 : mayE s = 0 := if_pos (by omega)
   rw [if_neg h, hct, h0]
   by_cases hh : w.hd.getD s.toNat false = true
   ·rw [if_pos hh, if_pos ⟨rfl, hh⟩]
   ·rw [if_neg hh, if_neg (fun h => hh h.2)]
 refine Hd.heap (WorldP wb { w with hd := w.hd, ct := ct' } :: L) (fun q t => world_ct hw hrs hw.hdl (by rw [hct]; split; rw [List.length_set]; exact hw.ctl; exact hw.ctl) q (Ent.sep enn q t)) ?_; refine yv y_as <| fk [(0, _), (5, _)] hK4 ?_; refine sr fun _ hK5 => ?_
 refine yv y_mv <| callE rfl fk181 (noticed_ct _ wb { w with hd := w.hd, ct := ct' } hb') sq ?_; intro _; refine fk [(5, _)] hK5 ?_; refine sr fun _ hK6 => ?_
 refine yv y_mv <| yv y_as <| fk [(4, _)] hK6 ?_; refine Hd.ret ?_; rw [hR]; exact Hd.ret1 rfl () rfl sq
theorem zer1_len (l : List Int) : (zer1 l).length = l.length := by cases l <;> simp [zer1]
theorem zer1_mem {l : List Int} {c : Int} (h : c ∈ zer1 l) : c ∈ l ∨ c = 0 := by
 cases l with
 | nil => cases h
 | cons a t =>
  rcases List.mem_cons.1 h with rfl | h
  ·exact .inl List.mem_cons_self
  ·obtain ⟨_, _, rfl⟩ := List.mem_map.1 h; exact .inr rfl
theorem sigR_eq (w : WA) : sigR w = (cntF 0 w.ct, ntcR { w with hd := w.hd, ct := zer1 w.ct }) := by
 unfold sigR zer1
 cases w.ct <;> rfl
theorem wsignals_ct (L : List SP) (wb : Nat) (w : WA) (hb : ∀ c ∈ w.ct, 0 ≤ c ∧ c ≤ 2000000000) : Ct Tryz.prog 141 #[.pointer (some ⟨wb, 0, none⟩)] (WorldP wb w :: L) (fun q_ : Option Addr × Nat => .slice q_.1 (sigR w).1.length q_.2) (fun q_ : Option Addr × Nat => own 241 2 q_.1 (sigR w).1.length q_.2 ((sigR w).1.flatMap encCn) :: WorldP wb (sigR w).2 :: L) := by
 refine Ct.o1 Tryz.func141 ?_; intro E
 show Hd E 14 _ _ _ _
 refine Hd.world .here (fun i hw hrs => ?_); refine sr fun _ hK1 => ?_
 refine yv y_as <| fk [(0, _)] hK1 ?_; refine Hd.seq fun _ hK2 => ?_
 refine sr fun _ hK3 => ?_
 refine yv y_mv <| callE rfl fk113 (wnone_ct _ wb w.at w i.rs.length i) sq ?_; intro _; refine fk [(0, _), (5, _)] hK3 ?_; refine Hd.condF rfl ?_; refine Hd.skip <| Hd.toK hK2 ?_; refine sr fun _ hK4 => ?_
 refine yv y_mv <| yv y_np <| yv (y_f 289 205 Tryz.underlying210 sz205) ?_; refine yv (y_load1 ag205 rfl (Rd.pt1 pkk (by exact woT_at (j := 1) (by omega) rfl))) ?_; refine callE rfl fk184 (stake_ct _ i.sb w.hd w.ct hw.hdl hw.ctl) sq ?_; rintro ⟨ad, c⟩; dsimp only; refine Hd.heap (WorldP wb { w with hd := w.hd, ct := zer1 w.ct } :: own 241 2 ad (cntF 0 w.ct).length c ((cntF 0 w.ct).flatMap encCn) :: L) (fun q t => world_ct hw hrs hw.hdl (by rw [zer1_len]; exact hw.ctl) q (Ent.sep enn q t)) ?_; refine yv y_as <| fk [(0, _), (3, _)] hK4 ?_; refine sr fun _ hK5 => ?_
 refine yv y_mv <| callE rfl fk181 (noticed_ct _ wb { w with hd := w.hd, ct := zer1 w.ct } (fun c hc => by rcases zer1_mem hc with h | rfl; exact hb c h; decide)) sq ?_; intro _; refine fk [(3, _)] hK5 ?_; refine sr fun _ hK6 => ?_
 refine yv y_mv <| yv y_as <| fk [(2, _)] hK6 ?_; refine Hd.ret ?_; rw [sigR_eq]; exact Hd.ret1 rfl (ad, c) rfl sq
theorem not_yes {w : WA} {n k m j : Nat} {x : WireA} {a b : Int} (ha : w.at a = some (n, k)) (hb : w.at b = some (m, j)) (hx : w.ws[n]? = some x) : notR w a b = if n ≠ m ∨ k = j ∨ (x.e 0).rd = false ∨ (x.e 1).rd = false then (111, w) else (0, ntcR { w with nt := some (n, k) }) := by
 unfold notR; rw [ha, hb]; dsimp only; rw [hx]
theorem world_nt {wb n k : Nat} {w : WA} {i : WoI} {cs : List Value} {L : List SP} (hok : WOk { w with nt := some (n, k) }) (hrs : i.rs.map Prod.snd = w.ws) (hcs : cs = fdC w.at ++ woT { w with nt := some (n, k) } i.rs.length i) :
  ∀ h, sep (pt wb cs 210 :: own 191 1 i.wa i.rs.length i.wc (pws i.rs) :: Wires i.rs :: SigP i.sb w.hd w.ct :: L) h → sep (WorldP wb { w with nt := some (n, k) } :: L) h := fun h s => by
 subst hcs; exact Ent.sep (.ex i (.pure ⟨hok, hrs⟩ enn)) h s
theorem nt_set {t : Int → Option (Nat × Nat)} {w : WA} {m n k : Nat} {i : WoI} : (fdC t ++ woT w m i).take (0 + 291) ++ plc (some (n, k)) ++ (fdC t ++ woT w m i).drop (0 + 291 + (plc (some (n, k))).length) = fdC t ++ woT { w with nt := some (n, k) } m i := by
 have h3 : (plc (some (n, k))).length = 3 := rfl
 rw [h3, List.take_append, List.drop_append, fdC_len, List.take_of_length_le (by rw [fdC_len]; omega), List.drop_of_length_le (l := fdC t) (by rw [fdC_len]; omega), List.nil_append]; unfold woT; rw [plc_o (o := w.nt)]; simp
theorem woT_len (w : WA) (n : Nat) (i : WoI) : (woT w n i).length = 6 := by
 unfold woT; rw [List.length_append, plc_len]; rfl
theorem wnotice_ct (L : List SP) (wb : Nat) (w : WA) (hb : ∀ c ∈ w.ct, 0 ≤ c ∧ c ≤ 2000000000) (fa fb : Int) : Ct Tryz.prog 143 #[.pointer (some ⟨wb, 0, none⟩), .int .i64 fa, .int .i64 fb] (WorldP wb w :: L) (fun _ : Unit => .int .i64 (notR w fa fb).1) (fun _ : Unit => WorldP wb (notR w fa fb).2 :: L) := by
 refine Ct.o3 Tryz.func143 ?_; intro E
 show Hd E 72 _ _ _ _
 refine Hd.world .here (fun i hw hrs => ?_); refine sr fun _ hK1 => ?_
 refine yv y_as <| fk [(0, _), (1, _), (2, _)] hK1 ?_; refine sr fun _ hK2 => ?_
 refine yv y_mv <| yv y_mv <| callE rfl fk101 (find_ct _ wb w i hw hrs fa) sq ?_; intro _; refine yv y_mv <| yv y_ex <| yv y_ex <| yv y_ex <| Hd.alloc zr190 (fun b7 => ?_); refine Hd.storeA (us := plc (w.at fa)) (by rw [plc_len]; exact sz190) rfl rfl rfl (plc_one _) pkk (by rw [plc_len]; rfl) ?_; refine yv (y_to (v' := ptr (wfb i (w.at fa))) y_as (by rfl)) ?_; refine yv (y_to (v' := .int .i64 (fdErr (w.at fa))) y_as (by rfl)) ?_; refine fk [(0, _), (2, _), (7, _), (8, _), (9, _)] hK2 ?_; refine sr fun _ hK3 => ?_
 refine yv y_mv <| yv y_mv <| callE rfl fk101 (find_ct _ wb w i hw hrs fb) sq ?_; intro _; refine yv y_mv <| yv y_ex <| yv y_ex <| yv y_ex <| Hd.alloc zr190 (fun b10 => ?_); refine Hd.storeA (us := plc (w.at fb)) (by rw [plc_len]; exact sz190) rfl rfl rfl (plc_one _) pkk (by rw [plc_len]; rfl) ?_; refine yv y_as <| yv (y_to (v' := .int .i64 (fdErr (w.at fb))) y_as (by rfl)) ?_; refine fk [(0, _), (7, _), (8, _), (9, _), (10, _), (12, _)] hK3 ?_; refine Hd.seq fun _ hK4 => ?_
 refine Hd.block <| sr fun _ hK5 => ?_
 refine yv y_mv <| yv (y_neq rfl rfl) ?_; refine yv y_as <| fk [(0, _), (7, _), (8, _), (9, _), (10, _), (12, _), (27, _)] hK5 ?_; refine Hd.cond rfl (fun hc0 => ?_) (fun hc0 => ?_)
 ·try simp only [hyZ] at hc0
  have hno : w.at fa = none := by
   cases h : w.at fa with
   | none => rfl
   | some p => rw [h] at hc0; exact absurd rfl hc0
  refine sr fun _ hK6 => ?_
  refine yv y_mv <| yv y_as <| fk [(6, _)] hK6 ?_; refine Hd.ret <| Hd.inBret <| Hd.thenRet ?_; rw [show notR w fa fb = (110, w) by unfold notR; rw [hno]]; exact Hd.ret1 rfl () (by rw [hno]; rfl) (Ent.sep (.ex i (.pure ⟨hw, hrs⟩ enn)))
 ·try simp only [hyZ] at hc0
  obtain ⟨n, k, hnk⟩ : ∃ m k, w.at fa = some (m, k) := by
   cases h : w.at fa with
   | none => rw [h] at hc0; exact absurd hc0 (by decide)
   | some p => exact ⟨p.1, p.2, rfl⟩
  refine sr fun _ hK7 => ?_
  refine yv y_mv <| yv (y_neq rfl rfl) ?_; refine yv y_as <| fk [(0, _), (7, _), (8, _), (10, _), (12, _), (31, _)] hK7 ?_; refine Hd.cond rfl (fun hc1 => ?_) (fun hc1 => ?_)
  ·try simp only [hyZ] at hc1
   have hno : w.at fb = none := by
    cases h : w.at fb with
    | none => rfl
    | some p => rw [h] at hc1; exact absurd rfl hc1
   refine sr fun _ hK8 => ?_
   refine yv y_mv <| yv y_as <| fk [(6, _)] hK8 ?_; refine Hd.ret <| Hd.inBret <| Hd.thenRet ?_; rw [show notR w fa fb = (110, w) by unfold notR; rw [hno, hnk]]; exact Hd.ret1 rfl () (by rw [hno]; rfl) (Ent.sep (.ex i (.pure ⟨hw, hrs⟩ enn)))
  ·try simp only [hyZ] at hc1
   obtain ⟨m, j, hmj⟩ : ∃ m k, w.at fb = some (m, k) := by
    cases h : w.at fb with
    | none => rw [h] at hc1; exact absurd hc1 (by decide)
    | some p => exact ⟨p.1, p.2, rfl⟩
   obtain ⟨hf0, hf1, hk, hn, x, hx, _, _⟩ := hw.at_lt hnk
   obtain ⟨b, hb'⟩ := rs_at hrs hx
   have hwf := hw.wf x (List.mem_of_getElem? hx)
   have hR := not_yes hnk hmj hx
   have hnl : n < i.rs.length := (List.getElem?_eq_some_iff.1 hb').1
   rw [hnk, hmj, wfb_eq hb']; refine Hd.wOut pkk hb' ?_; refine Hd.wire .here 0 (by omega) (fun i2 hi => ?_)
   have hp0 := hi.rd 0 (by omega)
   have hp1 := hi.rd 1 (by omega)
   refine sr fun _ hK9 => ?_
   refine yv (y_f 1 3 Tryz.underlying190 sz3) ?_; refine yv (y_l1 ag3 rfl) ?_; refine yv (y_f 1 3 Tryz.underlying190 sz3) ?_; refine yv (y_l1 ag3 rfl) ?_; refine yv (y_neq rfl rfl) ?_; refine yv y_mv ?_; apply Hd.org 6 41 47 [(0, _), (7, _), (8, _)] rfl sbq
   ·intro _
    simp only [List.take]; refine n1 <| n1 <| n1 <| n1 <| n1 <| yv (y_pickT rfl rfl) ?_; refine Hd.nil ?_; exact Hd.mq
   ·intro _
    simp only [List.take]; refine y2 (y_f 2 3 Tryz.underlying190 sz3) ?_; refine y2 (y_l1 ag3 rfl) ?_; refine y2 (y_f 2 3 Tryz.underlying190 sz3) ?_; refine y2 (y_l1 ag3 rfl) ?_; refine y2 (y_eql rfl rfl) ?_; refine yv (y_pickF rfl rfl) ?_; refine Hd.nil ?_; exact Hd.mq
   simp only [List.drop]; refine yv y_mv ?_; apply Hd.org 8 48 56 [(0, _), (7, _), (8, _)] rfl sbq
   ·intro _
    simp only [List.take]; refine n1 <| n1 <| n1 <| n1 <| n1 <| n1 <| n1 <| yv (y_pickT rfl rfl) ?_; refine Hd.nil ?_; exact Hd.mq
   ·intro hg7_48
    try simp only [hyZ] at hg7_48
    simp only [List.take]; refine y2 y_mv <| y2 y_np <| y2 (y_f 0 197 Tryz.underlying199 sz197) ?_; refine y2 (y_idxA Tryz.underlying197 sz196 rfl rfl (by decide)) ?_; refine y2 (y_f 2 194 Tryz.underlying196 sz194) ?_; refine y2 (y_l1 ag194 rfl) ?_; refine y2 (y_to (v' := .bool (!(x.e 0).rd)) (y_eql_pointer Tryz.underlying194 rfl rfl) (by (show Value.bool (Option.isNone _) = _; rw [ptr_no, hp0]))) ?_; refine yv (y_pickF rfl rfl) ?_; refine Hd.nil ?_; exact Hd.mq
   simp only [List.drop]; refine yv y_mv ?_; apply Hd.org 8 57 65 [(0, _), (7, _)] rfl sbq
   ·intro _
    simp only [List.take]; refine n1 <| n1 <| n1 <| n1 <| n1 <| n1 <| n1 <| yv (y_pickT rfl rfl) ?_; refine Hd.nil ?_; exact Hd.mq
   ·intro hg7_57
    try simp only [hyZ] at hg7_57
    simp only [List.take]; refine y2 y_mv <| y2 y_np <| y2 (y_f 0 197 Tryz.underlying199 sz197) ?_; refine y2 (y_idxA Tryz.underlying197 sz196 rfl rfl (by decide)) ?_; refine y2 (y_f 2 194 Tryz.underlying196 sz194) ?_; refine y2 (y_l1 ag194 rfl) ?_; refine y2 (y_to (v' := .bool (!(x.e 1).rd)) (y_eql_pointer Tryz.underlying194 rfl rfl) (by (show Value.bool (Option.isNone _) = _; rw [ptr_no, hp1]))) ?_; refine yv (y_pickF rfl rfl) ?_; refine Hd.nil ?_; exact Hd.mq
   simp only [List.drop]; refine yv y_as <| fk [(0, _), (7, _), (35, _)] hK9 ?_; refine Hd.cond rfl (fun hc2 => ?_) (fun hc2 => ?_)
   ·try simp only [hyZ] at hc2
    refine sr fun _ hK10 => ?_
    refine yv y_as <| fk [(6, _)] hK10 ?_; refine Hd.ret <| Hd.inBret <| Hd.thenRet ?_
    have h2 : n ≠ m ∨ k = j ∨ (x.e 0).rd = false ∨ (x.e 1).rd = false := by
     rcases hc2 with ((h | h) | h) | h
     ·exact .inl (fun e => h (by rw [e]))
     ·exact .inr (.inl (by omega))
     ·exact .inr (.inr (.inl h))
     ·exact .inr (.inr (.inr h))
    rw [hR, if_pos h2]; exact Hd.ret1 rfl () rfl (fun q s => world_back (k := 0) hw hrs hb' hi (by omega) q (Ent.sep enn q s))
   ·try simp only [hyZ] at hc2
    have h2 : ¬ (n ≠ m ∨ k = j ∨ (x.e 0).rd = false ∨ (x.e 1).rd = false) := by
     rintro (h | h | h | h)
     ·exact h (by omega)
     ·exact hc2.1.1.2 (by rw [h])
     ·rw [h] at hc2; cases hc2.1.2
     ·rw [h] at hc2; cases hc2.2
    have h0 : (x.e 0).rd = true := hc2.1.2
    have h1 : (x.e 1).rd = true := hc2.2
    have hok : WOk { w with nt := some (n, k) } := ⟨hw.uq, hw.fd, hw.len, hw.hdl, hw.ctl, hw.wf, hw.wn, hw.wm, fun a c e => by
     obtain ⟨rfl, rfl⟩ := Prod.mk.inj (Option.some.inj e)
     exact ⟨hk, x, hx, h0, h1⟩, hw.ns⟩
    rw [if_neg h2] at hR; refine Hd.skip <| Hd.inB <| Hd.toK hK4 ?_; refine sr fun _ hK11 => ?_
    refine yv y_mv <| yv (y_loadn (us := [_, _, _]) ag190 rfl (Rd.pt pkk (by (first | (intro j v e; rcases j with _|_|_|_|_|_|_|_|_|_|_|_|j <;> first | exact e | exact absurd e (by simp))))) (by exact sz190)) ?_; refine yv y_np <| yv (y_f 291 190 Tryz.underlying210 sz190) ?_; refine Hd.store (us := plc (some (n, k))) sz190 rfl rfl rfl (plc_one _) pkk (by rw [List.length_append, fdC_len, woT_len, plc_len]; decide) ?_; rw [nt_set]; refine Hd.nil ?_
    refine Hd.heap (WorldP wb { w with nt := some (n, k) } :: L) (fun q s => by
     have h1 : sep (WireP b x :: WoH wb w.at { w with nt := some (n, k) } i.rs.length i :: own 191 1 i.wa i.rs.length i.wc (pws i.rs) :: SigP i.sb w.hd w.ct :: Wires (i.rs.take n) :: Wires (i.rs.drop (n + 1)) :: L) q := Ent.sep (show Ent (WireL b x i2 0 (WoH wb w.at { w with nt := some (n, k) } i.rs.length i :: own 191 1 i.wa i.rs.length i.wc (pws i.rs) :: SigP i.sb w.hd w.ct :: Wires (i.rs.take n) :: Wires (i.rs.drop (n + 1)) :: L)) _ from .ex (i2, 0) (.pure ⟨hi, by omega⟩ enn)) q (Ent.sep enn q s)
     obtain ⟨hln, e⟩ := List.getElem?_eq_some_iff.1 hb'
     have h2 := ws_in (L := WoH wb w.at { w with nt := some (n, k) } i.rs.length i :: own 191 1 i.wa i.rs.length i.wc (pws i.rs) :: SigP i.sb w.hd w.ct :: L) hln (Ent.sep enn q h1)
     rw [← e, List.set_getElem_self] at h2
     exact world_nt hok hrs rfl q (Ent.sep enn q h2)) ?_
    refine sk [(0, _)] hK11 ?_; refine sr fun _ hK12 => ?_
    refine yv y_mv <| callE rfl fk181 (noticed_ct _ wb { w with nt := some (n, k) } hb) sq ?_; intro _; refine fk [] hK12 ?_; refine sr fun _ hK13 => ?_
    refine yv y_as <| fk [(6, _)] hK13 ?_; refine Hd.ret ?_; rw [hR]; exact Hd.ret1 rfl () rfl sq
end Wo
end Go.Proofs.YtbfddabjbkohdaaGreat
namespace Go.Proofs.YtbfddabjbkohdaaGreat
set_option maxHeartbeats 2000000
open Go.RX.Hd (yv y2 n1 fk sk sr tH callE heldK onlyH endH thenN slots)
open Go.RX Fx
namespace Rf
open Wo
set_option maxRecDepth 8000
theorem rc_hd {w : WA} {n c s o : Nat} {ad : Option Addr} (hl : w.hd.length = 32) (hs : s < 32) (ho : o = 2 + s) : (RwC w n ad c)[o]? = some (.bool (w.hd.getD s false)) := by
 subst ho; rw [List.getElem?_append_right (by simp), List.getElem?_append_left (by simp; omega), List.getElem?_map, List.getD_eq_getElem?_getD]
 have e : 2 + s - ([Value.slice ad n c, Value.int .u64 w.now] : List Value).length = s := by simp
 rw [e, List.getElem?_eq_getElem (by omega)]; rfl
theorem rc_ct {w : WA} {n c s o : Nat} {ad : Option Addr} (hl : w.hd.length = 32) (hc : w.ct.length = 32) (hs : s < 32) (ho : o = 34 + s) : (RwC w n ad c)[o]? = some (.int .i64 (w.ct.getD s 0)) := by
 subst ho; rw [List.getElem?_append_right (by simp; omega), List.getElem?_append_right (by simp; omega), List.getElem?_append_left (by simp; omega), List.getElem?_map, List.getD_eq_getElem?_getD]
 have e : 34 + s - ([Value.slice ad n c, Value.int .u64 w.now] : List Value).length - (w.hd.map Value.bool).length = s := by simp; omega
 rw [e, List.getElem?_eq_getElem (by omega)]; rfl
theorem rc_nt {w : WA} {n c j o : Nat} {ad : Option Addr} {v : Value} (hl : w.hd.length = 32) (hc : w.ct.length = 32) (hv : (ntV w.nt)[j]? = some v) (ho : o = 66 + j) : (RwC w n ad c)[o]? = some v := by
 subst ho; rw [List.getElem?_append_right (by simp; omega), List.getElem?_append_right (by simp; omega), List.getElem?_append_right (by simp; omega)]
 have e : 66 + j - ([Value.slice ad n c, Value.int .u64 w.now] : List Value).length - (w.hd.map Value.bool).length - (w.ct.map (Value.int .i64)).length = j := by simp; omega
 rw [e]; exact hv
theorem sum_take_bd {l : List Int} {K : Int} (h : ∀ c ∈ l, 0 ≤ c ∧ c ≤ K) (s : Nat) : 0 ≤ (l.take s).sum ∧ (l.take s).sum ≤ (l.take s).length * K := by
 have h' : ∀ c ∈ l.take s, 0 ≤ c ∧ c ≤ K := fun c hc => h c (List.mem_of_mem_take hc)
 generalize l.take s = t at h'
 induction t with
 | nil => simp
 | cons c t ih =>
  have h1 := h' c List.mem_cons_self
  have h2 := ih fun q hq => h' q (List.mem_cons_of_mem _ hq)
  simp only [List.sum_cons, List.length_cons]
  have : ((t.length + 1 : Nat) : Int) * K = (t.length : Int) * K + K := by
   rw [Int.natCast_add, Int.add_mul]; simp
  omega
theorem rPending_ct (L : List SP) (b : Nat) (w : WA) (hw : WOk w) (hb : ∀ c ∈ w.ct, 0 ≤ c ∧ c ≤ 2000000000) : Ct Tryz.prog 199 #[.pointer (some ⟨b, 0, none⟩)] (RwP b w :: L) (fun _ : Unit => .int .i64 (pendN w)) (fun _ : Unit => RwP b w :: L) := by
 refine Ct.o1 Tryz.func199 ?_; intro E
 show Hd E 18 _ _ _ _
 refine Hd.rw .here (fun i hi => ?_)
 have hl := hw.hdl
 have hcl := hw.ctl
 have hdb : ∀ c ∈ w.ct.drop 1, 0 ≤ c ∧ c ≤ 2000000000 := fun c hc => hb c (List.mem_of_mem_drop hc)
 have hdl : (w.ct.drop 1).length = 31 := by rw [List.length_drop, hcl]
 refine sr fun _ hK1 => ?_
 refine yv y_as <| fk [(0, _)] hK1 ?_; refine sr fun _ hK2 => ?_
 refine yv y_as <| fk [(0, _), (3, _)] hK2 ?_; refine Hd.seq fun _ hK3 => ?_
 refine sr fun _ hK4 => ?_
 refine yv y_as <| fk [(0, _), (3, _), (4, _)] hK4 ?_; refine Hd.block <| Hd.loopK (ι := Nat) [(0, _)] (fun s => [(3, .int .i64 ((w.ct.drop 1).take s).sum), (4, .int .i64 ((s + 1 : Nat) : Int))]) (fun s => pu (s ≤ 31) :: RwL b w i L) (fun s => 31 - s) 0 sbq sbq (Ent.sep (.pure (by omega) enn)) ?_; intro s
 try dsimp only
 refine Hd.pure (fun hp0 => ?_)
 try dsimp only at hp0
 refine Hd.seq fun _ hK5 => ?_
 refine sr fun _ hK6 => ?_
 refine yv y_mv <| yv (y_leq rfl rfl) ?_; refine fk [(0, _), (3, _), (4, _), (6, _)] hK6 ?_; refine Hd.cond rfl (fun hc0 => ?_) (fun hc0 => ?_)
 ·try simp only [hyZ] at hc0
  have hs : s < 31 := by omega
  have hbd := sum_take_bd hdb s
  have htl : ((w.ct.drop 1).take s).length = s := by rw [List.length_take]; omega
  have hsc : ((w.ct.drop 1).take (s + 1)).sum = ((w.ct.drop 1).take s).sum + w.ct.getD (s + 1) 0 := by
   rw [List.take_add_one, List.getElem?_drop, List.getD_eq_getElem?_getD, Nat.add_comm 1 s, List.getElem?_eq_getElem (show s + 1 < w.ct.length by omega)]; simp
  have hcb : 0 ≤ w.ct.getD (s + 1) 0 ∧ w.ct.getD (s + 1) 0 ≤ 2000000000 := by
   rw [List.getD_eq_getElem?_getD, List.getElem?_eq_getElem (show s + 1 < w.ct.length by omega)]; exact hb _ (List.getElem_mem _)
  rw [htl] at hbd; refine Hd.skip <| Hd.toK hK5 ?_; refine Hd.seq fun _ hK7 => ?_
  refine Hd.block <| Hd.region <| yv y_mv <| yv y_mv <| yv y_mv <| yv y_np <| yv (y_f 34 131 Tryz.underlying133 sz131) ?_; refine yv (y_idxA Tryz.underlying131 sz3 rfl rfl (by omega)) ?_; refine yv (y_load1 ag3 rfl (Rd.pt1 pkk (rc_ct hl hcl (show s + 1 < 32 by omega) (by omega)))) ?_; refine yv (y_addn rfl rfl (by simp only [InK]; omega)) ?_; refine yv y_as <| Hd.nil <| slots [(0, _), (3, _), (4, _)] sbq ?_; refine Hd.inB <| Hd.toK hK7 ?_; refine Hd.region <| yv y_mv <| yv (y_addn rfl rfl (by simp only [InK]; omega)) ?_; refine yv y_as <| Hd.nil <| slots [(0, _), (3, _), (4, _)] sbq ?_; refine thenN ?_; rw [← hsc]; exact Hd.again (s + 1) (by omega) sbq (Ent.sep (.pure (by omega) enn))
 ·try simp only [hyZ] at hc0
  obtain rfl : s = 31 := by omega
  refine Hd.exit <| Hd.thenExit <| Hd.thenExit <| Hd.inBexit <| Hd.toK hK3 ?_; refine sr fun _ hK8 => ?_
  refine yv y_mv <| yv y_as <| fk [(2, _)] hK8 ?_; refine Hd.ret ?_
  have e : ((w.ct.drop 1).take 31).sum = pendN w := by unfold pendN; rw [List.take_of_length_le (by omega)]
  rw [← e]; exact Hd.ret1 rfl () rfl (rw_fold hi)
abbrev frN (w : WA) (i : Nat) : List Nat := (List.range i).filter fun fd : Nat => (w.at (fd : Int)).isNone
theorem rfree_ct (L : List SP) (b : Nat) (w : WA) (hw : WOk w) : Ct Tryz.prog 114 #[.pointer (some ⟨b, 0, none⟩)] (RwP b w :: L) (fun q_ : Option Addr × Nat => .slice q_.1 (frees w.at).length q_.2) (fun q_ : Option Addr × Nat => own 3 1 q_.1 (frees w.at).length q_.2 (nats (frees w.at)) :: RwP b w :: L) := by
 refine Ct.o1 Tryz.func114 ?_; intro E
 show Hd E 24 _ _ _ _
 refine sr fun _ hK1 => ?_
 refine yv y_as <| fk [(0, _)] hK1 ?_; refine sr fun _ hK2 => ?_
 refine yv y_as <| fk [(0, _), (3, _)] hK2 ?_; refine Hd.seq fun _ hK3 => ?_
 refine sr fun _ hK4 => ?_
 refine yv y_as <| fk [(0, _), (3, _), (4, _)] hK4 ?_; refine Hd.block <| Hd.loopK (ι := Nat × Option Addr × Nat) [(0, _)] (fun q_ => [(3, .slice q_.2.1 (frN w q_.1).length q_.2.2), (4, .int .i64 (q_.1 : Int))]) (fun q_ => pu (q_.1 ≤ 96) :: own 3 1 q_.2.1 (frN w q_.1).length q_.2.2 (nats (frN w q_.1)) :: RwP b w :: L) (fun q_ => 96 - q_.1) (0, none, 0) sbq sbq (fun q t => Ent.sep (.pure (Nat.zero_le _) (.ownNil .same)) q t) ?_; rintro ⟨i, ad, c⟩
 try dsimp only
 refine Hd.pure (fun hp0 => ?_)
 try dsimp only at hp0
 refine Hd.seq fun _ hK5 => ?_
 refine sr fun _ hK6 => ?_
 refine yv y_mv <| yv (y_leq rfl rfl) ?_; refine fk [(0, _), (3, _), (4, _), (8, _)] hK6 ?_; refine Hd.cond rfl (fun hc0 => ?_) (fun hc0 => ?_)
 ·try simp only [hyZ] at hc0
  have hi : i < 96 := by omega
  have hsf := range_succ_filter (fun fd : Nat => (w.at (fd : Int)).isNone) i
  have hll : (frN w i).length ≤ i := by
   have := List.length_filter_le (fun fd : Nat => (w.at (fd : Int)).isNone) (List.range i)
   rwa [List.length_range] at this
  obtain ⟨g, hg⟩ : ∃ g, g = frN w i := ⟨_, rfl⟩
  rw [← hg] at hll ⊢
  have hsg : frN w (i + 1) = g ++ (if (w.at (i : Int)).isNone = true then [i] else []) := by rw [hg]; refine Eq.trans hsf ?_; split <;> simp
  refine Hd.skip <| Hd.toK hK5 ?_; refine Hd.seq fun _ hK7 => ?_
  refine Hd.block <| sr fun _ hK8 => ?_
  refine yv y_mv <| yv y_mv <| callE rfl fk116 (rat_ct _ b w hw (i : Int)) sq ?_; intro _; refine yv y_mv <| yv y_ex <| yv y_ex <| yv y_as <| yv y_as <| fk [(0, _), (3, _), (4, _), (5, _)] hK8 ?_; refine sr fun _ hK9 => ?_
  refine yv y_mv <| yv (y_lss rfl rfl) ?_; refine fk [(0, _), (3, _), (4, _), (18, _)] hK9 ?_; refine Hd.cond rfl (fun hc1 => ?_) (fun hc1 => ?_)
  ·try simp only [hyZ] at hc1
   refine Hd.region <| yv y_mv <| yv y_mv <| Hd.bslice (vs := [(0, _)]) rfl (by exact bs114_21 ..) (fun b21 => ?_); refine Hd.append Tryz.underlying44 ty3 rfl rfl rfl pkk (by exact RdS.rd (Rd.pt pkk (fun j v e => by simpa using e)) rfl) (by simp [Value.oneCell']; done) (by simp only [maxLen]; omega) (by omega) (fun ad22 cap22 => ?_); refine yv y_as <| Hd.nil <| slots [(0, _), (3, _), (4, _)] sbq ?_; refine Hd.inB <| Hd.toK hK7 ?_; refine Hd.region <| yv y_mv <| yv (y_addn rfl rfl (by simp only [InK]; omega)) ?_; refine yv y_as <| Hd.nil <| slots [(0, _), (3, _), (4, _)] sbq ?_; refine thenN ?_
   have hfr : (w.at (i : Int)).isNone = true := by rw [atN_no hc1]; rfl
   rw [if_pos hfr] at hsg; refine Hd.again (i + 1, ad22, cap22) (by show 96 - (i + 1) < 96 - i; omega) (by rw [hsg]; simp only [List.length_append, List.length_singleton]; repeat (first | exact trivial | refine ⟨rfl, ?_⟩)) (fun q t => ?_); rw [hsg]; exact Ent.sep (.pure (show i + 1 ≤ 96 by omega) (.eq pkk (own_eq3 (by simp) rfl (by simp [nats])) enn)) q t
  ·try simp only [hyZ] at hc1
   refine Hd.skip <| Hd.inB <| Hd.toK hK7 ?_; refine Hd.region <| yv y_mv <| yv (y_addn rfl rfl (by simp only [InK]; omega)) ?_; refine yv y_as <| Hd.nil <| slots [(0, _), (3, _), (4, _)] sbq ?_; refine thenN ?_
   have hfr : ¬ ((w.at (i : Int)).isNone = true) := by
    obtain ⟨n, k, hnk⟩ := atN_yes (by omega : 0 ≤ atN (w.at (i : Int)))
    rw [hnk]; simp
   rw [if_neg hfr, List.append_nil] at hsg; refine Hd.again (i + 1, ad, c) (by show 96 - (i + 1) < 96 - i; omega) (by rw [hsg]; repeat (first | exact trivial | refine ⟨rfl, ?_⟩)) (fun q t => ?_); rw [hsg]; exact Ent.sep (.pure (show i + 1 ≤ 96 by omega) enn) q t
 ·try simp only [hyZ] at hc0
  obtain rfl : i = 96 := by omega
  refine Hd.exit <| Hd.thenExit <| Hd.thenExit <| Hd.inBexit <| Hd.toK hK3 ?_; refine sr fun _ hK10 => ?_
  refine yv y_mv <| yv y_as <| fk [(2, _)] hK10 ?_; refine Hd.ret ?_; exact Hd.ret1 rfl (ad, c) rfl sq
theorem closeAll_snoc : ∀ (l : List Nat) (ws : List WireA) (a : Nat), closeAll ws (l ++ [a]) = (match (closeAll ws l)[a]? with | some y => (closeAll ws l).set a (closeW y 0) | none => closeAll ws l)
 | [], _, _ => rfl
 | n :: t, ws, a => closeAll_snoc t _ a
theorem closeAll_len : ∀ (l : List Nat) (ws : List WireA), (closeAll ws l).length = ws.length
 | [], _ => rfl
 | n :: t, ws => by
  show (closeAll (match ws[n]? with | some y => ws.set n (closeW y 0) | none => ws) t).length = _
  rw [closeAll_len t]
  split <;> simp
def clI (w : WA) (n : Nat) (X : WireA) (l : List Nat) : WA := { w with ws := (closeAll w.ws l).set n X }
theorem clI_nil (w : WA) (n : Nat) (X : WireA) : clI w n X [] = w.setW n X := rfl
theorem clI_at {w : WA} {n : Nat} {X : WireA} (l : List Nat) (hn : n < w.ws.length) : (clI w n X l).ws[n]? = some X := by
 show ((closeAll w.ws l).set n X)[n]? = _
 rw [List.getElem?_set_self (by rw [closeAll_len]; exact hn)]
theorem clI_some {w : WA} {n a : Nat} {X : WireA} (l : List Nat) (ha : a < w.ws.length) : ∃ y, (clI w n X l).ws[a]? = some y := by
 refine ⟨_, List.getElem?_eq_getElem (?_ : a < ((closeAll w.ws l).set n X).length)⟩; rw [List.length_set, closeAll_len]; exact ha
theorem clI_step {w : WA} {n a : Nat} {X y : WireA} {l : List Nat} (hna : n ≠ a) (hy : (clI w n X l).ws[a]? = some y) : (clI w n X l).setW a (closeW y 0) = clI w n X (l ++ [a]) := by
 have hy2 : (closeAll w.ws l)[a]? = some y := by
  have : ((closeAll w.ws l).set n X)[a]? = some y := hy
  rwa [List.getElem?_set_ne hna] at this
 show ({ w with ws := ((closeAll w.ws l).set n X).set a (closeW y 0) } : WA) = { w with ws := (closeAll w.ws (l ++ [a])).set n X }
 rw [closeAll_snoc, hy2, List.set_comm _ _ hna]
theorem clI_end {w : WA} {n : Nat} {X : WireA} {l : List Nat} (hn : n ∉ l) : (clI w n X l).setW n (X.wts []) = { w with ws := closeAll (w.ws.set n (X.wts [])) l } := by
 show ({ w with ws := ((closeAll w.ws l).set n X).set n (X.wts []) } : WA) = _
 rw [List.set_set, closeAll_set l w.ws hn]
theorem rset_wt {rs : List Row} {n o : Nat} {x : WireA} {j : RwI} (h : rs[n]? = some (x, j)) (ho : o = n * 20 + 19) : (rs.flatMap encRW).set o (.slice none 0 0) = (rs.set n (x.wts [], { j with wa := none, wc := 0 })).flatMap encRW := by
 subst ho; refine rows_set (j := 19) encRW_len (by omega) ?_ h (by omega)
 rfl
theorem bag_back {α : Type} {f : α → SP} {rs : List α} {j : Nat} {x : α} {L : List SP} {h : PH} (hj : rs[j]? = some x) (s : sep (f x :: Bag f (rs.take j) :: Bag f (rs.drop (j + 1)) :: L) h) : sep (Bag f rs :: L) h := by
 obtain ⟨hl, e⟩ := List.getElem?_eq_some_iff.1 hj
 have := bag_in hl s
 rwa [← e, List.set_getElem_self] at this
theorem sd_wt {X : WireA} {j : RwI} {L : List SP} : ∀ h, sep (SdL (X, j) 0 L) h → sep (Sd (X.wts [], { j with wa := none, wc := 0 }) :: L) h := fun h s =>
 sd_fold (p := (X.wts [], { j with wa := none, wc := 0 })) (k := 0) (by decide) h (show sep (SdB (X, j) 0 :: SdB (X, j) (1 - 0) :: own 3 1 none 0 0 [] :: L) h from
  Ent.sep (show Ent (SdB (X, j) 0 :: SdB (X, j) (1 - 0) :: SdW (X, j) :: L) (SdB (X, j) 0 :: SdB (X, j) (1 - 0) :: own 3 1 none 0 0 [] :: L) from .pick pkk (.pick pkk (.ownNil enn))) h s)
theorem rClose_ct (L : List SP) (b : Nat) (w : WA) (hw : WOk w) (fd : Int) : Ct Tryz.prog 68 #[.pointer (some ⟨b, 0, none⟩), .int .i64 fd] (RwP b w :: L) (fun _ : Unit => .int .i64 (closeF w fd).1) (fun _ : Unit => RwP b (closeF w fd).2 :: L) := by
 refine Ct.o2 Tryz.func68 ?_; intro E
 show Hd E 53 _ _ _ _
 refine sr fun _ hK1 => ?_
 refine yv y_as <| fk [(0, _), (1, _)] hK1 ?_; refine sr fun _ hK2 => ?_
 refine yv y_mv <| yv y_mv <| callE rfl fk116 (rat_ct _ b w hw fd) sq ?_; intro _; refine yv y_mv <| yv y_ex <| yv y_ex <| yv y_as <| yv y_as <| fk [(0, _), (5, _), (6, _)] hK2 ?_; refine Hd.seq fun _ hK3 => ?_
 refine sr fun _ hK4 => ?_
 refine yv y_mv <| yv (y_lss rfl rfl) ?_; refine fk [(0, _), (5, _), (6, _), (15, _)] hK4 ?_; refine Hd.cond rfl (fun hc0 => ?_) (fun hc0 => ?_)
 ·try simp only [hyZ] at hc0
  have hno := atN_no hc0
  refine sr fun _ hK5 => ?_
  refine yv y_as <| fk [(4, _)] hK5 ?_; refine Hd.ret <| Hd.thenRet ?_; rw [show closeF w fd = (110, w) by unfold closeF; rw [hno]]; exact Hd.ret1 rfl () rfl sq
 ·try simp only [hyZ] at hc0
  obtain ⟨n, k, hnk⟩ := atN_yes (by omega)
  obtain ⟨_, _, hk, hnl, x, hx, _, _⟩ := hw.at_lt hnk
  rw [show atN (w.at fd) = (n : Int) by rw [hnk]; rfl, show atK (w.at fd) = (k : Int) by rw [hnk]; rfl]
  obtain ⟨X, hX⟩ : ∃ X, X = closeW x k := ⟨_, rfl⟩
  have hXw : X.wt = x.wt := by rw [hX]; rfl
  have hns := hw.ns n x hx
  have hwl : ∀ a ∈ x.wt, a < w.ws.length := fun a ha => by
   obtain ⟨y, hy, _⟩ := hw.wm a (List.mem_flatMap.2 ⟨x, List.mem_of_getElem? hx, ha⟩)
   exact (List.getElem?_eq_some_iff.1 hy).1
  have hlen := hw.len
  have hwf := hw.wf x (List.mem_of_getElem? hx)
  have hwt := wt_le hw hx
  refine Hd.skip <| Hd.toK hK3 ?_; refine sr fun _ hK6 => ?_
  refine yv y_mv <| yv y_mv <| yv y_mv <| callE rfl fk123 (rclose_ct _ b w n x hx k hk) sq ?_; intro _; rw [← hX, ← clI_nil]; refine fk [(0, _), (5, _)] hK6 ?_; refine Hd.seq fun _ hK7 => ?_
  refine sr fun _ hK8 => ?_
  refine yv y_as <| fk [(0, _), (5, _), (7, _)] hK8 ?_; refine Hd.block <| Hd.loopK (ι := Nat) [(0, _), (5, _)] (fun i => [(7, .int .i64 (i : Int))]) (fun i => pu (i ≤ x.wt.length) :: RwP b (clI w n X (x.wt.take i)) :: L) (fun i => x.wt.length - i) 0 sbq sbq (Ent.sep (.pure (by omega) enn)) ?_; intro i
  try dsimp only
  refine Hd.pure (fun hp0 => ?_)
  try dsimp only at hp0
  refine Hd.seq fun _ hK9 => ?_
  refine sr fun _ hK10 => ?_
  have hx2 := clI_at (w := w) (X := X) (x.wt.take i) hnl
  refine Hd.rw .here (fun i' hi' => ?_)
  have hrl' := rows_n hi'
  obtain ⟨j', hrow'⟩ := row_at hi' hx2
  have hn' : n < i'.1.length := (List.getElem?_eq_some_iff.1 hrow').1
  refine yv y_mv <| yv y_mv <| yv y_np <| yv (y_f 0 129 Tryz.underlying133 sz129) ?_; refine yv (y_l1 ag129 rfl) ?_; refine yv y_mv <| yv (y_idxR Tryz.underlying129 sz221 rfl rfl (by omega) (by exact RdS.own pkk)) ?_; refine yv (y_fR 19 44 Tryz.underlying221 sz44) ?_; refine yv (y_to (v' := .slice j'.wa x.wt.length j'.wc) (y_rw ag44 rfl hrow' 19 rfl) (by (rw [← hXw]))) ?_; refine yv (y_len Tryz.underlying44 rfl) ?_; refine yv (y_lss rfl rfl) ?_; refine fk [(0, _), (5, _), (7, _), (30, _)] hK10 ?_; refine Hd.cond rfl (fun hc1 => ?_) (fun hc1 => ?_)
  ·try simp only [hyZ] at hc1
   have hi : i < x.wt.length := by omega
   have hiX : i < X.wt.length := by rw [hXw]; exact hi
   obtain ⟨a, ha⟩ : ∃ a, a = x.wt[i] := ⟨_, rfl⟩
   have hga : x.wt[i]? = some a := by rw [ha]; exact List.getElem?_eq_getElem hi
   have hma : a ∈ x.wt := List.mem_of_getElem? hga
   have hna : n ≠ a := fun e => hns (e ▸ hma)
   obtain ⟨y, hy⟩ := clI_some (w := w) (n := n) (X := X) (x.wt.take i) (hwl a hma)
   have htk : x.wt.take (i + 1) = x.wt.take i ++ [a] := by rw [List.take_add_one, hga]; rfl
   have hgv : (nats X.wt)[i * 1]? = some (.int .i64 (a : Int)) := by rw [hXw, Nat.mul_one, List.getElem?_map, hga]; rfl
   refine Hd.bagOut pkk hrow' ?_; refine Hd.sd .here 0 (by decide) ?_; refine Hd.skip <| Hd.toK hK9 ?_; refine Hd.seq fun _ hK11 => ?_
   refine Hd.block <| Hd.region <| yv y_mv <| yv y_mv <| yv y_np <| yv (y_f 0 129 Tryz.underlying133 sz129) ?_; refine yv (y_l1 ag129 rfl) ?_; refine yv y_mv <| yv (y_idxR Tryz.underlying129 sz221 rfl rfl (by omega) (by exact RdS.own pkk)) ?_; refine yv (y_fR 19 44 Tryz.underlying221 sz44) ?_; refine yv (y_rw ag44 rfl hrow' 19 rfl) ?_; refine yv y_mv <| yv (y_idxR Tryz.underlying44 sz3 rfl rfl (by omega) (by exact RdS.own pkk)) ?_; refine yv (y_loadR1 ag3 rfl (RdS.own (ad := j'.wa) (us := nats X.wt) pkk) hgv) ?_; refine Hd.heap (RwP b (clI w n X (x.wt.take i)) :: L) (sep_trans (sep_trans sq (sd_fold (p := (X, j')) (k := 0) (by decide) (L := Bag Sd (i'.1.take n) :: Bag Sd (i'.1.drop (n + 1)) :: RwH b (clI w n X (x.wt.take i)) i'.1.length i'.2.1 i'.2.2 :: OwR i' :: L))) (fun q s => rw_fold hi' q (Ent.sep enn q (bag_back hrow' s)))) ?_; refine callE rfl fk123 (rclose_ct _ b _ a y hy 0 (by decide)) sq ?_
   intro _; rw [clI_step hna hy, ← htk]; refine Hd.nil <| slots [(0, _), (5, _), (7, _)] sbq ?_; refine Hd.inB <| Hd.toK hK11 ?_; refine Hd.region <| yv y_mv <| yv (y_addn rfl rfl (by simp only [InK]; omega)) ?_; refine yv y_as <| Hd.nil <| slots [(0, _), (5, _), (7, _)] sbq ?_; refine thenN ?_; exact Hd.again (i + 1) (by omega) sbq (Ent.sep (.pure (by omega) enn))
  ·try simp only [hyZ] at hc1
   obtain rfl : i = x.wt.length := by omega
   rw [List.take_length] at *; refine Hd.bagOut pkk hrow' ?_; refine Hd.sd .here 0 (by decide) ?_; refine Hd.exit <| Hd.thenExit <| Hd.thenExit <| Hd.inBexit <| Hd.toK hK7 ?_; refine sr fun _ hK12 => ?_
   refine yv y_mv <| yv y_np <| yv (y_f 0 129 Tryz.underlying133 sz129) ?_; refine yv (y_l1 ag129 rfl) ?_; refine yv y_mv <| yv (y_idxR Tryz.underlying129 sz221 rfl rfl (by omega) (by exact RdS.own pkk)) ?_; refine yv (y_fR 19 44 Tryz.underlying221 sz44) ?_; refine Hd.storeO1 sz44 rfl rfl rfl pkk (by rw [rows_len encRW_len]; omega) ?_
   try simp only [hyS]
   refine Hd.nil ?_; rw [rset_wt hrow' (by omega)]; refine sk [] hK12 ?_; refine sr fun _ hK13 => ?_
   refine yv y_as <| fk [(4, _)] hK13 ?_; refine Hd.ret ?_
   have e := clI_end (w := w) (X := X) hns
   rw [show closeF w fd = (0, { w with ws := closeAll (w.ws.set n (X.wts [])) x.wt }) by unfold closeF; rw [hnk]; dsimp only; rw [hx, hX], ← e]; refine Hd.heap (RwP b ((clI w n X x.wt).setW n (X.wts [])) :: L) (fun q s => ?_) (Hd.ret1 rfl () rfl sq)
   have s1 : sep (SdL (X, j') 0 (Bag Sd (i'.1.take n) :: Bag Sd (i'.1.drop (n + 1)) :: RwH b (clI w n X x.wt) i'.1.length i'.2.1 i'.2.2 :: own 221 20 i'.2.1 i'.1.length i'.2.2 ((i'.1.set n (X.wts [], { j' with wa := none, wc := 0 })).flatMap encRW) :: L)) q := Ent.sep enn q s
   exact rw_put hi' hn' q (Ent.sep enn q (sd_wt q s1))
end Rf
end Go.Proofs.YtbfddabjbkohdaaGreat
namespace Go.RX
section
variable {E : World} {n : Nat} {ds : List Deferred} {st st' : List (Nat × Value)} {L L' M : List SP} {r : Option Nat} {P : Program} {Q : Exit → Act → World → Prop} {ops : Array Oper} {rest : List Oper}
variable {d : Nat} {ty t t2 : TypeId} {pos : String} {af : Array Edge} {g : Option (Nat × Bool)} {x y z : Operand} {v u : Value} {k : IntKind} {p q : Bool}
variable {md : Region.Mode} {S : World → Prop} {J : Nat → Bool}
structure Waits (md : Region.Mode) (ops : Array Oper) (i : Nat) (D : List Nat) : Prop where
 up : ∀ (j : Nat) oj, ops[j]? = some oj → j ∈ D → ∃ e ∈ oj.after, Region.binds md e = true ∧ (e.on = i ∨ e.on ∈ D)
 dn : ∀ (j : Nat) oj, ops[j]? = some oj → j ∉ D → ∀ e ∈ oj.after, Region.binds md e = true → e.on ≠ i
theorem wpAnyHz_firstT {i : Nat} {oi : Oper} {v : Value} {D : List Nat} (hi : ops[i]? = some oi) (hsel : ∀ (j : Nat) (o : Oper) cs b, ops[j]? = some o → o.op ≠ .select cs b) (hW : Waits md ops i D)
  (hJ : ∀ (j : Nat) oj, ops[j]? = some oj → j ∉ D → J j = true) (hnd : ∀ (j : Nat) (o : Oper), ops[j]? = some o → ∀ c, o.op ≠ .defer c) :
  ∀ (fuel : Nat) (listed : Array Bool) (a : Act) (w : World),
   (∀ j oj, ops[j]? = some oj → j ≠ i → listed.getD j true = false → (∀ e ∈ oj.after, Region.binds md e = true → e.on ≠ i) → oi.apart ops oj = true) →
   (∀ j ∈ D, listed[j]? ≠ some true) →
   i ∈ Region.ready md ops listed → YieldsIn P ops S oi v a → S w →
   wpAnyHz r P md ops Q S J fuel (listed.setIfInBounds i true) (a.put oi.dst v) w → wpAnyHz r P md ops Q S J (fuel + 1) listed a w := by
 intro fuel
 induction fuel with
 | zero =>
  intro listed a w _ _ hr hy hS H; refine ⟨fun h => (by rw [h] at hr; cases hr), fun j hj => ?_⟩
  by_cases hji : j = i
  ·subst hji; exact hy.wpOpIn hi (hnd _ _ hi) hS ⟨fun _ => hS, H⟩
  ·have := ready_mono hj hji
   rw [H.1] at this
   cases this
 | succ fuel ih =>
  intro listed a w hfree hD hr hy hS H; refine ⟨fun h => (by rw [h] at hr; cases hr), fun j hj => ?_⟩
  by_cases hji : j = i
  ·subst hji; exact hy.wpOpIn hi (hnd _ _ hi) hS ⟨fun _ => hS, H⟩
  ·have h1 := H.2 j (ready_mono hj hji)
   obtain ⟨hjun, oj, hoj, hall⟩ := mem_ready.1 hj
   have hlist : ∀ q, listed[q]? ≠ some true → q < listed.size → ∀ e ∈ oj.after, Region.binds md e = true → e.on ≠ q := fun q hq hql e he hb heq => by
    have h1 := hall e he hb
    rw [heq] at h1; rw [Array.getElem?_eq_getElem hql] at hq; simp [hql] at h1; exact hq (by rw [h1])
   have hnoti : ∀ e ∈ oj.after, Region.binds md e = true → e.on ≠ i := fun e he hb heq => by
    have h1 := hall e he hb
    have h0 := (mem_ready.1 hr).1
    rw [heq] at h1
    rcases Nat.lt_or_ge i listed.size with h' | h'
    ·simp [h'] at h0 h1; rw [h0] at h1; cases h1
    ·simp [Array.getElem?_eq_none h'] at h1
   have hjD : j ∉ D := fun hjD => by
    obtain ⟨e, he, hb, h2⟩ := hW.up j oj hoj hjD
    rcases h2 with h2 | h2
    ·exact hnoti e he hb h2
    ·have h3 := hall e he hb
     have h4 := hD e.on h2
     rcases Nat.lt_or_ge e.on listed.size with h' | h'
     ·rw [Array.getElem?_eq_getElem h'] at h4
      simp [h'] at h3; exact h4 (by rw [h3])
     ·simp [Array.getElem?_eq_none h'] at h3
   have h2 := wpOpIn_putIn hoj (hnd _ _ hoj) (hfree j oj hoj hji hjun hnoti) (fun cs b => hsel i oi cs b hi) (fun cs b => hsel j oj cs b hoj) hy h1
   have hfree' : ∀ k ok, ops[k]? = some ok → k ≠ i → (listed.setIfInBounds j true).getD k true = false →
     (∀ e ∈ ok.after, Region.binds md e = true → e.on ≠ i) → oi.apart ops ok = true := fun k ok hk hki hun hno => by
    refine hfree k ok hk hki ?_ hno
    by_cases hjk : j = k
    ·subst hjk; exact hjun
    ·rw [getD_set_ne true hjk] at hun; exact hun
   have hD' : ∀ q ∈ D, (listed.setIfInBounds j true)[q]? ≠ some true := fun q hq => by
    have hne : j ≠ q := fun e => hjD (e ▸ hq)
    rw [Array.getElem?_setIfInBounds_ne hne]; exact hD q hq
   have hJj := hJ j oj hoj hjD
   refine wpOpIn_mono (fun a' w' h3 => ⟨fun _ => h3.2.1 hJj, ih (listed.setIfInBounds j true) a' w' hfree' hD' (ready_mono hr (Ne.symm hji)) h3.1 (h3.2.1 hJj) ?_⟩) h2; rw [Array.setIfInBounds_comm _ _ hji]; exact h3.2.2
def jOkT (md : Region.Mode) (ops : Array Oper) (J : Nat → Bool) (i : Nat) (D : List Nat) (listed : Array Bool) : Bool :=
 (ops.all fun o => !isDefer o.op) && ((List.range ops.size).all fun j => J j || D.contains j) &&
 ((List.range ops.size).all fun j => match ops[j]? with
  | some oj => bif D.contains j then oj.after.any (fun e => Region.binds md e && (Nat.beq e.on i || D.contains e.on)) else oj.after.all fun e => !(Region.binds md e && Nat.beq e.on i)
  | none => true) && D.all fun j => match listed[j]? with
  | some b => !b
  | none => true
theorem jOkT_J {i : Nat} {D : List Nat} {listed : Array Bool} (h : jOkT md ops J i D listed = true) : ∀ (j : Nat) oj, ops[j]? = some oj → j ∉ D → J j = true := fun j oj hj hn => by
 simp only [jOkT, Bool.and_eq_true] at h
 have := List.all_eq_true.1 h.1.1.2 j (List.mem_range.2 (Array.getElem?_eq_some_iff.1 hj).1)
 simp only [Bool.or_eq_true, List.contains_iff_mem] at this; exact this.resolve_right hn
theorem jOkT_nd {i : Nat} {D : List Nat} {listed : Array Bool} (h : jOkT md ops J i D listed = true) : ∀ (j : Nat) (o : Oper), ops[j]? = some o → ∀ c, o.op ≠ .defer c := fun j o hj c hc => by
 simp only [jOkT, Bool.and_eq_true] at h
 have := Array.all_eq_true'.1 h.1.1.1 o (Array.mem_of_getElem? hj)
 rw [hc] at this; cases this
theorem jOkT_W {i : Nat} {D : List Nat} {listed : Array Bool} (h : jOkT md ops J i D listed = true) : Waits md ops i D := by
 simp only [jOkT, Bool.and_eq_true] at h
 have hh : ∀ (j : Nat) oj, ops[j]? = some oj → (bif D.contains j then oj.after.any (fun e => Region.binds md e && (Nat.beq e.on i || D.contains e.on)) else oj.after.all fun e => !(Region.binds md e && Nat.beq e.on i)) = true := fun j oj hj => by
  have := List.all_eq_true.1 h.1.2 j (List.mem_range.2 (Array.getElem?_eq_some_iff.1 hj).1)
  simpa only [hj] using this
 constructor
 ·intro j oj hj hD
  have := hh j oj hj
  rw [List.contains_iff_mem.2 hD, cond_true] at this
  obtain ⟨e, he, h2⟩ := Array.any_eq_true'.1 this
  simp only [Bool.and_eq_true, Bool.or_eq_true, List.contains_iff_mem] at h2; exact ⟨e, he, h2.1, h2.2.imp Nat.eq_of_beq_eq_true id⟩
 ·intro j oj hj hD e he hb heq
  have := hh j oj hj
  have hc : D.contains j = false := by
   cases hcc : D.contains j with
   | false => rfl
   | true => exact absurd (List.contains_iff_mem.1 hcc) hD
  rw [hc, cond_false] at this
  have h2 := Array.all_eq_true'.1 this e he
  rw [hb, heq] at h2; simp at h2
theorem jOkT_D {i : Nat} {D : List Nat} {listed : Array Bool} (h : jOkT md ops J i D listed = true) : ∀ j ∈ D, listed[j]? ≠ some true := fun j hj hl => by
 simp only [jOkT, Bool.and_eq_true] at h
 have := List.all_eq_true.1 h.2 j hj
 rw [hl] at this
 cases this
theorem Hd.takeT (D : List Nat) (i : Nat) {op : Op} {f : Nat} {listed : Array Bool} (hi : ops[i]? = some ⟨some d, op, ty, pos, af, none⟩) (hs : Region.noSelect ops = true) (hf : Region.free .any ops listed i = true)
  (hr : (Region.ready .any ops listed).contains i = true) (hJ : jOkT .any ops J i D listed = true) (hx : Yv E n ds st M P ⟨some d, op, ty, pos, af, none⟩ v) (hab : ∀ (a : Act) w, (⟨some d, op, ty, pos, af, none⟩ : Oper).about P w a.eval = none)
  (hM : ∀ k, sep L k → sep M k) (K : Hd E n ds ((d, v) :: st) L (ZW r P ops Q (Sat E M) J f (listed.setIfInBounds i true))) (hd : d < n := by decide) :
  Hd E n ds st L (ZW r P ops Q (Sat E M) J (f + 1) listed) := fun a w fr s => by
 refine wpAnyHz_firstT hi (Region.noSelect_spec hs) (jOkT_W hJ) (jOkT_J hJ) (jOkT_nd hJ) f listed a w (Region.free_spec hi hf) (jOkT_D hJ) (by simpa using hr) ?_ (s.mp hM) (K _ w (fr.put hd v) s); exact ⟨.inl ⟨by simp [Region.wanted], fun w sw => hx a w fr sw⟩, fun w => hab a w⟩
end
end Go.RX
namespace Go.Proofs.YtbfddabjbkohdaaGreat
set_option maxHeartbeats 2000000
open Go.RX.Hd (yv y2 n1 fk sk sr tH callE heldK onlyH endH thenN slots)
open Go.RX Fx
namespace Rf
open Wo
set_option maxRecDepth 8000
theorem ntV0 (o : Option (Nat × Nat)) : (ntV o)[0]? = some (.int .i64 (atN o)) := by cases o <;> rfl
theorem rnoticed_ct (L : List SP) (b : Nat) (w : WA) (hw : WOk w) (hb : ∀ c ∈ w.ct, 0 ≤ c ∧ c ≤ 2000000000) : Ct Tryz.prog 182 #[.pointer (some ⟨b, 0, none⟩)] (RwP b w :: L) (fun _ : Unit => .tuple #[]) (fun _ : Unit => RwP b (ntcR w) :: L) := by
 refine Ct.o1 Tryz.func182 ?_; intro E
 show Hd E 73 _ _ _ _
 have hl := hw.hdl
 have hcl := hw.ctl
 refine Hd.rw .here (fun i hi => ?_); refine Hd.seq fun _ hK1 => ?_
 refine sr fun _ hK2 => ?_
 refine yv y_mv <| yv y_np <| yv (y_f 66 3 Tryz.underlying133 sz3) ?_; refine yv (y_load1 (v := .int .i64 (atN w.nt)) ag3 rfl (Rd.pt1 pkk (rc_nt (j := 0) hl hcl (ntV0 _) (by omega)))) ?_; refine yv (y_lss rfl rfl) ?_; refine fk [(0, _), (8, _)] hK2 ?_; refine Hd.cond rfl (fun hc0 => ?_) (fun hc0 => ?_)
 ·try simp only [hyZ] at hc0
  refine Hd.ret <| Hd.thenRet ?_
  have hn := atN_no hc0
  rw [show ntcR w = w by unfold ntcR; rw [hn]]; exact Hd.ret0 rfl () rfl (rw_fold hi)
 ·try simp only [hyZ] at hc0
  obtain ⟨n, k, hnt⟩ := atN_yes (by omega : 0 ≤ atN w.nt)
  obtain ⟨hk, x, hx, z0, z1⟩ := hw.nt n k hnt
  have hwf := hw.wf x (List.mem_of_getElem? hx)
  have hk1 : 1 - k < 2 := by omega
  have hR : ntcR w = if pendN w = 0 then w.setW n (takeW x k (x.e k).b.length) else if (x.e k).b = [] then w.setW n (putW x (1 - k) [1]) else w := by
   unfold ntcR; rw [hnt]; dsimp only; rw [hx]
  refine Hd.heap (RwP b w :: L) (rw_fold hi) ?_; refine Hd.skip <| Hd.toK hK1 ?_; refine sr fun _ hK3 => ?_
  refine yv y_mv <| callE rfl fk199 (rPending_ct _ b w hw hb) sq ?_; intro _; refine yv y_as <| fk [(0, _), (2, _)] hK3 ?_; refine Hd.seq fun _ hK4 => ?_
  refine Hd.seq fun _ hK5 => ?_
  refine Hd.rw .here (fun i hi => ?_)
  have hrl := rows_n hi
  obtain ⟨j, hrow⟩ := row_at hi hx
  have hn : n < i.1.length := (List.getElem?_eq_some_iff.1 hrow).1
  refine Hd.region <| yv y_mv <| yv (y_eql rfl rfl) ?_; refine fk [(0, _), (12, _)] hK5 ?_; refine Hd.cond rfl (fun hc1 => ?_) (fun hc1 => ?_)
  ·try simp only [hyZ] at hc1
   rw [if_pos (show pendN w = 0 from hc1)] at hR; refine Hd.seq fun _ hK6 => ?_
   refine Hd.quiet mixed kq ?_; refine Hq.yv y_mv ?_; refine Hq.yv y_np ?_; refine Hq.yv (y_f 0 129 Tryz.underlying133 sz129) ?_; refine Hq.yv (y_l1 ag129 rfl) ?_; refine Hq.yv y_mv ?_; refine Hq.yv y_np ?_; refine Hq.yv (y_f 66 3 Tryz.underlying133 sz3) ?_; refine Hq.yv (y_load1 (v := .int .i64 (n : Int)) ag3 rfl (Rd.pt1 pkk (rc_nt (j := 0) hl hcl (by rw [hnt]; rfl) (by omega)))) ?_; refine Hq.yv y_mv ?_; refine Hq.yv y_np ?_; refine Hq.yv (y_f 67 3 Tryz.underlying133 sz3) ?_; refine Hq.yv (y_load1 (v := .int .i64 (k : Int)) ag3 rfl (Rd.pt1 pkk (rc_nt (j := 1) hl hcl (by rw [hnt]; rfl) (by omega)))) ?_; refine Hq.yv (y_idxR Tryz.underlying129 sz221 rfl rfl (by omega) (by exact RdS.own pkk)) ?_; refine Hq.yv (y_fR 0 219 Tryz.underlying221 sz219) ?_; refine Hq.yv (y_idxAR Tryz.underlying219 sz218 rfl rfl (by omega)) ?_; refine Hq.yv (y_fR 4 31 Tryz.underlying218 sz31) ?_; refine Hq.yv (y_rc ag31 rfl hrow hk 4 rfl) ?_
   refine Hq.yv (y_len Tryz.underlying31 rfl) ?_; refine Hq.yv y_as ?_; refine Hq.nil ?_; refine sk [(0, _), (3, _)] hK6 ?_; refine Hd.seq fun _ hK7 => ?_
   refine Hd.drawsH ([RwH b w i.1.length i.2.1 i.2.2]) (fun j => !([10].contains j)) mixed ?_; simp only [List.length, Nat.zero_add, Nat.reduceAdd]; refine tH 0 rfl y_mv ?_; refine Hd.takeT [2, 3, 4, 10] 1 rfl kq kq kq kq y_mv fq sq ?_; refine Hd.takeT [3, 4, 10] 2 rfl kq kq kq kq y_np fq sq ?_; refine Hd.takeT [4, 10] 3 rfl kq kq kq kq (y_f 66 3 Tryz.underlying133 sz3) fq sq ?_; refine tH 4 rfl (y_load1 (v := .int .i64 (n : Int)) ag3 rfl (Rd.pt1 pkk (rc_nt (j := 0) hl hcl (by rw [hnt]; rfl) (by omega)))) ?_; refine Hd.takeT [6, 7, 8, 10] 5 rfl kq kq kq kq y_mv fq sq ?_; refine Hd.takeT [7, 8, 10] 6 rfl kq kq kq kq y_np fq sq ?_; refine Hd.takeT [8, 10] 7 rfl kq kq kq kq (y_f 67 3 Tryz.underlying133 sz3) fq sq ?_; refine tH 8 rfl (y_load1 (v := .int .i64 (k : Int)) ag3 rfl (Rd.pt1 pkk (rc_nt (j := 1) hl hcl (by rw [hnt]; rfl) (by omega)))) ?_; refine tH 9 rfl y_mv ?_; refine onlyH 10 rfl kq ?_
   refine Hd.heap (RwP b w :: L) (rw_fold hi) ?_; refine callE rfl fk118 (rget_ct _ b w n x hx k hk ((x.e k).b.length : Int) (by omega)) sq ?_; rintro ⟨ad, c⟩; refine Hd.nil <| thenN <| Hd.heldN (J := (fun j => !([10].contains j))) (i := 10) rfl ?_; refine endH kq ?_; refine sk [] hK7 ?_; refine Hd.ret <| Hd.thenRet ?_; rw [hR]; exact Hd.ret0 rfl () rfl sq
  ·try simp only [hyZ] at hc1
   rw [if_neg (show ¬ pendN w = 0 from hc1)] at hR; refine Hd.skip <| Hd.toK hK4 ?_; refine Hd.seq fun _ hK8 => ?_
   refine Hd.quiet mixed kq ?_; refine Hq.yv y_mv ?_; refine Hq.yv y_np ?_; refine Hq.yv (y_f 0 129 Tryz.underlying133 sz129) ?_; refine Hq.yv (y_l1 ag129 rfl) ?_; refine Hq.yv y_mv ?_; refine Hq.yv y_np ?_; refine Hq.yv (y_f 66 3 Tryz.underlying133 sz3) ?_; refine Hq.yv (y_load1 (v := .int .i64 (n : Int)) ag3 rfl (Rd.pt1 pkk (rc_nt (j := 0) hl hcl (by rw [hnt]; rfl) (by omega)))) ?_; refine Hq.yv y_mv ?_; refine Hq.yv y_np ?_; refine Hq.yv (y_f 67 3 Tryz.underlying133 sz3) ?_; refine Hq.yv (y_load1 (v := .int .i64 (k : Int)) ag3 rfl (Rd.pt1 pkk (rc_nt (j := 1) hl hcl (by rw [hnt]; rfl) (by omega)))) ?_; refine Hq.yv (y_idxR Tryz.underlying129 sz221 rfl rfl (by omega) (by exact RdS.own pkk)) ?_; refine Hq.yv (y_fR 0 219 Tryz.underlying221 sz219) ?_; refine Hq.yv (y_idxAR Tryz.underlying219 sz218 rfl rfl (by omega)) ?_; refine Hq.yv (y_fR 4 31 Tryz.underlying218 sz31) ?_; refine Hq.yv (y_rc ag31 rfl hrow hk 4 rfl) ?_
   refine Hq.yv (y_len Tryz.underlying31 rfl) ?_; refine Hq.yv (y_eql rfl rfl) ?_; refine Hq.nil ?_; refine sk [(0, _), (60, _)] hK8 ?_; refine Hd.cond rfl (fun hc2 => ?_) (fun hc2 => ?_)
   ·try simp only [hyZ] at hc2
    have hnil : (x.e k).b = [] := List.eq_nil_of_length_eq_zero (by omega)
    rw [if_pos hnil] at hR; refine Hd.drawsH ([RwH b w i.1.length i.2.1 i.2.2]) (fun j => !([11].contains j)) mixed ?_; simp only [List.length, Nat.zero_add, Nat.reduceAdd]; refine tH 0 rfl y_mv ?_; refine Hd.takeT [2, 3, 4, 11] 1 rfl kq kq kq kq y_mv fq sq ?_; refine Hd.takeT [3, 4, 11] 2 rfl kq kq kq kq y_np fq sq ?_; refine Hd.takeT [4, 11] 3 rfl kq kq kq kq (y_f 66 3 Tryz.underlying133 sz3) fq sq ?_; refine tH 4 rfl (y_load1 (v := .int .i64 (n : Int)) ag3 rfl (Rd.pt1 pkk (rc_nt (j := 0) hl hcl (by rw [hnt]; rfl) (by omega)))) ?_; refine Hd.takeT [6, 7, 8, 9, 11] 5 rfl kq kq kq kq y_mv fq sq ?_; refine Hd.takeT [7, 8, 9, 11] 6 rfl kq kq kq kq y_np fq sq ?_; refine Hd.takeT [8, 9, 11] 7 rfl kq kq kq kq (y_f 67 3 Tryz.underlying133 sz3) fq sq ?_; refine Hd.takeT [9, 11] 8 rfl kq kq kq kq (y_load1 (v := .int .i64 (k : Int)) ag3 rfl (Rd.pt1 pkk (rc_nt (j := 1) hl hcl (by rw [hnt]; rfl) (by omega)))) fq sq ?_
    refine tH 9 rfl (y_to (v' := .int .i64 ((1 - k : Nat) : Int)) (y_subn rfl rfl (by simp only [InK]; omega)) (by (congr 1; omega))) ?_; refine onlyH 10 rfl kq ?_; refine Hd.bslice (vs := [(0, _)]) rfl (by exact bs182_71 ..) (fun b71 => ?_); refine Hd.nil <| thenN <| heldK (J := (fun j => !([11].contains j))) (i := 10) sq ?_; refine onlyH 11 rfl kq ?_; refine Hd.heap (RwP b w :: pt b71 [.int .u8 1] 5 :: L) (fun q s => rw_fold hi q (Ent.sep enn q s)) ?_; refine callE rfl fk119 (rfill_ct _ b w n x hx hwf (1 - k) hk1 (some ⟨b71, 0, none⟩) 1 1 [1] rfl ?hD (by omega) (by omega)) sq ?_
    case hD => exact RdS.rd (Rd.pt pkk (fun j v e => by rw [Nat.zero_add]; exact e)) rfl
    intro _; refine Hd.nil <| thenN <| Hd.heldN (J := (fun j => !([11].contains j))) (i := 11) rfl ?_; refine endH kq ?_; refine slots [] sbq ?_; rw [hR]; exact Hd.end0 rfl () rfl sq
   ·try simp only [hyZ] at hc2
    rw [if_neg (fun h => hc2 (by rw [h]; rfl))] at hR; refine Hd.skip ?_; rw [hR]; exact Hd.end0 rfl () rfl (rw_fold hi)
theorem rc_set_hd {w : WA} {n c s o : Nat} {ad : Option Addr} {v : Bool} (hl : w.hd.length = 32) (hs : s < 32) (ho : o = 2 + s) : (RwC w n ad c).set o (.bool v) = RwC { w with hd := w.hd.set s v } n ad c := by
 subst ho; rw [List.set_append_right _ _ (by simp), List.set_append_left _ _ (by simp; omega)]
 have e : 2 + s - ([Value.slice ad n c, Value.int .u64 w.now] : List Value).length = s := by simp
 rw [e, ← List.map_set]
theorem rc_set_ct {w : WA} {n c s o : Nat} {ad : Option Addr} {v : Int} (hl : w.hd.length = 32) (hc : w.ct.length = 32) (hs : s < 32) (ho : o = 34 + s) : (RwC w n ad c).set o (.int .i64 v) = RwC { w with ct := w.ct.set s v } n ad c := by
 subst ho; rw [List.set_append_right _ _ (by simp; omega), List.set_append_right _ _ (by simp; omega), List.set_append_left _ _ (by simp; omega)]
 have e : 34 + s - ([Value.slice ad n c, Value.int .u64 w.now] : List Value).length - (w.hd.map Value.bool).length = s := by simp; omega
 rw [e, ← List.map_set]
theorem wok_sg {w : WA} (hw : WOk w) {hd : List Bool} {ct : List Int} (hl : hd.length = 32) (hc : ct.length = 32) : WOk { w with hd := hd, ct := ct } :=
 { uq := hw.uq, fd := hw.fd, len := hw.len, hdl := hl, ctl := hc, wf := hw.wf, wn := hw.wn, wm := hw.wm, nt := hw.nt, ns := hw.ns }
theorem rc_len {w : WA} {n c : Nat} {ad : Option Addr} (hl : w.hd.length = 32) (hc : w.ct.length = 32) : (RwC w n ad c).length = 68 := by
 have : (ntV w.nt).length = 2 := by cases w.nt <;> rfl
 simp only [RwC, List.length_append, List.length_map, hl, hc, this, List.length_cons, List.length_nil]
theorem set_bd {l : List Int} {K : Int} (h : ∀ c ∈ l, 0 ≤ c ∧ c ≤ K) (s : Nat) {v : Int} (hv : 0 ≤ v ∧ v ≤ K) : ∀ c ∈ l.set s v, 0 ≤ c ∧ c ≤ K := fun c hc => by
 rcases List.mem_or_eq_of_mem_set hc with h1 | rfl
 ·exact h c h1
 ·exact hv
theorem rHandle_ct (L : List SP) (b : Nat) (w : WA) (hw : WOk w) (hb : ∀ c ∈ w.ct, 0 ≤ c ∧ c ≤ 2000000000) (s : Int) (on : Bool) : Ct Tryz.prog 138 #[.pointer (some ⟨b, 0, none⟩), .int .i64 s, .bool on] (RwP b w :: L) (fun _ : Unit => .int .i64 (hanR w s on).1) (fun _ : Unit => RwP b (hanR w s on).2 :: L) := by
 refine Ct.o3 Tryz.func138 ?_; intro E
 show Hd E 30 _ _ _ _
 have hl := hw.hdl
 have hcl := hw.ctl
 refine sr fun _ hK1 => ?_
 refine yv y_as <| fk [(0, _), (1, _), (2, _)] hK1 ?_; refine Hd.seq fun _ hK2 => ?_
 refine sr fun _ hK3 => ?_
 refine yv y_mv <| yv (y_lss rfl rfl) ?_; refine yv y_mv ?_; apply Hd.org 3 9 12 [(0, _), (1, _), (2, _)] rfl sbq
 ·intro _
  simp only [List.take]; refine n1 <| n1 <| yv (y_pickT rfl rfl) ?_; refine Hd.nil ?_; exact Hd.mq
 ·intro _
  simp only [List.take]; refine y2 y_mv <| y2 (y_gtr rfl rfl) ?_; refine yv (y_pickF rfl rfl) ?_; refine Hd.nil ?_; exact Hd.mq
 simp only [List.drop]; refine fk [(0, _), (1, _), (2, _), (12, _)] hK3 ?_; refine Hd.cond rfl (fun hc0 => ?_) (fun hc0 => ?_)
 ·try simp only [hyZ] at hc0
  refine sr fun _ hK4 => ?_
  refine yv y_mv <| callE rfl fk182 (rnoticed_ct _ b w hw hb) sq ?_; intro _; refine fk [] hK4 ?_; refine sr fun _ hK5 => ?_
  refine yv y_as <| fk [(6, _)] hK5 ?_; refine Hd.ret <| Hd.thenRet ?_; rw [show hanR w s on = (100, ntcR w) from if_pos (by omega)]; exact Hd.ret1 rfl () rfl sq
 ·try simp only [hyZ] at hc0
  obtain ⟨k, rfl, hk1, hk⟩ : ∃ k : Nat, s = (k : Int) ∧ 1 ≤ k ∧ k < 32 := ⟨s.toNat, by omega, by omega, by omega⟩
  refine Hd.rw .here (fun i hi => ?_); refine Hd.skip <| Hd.toK hK2 ?_; refine sr fun _ hK6 => ?_
  refine yv y_mv <| yv y_mv <| yv y_mv <| yv y_np <| yv (y_f 2 130 Tryz.underlying133 sz130) ?_; refine yv (y_idxA Tryz.underlying130 sz4 rfl rfl (by omega)) ?_; refine Hd.store1 sz4 rfl rfl rfl pkk (by rw [rc_len hl hcl]; omega) ?_
  try simp only [hyS]
  refine Hd.nil ?_; rw [rc_set_hd (s := k) (o := 0 + 2 + k * 1) hl hk (by omega)]; refine sk [(0, _), (1, _), (2, _)] hK6 ?_; refine Hd.seq fun _ hK7 => ?_
  refine sr fun _ hK8 => ?_
  refine yv y_mv <| yv (y_not rfl) ?_; refine fk [(0, _), (1, _), (22, _)] hK8 ?_; refine Hd.cond rfl (fun hc1 => ?_) (fun hc1 => ?_)
  ·try simp only [hyZ] at hc1
   obtain rfl : on = false := by simpa using hc1
   refine Hd.region <| yv y_mv <| yv y_mv <| yv y_np <| yv (y_f 34 131 Tryz.underlying133 sz131) ?_; refine yv (y_idxA Tryz.underlying131 sz3 rfl rfl (by omega)) ?_; refine Hd.store1 sz3 rfl rfl rfl pkk (by rw [rc_len (w := { w with hd := w.hd.set k false }) (by rw [List.length_set]; exact hl) hcl]; omega) ?_
   try simp only [hyS]
   refine Hd.nil ?_; rw [rc_set_ct (w := { w with hd := w.hd.set k false }) (s := k) (o := 0 + 34 + k * 1) (by rw [List.length_set]; exact hl) hcl hk (by omega)]; refine sk [(0, _)] hK7 ?_; refine sr fun _ hK9 => ?_
   refine yv y_mv <| Hd.heap (RwP b { w with hd := w.hd.set k false, ct := w.ct.set k 0 } :: L) (fun q s => rw_fold (w := { w with hd := w.hd.set k false, ct := w.ct.set k 0 }) (i := i) hi q (Ent.sep enn q s)) ?_; refine callE rfl fk182 (rnoticed_ct _ b { w with hd := w.hd.set k false, ct := w.ct.set k 0 } (wok_sg hw (by rw [List.length_set]; exact hl) (by rw [List.length_set]; exact hcl)) (set_bd hb k (by decide))) sq ?_; intro _; refine fk [] hK9 ?_; refine sr fun _ hK10 => ?_
   refine yv y_as <| fk [(6, _)] hK10 ?_; refine Hd.ret ?_; rw [show hanR w (k : Int) false = (0, ntcR { w with hd := w.hd.set k false, ct := w.ct.set k 0 }) from if_neg (by omega)]; exact Hd.ret1 rfl () rfl sq
  ·try simp only [hyZ] at hc1
   obtain rfl : on = true := by simpa using hc1
   refine Hd.skip <| Hd.toK hK7 ?_; refine sr fun _ hK11 => ?_
   refine yv y_mv <| Hd.heap (RwP b { w with hd := w.hd.set k true } :: L) (fun q s => rw_fold (w := { w with hd := w.hd.set k true }) (i := i) hi q (Ent.sep enn q s)) ?_; refine callE rfl fk182 (rnoticed_ct _ b { w with hd := w.hd.set k true } (wok_sg hw (hd := w.hd.set k true) (ct := w.ct) (by rw [List.length_set]; exact hl) hcl) hb) sq ?_; intro _; refine fk [] hK11 ?_; refine sr fun _ hK12 => ?_
   refine yv y_as <| fk [(6, _)] hK12 ?_; refine Hd.ret ?_; rw [show hanR w (k : Int) true = (0, ntcR { w with hd := w.hd.set k true }) from if_neg (by omega)]; exact Hd.ret1 rfl () rfl sq
theorem rRaise_ct (L : List SP) (b : Nat) (w : WA) (hw : WOk w) (hb : ∀ c ∈ w.ct, 0 ≤ c ∧ c ≤ 1000000000) (s : Int) : Ct Tryz.prog 140 #[.pointer (some ⟨b, 0, none⟩), .int .i64 s] (RwP b w :: L) (fun _ : Unit => .int .i64 (raiR w s).1) (fun _ : Unit => RwP b (raiR w s).2 :: L) := by
 refine Ct.o2 Tryz.func140 ?_; intro E
 show Hd E 31 _ _ _ _
 have hl := hw.hdl
 have hcl := hw.ctl
 have hb2 : ∀ c ∈ w.ct, 0 ≤ c ∧ c ≤ 2000000000 := fun c hc => ⟨(hb c hc).1, by have := (hb c hc).2; omega⟩
 refine sr fun _ hK1 => ?_
 refine yv y_as <| fk [(0, _), (1, _)] hK1 ?_; refine Hd.seq fun _ hK2 => ?_
 refine sr fun _ hK3 => ?_
 refine yv y_mv <| yv (y_lss rfl rfl) ?_; refine yv y_mv ?_; apply Hd.org 3 7 10 [(0, _), (1, _)] rfl sbq
 ·intro _
  simp only [List.take]; refine n1 <| n1 <| yv (y_pickT rfl rfl) ?_; refine Hd.nil ?_; exact Hd.mq
 ·intro _
  simp only [List.take]; refine y2 y_mv <| y2 (y_gtr rfl rfl) ?_; refine yv (y_pickF rfl rfl) ?_; refine Hd.nil ?_; exact Hd.mq
 simp only [List.drop]; refine fk [(0, _), (1, _), (10, _)] hK3 ?_; refine Hd.cond rfl (fun hc0 => ?_) (fun hc0 => ?_)
 ·try simp only [hyZ] at hc0
  refine sr fun _ hK4 => ?_
  refine yv y_mv <| callE rfl fk182 (rnoticed_ct _ b w hw hb2) sq ?_; intro _; refine fk [] hK4 ?_; refine sr fun _ hK5 => ?_
  refine yv y_as <| fk [(4, _)] hK5 ?_; refine Hd.ret <| Hd.thenRet ?_; rw [show raiR w s = (100, ntcR w) from if_pos (by omega)]; exact Hd.ret1 rfl () rfl sq
 ·try simp only [hyZ] at hc0
  obtain ⟨k, rfl, hk1, hk⟩ : ∃ k : Nat, s = (k : Int) ∧ 1 ≤ k ∧ k < 32 := ⟨s.toNat, by omega, by omega, by omega⟩
  have hcb : 0 ≤ w.ct.getD k 0 ∧ w.ct.getD k 0 ≤ 1000000000 := by
   rw [List.getD_eq_getElem?_getD, List.getElem?_eq_getElem (by omega)]; exact hb _ (List.getElem_mem _)
  refine Hd.rw .here (fun i hi => ?_); refine Hd.skip <| Hd.toK hK2 ?_; refine Hd.seq fun _ hK6 => ?_
  refine sr fun _ hK7 => ?_
  refine yv y_mv <| yv y_mv <| yv y_np <| yv (y_f 2 130 Tryz.underlying133 sz130) ?_; refine yv (y_idxA Tryz.underlying130 sz4 rfl rfl (by omega)) ?_; refine yv (y_load1 (v := .bool (w.hd.getD k false)) ag4 rfl (Rd.pt1 pkk (rc_hd (s := k) hl hk (by omega)))) ?_; refine fk [(0, _), (1, _), (18, _)] hK7 ?_; refine Hd.cond rfl (fun hc1 => ?_) (fun hc1 => ?_)
  ·try simp only [hyZ] at hc1
   refine Hd.drawsH ([RwH b w i.1.length i.2.1 i.2.2]) (fun j => !([10].contains j)) mixed ?_; simp only [List.length, Nat.zero_add, Nat.reduceAdd]; refine tH 0 rfl y_mv ?_; refine tH 1 rfl y_mv ?_; refine tH 2 rfl y_np ?_; refine tH 3 rfl (y_f 34 131 Tryz.underlying133 sz131) ?_; refine tH 4 rfl (y_idxA Tryz.underlying131 sz3 rfl rfl (by omega)) ?_; refine tH 5 rfl (y_load1 (v := .int .i64 (w.ct.getD k 0)) ag3 rfl (Rd.pt1 pkk (rc_ct (s := k) hl hcl hk (by omega)))) ?_; refine tH 6 rfl (y_addn rfl rfl (by simp only [InK]; omega)) ?_; refine onlyH 7 rfl kq ?_; refine yv y_np <| Hd.nil <| thenN <| heldK (J := (fun j => !([10].contains j))) (i := 7) sq ?_; refine onlyH 8 rfl kq ?_; refine yv (y_f 34 131 Tryz.underlying133 sz131) ?_; refine Hd.nil <| thenN <| heldK (J := (fun j => !([10].contains j))) (i := 8) sq ?_; refine tH 9 rfl (y_idxA Tryz.underlying131 sz3 rfl rfl (by omega)) ?_
   refine onlyH 10 rfl kq ?_; refine Hd.store1 sz3 rfl rfl rfl pkk (by rw [rc_len hl hcl]; omega) ?_
   try simp only [hyS]
   refine Hd.nil <| thenN <| Hd.heldN (J := (fun j => !([10].contains j))) (i := 10) rfl ?_; refine endH kq ?_; rw [rc_set_ct (s := k) (o := 0 + 34 + k * 1) hl hcl hk (by omega)]; refine sk [(0, _)] hK6 ?_; refine sr fun _ hK8 => ?_
   refine yv y_mv <| Hd.heap (RwP b { w with ct := w.ct.set k (w.ct.getD k 0 + 1) } :: L) (fun q s => rw_fold (w := { w with ct := w.ct.set k (w.ct.getD k 0 + 1) }) (i := i) hi q (Ent.sep enn q s)) ?_; refine callE rfl fk182 (rnoticed_ct _ b { w with ct := w.ct.set k (w.ct.getD k 0 + 1) } (wok_sg hw (hd := w.hd) (ct := w.ct.set k (w.ct.getD k 0 + 1)) hl (by rw [List.length_set]; exact hcl)) (set_bd hb2 k (by omega))) sq ?_; intro _; refine fk [] hK8 ?_; refine sr fun _ hK9 => ?_
   refine yv y_as <| fk [(4, _)] hK9 ?_; refine Hd.ret ?_; rw [show raiR w (k : Int) = (0, ntcR { w with ct := w.ct.set k (w.ct.getD k 0 + 1) }) by unfold raiR; rw [if_neg (by omega), Int.toNat_natCast, if_pos hc1]]; exact Hd.ret1 rfl () rfl sq
  ·try simp only [hyZ] at hc1
   refine Hd.skip <| Hd.toK hK6 ?_; refine sr fun _ hK10 => ?_
   refine yv y_mv <| Hd.heap (RwP b w :: L) (rw_fold hi) ?_; refine callE rfl fk182 (rnoticed_ct _ b w hw hb2) sq ?_; intro _; refine fk [] hK10 ?_; refine sr fun _ hK11 => ?_
   refine yv y_as <| fk [(4, _)] hK11 ?_; refine Hd.ret ?_; rw [show raiR w (k : Int) = (0, ntcR w) by unfold raiR; rw [if_neg (by omega), Int.toNat_natCast, if_neg (by rw [hc1]; decide)]]; exact Hd.ret1 rfl () rfl sq
theorem rc_set_nt {w : WA} {n c m k : Nat} {ad : Option Addr} (hl : w.hd.length = 32) (hc : w.ct.length = 32) : ((RwC w n ad c).set 66 (.int .i64 (m : Int))).set 67 (.int .i64 (k : Int)) = RwC { w with nt := some (m, k) } n ad c := by
 have h : ∀ (v : Value) (l : List Value) (s : Nat), (([Value.slice ad n c, Value.int .u64 w.now] : List Value) ++ (w.hd.map Value.bool ++ (w.ct.map (Value.int .i64) ++ l))).set (66 + s) v = [Value.slice ad n c, Value.int .u64 w.now] ++ (w.hd.map Value.bool ++ (w.ct.map (Value.int .i64) ++ l.set s v)) := fun v l s => by
  rw [List.set_append_right _ _ (by simp; omega), List.set_append_right _ _ (by simp; omega), List.set_append_right _ _ (by simp; omega)]
  have e : 66 + s - ([Value.slice ad n c, Value.int .u64 w.now] : List Value).length - (w.hd.map Value.bool).length - (w.ct.map (Value.int .i64)).length = s := by simp; omega
  rw [e]
 rw [show RwC w n ad c = [Value.slice ad n c, Value.int .u64 w.now] ++ (w.hd.map Value.bool ++ (w.ct.map (Value.int .i64) ++ ntV w.nt)) from rfl, h _ _ 0, h _ _ 1]
 cases w.nt <;> rfl
theorem rNotice_ct (L : List SP) (b : Nat) (w : WA) (hw : WOk w) (hb : ∀ c ∈ w.ct, 0 ≤ c ∧ c ≤ 2000000000) (fa fb : Int) : Ct Tryz.prog 144 #[.pointer (some ⟨b, 0, none⟩), .int .i64 fa, .int .i64 fb] (RwP b w :: L) (fun _ : Unit => .int .i64 (notR w fa fb).1) (fun _ : Unit => RwP b (notR w fa fb).2 :: L) := by
 refine Ct.o3 Tryz.func144 ?_; intro E
 show Hd E 73 _ _ _ _
 have hl := hw.hdl
 have hcl := hw.ctl
 refine sr fun _ hK1 => ?_
 refine yv y_as <| fk [(0, _), (1, _), (2, _)] hK1 ?_; refine sr fun _ hK2 => ?_
 refine yv y_mv <| yv y_mv <| callE rfl fk116 (rat_ct _ b w hw fa) sq ?_; intro _; refine yv y_mv <| yv y_ex <| yv y_ex <| yv y_as <| yv y_as <| fk [(0, _), (2, _), (7, _), (8, _)] hK2 ?_; refine sr fun _ hK3 => ?_
 refine yv y_mv <| yv y_mv <| callE rfl fk116 (rat_ct _ b w hw fb) sq ?_; intro _; refine yv y_mv <| yv y_ex <| yv y_ex <| yv y_as <| yv y_as <| fk [(0, _), (7, _), (8, _), (9, _), (10, _)] hK3 ?_; refine Hd.seq fun _ hK4 => ?_
 refine sr fun _ hK5 => ?_
 refine yv y_mv <| yv (y_lss rfl rfl) ?_; refine yv y_mv ?_; apply Hd.org 3 25 28 [(0, _), (7, _), (8, _), (9, _), (10, _)] rfl sbq
 ·intro _
  simp only [List.take]; refine n1 <| n1 <| yv (y_pickT rfl rfl) ?_; refine Hd.nil ?_; exact Hd.mq
 ·intro _
  simp only [List.take]; refine y2 y_mv <| y2 (y_lss rfl rfl) ?_; refine yv (y_pickF rfl rfl) ?_; refine Hd.nil ?_; exact Hd.mq
 simp only [List.drop]; refine fk [(0, _), (7, _), (8, _), (9, _), (10, _), (28, _)] hK5 ?_; refine Hd.cond rfl (fun hc0 => ?_) (fun hc0 => ?_)
 ·try simp only [hyZ] at hc0
  refine sr fun _ hK6 => ?_
  refine yv y_as <| fk [(6, _)] hK6 ?_; refine Hd.ret <| Hd.thenRet ?_
  have e : notR w fa fb = (110, w) := by
   unfold notR
   rcases hc0 with h | h
   ·rw [atN_no h]
   ·rw [atN_no h]; cases w.at fa <;> rfl
  rw [e]; exact Hd.ret1 rfl () rfl sq
 ·try simp only [hyZ] at hc0
  obtain ⟨n, k, hnk⟩ := atN_yes (by omega : 0 ≤ atN (w.at fa))
  obtain ⟨m, q, hmq⟩ := atN_yes (by omega : 0 ≤ atN (w.at fb))
  obtain ⟨_, _, hk, _, x, hx, _, _⟩ := hw.at_lt hnk
  have hR := not_yes hnk hmq hx
  rw [show atN (w.at fa) = (n : Int) by rw [hnk]; rfl, show atK (w.at fa) = (k : Int) by rw [hnk]; rfl, show atN (w.at fb) = (m : Int) by rw [hmq]; rfl, show atK (w.at fb) = (q : Int) by rw [hmq]; rfl]; refine Hd.rw .here (fun i hi => ?_)
  have hrl := rows_n hi
  obtain ⟨j, hrow⟩ := row_at hi hx
  have hn : n < i.1.length := (List.getElem?_eq_some_iff.1 hrow).1
  refine Hd.skip <| Hd.toK hK4 ?_; refine Hd.seq fun _ hK7 => ?_
  refine sr fun _ hK8 => ?_
  refine yv y_mv <| yv y_mv <| yv (y_neq rfl rfl) ?_; refine yv y_mv ?_; apply Hd.org 4 32 36 [(0, _), (7, _), (8, _)] rfl sbq
  ·intro _
   simp only [List.take]; refine n1 <| n1 <| n1 <| yv (y_pickT rfl rfl) ?_; refine Hd.nil ?_; exact Hd.mq
  ·intro _
   simp only [List.take]; refine y2 y_mv <| y2 y_mv <| y2 (y_eql rfl rfl) ?_; refine yv (y_pickF rfl rfl) ?_; refine Hd.nil ?_; exact Hd.mq
  simp only [List.drop]; refine yv y_mv ?_; apply Hd.org 12 37 49 [(0, _), (7, _), (8, _)] rfl sbq
  ·intro _
   simp only [List.take]; refine n1 <| n1 <| n1 <| n1 <| n1 <| n1 <| n1 <| n1 <| n1 <| n1 <| n1 <| yv (y_pickT rfl rfl) ?_; refine Hd.nil ?_; exact Hd.mq
  ·intro hg5_37
   try simp only [hyZ] at hg5_37
   simp only [List.take]; refine y2 y_mv <| y2 y_np <| y2 (y_f 0 129 Tryz.underlying133 sz129) ?_; refine y2 (y_l1 ag129 rfl) ?_; refine y2 y_mv <| y2 (y_idxR Tryz.underlying129 sz221 rfl rfl (by omega) (by exact RdS.own pkk)) ?_; refine y2 (y_fR 0 219 Tryz.underlying221 sz219) ?_; refine y2 (y_idxAR Tryz.underlying219 sz218 rfl rfl (by decide)) ?_; refine y2 (y_fR 2 4 Tryz.underlying218 sz4) ?_; refine y2 (y_rc (o := n * 20 + 0 + 0 * 8 + 2) ag4 rfl hrow (show 0 < 2 from Nat.succ_pos 1) 2 rfl) ?_; refine y2 (y_not rfl) ?_; refine yv (y_pickF rfl rfl) ?_; refine Hd.nil ?_; exact Hd.mq
  simp only [List.drop]; refine yv y_mv ?_; apply Hd.org 12 50 62 [(0, _), (7, _), (8, _)] rfl sbq
  ·intro _
   simp only [List.take]; refine n1 <| n1 <| n1 <| n1 <| n1 <| n1 <| n1 <| n1 <| n1 <| n1 <| n1 <| yv (y_pickT rfl rfl) ?_; refine Hd.nil ?_; exact Hd.mq
  ·intro hg5_50
   try simp only [hyZ] at hg5_50
   simp only [List.take]; refine y2 y_mv <| y2 y_np <| y2 (y_f 0 129 Tryz.underlying133 sz129) ?_; refine y2 (y_l1 ag129 rfl) ?_; refine y2 y_mv <| y2 (y_idxR Tryz.underlying129 sz221 rfl rfl (by omega) (by exact RdS.own pkk)) ?_; refine y2 (y_fR 0 219 Tryz.underlying221 sz219) ?_; refine y2 (y_idxAR Tryz.underlying219 sz218 rfl rfl (by decide)) ?_; refine y2 (y_f 2 4 Tryz.underlying218 sz4) ?_; refine y2 (y_rc (o := n * 20 + 0 + 1 * 8 + 2) ag4 rfl hrow (show 1 < 2 from Nat.lt_succ_self 1) 2 rfl) ?_; refine y2 (y_not rfl) ?_; refine yv (y_pickF rfl rfl) ?_; refine Hd.nil ?_; exact Hd.mq
  simp only [List.drop]; refine fk [(0, _), (7, _), (8, _), (62, _)] hK8 ?_; refine Hd.cond rfl (fun hc1 => ?_) (fun hc1 => ?_)
  ·try simp only [hyZ] at hc1
   have h1 : n ≠ m ∨ k = q ∨ (x.e 0).rd = false ∨ (x.e 1).rd = false := by
    rcases hc1 with ((h | h) | h) | h
    ·exact .inl (by omega)
    ·exact .inr (.inl (by omega))
    ·exact .inr (.inr (.inl h))
    ·exact .inr (.inr (.inr h))
   refine sr fun _ hK9 => ?_
   refine yv y_as <| fk [(6, _)] hK9 ?_; refine Hd.ret <| Hd.thenRet ?_; rw [hR, if_pos h1]; exact Hd.ret1 rfl () rfl (rw_fold hi)
  ·try simp only [hyZ] at hc1
   have h1 : ¬ (n ≠ m ∨ k = q ∨ (x.e 0).rd = false ∨ (x.e 1).rd = false) := by
    obtain ⟨⟨⟨a1, a2⟩, a3⟩, a4⟩ := hc1
    rintro (h | h | h | h)
    ·omega
    ·omega
    ·rw [h] at a3; cases a3
    ·rw [h] at a4; cases a4
   have hr0 : (x.e 0).rd = true := by cases h2 : (x.e 0).rd with | true => rfl | false => exact absurd (.inr (.inr (.inl h2))) h1
   have hr1 : (x.e 1).rd = true := by cases h2 : (x.e 1).rd with | true => rfl | false => exact absurd (.inr (.inr (.inr h2))) h1
   have hnt : ∀ n' k', some (n, k) = some (n', k') → k' < 2 ∧ ∃ x, w.ws[n']? = some x ∧ (x.e 0).rd = true ∧ (x.e 1).rd = true := by
    intro n' k' h
    obtain ⟨rfl, rfl⟩ : n = n' ∧ k = k' := by simpa using h
    exact ⟨hk, x, hx, hr0, hr1⟩
   have hok : WOk { w with nt := some (n, k) } := { uq := hw.uq, fd := hw.fd, len := hw.len, hdl := hl, ctl := hcl, wf := hw.wf, wn := hw.wn, wm := hw.wm, ns := hw.ns, nt := hnt }
   refine Hd.skip <| Hd.toK hK7 ?_; refine sr fun _ hK10 => ?_
   refine yv y_mv <| yv y_mv <| yv y_np <| yv (y_f 66 3 Tryz.underlying133 sz3) ?_; refine Hd.store1 sz3 rfl rfl rfl pkk (by rw [rc_len hl hcl]; omega) ?_
   try simp only [hyS]
   refine fk [(0, _), (8, _)] hK10 ?_; refine sr fun _ hK11 => ?_
   refine yv y_mv <| yv y_mv <| yv y_np <| yv (y_f 67 3 Tryz.underlying133 sz3) ?_; refine Hd.store1 sz3 rfl rfl rfl pkk (by rw [List.length_set, rc_len hl hcl]; omega) ?_
   try simp only [hyS]
   refine fk [(0, _)] hK11 ?_; refine sr fun _ hK12 => ?_
   refine yv y_mv <| Hd.heap (RwP b { w with nt := some (n, k) } :: L) (fun p s => rw_fold (w := { w with nt := some (n, k) }) (i := i) hi p (Ent.sep (.eq pkk (pt_eq (by exact rc_set_nt hl hcl)) enn) p s)) ?_; refine callE rfl fk182 (rnoticed_ct _ b { w with nt := some (n, k) } hok hb) sq ?_; intro _; refine fk [] hK12 ?_; refine sr fun _ hK13 => ?_
   refine yv y_as <| fk [(6, _)] hK13 ?_; refine Hd.ret ?_; rw [hR, if_neg h1]; exact Hd.ret1 rfl () rfl sq
def zS (ct : List Int) (s : Nat) : List Int := (List.range s).foldl (fun l j => l.set (j + 1) 0) ct
theorem zS_succ (ct : List Int) (s : Nat) : zS ct (s + 1) = (zS ct s).set (s + 1) 0 := by unfold zS; rw [List.range_succ, List.foldl_append]; rfl
theorem zS_len (ct : List Int) : ∀ s, (zS ct s).length = ct.length
 | 0 => rfl
 | s + 1 => by rw [zS_succ, List.length_set, zS_len ct s]
theorem zS_get (ct : List Int) : ∀ s j, (zS ct s)[j]? = if 1 ≤ j ∧ j ≤ s ∧ j < ct.length then some 0 else ct[j]?
 | 0, j => by rw [if_neg (by omega)]; rfl
 | s + 1, j => by
  rw [zS_succ]
  by_cases h : s + 1 = j
  ·subst h
   by_cases h2 : s + 1 < ct.length
   ·rw [List.getElem?_set_self (by rw [zS_len]; exact h2), if_pos ⟨by omega, by omega, h2⟩]
   ·rw [if_neg (by omega), List.getElem?_eq_none (by rw [List.length_set, zS_len]; omega), List.getElem?_eq_none (by omega)]
  ·rw [List.getElem?_set_ne h, zS_get ct s j]
   by_cases h2 : 1 ≤ j ∧ j ≤ s ∧ j < ct.length
   ·rw [if_pos h2, if_pos ⟨h2.1, by omega, h2.2.2⟩]
   ·rw [if_neg h2, if_neg (by omega)]
theorem zS_getD (ct : List Int) {s j : Nat} (h : s < j) : (zS ct s).getD j 0 = ct.getD j 0 := by
 rw [List.getD_eq_getElem?_getD, List.getD_eq_getElem?_getD, zS_get, if_neg (by omega)]
theorem zS_all {ct : List Int} (h : ct.length = 32) : zS ct 31 = zer1 ct := by
 apply List.ext_getElem?; intro j; rw [zS_get]
 cases ct with
 | nil => simp at h
 | cons c t =>
  show _ = (c :: t.map fun _ => (0 : Int))[j]?
  cases j with
  | zero => rfl
  | succ j =>
   simp only [List.length_cons] at h ⊢; rw [List.getElem?_cons_succ, List.getElem?_cons_succ, List.getElem?_map]
   by_cases h2 : j < t.length
   ·rw [if_pos (by omega), List.getElem?_eq_getElem h2]; rfl
   ·rw [if_neg (by omega), List.getElem?_eq_none (by omega)]; rfl
theorem cnt_one {ct : List Int} (h : ct.length = 32) : cntF 0 (ct.take 1) = [] := by
 cases ct with
 | nil => simp at h
 | cons c t => rfl
theorem rSignals_ct (L : List SP) (b : Nat) (w : WA) (hw : WOk w) (hb : ∀ c ∈ w.ct, 0 ≤ c ∧ c ≤ 2000000000) : Ct Tryz.prog 142 #[.pointer (some ⟨b, 0, none⟩)] (RwP b w :: L) (fun q_ : Option Addr × Nat => .slice q_.1 (sigR w).1.length q_.2) (fun q_ : Option Addr × Nat => own 241 2 q_.1 (sigR w).1.length q_.2 ((sigR w).1.flatMap encCn) :: RwP b (sigR w).2 :: L) := by
 refine Ct.o1 Tryz.func142 ?_; intro E
 show Hd E 35 _ _ _ _
 have hl := hw.hdl
 have hcl := hw.ctl
 refine sr fun _ hK1 => ?_
 refine yv y_as <| fk [(0, _)] hK1 ?_; refine sr fun _ hK2 => ?_
 refine yv y_as <| fk [(0, _), (3, _)] hK2 ?_; refine Hd.seq fun _ hK3 => ?_
 refine sr fun _ hK4 => ?_
 refine yv y_as <| fk [(0, _), (3, _), (4, _)] hK4 ?_; refine Hd.block <| Hd.loopK (ι := Nat × List (Int × Int) × Option Addr × Nat) [(0, _)] (fun q_ => [(3, .slice q_.2.2.1 q_.2.1.length q_.2.2.2), (4, .int .i64 ((q_.1 + 1 : Nat) : Int))]) (fun q_ => pu (q_.1 ≤ 31 ∧ q_.2.1 = cntF 0 (w.ct.take (q_.1 + 1))) :: own 241 2 q_.2.2.1 q_.2.1.length q_.2.2.2 (q_.2.1.flatMap encCn) :: RwP b { w with ct := zS w.ct q_.1 } :: L) (fun q_ => 31 - q_.1) (0, [], none, 0) sbq sbq (fun q t => Ent.sep (.pure ⟨Nat.zero_le _, (cnt_one hcl).symm⟩ (.ownNil .same)) q t) ?_; rintro ⟨s, g, ad, c⟩
 try dsimp only
 refine Hd.pure (fun hp0 => ?_)
 try dsimp only at hp0
 refine Hd.seq fun _ hK5 => ?_
 refine sr fun _ hK6 => ?_
 refine yv y_mv <| yv (y_leq rfl rfl) ?_; refine fk [(0, _), (3, _), (4, _), (6, _)] hK6 ?_; refine Hd.cond rfl (fun hc0 => ?_) (fun hc0 => ?_)
 ·try simp only [hyZ] at hc0
  have hs : s < 31 := by omega
  have hzl : (zS w.ct s).length = 32 := by rw [zS_len, hcl]
  have hcb : 0 ≤ w.ct.getD (s + 1) 0 := by
   rw [List.getD_eq_getElem?_getD, List.getElem?_eq_getElem (show s + 1 < w.ct.length by omega)]; exact (hb _ (List.getElem_mem _)).1
  have hsc := cntF_succ (ct := w.ct) (i := s + 1) (by omega)
  have hle := cntF_le (w.ct.take (s + 1)) 0
  rw [List.length_take] at hle; rw [← hp0.2] at hsc hle
  have hrc : ∀ {n c : Nat} {a : Option Addr} {o : Nat}, o = 34 + (s + 1) → (RwC { w with ct := zS w.ct s } n a c)[o]? = some (.int .i64 (w.ct.getD (s + 1) 0)) := fun ho => by
   rw [rc_ct (w := { w with ct := zS w.ct s }) (s := s + 1) hl hzl (by omega) ho]
   show some (Value.int .i64 ((zS w.ct s).getD (s + 1) 0)) = _
   rw [zS_getD _ (Nat.lt_succ_self s)]
  refine Hd.rw (.there .here) (fun i hi => ?_); refine Hd.skip <| Hd.toK hK5 ?_; refine Hd.seq fun _ hK7 => ?_
  refine Hd.block <| Hd.seq fun _ hK8 => ?_
  refine sr fun _ hK9 => ?_
  refine yv y_mv <| yv y_mv <| yv y_np <| yv (y_f 34 131 Tryz.underlying133 sz131) ?_; refine yv (y_idxA Tryz.underlying131 sz3 rfl rfl (by omega)) ?_; refine yv (y_load1 (v := .int .i64 (w.ct.getD (s + 1) 0)) ag3 rfl (Rd.pt1 pkk (hrc (by omega)))) ?_; refine yv (y_gtr rfl rfl) ?_; refine fk [(0, _), (3, _), (4, _), (15, _)] hK9 ?_; refine Hd.cond rfl (fun hc1 => ?_) (fun hc1 => ?_)
  ·try simp only [hyZ] at hc1
   refine Hd.region <| yv y_mv <| yv y_mv <| yv y_mv <| yv y_mv <| yv y_np <| yv (y_f 34 131 Tryz.underlying133 sz131) ?_; refine yv (y_idxA Tryz.underlying131 sz3 rfl rfl (by omega)) ?_; refine yv (y_load1 (v := .int .i64 (w.ct.getD (s + 1) 0)) ag3 rfl (Rd.pt1 pkk (hrc (by omega)))) ?_; refine yv (y_build (vs := [(0, _), (1, _)]) rfl (by exact bd142_24 ..)) ?_; refine Hd.bslice (vs := [(0, _)]) rfl (by exact bs142_25 ..) (fun b25 => ?_); refine Hd.append Tryz.underlying238 ty241 rfl rfl rfl pkk (by exact RdS.rd (Rd.pt pkk (fun j v e => by simpa using e)) rfl) (by simp [Value.oneCell']; done) (by simp only [maxLen]; omega) (by omega) (fun ad26 cap26 => ?_); refine yv y_as <| fk [(0, _), (3, _), (4, _)] hK8 ?_; refine Hd.region <| yv y_mv <| yv y_mv <| yv y_np <| yv (y_f 34 131 Tryz.underlying133 sz131) ?_
   refine yv (y_idxA Tryz.underlying131 sz3 rfl rfl (by omega)) ?_; refine Hd.store1 sz3 rfl rfl rfl pkk (by rw [rc_len (w := { w with ct := zS w.ct s }) hl hzl]; omega) ?_
   try simp only [hyS]
   refine Hd.nil ?_; rw [rc_set_ct (w := { w with ct := zS w.ct s }) (s := s + 1) (o := 0 + 34 + (s + 1) * 1) hl hzl (by omega) (by omega)]; refine slots [(0, _), (3, _), (4, _)] sbq ?_; refine Hd.inB <| Hd.toK hK7 ?_; refine Hd.region <| yv y_mv <| yv (y_addn rfl rfl (by simp only [InK]; omega)) ?_; refine yv y_as <| Hd.nil <| slots [(0, _), (3, _), (4, _)] sbq ?_; refine thenN ?_; rw [if_neg (by omega)] at hsc; refine Hd.again (s + 1, g ++ [(((s + 1 : Nat) : Int), w.ct.getD (s + 1) 0)], ad26, cap26) (by show 31 - (s + 1) < 31 - s; omega) (by simp only [List.length_append, List.length_singleton]; repeat (first | exact trivial | refine ⟨rfl, ?_⟩)) (fun q t => ?_)
   have t1 : sep (RwL b { w with ct := zS w.ct (s + 1) } i (own 241 2 ad26 (g ++ [(((s + 1 : Nat) : Int), w.ct.getD (s + 1) 0)]).length cap26 ((g ++ [(((s + 1 : Nat) : Int), w.ct.getD (s + 1) 0)]).flatMap encCn) :: L)) q := Ent.sep (.eq pkk (pt_eq (by rw [zS_succ])) (.pick pkk (.pick pkk (.eq pkk (own_eq3 (by simp) rfl (by simp only [List.flatMap_append]; rfl)) enn)))) q t
   exact Ent.sep (.pure (show s + 1 ≤ 31 ∧ _ from ⟨hs, hsc.symm⟩) enn) q (rw_fold (w := { w with ct := zS w.ct (s + 1) }) (i := i) hi q t1)
  ·try simp only [hyZ] at hc1
   refine Hd.skip <| Hd.toK hK8 ?_; refine Hd.region <| yv y_mv <| yv y_mv <| yv y_np <| yv (y_f 34 131 Tryz.underlying133 sz131) ?_; refine yv (y_idxA Tryz.underlying131 sz3 rfl rfl (by omega)) ?_; refine Hd.store1 sz3 rfl rfl rfl pkk (by rw [rc_len (w := { w with ct := zS w.ct s }) hl hzl]; omega) ?_
   try simp only [hyS]
   refine Hd.nil ?_; rw [rc_set_ct (w := { w with ct := zS w.ct s }) (s := s + 1) (o := 0 + 34 + (s + 1) * 1) hl hzl (by omega) (by omega)]; refine slots [(0, _), (3, _), (4, _)] sbq ?_; refine Hd.inB <| Hd.toK hK7 ?_; refine Hd.region <| yv y_mv <| yv (y_addn rfl rfl (by simp only [InK]; omega)) ?_; refine yv y_as <| Hd.nil <| slots [(0, _), (3, _), (4, _)] sbq ?_; refine thenN ?_; rw [if_pos (by omega), List.append_nil] at hsc; refine Hd.again (s + 1, g, ad, c) (by show 31 - (s + 1) < 31 - s; omega) sbq (fun q t => ?_)
   have t1 : sep (RwL b { w with ct := zS w.ct (s + 1) } i (own 241 2 ad g.length c (g.flatMap encCn) :: L)) q := Ent.sep (.eq pkk (pt_eq (by rw [zS_succ])) enn) q t
   exact Ent.sep (.pure (show s + 1 ≤ 31 ∧ _ from ⟨hs, hsc.symm⟩) enn) q (rw_fold (w := { w with ct := zS w.ct (s + 1) }) (i := i) hi q t1)
 ·try simp only [hyZ] at hc0
  obtain rfl : s = 31 := by omega
  have hz := zS_all hcl
  have hg : g = cntF 0 w.ct := by rw [hp0.2, List.take_of_length_le (by omega)]
  rw [hz]
  have hbz : ∀ c ∈ zer1 w.ct, 0 ≤ c ∧ c ≤ 2000000000 := fun c hc => by rcases zer1_mem hc with h | rfl; exact hb c h; decide
  refine Hd.exit <| Hd.thenExit <| Hd.thenExit <| Hd.inBexit <| Hd.toK hK3 ?_; refine sr fun _ hK10 => ?_
  refine yv y_mv <| callE rfl fk182 (rnoticed_ct _ b { w with ct := zer1 w.ct } (wok_sg hw (hd := w.hd) (ct := zer1 w.ct) hl (by rw [zer1_len]; exact hcl)) hbz) sq ?_; intro _; refine fk [(3, _)] hK10 ?_; refine sr fun _ hK11 => ?_
  refine yv y_mv <| yv y_as <| fk [(2, _)] hK11 ?_; refine Hd.ret ?_; rw [sigR_eq, ← hg]; exact Hd.ret1 rfl (ad, c) rfl sq
theorem rwc {p : Row} {k j o : Nat} {v : Value} (hk : k < 2) (hj : j < 8) (ho : o = k * 8 + j) (hv : (encRE (p.1.e k) (p.2.a k) (p.2.c k))[j]? = some v) : (encRW p)[o]? = some v := by
 have := rcell (rs := [p]) (n := 0) (o := o) rfl hk hj (by omega) hv
 simpa using this
theorem rReady_ct (L : List SP) (b : Nat) (w : WA) (hw : WOk w) (fd : Int) : Ct Tryz.prog 81 #[.pointer (some ⟨b, 0, none⟩), .int .i64 fd] (RwP b w :: L) (fun _ : Unit => .agg (encR (readyR w fd)).toArray) (fun _ : Unit => RwP b w :: L) := by
 refine Ct.o2 Tryz.func81 ?_; intro E
 show Hd E 122 _ _ _ _
 refine sr fun _ hK1 => ?_
 refine Hd.alloc zr105 (fun b4 => ?_); refine fk [(0, _), (1, _), (4, _)] hK1 ?_; refine sr fun _ hK2 => ?_
 refine yv y_mv <| yv y_mv <| callE rfl fk116 (rat_ct _ b w hw fd) sq ?_; intro _; refine yv y_mv <| yv y_ex <| yv y_ex <| yv y_as <| yv y_as <| fk [(0, _), (4, _), (5, _), (6, _)] hK2 ?_; refine Hd.seq fun _ hK3 => ?_
 refine sr fun _ hK4 => ?_
 refine yv y_mv <| yv (y_lss rfl rfl) ?_; refine fk [(0, _), (4, _), (5, _), (6, _), (17, _)] hK4 ?_; refine Hd.cond rfl (fun hc0 => ?_) (fun hc0 => ?_)
 ·try simp only [hyZ] at hc0
  have hno := atN_no hc0
  refine sr fun _ hK5 => ?_
  refine yv (y_build (vs := []) rfl (by exact bd81_18 ..)) ?_; refine Hd.storeA (us := encR noRdy) sz105 rfl rfl rfl (by simp [Value.oneCell']) pkk (by exact rfl) ?_; refine fk [(4, _)] hK5 ?_; refine Hd.ret <| Hd.thenRet ?_; rw [show readyR w fd = noRdy by unfold readyR; rw [hno]]; exact Hd.retC rfl () ag105 rfl (Rd.pt (us := encR noRdy) pkk (fun j v e => by rw [Nat.zero_add]; exact e)) (by exact sz105) rfl sq
 ·try simp only [hyZ] at hc0
  obtain ⟨n, k, hnk⟩ := atN_yes (by omega)
  obtain ⟨_, _, hk, _, x, hx, _, _⟩ := hw.at_lt hnk
  have hk1 : 1 - k < 2 := by omega
  rw [show atN (w.at fd) = (n : Int) by rw [hnk]; rfl, show atK (w.at fd) = (k : Int) by rw [hnk]; rfl]
  have hR : readyR w fd = readyW x k := by unfold readyR; rw [hnk]; dsimp only; rw [hx]
  refine Hd.rw pkk (fun i hi => ?_)
  have hrl := rows_n hi
  obtain ⟨j, hrow⟩ := row_at hi hx
  have hn : n < i.1.length := (List.getElem?_eq_some_iff.1 hrow).1
  refine Hd.skip <| Hd.toK hK3 ?_; refine sr fun _ hK6 => ?_
  refine yv y_mv <| yv y_np <| yv (y_f 0 129 Tryz.underlying133 sz129) ?_; refine yv (y_l1 ag129 rfl) ?_; refine yv y_mv <| yv (y_idxR Tryz.underlying129 sz221 rfl rfl (by omega) (by exact RdS.own pkk)) ?_; refine yv (y_loadRn (vs := encRW (x, j)) ag221 rfl (RdS.own (ad := i.2.1) (us := i.1.flatMap encRW) pkk) (flat_cells encRW 20 encRW_len hrow) (by exact sz221) (by simp)) ?_; refine Hd.alloc zr221 (fun b7 => ?_); refine Hd.storeA (us := encRW (x, j)) sz221 rfl rfl rfl (encRW_one _) pkk (by exact rfl) ?_; refine fk [(4, _), (6, _), (7, _)] hK6 ?_; refine Hd.seq fun _ hK7 => ?_
  refine Hd.drawsH ([pt b7 (encRW (x, j)) 221]) (fun j => !([12].contains j)) mixed ?_; simp only [List.length, Nat.zero_add, Nat.reduceAdd]; refine tH 0 rfl y_mv ?_; refine tH 1 rfl (y_f 0 219 Tryz.underlying221 sz219) ?_; refine tH 2 rfl (y_idxA Tryz.underlying219 sz218 rfl rfl (by omega)) ?_; refine tH 3 rfl (y_f 6 30 Tryz.underlying218 sz30) ?_; refine tH 4 rfl (y_load1 (v := .int .u64 (x.e k).inn) ag30 rfl (Rd.pt1 pkk (rwc (p := (x, j)) (j := 6) hk (by decide) (by omega) rfl))) ?_; refine tH 5 rfl y_mv ?_; refine tH 6 rfl (y_f 0 219 Tryz.underlying221 sz219) ?_; refine tH 7 rfl (y_idxA Tryz.underlying219 sz218 rfl rfl (by omega)) ?_; refine tH 8 rfl (y_f 7 30 Tryz.underlying218 sz30) ?_; refine tH 9 rfl (y_load1 (v := .int .u64 (x.e k).out) ag30 rfl (Rd.pt1 pkk (rwc (p := (x, j)) (j := 7) hk (by decide) (by omega) rfl))) ?_; refine tH 10 rfl (y_build (vs := [(0, _), (5, _), (6, _)]) rfl (by exact bd81_36 ..)) ?_
  refine onlyH 11 rfl kq ?_; refine Hd.alloc zr105 (fun b8 => ?_); refine Hd.nil <| thenN <| heldK (J := (fun j => !([12].contains j))) (i := 11) sq ?_; refine onlyH 12 rfl kq ?_; refine Hd.storeA (us := encR ⟨true, false, false, false, false, (x.e k).inn, (x.e k).out⟩) sz105 rfl rfl rfl (by simp [Value.oneCell']) pkk (by exact rfl) ?_; refine Hd.nil <| thenN <| Hd.heldN (J := (fun j => !([12].contains j))) (i := 12) rfl ?_; refine endH kq ?_; refine sk [(4, _), (6, _), (7, _), (8, _)] hK7 ?_; refine Hd.seq fun _ hK8 => ?_
  refine sr fun _ hK9 => ?_
  refine yv (y_f 18 3 Tryz.underlying221 sz3) ?_; refine yv (y_l1 ag3 rfl) ?_; refine yv (y_gtr rfl rfl) ?_; refine fk [(4, _), (6, _), (7, _), (8, _), (39, _)] hK9 ?_; refine Hd.cond rfl (fun hc1 => ?_) (fun hc1 => ?_)
  ·try simp only [hyZ] at hc1
   refine sr fun _ hK10 => ?_
   refine yv (y_f 19 44 Tryz.underlying221 sz44) ?_; refine yv (y_l1 ag44 rfl) ?_; refine yv (y_len Tryz.underlying44 rfl) ?_; refine yv (y_gtr rfl rfl) ?_; refine yv (y_f 1 4 Tryz.underlying105 sz4) ?_; refine Hd.store1 sz4 rfl rfl rfl pkk (by simp; done) ?_
   try simp only [hyS]
   refine fk [(4, _), (8, _)] hK10 ?_; refine sr fun _ hK11 => ?_
   refine yv (y_loadn (us := [_, _, _, _, _, _, _]) ag105 rfl (Rd.pt pkk (by (first | (intro j v e; rcases j with _|_|_|_|_|_|_|_|_|_|_|_|j <;> first | exact e | exact absurd e (by simp))))) (by exact sz105)) ?_; refine Hd.storeA (us := encR ⟨true, decide ((x.wt.length : Int) > 0), false, false, false, (x.e k).inn, (x.e k).out⟩) sz105 rfl rfl rfl (by simp [Value.oneCell']) pkk (by exact rfl) ?_; refine fk [(4, _)] hK11 ?_; refine Hd.ret <| Hd.thenRet ?_; rw [hR, show readyW x k = ⟨true, decide ((x.wt.length : Int) > 0), false, false, false, (x.e k).inn, (x.e k).out⟩ from if_pos hc1]; exact Hd.retC rfl () ag105 rfl (Rd.pt (us := encR ⟨true, decide ((x.wt.length : Int) > 0), false, false, false, (x.e k).inn, (x.e k).out⟩) pkk (fun j v e => by rw [Nat.zero_add]; exact e)) (by exact sz105) rfl (fun q s => rw_fold hi q (Ent.sep enn q s))
  ·try simp only [hyZ] at hc1
   have hbl : ¬ (x.bl > 0) := by omega
   have hRw : readyW x k = ⟨true, (x.e k).rd && ((decide (((x.e k).b.length : Int) > 0) || silentW x k) || x.rs), ((x.e k).wr && !(x.e k).shut) && ((decide ((x.e (1 - k)).what = 3) || x.rs) || decide (((x.cap - (x.e (1 - k)).b.length : Nat) : Int) > 0)), decide ((x.e (1 - k)).what = 3), x.rs, (x.e k).inn, (x.e k).out⟩ := if_neg hbl
   refine Hd.skip <| Hd.toK hK8 ?_; refine sr fun _ hK12 => ?_
   refine yv y_mv <| yv (y_to (v' := .int .i64 ((1 - k : Nat) : Int)) (y_subn rfl rfl (by simp only [InK]; omega)) (by (congr 1; omega))) ?_; refine yv (y_f 0 219 Tryz.underlying221 sz219) ?_; refine yv (y_idxA Tryz.underlying219 sz218 rfl rfl (by omega)) ?_; refine yv (y_f 0 3 Tryz.underlying218 sz3) ?_; refine yv (y_load1 (v := .int .i64 (x.e (1 - k)).what) ag3 rfl (Rd.pt1 pkk (rwc (p := (x, j)) (j := 0) hk1 (by decide) (by omega) rfl))) ?_; refine yv (y_eql rfl rfl) ?_; refine yv y_as <| fk [(4, _), (6, _), (7, _), (8, _), (9, _)] hK12 ?_; refine sr fun _ hK13 => ?_
   refine yv y_mv <| yv (y_f 3 4 Tryz.underlying105 sz4) ?_; refine Hd.store1 sz4 rfl rfl rfl pkk (by simp; done) ?_
   try simp only [hyS]
   refine fk [(4, _), (6, _), (7, _), (8, _), (9, _)] hK13 ?_; refine sr fun _ hK14 => ?_
   refine yv (y_f 17 4 Tryz.underlying221 sz4) ?_; refine yv (y_l1 ag4 rfl) ?_; refine yv (y_f 4 4 Tryz.underlying105 sz4) ?_; refine Hd.store1 sz4 rfl rfl rfl pkk (by simp; done) ?_
   try simp only [hyS]
   refine fk [(4, _), (6, _), (7, _), (8, _), (9, _)] hK14 ?_; refine sr fun _ hK15 => ?_
   refine yv y_mv <| yv (y_f 0 219 Tryz.underlying221 sz219) ?_; refine yv (y_idxA Tryz.underlying219 sz218 rfl rfl (by omega)) ?_; refine yv (y_f 2 4 Tryz.underlying218 sz4) ?_; refine yv (y_load1 (v := .bool (x.e k).rd) ag4 rfl (Rd.pt1 pkk (rwc (p := (x, j)) (j := 2) hk (by decide) (by omega) rfl))) ?_; refine yv y_mv ?_; apply Hd.andg 23 63 86 [(4, _), (6, _), (7, _), (8, _), (9, _)] rfl sbq
   ·intro hg12_63
    try simp only [hyZ] at hg12_63
    simp only [List.take]; refine y2 y_mv <| y2 (y_f 0 219 Tryz.underlying221 sz219) ?_; refine y2 (y_idxA Tryz.underlying219 sz218 rfl rfl (by omega)) ?_; refine y2 (y_f 4 31 Tryz.underlying218 sz31) ?_; refine y2 (y_load1 (v := .slice (j.a k) (x.e k).b.length (j.c k)) ag31 rfl (Rd.pt1 pkk (rwc (p := (x, j)) (j := 4) hk (by decide) (by omega) rfl))) ?_; refine y2 (y_len Tryz.underlying31 rfl) ?_; refine y2 (y_gtr rfl rfl) ?_; refine y2 y_mv ?_; apply Hd.org 2 71 73 [(4, _), (6, _), (7, _), (8, _), (9, _), (63, _)] rfl sbq
    ·intro _
     simp only [List.take]; refine n1 <| y2 (y_pickT rfl rfl) ?_; refine Hd.nil ?_; exact Hd.mq
    ·intro _
     simp only [List.take]; refine y2 y_mv <| y2 (y_pickF rfl rfl) ?_; refine Hd.nil ?_; exact Hd.mq
    simp only [List.drop]; refine y2 y_mv ?_; apply Hd.org 7 74 81 [(4, _), (6, _), (7, _), (8, _), (9, _), (63, _)] rfl sbq
    ·intro _
     simp only [List.take]; refine n1 <| n1 <| n1 <| n1 <| n1 <| n1 <| y2 (y_pickT rfl rfl) ?_; refine Hd.nil ?_; exact Hd.mq
    ·intro hg12_74
     try simp only [hyZ] at hg12_74
     simp only [List.take]; refine y2 y_mv <| y2 (y_to (v' := .int .i64 ((1 - k : Nat) : Int)) (y_subn rfl rfl (by simp only [InK]; omega)) (by (congr 1; omega))) ?_; refine y2 (y_f 0 219 Tryz.underlying221 sz219) ?_; refine y2 (y_idxA Tryz.underlying219 sz218 rfl rfl (by omega)) ?_; refine y2 (y_f 5 4 Tryz.underlying218 sz4) ?_; refine y2 (y_load1 (v := .bool (x.e (1 - k)).shut) ag4 rfl (Rd.pt1 pkk (rwc (p := (x, j)) (j := 5) hk1 (by decide) (by omega) rfl))) ?_; refine y2 (y_pickF rfl rfl) ?_; refine Hd.nil ?_; exact Hd.mq
    simp only [List.drop]; refine y2 y_mv ?_; apply Hd.org 3 82 85 [(4, _), (6, _), (7, _), (8, _), (9, _), (63, _)] rfl sbq
    ·intro _
     simp only [List.take]; refine n1 <| n1 <| y2 (y_pickT rfl rfl) ?_; refine Hd.nil ?_; exact Hd.mq
    ·intro _
     simp only [List.take]; refine y2 (y_f 17 4 Tryz.underlying221 sz4) ?_; refine y2 (y_l1 ag4 rfl) ?_; refine y2 (y_pickF rfl rfl) ?_; refine Hd.nil ?_; exact Hd.mq
    simp only [List.drop]; refine yv (y_pickT rfl rfl) ?_; refine Hd.nil ?_; exact Hd.mq
   ·intro _
    simp only [List.take]; refine n1 <| n1 <| n1 <| n1 <| n1 <| n1 <| n1 <| n1 <| n1 <| n1 <| n1 <| n1 <| n1 <| n1 <| n1 <| n1 <| n1 <| n1 <| n1 <| n1 <| n1 <| n1 <| yv (y_pickF rfl rfl) ?_; refine Hd.nil ?_; exact Hd.mq
   simp only [List.drop]; refine yv (y_f 1 4 Tryz.underlying105 sz4) ?_; refine Hd.store1 sz4 rfl rfl rfl pkk (by simp; done) ?_
   try simp only [hyS]
   refine fk [(4, _), (6, _), (7, _), (8, _), (9, _)] hK15 ?_; refine Hd.cutK (ι := Unit) [(4, _), (8, _)] (fun _ => []) (fun _ => pt b8 (encR (readyW x k)) 105 :: pt b4 (encR noRdy) 105 :: RwL b w i L) ?_ ?_ ⟨rfl, rfl, trivial⟩
   ·refine Hd.drawsH ([pt b7 (encRW (x, j)) 221]) (fun j => !(([1000] : List Nat).contains j)) mixed ?_
    simp only [List.length, Nat.zero_add, Nat.reduceAdd]; refine tH 0 rfl y_mv ?_; refine tH 1 rfl (y_f 0 219 Tryz.underlying221 sz219) ?_; refine tH 2 rfl (y_idxA Tryz.underlying219 sz218 rfl rfl (by omega)) ?_; refine tH 3 rfl (y_f 3 4 Tryz.underlying218 sz4) ?_; refine tH 4 rfl (y_load1 (v := .bool (x.e k).wr) ag4 rfl (Rd.pt1 pkk (rwc (p := (x, j)) (j := 3) hk (by decide) (by omega) rfl))) ?_; refine tH 5 rfl y_mv ?_; refine Hd.part (gd := 93) rfl (fun hg13_93 => ?_) (fun hg13_93 => ?_)
    ·try simp only [hyZ] at hg13_93
     refine Hd.takegH 6 rfl kq kq kq kq rfl rfl y_mv fq sq ?_; refine Hd.takegH 7 rfl kq kq kq kq rfl rfl (y_f 0 219 Tryz.underlying221 sz219) fq sq ?_; refine Hd.takegH 8 rfl kq kq kq kq rfl rfl (y_idxA Tryz.underlying219 sz218 rfl rfl (by omega)) fq sq ?_; refine Hd.takegH 9 rfl kq kq kq kq rfl rfl (y_f 5 4 Tryz.underlying218 sz4) fq sq ?_; refine Hd.takegH 10 rfl kq kq kq kq rfl rfl (y_load1 (v := .bool (x.e k).shut) ag4 rfl (Rd.pt1 pkk (rwc (p := (x, j)) (j := 5) hk (by decide) (by omega) rfl))) fq sq ?_; refine Hd.takegH 11 rfl kq kq kq kq rfl rfl (y_not rfl) fq sq ?_; refine tH 12 rfl (y_pickT rfl rfl) ?_; refine tH 13 rfl y_mv ?_; refine Hd.part (gd := 101) rfl (fun hg13_101 => ?_) (fun hg13_101 => ?_)
     ·try simp only [hyZ] at hg13_101
      refine Hd.takegH 14 rfl kq kq kq kq rfl rfl y_mv fq sq ?_; refine Hd.takegH 15 rfl kq kq kq kq rfl rfl (y_to (v' := .int .i64 ((1 - k : Nat) : Int)) (y_subn rfl rfl (by simp only [InK]; omega)) (by (congr 1; omega))) fq sq ?_; refine Hd.takegH 16 rfl kq kq kq kq rfl rfl (y_f 0 219 Tryz.underlying221 sz219) fq sq ?_; refine Hd.takegH 17 rfl kq kq kq kq rfl rfl (y_idxA Tryz.underlying219 sz218 rfl rfl (by omega)) fq sq ?_; refine Hd.takegH 18 rfl kq kq kq kq rfl rfl (y_f 4 31 Tryz.underlying218 sz31) fq sq ?_; refine Hd.takegH 19 rfl kq kq kq kq rfl rfl (y_load1 (v := .slice (j.a (1 - k)) (x.e (1 - k)).b.length (j.c (1 - k))) ag31 rfl (Rd.pt1 pkk (rwc (p := (x, j)) (j := 4) hk1 (by decide) (by omega) rfl))) fq sq ?_; refine Hd.takegH 20 rfl kq kq kq kq rfl rfl (y_len Tryz.underlying31 rfl) fq sq ?_; refine Hd.takegH 21 rfl kq kq kq kq rfl rfl (y_f 16 3 Tryz.underlying221 sz3) fq sq ?_; refine Hd.takegH 22 rfl kq kq kq kq rfl rfl (y_l1 ag3 rfl) fq sq ?_
      refine Hd.takegH 23 rfl kq kq kq kq rfl rfl (y_lss rfl rfl) fq sq ?_; refine Hd.takegH 24 rfl kq kq kq kq rfl rfl y_mv fq sq ?_; refine Hd.part (gd := 112) rfl (fun hg13_112 => ?_) (fun hg13_112 => ?_)
      ·try simp only [hyZ] at hg13_112
       refine Hd.takenH 25 rfl kq kq kq kq rfl rfl rfl fq sq ?_; refine Hd.takegH 26 rfl kq kq kq kq rfl rfl (y_pickT rfl rfl) fq sq ?_; refine Hd.takegH 27 rfl kq kq kq kq rfl rfl y_mv fq sq ?_; refine Hd.part (gd := 115) rfl (fun hg13_115 => ?_) (fun hg13_115 => ?_)
       ·try simp only [hyZ] at hg13_115
        refine Hd.takenH 28 rfl kq kq kq kq rfl rfl rfl fq sq ?_; refine Hd.takenH 29 rfl kq kq kq kq rfl rfl rfl fq sq ?_; refine Hd.takegH 30 rfl kq kq kq kq rfl rfl (y_pickT rfl rfl) fq sq ?_; refine tH 31 rfl (y_pickT rfl rfl) ?_; refine tH 32 rfl (y_f 2 4 Tryz.underlying105 sz4) ?_; refine onlyH 33 rfl kq ?_; refine Hd.store1 sz4 rfl rfl rfl pkk (by simp; done) ?_
        try simp only [hyS]
        refine Hd.nil <| thenN <| heldK (J := (fun j => !(([1000] : List Nat).contains j))) (i := 33) sq ?_; refine endH kq ?_; refine slots [(4, _), (8, _)] sbq ?_; refine thenN ?_; exact Hd.meet () sbq (Ent.sep (.eq pkk (pt_eq (by rw [hRw]; simp_all [silentW, Bool.or_assoc]; omega)) (.eq pkk (pt_eq (by rfl)) enn)))
       ·try simp only [hyZ] at hg13_115
        refine Hd.takegH 28 rfl kq kq kq kq rfl rfl (y_f 17 4 Tryz.underlying221 sz4) fq sq ?_; refine Hd.takegH 29 rfl kq kq kq kq rfl rfl (y_l1 ag4 rfl) fq sq ?_; refine Hd.takegH 30 rfl kq kq kq kq rfl rfl (y_pickF rfl rfl) fq sq ?_; refine tH 31 rfl (y_pickT rfl rfl) ?_; refine tH 32 rfl (y_f 2 4 Tryz.underlying105 sz4) ?_; refine onlyH 33 rfl kq ?_; refine Hd.store1 sz4 rfl rfl rfl pkk (by simp; done) ?_
        try simp only [hyS]
        refine Hd.nil <| thenN <| heldK (J := (fun j => !(([1000] : List Nat).contains j))) (i := 33) sq ?_; refine endH kq ?_; refine slots [(4, _), (8, _)] sbq ?_; refine thenN ?_; exact Hd.meet () sbq (Ent.sep (.eq pkk (pt_eq (by rw [hRw]; exact absurd hg13_115 (by decide))) (.eq pkk (pt_eq (by rfl)) enn)))
      ·try simp only [hyZ] at hg13_112
       refine Hd.takegH 25 rfl kq kq kq kq rfl rfl y_mv fq sq ?_; refine Hd.takegH 26 rfl kq kq kq kq rfl rfl (y_pickF rfl rfl) fq sq ?_; refine Hd.takegH 27 rfl kq kq kq kq rfl rfl y_mv fq sq ?_; refine Hd.part (gd := 115) rfl (fun hg13_115 => ?_) (fun hg13_115 => ?_)
       ·try simp only [hyZ] at hg13_115
        refine Hd.takenH 28 rfl kq kq kq kq rfl rfl rfl fq sq ?_; refine Hd.takenH 29 rfl kq kq kq kq rfl rfl rfl fq sq ?_; refine Hd.takegH 30 rfl kq kq kq kq rfl rfl (y_pickT rfl rfl) fq sq ?_; refine tH 31 rfl (y_pickT rfl rfl) ?_; refine tH 32 rfl (y_f 2 4 Tryz.underlying105 sz4) ?_; refine onlyH 33 rfl kq ?_; refine Hd.store1 sz4 rfl rfl rfl pkk (by simp; done) ?_
        try simp only [hyS]
        refine Hd.nil <| thenN <| heldK (J := (fun j => !(([1000] : List Nat).contains j))) (i := 33) sq ?_; refine endH kq ?_; refine slots [(4, _), (8, _)] sbq ?_; refine thenN ?_; exact Hd.meet () sbq (Ent.sep (.eq pkk (pt_eq (by rw [hRw]; simp_all [silentW, Bool.or_assoc]; done)) (.eq pkk (pt_eq (by rfl)) enn)))
       ·try simp only [hyZ] at hg13_115
        refine Hd.takegH 28 rfl kq kq kq kq rfl rfl (y_f 17 4 Tryz.underlying221 sz4) fq sq ?_; refine Hd.takegH 29 rfl kq kq kq kq rfl rfl (y_l1 ag4 rfl) fq sq ?_; refine Hd.takegH 30 rfl kq kq kq kq rfl rfl (y_pickF rfl rfl) fq sq ?_; refine tH 31 rfl (y_pickT rfl rfl) ?_; refine tH 32 rfl (y_f 2 4 Tryz.underlying105 sz4) ?_; refine onlyH 33 rfl kq ?_; refine Hd.store1 sz4 rfl rfl rfl pkk (by simp; done) ?_
        try simp only [hyS]
        refine Hd.nil <| thenN <| heldK (J := (fun j => !(([1000] : List Nat).contains j))) (i := 33) sq ?_; refine endH kq ?_; refine slots [(4, _), (8, _)] sbq ?_; refine thenN ?_; exact Hd.meet () sbq (Ent.sep (.eq pkk (pt_eq (by rw [hRw]; have h0 : ¬ (((x.cap - (x.e (1 - k)).b.length : Nat) : Int) > 0) := (by omega); rw [hg13_93, hg13_101, decide_eq_false hg13_115, decide_eq_false h0]; simp [silentW, hg13_115, Bool.or_assoc])) (.eq pkk (pt_eq (by rfl)) enn)))
     ·try simp only [hyZ] at hg13_101
      refine Hd.takenH 14 rfl kq kq kq kq rfl rfl rfl fq sq ?_; refine Hd.takenH 15 rfl kq kq kq kq rfl rfl rfl fq sq ?_; refine Hd.takenH 16 rfl kq kq kq kq rfl rfl rfl fq sq ?_; refine Hd.takenH 17 rfl kq kq kq kq rfl rfl rfl fq sq ?_; refine Hd.takenH 18 rfl kq kq kq kq rfl rfl rfl fq sq ?_; refine Hd.takenH 19 rfl kq kq kq kq rfl rfl rfl fq sq ?_; refine Hd.takenH 20 rfl kq kq kq kq rfl rfl rfl fq sq ?_; refine Hd.takenH 21 rfl kq kq kq kq rfl rfl rfl fq sq ?_; refine Hd.takenH 22 rfl kq kq kq kq rfl rfl rfl fq sq ?_; refine Hd.takenH 23 rfl kq kq kq kq rfl rfl rfl fq sq ?_; refine Hd.takenH 24 rfl kq kq kq kq rfl rfl rfl fq sq ?_; refine Hd.takenH 25 rfl kq kq kq kq rfl rfl rfl fq sq ?_; refine Hd.takenH 26 rfl kq kq kq kq rfl rfl rfl fq sq ?_; refine Hd.takenH 27 rfl kq kq kq kq rfl rfl rfl fq sq ?_; refine Hd.takenH 28 rfl kq kq kq kq rfl rfl rfl fq sq ?_; refine Hd.takenH 29 rfl kq kq kq kq rfl rfl rfl fq sq ?_
      refine Hd.takenH 30 rfl kq kq kq kq rfl rfl rfl fq sq ?_; refine tH 31 rfl (y_pickF rfl rfl) ?_; refine tH 32 rfl (y_f 2 4 Tryz.underlying105 sz4) ?_; refine onlyH 33 rfl kq ?_; refine Hd.store1 sz4 rfl rfl rfl pkk (by simp; done) ?_
      try simp only [hyS]
      refine Hd.nil <| thenN <| heldK (J := (fun j => !(([1000] : List Nat).contains j))) (i := 33) sq ?_; refine endH kq ?_; refine slots [(4, _), (8, _)] sbq ?_; refine thenN ?_; exact Hd.meet () sbq (Ent.sep (.eq pkk (pt_eq (by rw [hRw]; simp_all [silentW, Bool.or_assoc]; done)) (.eq pkk (pt_eq (by rfl)) enn)))
    ·try simp only [hyZ] at hg13_93
     refine Hd.takenH 6 rfl kq kq kq kq rfl rfl rfl fq sq ?_; refine Hd.takenH 7 rfl kq kq kq kq rfl rfl rfl fq sq ?_; refine Hd.takenH 8 rfl kq kq kq kq rfl rfl rfl fq sq ?_; refine Hd.takenH 9 rfl kq kq kq kq rfl rfl rfl fq sq ?_; refine Hd.takenH 10 rfl kq kq kq kq rfl rfl rfl fq sq ?_; refine Hd.takenH 11 rfl kq kq kq kq rfl rfl rfl fq sq ?_; refine tH 12 rfl (y_pickF rfl rfl) ?_; refine tH 13 rfl y_mv ?_; refine Hd.part (gd := 101) rfl (fun hg13_101 => ?_) (fun hg13_101 => ?_)
     ·try simp only [hyZ] at hg13_101
      refine Hd.takegH 14 rfl kq kq kq kq rfl rfl y_mv fq sq ?_; refine Hd.takegH 15 rfl kq kq kq kq rfl rfl (y_to (v' := .int .i64 ((1 - k : Nat) : Int)) (y_subn rfl rfl (by simp only [InK]; omega)) (by (congr 1; omega))) fq sq ?_; refine Hd.takegH 16 rfl kq kq kq kq rfl rfl (y_f 0 219 Tryz.underlying221 sz219) fq sq ?_; refine Hd.takegH 17 rfl kq kq kq kq rfl rfl (y_idxA Tryz.underlying219 sz218 rfl rfl (by omega)) fq sq ?_; refine Hd.takegH 18 rfl kq kq kq kq rfl rfl (y_f 4 31 Tryz.underlying218 sz31) fq sq ?_; refine Hd.takegH 19 rfl kq kq kq kq rfl rfl (y_load1 (v := .slice (j.a (1 - k)) (x.e (1 - k)).b.length (j.c (1 - k))) ag31 rfl (Rd.pt1 pkk (rwc (p := (x, j)) (j := 4) hk1 (by decide) (by omega) rfl))) fq sq ?_; refine Hd.takegH 20 rfl kq kq kq kq rfl rfl (y_len Tryz.underlying31 rfl) fq sq ?_; refine Hd.takegH 21 rfl kq kq kq kq rfl rfl (y_f 16 3 Tryz.underlying221 sz3) fq sq ?_; refine Hd.takegH 22 rfl kq kq kq kq rfl rfl (y_l1 ag3 rfl) fq sq ?_
      refine Hd.takegH 23 rfl kq kq kq kq rfl rfl (y_lss rfl rfl) fq sq ?_; refine Hd.takegH 24 rfl kq kq kq kq rfl rfl y_mv fq sq ?_; refine Hd.part (gd := 112) rfl (fun hg13_112 => ?_) (fun hg13_112 => ?_)
      ·try simp only [hyZ] at hg13_112
       refine Hd.takenH 25 rfl kq kq kq kq rfl rfl rfl fq sq ?_; refine Hd.takegH 26 rfl kq kq kq kq rfl rfl (y_pickT rfl rfl) fq sq ?_; refine Hd.takegH 27 rfl kq kq kq kq rfl rfl y_mv fq sq ?_; refine Hd.part (gd := 115) rfl (fun hg13_115 => ?_) (fun hg13_115 => ?_)
       ·try simp only [hyZ] at hg13_115
        refine Hd.takenH 28 rfl kq kq kq kq rfl rfl rfl fq sq ?_; refine Hd.takenH 29 rfl kq kq kq kq rfl rfl rfl fq sq ?_; refine Hd.takegH 30 rfl kq kq kq kq rfl rfl (y_pickT rfl rfl) fq sq ?_; refine tH 31 rfl (y_pickT rfl rfl) ?_; refine tH 32 rfl (y_f 2 4 Tryz.underlying105 sz4) ?_; refine onlyH 33 rfl kq ?_; refine Hd.store1 sz4 rfl rfl rfl pkk (by simp; done) ?_
        try simp only [hyS]
        refine Hd.nil <| thenN <| heldK (J := (fun j => !(([1000] : List Nat).contains j))) (i := 33) sq ?_; refine endH kq ?_; refine slots [(4, _), (8, _)] sbq ?_; refine thenN ?_; exact Hd.meet () sbq (Ent.sep (.eq pkk (pt_eq (by rw [hRw]; simp_all [silentW, Bool.or_assoc]; done)) (.eq pkk (pt_eq (by rfl)) enn)))
       ·try simp only [hyZ] at hg13_115
        refine Hd.takegH 28 rfl kq kq kq kq rfl rfl (y_f 17 4 Tryz.underlying221 sz4) fq sq ?_; refine Hd.takegH 29 rfl kq kq kq kq rfl rfl (y_l1 ag4 rfl) fq sq ?_; refine Hd.takegH 30 rfl kq kq kq kq rfl rfl (y_pickF rfl rfl) fq sq ?_; refine tH 31 rfl (y_pickT rfl rfl) ?_; refine tH 32 rfl (y_f 2 4 Tryz.underlying105 sz4) ?_; refine onlyH 33 rfl kq ?_; refine Hd.store1 sz4 rfl rfl rfl pkk (by simp; done) ?_
        try simp only [hyS]
        refine Hd.nil <| thenN <| heldK (J := (fun j => !(([1000] : List Nat).contains j))) (i := 33) sq ?_; refine endH kq ?_; refine slots [(4, _), (8, _)] sbq ?_; refine thenN ?_; exact Hd.meet () sbq (Ent.sep (.eq pkk (pt_eq (by rw [hRw]; exact absurd hg13_115 (by decide))) (.eq pkk (pt_eq (by rfl)) enn)))
      ·try simp only [hyZ] at hg13_112
       refine Hd.takegH 25 rfl kq kq kq kq rfl rfl y_mv fq sq ?_; refine Hd.takegH 26 rfl kq kq kq kq rfl rfl (y_pickF rfl rfl) fq sq ?_; refine Hd.takegH 27 rfl kq kq kq kq rfl rfl y_mv fq sq ?_; refine Hd.part (gd := 115) rfl (fun hg13_115 => ?_) (fun hg13_115 => ?_)
       ·try simp only [hyZ] at hg13_115
        refine Hd.takenH 28 rfl kq kq kq kq rfl rfl rfl fq sq ?_; refine Hd.takenH 29 rfl kq kq kq kq rfl rfl rfl fq sq ?_; refine Hd.takegH 30 rfl kq kq kq kq rfl rfl (y_pickT rfl rfl) fq sq ?_; refine tH 31 rfl (y_pickT rfl rfl) ?_; refine tH 32 rfl (y_f 2 4 Tryz.underlying105 sz4) ?_; refine onlyH 33 rfl kq ?_; refine Hd.store1 sz4 rfl rfl rfl pkk (by simp; done) ?_
        try simp only [hyS]
        refine Hd.nil <| thenN <| heldK (J := (fun j => !(([1000] : List Nat).contains j))) (i := 33) sq ?_; refine endH kq ?_; refine slots [(4, _), (8, _)] sbq ?_; refine thenN ?_; exact Hd.meet () sbq (Ent.sep (.eq pkk (pt_eq (by rw [hRw]; simp_all [silentW, Bool.or_assoc]; done)) (.eq pkk (pt_eq (by rfl)) enn)))
       ·try simp only [hyZ] at hg13_115
        refine Hd.takegH 28 rfl kq kq kq kq rfl rfl (y_f 17 4 Tryz.underlying221 sz4) fq sq ?_; refine Hd.takegH 29 rfl kq kq kq kq rfl rfl (y_l1 ag4 rfl) fq sq ?_; refine Hd.takegH 30 rfl kq kq kq kq rfl rfl (y_pickF rfl rfl) fq sq ?_; refine tH 31 rfl (y_pickT rfl rfl) ?_; refine tH 32 rfl (y_f 2 4 Tryz.underlying105 sz4) ?_; refine onlyH 33 rfl kq ?_; refine Hd.store1 sz4 rfl rfl rfl pkk (by simp; done) ?_
        try simp only [hyS]
        refine Hd.nil <| thenN <| heldK (J := (fun j => !(([1000] : List Nat).contains j))) (i := 33) sq ?_; refine endH kq ?_; refine slots [(4, _), (8, _)] sbq ?_; refine thenN ?_; exact Hd.meet () sbq (Ent.sep (.eq pkk (pt_eq (by rw [hRw]; exact absurd hg13_101 (by decide))) (.eq pkk (pt_eq (by rfl)) enn)))
     ·try simp only [hyZ] at hg13_101
      refine Hd.takenH 14 rfl kq kq kq kq rfl rfl rfl fq sq ?_; refine Hd.takenH 15 rfl kq kq kq kq rfl rfl rfl fq sq ?_; refine Hd.takenH 16 rfl kq kq kq kq rfl rfl rfl fq sq ?_; refine Hd.takenH 17 rfl kq kq kq kq rfl rfl rfl fq sq ?_; refine Hd.takenH 18 rfl kq kq kq kq rfl rfl rfl fq sq ?_; refine Hd.takenH 19 rfl kq kq kq kq rfl rfl rfl fq sq ?_; refine Hd.takenH 20 rfl kq kq kq kq rfl rfl rfl fq sq ?_; refine Hd.takenH 21 rfl kq kq kq kq rfl rfl rfl fq sq ?_; refine Hd.takenH 22 rfl kq kq kq kq rfl rfl rfl fq sq ?_; refine Hd.takenH 23 rfl kq kq kq kq rfl rfl rfl fq sq ?_; refine Hd.takenH 24 rfl kq kq kq kq rfl rfl rfl fq sq ?_; refine Hd.takenH 25 rfl kq kq kq kq rfl rfl rfl fq sq ?_; refine Hd.takenH 26 rfl kq kq kq kq rfl rfl rfl fq sq ?_; refine Hd.takenH 27 rfl kq kq kq kq rfl rfl rfl fq sq ?_; refine Hd.takenH 28 rfl kq kq kq kq rfl rfl rfl fq sq ?_; refine Hd.takenH 29 rfl kq kq kq kq rfl rfl rfl fq sq ?_
      refine Hd.takenH 30 rfl kq kq kq kq rfl rfl rfl fq sq ?_; refine tH 31 rfl (y_pickF rfl rfl) ?_; refine tH 32 rfl (y_f 2 4 Tryz.underlying105 sz4) ?_; refine onlyH 33 rfl kq ?_; refine Hd.store1 sz4 rfl rfl rfl pkk (by simp; done) ?_
      try simp only [hyS]
      refine Hd.nil <| thenN <| heldK (J := (fun j => !(([1000] : List Nat).contains j))) (i := 33) sq ?_; refine endH kq ?_; refine slots [(4, _), (8, _)] sbq ?_; refine thenN ?_; exact Hd.meet () sbq (Ent.sep (.eq pkk (pt_eq (by rw [hRw]; simp_all [silentW, Bool.or_assoc]; done)) (.eq pkk (pt_eq (by rfl)) enn)))
   ·intro _
    refine sr fun _ hK16 => ?_
    refine yv (y_loadn (us := [_, _, _, _, _, _, _]) ag105 rfl (Rd.pt pkk (by (first | (intro j v e; rcases j with _|_|_|_|_|_|_|_|_|_|_|_|j <;> first | exact e | exact absurd e (by simp))))) (by exact sz105)) ?_; refine Hd.storeA (us := encR (readyW x k)) sz105 rfl rfl rfl (by simp [Value.oneCell']) pkk (by exact rfl) ?_; refine fk [(4, _)] hK16 ?_; refine Hd.ret ?_; rw [hR]; exact Hd.retC rfl () ag105 rfl (Rd.pt (us := encR (readyW x k)) pkk (fun j v e => by rw [Nat.zero_add]; exact e)) (by exact sz105) rfl (fun q s => rw_fold hi q (Ent.sep enn q s))
end Rf
end Go.Proofs.YtbfddabjbkohdaaGreat
