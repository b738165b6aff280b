/-
  Signals: Handle, Raise, Take.
-/
import Derived.Test.YtbfddabjbkohdaaGreatZKquPlaysF
set_option linter.unusedSimpArgs false
set_option linter.unusedVariables false
set_option linter.unnecessarySimpa false
set_option maxRecDepth 8000
set_option maxHeartbeats 2000000
open Go.RX.Hd (yv y2 n1 fk sk sr tH callE heldK qo qk qn qt qz qv endH thenN slots)
namespace Go.Proofs.YtbfddabjbkohdaaGreat
open Go.RX Fx
namespace Wo
theorem sig_open {s : Int} (h : mayE s = 0) : ∃ k : Nat, s = (k : Int) ∧ 1 ≤ k ∧ k < 32 := by
 have := mayE_0.1 h
 exact ⟨s.toNat, by omega, by omega, by omega⟩
theorem shandle_ct (L : List SP) (sb : Nat) (hd : List Bool) (ct : List Int) (hl : hd.length = 32) (hcl : ct.length = 32) (s : Int) (on : Bool) : Ct Tryz.prog 180 #[.pointer (some ⟨sb, 0, none⟩), .int .i64 s, .bool on] (SigP sb hd ct :: L) (fun _ : Unit => .int .i64 (mayE s)) (fun _ : Unit => SigP sb (if mayE s = 0 then hd.set s.toNat on else hd) (if mayE s = 0 ∧ on = false then ct.set s.toNat 0 else ct) :: L) := by
 refine Ct.o3 Tryz.func180 ?_; intro E
 show Hd E 27 _ _ _ _
 refine sr fun _ K1 => ?_
 refine yv y_as <| fk [(0,_),(1,_),(2,_)] K1 ?_; refine Hd.seq fun _ K2 => ?_
 refine sr fun _ K3 => ?_
 refine yv y_mv <| yv y_mv <| callE rfl fk197 (may_ct _ sb s) sq ?_; intro _; refine yv y_as <| fk [(0,_),(1,_),(2,_),(7,_)] K3 ?_; refine sr fun _ K4 => ?_
 refine yv y_mv <| yv (y_neq rfl rfl) ?_; refine fk [(0,_),(1,_),(2,_),(7,_),(12,_)] K4 ?_; refine qz ?_ ?_ <;> intro hc0 <;> try simp only [hyZ] at hc0
 ·refine sr fun _ K5 => ?_
  refine yv y_mv <| yv y_as <| fk [(6,_)] K5 ?_; refine Hd.ret <| Hd.thenRet ?_; rw [if_neg hc0, if_neg (fun h => hc0 h.1)]; exact Hd.ret1 rfl () rfl sq
 obtain ⟨k, rfl, hk1, hk⟩ := sig_open hc0
 refine qv K2 <| Hd.seq fun _ K6 => ?_
 refine sr fun _ K7 => ?_
 refine yv y_mv <| yv y_mv <| yv y_mv <| yv y_np <| yv (y_f 0 130 Tryz.underlying265 sz130) <| yv (y_idxA Tryz.underlying130 sz4 rfl rfl (by omega)) ?_; refine Hd.store1 sz4 rfl rfl rfl pkk (by rw [sg_len hl hcl]; omega) ?_
 try simp only [hyS]
 refine Hd.nil ?_; rw [show (hd.map Value.bool ++ ct.map (Value.int .i64)).set (0 + 0 + k * 1) (.bool on) = SgV (hd.set k on) ct from sg_set_hd hl hk (by omega)]; refine sk [(0,_),(1,_),(2,_)] K7 ?_; refine sr fun _ K8 => ?_
 refine yv y_mv <| yv (y_not rfl) <| fk [(0,_),(1,_),(21,_)] K8 ?_; refine qz ?_ ?_ <;> intro hc1 <;> try simp only [hyZ] at hc1
 ·refine Hd.region ?_
  refine yv y_mv <| yv y_mv <| yv y_np <| yv (y_f 32 131 Tryz.underlying265 sz131) <| yv (y_idxA Tryz.underlying131 sz3 rfl rfl (by omega)) ?_; refine Hd.store1 sz3 rfl rfl rfl pkk (by rw [sg_len (by rw [List.length_set]; exact hl) hcl]; omega) ?_
  try simp only [hyS]
  refine Hd.nil ?_; rw [show (SgV (hd.set k on) ct).set (0 + 32 + k * 1) (.int .i64 0) = SgV (hd.set k on) (ct.set k 0) from sg_set_ct (by rw [List.length_set]; exact hl) hk (by omega)]; refine sk [] K6 ?_; refine sr fun _ K9 => ?_
  refine yv y_as <| fk [(6,_)] K9 ?_; refine Hd.ret ?_; rw [if_pos hc0, if_pos ⟨hc0, by simpa using hc1⟩]; exact Hd.ret1 rfl () (by rw [hc0]; rfl) sq
 refine qv K6 <| sr fun _ K10 => ?_
 refine yv y_as <| fk [(6,_)] K10 ?_; refine Hd.ret ?_; rw [if_pos hc0, if_neg (fun h => by rw [h.2] at hc1; simp at hc1)]; exact Hd.ret1 rfl () (by rw [hc0]; rfl) sq
theorem sraise_ct (L : List SP) (sb : Nat) (hd : List Bool) (ct : List Int) (hl : hd.length = 32) (hcl : ct.length = 32) (hb : ∀ c ∈ ct, 0 ≤ c ∧ c ≤ 2000000000) (s : Int) : Ct Tryz.prog 183 #[.pointer (some ⟨sb, 0, none⟩), .int .i64 s] (SigP sb hd ct :: L) (fun _ : Unit => .int .i64 (mayE s)) (fun _ : Unit => SigP sb hd (if mayE s = 0 ∧ hd.getD s.toNat false = true then ct.set s.toNat (ct.getD s.toNat 0 + 1) else ct) :: L) := by
 refine Ct.o2 Tryz.func183 ?_; intro E
 show Hd E 36 _ _ _ _
 refine sr fun _ K1 => ?_
 refine yv y_as <| fk [(0,_),(1,_)] K1 ?_; refine Hd.seq fun _ K2 => ?_
 refine sr fun _ K3 => ?_
 refine yv y_mv <| yv y_mv <| callE rfl fk197 (may_ct _ sb s) sq ?_; intro _; refine yv y_as <| fk [(0,_),(1,_),(5,_)] K3 ?_; refine sr fun _ K4 => ?_
 refine yv y_mv <| yv (y_neq rfl rfl) ?_; refine fk [(0,_),(1,_),(5,_),(10,_)] K4 ?_; refine qz ?_ ?_ <;> intro hc0 <;> try simp only [hyZ] at hc0
 ·refine sr fun _ K5 => ?_
  refine yv y_mv <| yv y_as <| fk [(4,_)] K5 ?_; refine Hd.ret <| Hd.thenRet ?_; rw [if_neg (fun h => hc0 h.1)]; exact Hd.ret1 rfl () rfl sq
 obtain ⟨k, rfl, hk1, hk⟩ := sig_open hc0
 have hcb : 0 ≤ ct.getD k 0 ∧ ct.getD k 0 ≤ 2000000000 := by
  rw [List.getD_eq_getElem?_getD, List.getElem?_eq_getElem (by omega)]; exact hb _ (List.getElem_mem _)
 refine qv K2 <| Hd.seq fun _ K6 => ?_
 refine sr fun _ K7 => ?_
 refine yv y_mv <| yv y_mv <| yv y_np <| yv (y_f 0 130 Tryz.underlying265 sz130) <| yv (y_idxA Tryz.underlying130 sz4 rfl rfl (by omega)) ?_; refine yv (y_load1 ag4 rfl (Rd.pt1 pkk (by exact sg_hd hl hk (by omega)))) ?_; refine fk [(0,_),(1,_),(17,_)] K7 ?_; refine qz ?_ ?_ <;> intro hc1 <;> try simp only [hyZ] at hc1
 ·refine Hd.tail 18 mixed kq ?_
  simp only [List.take, List.drop]; refine Ht.yv y_mv ?_; refine Ht.yv y_mv ?_; refine Ht.yv y_np ?_; refine Ht.yv (y_f 32 131 Tryz.underlying265 sz131) ?_; refine Ht.yv (y_idxA Tryz.underlying131 sz3 rfl rfl (by omega)) ?_; refine Ht.yv (y_load1 ag3 rfl (Rd.pt1 pkk (by exact sg_ct hl hcl hk (by omega)))) ?_; refine Ht.yv y_mv ?_; refine Ht.yv y_mv ?_; refine Ht.yv y_np ?_; refine Ht.yv (y_f 32 131 Tryz.underlying265 sz131) ?_; refine Ht.yv (y_idxA Tryz.underlying131 sz3 rfl rfl (by omega)) ?_; refine Ht.yv (y_load1 ag3 rfl (Rd.pt1 pkk (by exact sg_ct hl hcl hk (by omega)))) ?_; refine Ht.yv (y_subn rfl rfl (by simp only [InK]; omega)) ?_; refine Ht.yv (y_min rfl rfl) ?_; refine Ht.yv (y_to (v' := .int .i64 (ct.getD k 0 + 1)) (y_addn rfl rfl (by simp only [InK]; omega)) (by (congr 1; omega))) ?_; refine Ht.yv y_np ?_; refine Ht.yv (y_f 32 131 Tryz.underlying265 sz131) ?_; refine Ht.yv (y_idxA Tryz.underlying131 sz3 rfl rfl (by omega)) ?_
  refine Ht.nil ?_; refine Hd.store1 sz3 rfl rfl rfl pkk (by rw [sg_len hl hcl]; omega) ?_
  try simp only [hyS]
  refine Hd.nil ?_; rw [show (hd.map Value.bool ++ ct.map (Value.int .i64)).set (0 + 32 + k * 1) (.int .i64 (ct.getD k 0 + 1)) = SgV hd (ct.set k (ct.getD k 0 + 1)) from sg_set_ct hl hk (by omega)]; refine sk [] K6 ?_; refine sr fun _ K8 => ?_
  refine yv y_as <| fk [(4,_)] K8 ?_; refine Hd.ret ?_; rw [if_pos ⟨hc0, hc1⟩]; exact Hd.ret1 rfl () (by rw [hc0]; rfl) sq
 refine qv K6 <| sr fun _ K9 => ?_
 refine yv y_as <| fk [(4,_)] K9 ?_; refine Hd.ret ?_; rw [if_neg (fun h => by rw [show ((k : Int)).toNat = k from Int.toNat_natCast k] at h; rw [h.2] at hc1; cases hc1)]; exact Hd.ret1 rfl () (by rw [hc0]; rfl) sq
abbrev OutCn (b : Nat) (l : List (Int × Int)) : SP := RX.ex fun i : Option Addr × Nat => [pt b [.slice i.1 l.length i.2] 238, own 241 2 i.1 l.length i.2 (l.flatMap encCn)]
def zerF (ct : List Int) (l : List (Int × Int)) : List Int := l.foldl (fun ct p => ct.set p.1.toNat 0) ct
theorem zerF_len (l : List (Int × Int)) (ct : List Int) : (zerF ct l).length = ct.length := by
 induction l generalizing ct with
 | nil => rfl
 | cons p t ih => show (zerF (ct.set p.1.toNat 0) t).length = _; rw [ih, List.length_set]
theorem zerF_snoc (ct : List Int) (l : List (Int × Int)) (p : Int × Int) : zerF ct (l ++ [p]) = (zerF ct l).set p.1.toNat 0 := by unfold zerF; rw [List.foldl_append]; rfl
theorem zerF_at : ∀ (l : List (Int × Int)) (ct : List Int) (j : Nat), j < ct.length → (zerF ct l)[j]? = if ∃ p ∈ l, p.1.toNat = j then some 0 else ct[j]?
 | [], ct, j, _ => by simp [zerF]
 | p :: t, ct, j, h => by
  show (zerF (ct.set p.1.toNat 0) t)[j]? = _
  rw [zerF_at t _ j (by rw [List.length_set]; exact h)]
  by_cases h1 : ∃ q ∈ t, q.1.toNat = j
  ·rw [if_pos h1, if_pos]
   obtain ⟨q, hq, e⟩ := h1
   exact ⟨q, List.mem_cons_of_mem _ hq, e⟩
  ·rw [if_neg h1]
   by_cases h2 : p.1.toNat = j
   ·rw [if_pos ⟨p, List.mem_cons_self, h2⟩, h2, List.getElem?_set_self h]
   ·rw [List.getElem?_set_ne h2, if_neg]
    rintro ⟨q, hq, e⟩
    rcases List.mem_cons.1 hq with rfl | hq
    ·exact h2 e
    ·exact h1 ⟨q, hq, e⟩
theorem cntF_has : ∀ (l : List Int) (i j : Nat) (c : Int), l[j]? = some c → c ≠ 0 → 0 < i + j → (((i + j : Nat) : Int), c) ∈ cntF i l
 | [], _, _, _, h, _, _ => by simp at h
 | a :: t, i, 0, c, h, hc, hi => by
  obtain rfl : a = c := by simpa using h
  show _ ∈ (if i = 0 ∨ a = 0 then cntF (i + 1) t else ((i : Int), a) :: cntF (i + 1) t)
  rw [if_neg (by rintro (h | h); omega; exact hc h)]; exact List.mem_cons_self
 | a :: t, i, j + 1, c, h, hc, hi => by
  have := cntF_has t (i + 1) j c (by simpa using h) hc (by omega)
  rw [show i + 1 + j = i + (j + 1) by omega] at this
  show _ ∈ (if i = 0 ∨ a = 0 then cntF (i + 1) t else ((i : Int), a) :: cntF (i + 1) t)
  split
  ·exact this
  ·exact List.mem_cons_of_mem _ this
def zer1 : List Int → List Int
 | [] => []
 | c :: t => c :: t.map fun _ => 0
theorem zerF_all (ct : List Int) : zerF ct (cntF 0 ct) = zer1 ct := by
 apply List.ext_getElem?; intro j
 by_cases hj : j < ct.length
 ·rw [zerF_at _ _ _ hj]
  cases ct with
  | nil => simp at hj
  | cons c t =>
   cases j with
   | zero =>
    rw [if_neg]
    ·rfl
    ·rintro ⟨p, hp, e⟩
     obtain ⟨k, _, h2, h3⟩ := cntF_mem _ _ _ hp
     omega
   | succ j =>
    have hjt : j < t.length := by simpa using hj
    show _ = (t.map fun _ => (0 : Int))[j]?
    rw [List.getElem?_map, List.getElem?_eq_getElem hjt]
    by_cases hz : t[j] = 0
    ·have e : (c :: t)[j + 1]? = some 0 := by rw [List.getElem?_cons_succ, List.getElem?_eq_getElem hjt, hz]
     rw [e]; split <;> rfl
    ·rw [if_pos]
     ·rfl
     ·refine ⟨_, cntF_has (c :: t) 0 (j + 1) t[j] (by rw [List.getElem?_cons_succ, List.getElem?_eq_getElem hjt]) hz (by omega), ?_⟩
      show ((0 + (j + 1) : Nat) : Int).toNat = j + 1
      omega
 ·rw [List.getElem?_eq_none (by rw [zerF_len]; omega), List.getElem?_eq_none]
  cases ct with
  | nil => exact Nat.zero_le _
  | cons c t => simp [zer1] at hj ⊢; omega
theorem stake_ct (L : List SP) (sb : Nat) (hd : List Bool) (ct : List Int) (hl : hd.length = 32) (hcl : ct.length = 32) : Ct Tryz.prog 184 #[.pointer (some ⟨sb, 0, none⟩)] (SigP sb hd ct :: L) (fun q_ : Option Addr × Nat => .slice q_.1 (cntF 0 ct).length q_.2) (fun q_ : Option Addr × Nat => own 241 2 q_.1 (cntF 0 ct).length q_.2 ((cntF 0 ct).flatMap encCn) :: SigP sb hd (zer1 ct) :: L) := by
 refine Ct.o1M Tryz.func184 ?_; intro E
 show Hd E 28 _ _ _ _
 have hcle := cntF_le ct 0
 refine sr fun _ K1 => ?_
 refine yv y_as <| fk [(0,_)] K1 ?_; refine sr fun _ K2 => ?_
 refine Hd.alloc zr238 (fun b3 => ?_); refine fk [(0,_),(3,_)] K2 ?_; refine Hd.seq fun _ K3 => ?_
 refine sr fun _ K4 => ?_
 refine yv y_mv <| callE rfl fk200 (counts_ct _ sb) sq ?_; intro bx; refine fk [(0,_),(3,_),(8,_)] K4 ?_; refine Hd.block <| Hd.rangeF (enc := encCA) (S := fun ys => ys = cntF 0 ct) (Sp := fun ys => ys <+: cntF 0 ct)
  (fun pre => OutCn b3 pre :: L) (fun _ _ => [pu False])
  rfl kq (fun _ => rfl) rfl (counts_it bx sb hd ct hl hcl) (by refine Ent.sep ?_; refine Ent.ex (none, 0) ?_; refine Ent.eq pkk (pt_eq (by rfl)) ?_; refine Ent.ownNil ?_; exact Ent.swap (L := [_, _])) ?_ ?_ ?_
 ·intro E l' R pre c N hR hG
  have hpl : pre.length + 1 ≤ 32 := by have h1 := hG.length_le; simp at h1; omega
  unfold Rnd; simp only [List.cons_append, List.nil_append, pz, encCA]; refine Hd.region <| Hd.alloc zr241 (fun b4 => ?_); refine Hd.storeA (us := encCn c) sz241 rfl rfl rfl (by simp [Value.oneCell']) pkk (by exact rfl) ?_; refine Hd.nil <| slots [(0,_),(3,_),(4,_)] sbq ?_; refine thenN <| Hd.begin hR pkk ?_; refine Hd.block <| Hd.exs pkk ?_; rintro ⟨a3, c3⟩; simp only [List.cons_append, List.nil_append]; refine Hd.region <| yv (y_l1 ag238 rfl) <| yv (y_loadn (us := encCn c) ag241 rfl (Rd.pt pkk (fun j v e => by rw [Nat.zero_add]; exact e)) (by exact sz241)) ?_; refine Hd.bslice (vs := [(0,_)]) rfl (by exact bs184_12 ..) (fun b12 => ?_); refine Hd.append Tryz.underlying238 ty241 rfl rfl rfl pkk (by exact RdS.rd (Rd.pt pkk (fun j v e => by simpa using e)) rfl) (by simp [Value.oneCell']; done) (by simp only [maxLen]; omega) (by omega) (fun ad13 cap13 => ?_)
  refine Hd.store1 sz238 rfl rfl rfl pkk (by simp; done) ?_
  try simp only [hyS]
  refine Hd.nil <| slots [(0,_),(3,_)] sbq ?_; refine Hd.inB <| Hd.reN ?_; simp only [List.cons_append, List.nil_append]; exact Ent.sep (.pick pkk (.ex (ad13, cap13) (.eq pkk (pt_eq (by simp)) (.eq pkk (own_eq (by simp) (by simp)) enn))))
 ·intro r0 ys hys
  obtain rfl : ys = cntF 0 ct := hys
  try simp only [List.cons_append, List.nil_append]
  refine Hd.inB <| Hd.toK K3 ?_; refine Hd.seq fun _ K5 => ?_
  refine Hd.seq fun _ K6 => ?_
  refine Hd.exs pkk ?_; rintro ⟨a3, c3⟩; simp only [List.cons_append, List.nil_append]; refine Hd.region <| yv (y_l1 ag238 rfl) <| yv (y_len Tryz.underlying238 rfl) ?_; refine yv y_mv <| fk [(0,_),(3,_),(14,_),(15,_),(16,_)] K6 ?_; refine Hd.block <| Hd.loopK (ι := Nat) [(0,_),(3,_),(14,_),(15,_)] (fun j => [(16, .int .i64 (j : Int))]) (fun j => pu (j ≤ (cntF 0 ct).length) :: ob r0 (Obj.deferred (some [])) :: pt b3 [.slice a3 (cntF 0 ct).length c3] 238 :: own 241 2 a3 (cntF 0 ct).length c3 ((cntF 0 ct).flatMap encCn) :: SigP sb hd (zerF ct ((cntF 0 ct).take j)) :: L) (fun j => (cntF 0 ct).length - j) 0 sbq sbq (Ent.sep (.pure (Nat.zero_le _) (.pick pkk (.pick pkk (.pick pkk (.eq pkk (show SigP sb hd ct = SigP sb hd (zerF ct ((cntF 0 ct).take 0)) from rfl) enn)))))) ?_; intro j
  try dsimp only
  refine Hd.pure (fun hp0 => ?_)
  try dsimp only at hp0
  refine sr fun _ K7 => ?_
  refine yv (y_lss rfl rfl) ?_; refine fk [(0,_),(3,_),(14,_),(15,_),(16,_),(17,_)] K7 ?_; refine Hd.seq fun _ K8 => ?_
  refine qz ?_ ?_ <;> intro hc0 <;> try simp only [hyZ] at hc0
  ·have hj : j < (cntF 0 ct).length := by omega
   have hgj : (cntF 0 ct)[j]? = some (cntF 0 ct)[j] := List.getElem?_eq_getElem hj
   obtain ⟨s, hs1, hs2, hs3⟩ := cntF_mem ct 0 _ (List.getElem_mem hj)
   have hsl : s < 32 := by rw [← hcl]; exact (List.getElem?_eq_some_iff.1 hs1).1
   have hsc : (cntF 0 ct).take (j + 1) = (cntF 0 ct).take j ++ [(cntF 0 ct)[j]] := by rw [List.take_add_one, hgj]; rfl
   rw [Nat.zero_add] at hs2; refine qv K8 <| Hd.seq fun _ K9 => ?_
   refine Hd.block <| sr fun _ K10 => ?_
   refine yv (y_idxR Tryz.underlying238 sz241 rfl rfl (by omega) (by exact RdS.own pkk)) ?_; refine yv (y_loadRn (vs := encCn (cntF 0 ct)[j]) ag241 rfl (RdS.own (ad := a3) (us := (cntF 0 ct).flatMap encCn) pkk) (flat_cells encCn 2 (fun _ => rfl) hgj) (by exact sz241) (by simp)) ?_; refine Hd.alloc zr241 (fun b6 => ?_); refine Hd.storeA (us := encCn (cntF 0 ct)[j]) sz241 rfl rfl rfl (by simp [Value.oneCell']) pkk (by exact rfl) ?_; refine fk [(0,_),(3,_),(6,_),(14,_),(15,_),(16,_)] K10 ?_; refine Hd.tail 6 mixed kq ?_; simp only [List.take, List.drop]; refine Ht.yv y_mv ?_; refine Ht.yv (y_f 0 3 Tryz.underlying241 sz3) ?_; refine Ht.yv (y_to (v' := .int .i64 (s : Int)) (y_l1 ag3 rfl) (by rw [hs2])) ?_; refine Ht.yv y_np ?_; refine Ht.yv (y_f 32 131 Tryz.underlying265 sz131) ?_; refine Ht.yv (y_idxA Tryz.underlying131 sz3 rfl rfl (by omega)) ?_; refine Ht.nil ?_; refine Hd.store1 sz3 rfl rfl rfl pkk (by rw [sg_len hl (by rw [zerF_len]; exact hcl)]; omega) ?_
   try simp only [hyS]
   refine Hd.nil ?_
   rw [show (hd.map Value.bool ++ (zerF ct ((cntF 0 ct).take j)).map (Value.int .i64)).set (0 + 32 + s * 1) (.int .i64 0) = SgV hd (zerF ct ((cntF 0 ct).take (j + 1))) from by
    rw [hsc, zerF_snoc, show (cntF 0 ct)[j].1.toNat = s by rw [hs2]; exact Int.toNat_natCast s]
    exact sg_set_ct hl hsl (by omega)]
   refine slots [(0,_),(3,_),(14,_),(15,_),(16,_)] sbq ?_; refine Hd.inB <| Hd.toK K9 ?_; refine Hd.region <| yv (y_addn rfl rfl (by simp only [InK]; omega)) ?_; refine yv y_mv <| Hd.nil <| slots [(0,_),(3,_),(14,_),(15,_),(16,_)] sbq ?_; refine thenN ?_; exact Hd.again (j + 1) (by omega) sbq (Ent.sep (.pure (by omega) enn))
  obtain rfl : j = (cntF 0 ct).length := by omega
  rw [List.take_length, zerF_all]; refine Hd.exit <| Hd.thenExit <| Hd.thenExit <| Hd.inBexit <| Hd.toK K5 ?_; refine sr fun _ K11 => ?_
  refine yv (y_l1 ag238 rfl) <| yv y_as <| fk [(2,_)] K11 ?_; refine Hd.ret ?_; exact Hd.retM (fun a fr => Lv.mark pkk (Lv.end1 fr rfl (a3, c3) rfl sq))
 rintro r0_0 (_ | id0) pre0 hG0
 ·exact Hd.absurd (by exact id)
 exact Hd.absurd (by exact id)
theorem plc_o {o : Option (Nat × Nat)} : plc o = [.bool o.isSome, .int .i64 (match o with | none => 0 | some p => (p.1 : Int)), .int .i64 (match o with | none => 0 | some p => (p.2 : Int))] := by
 cases o with
 | none => rfl
 | some p => rfl
theorem woT_nt {t : Int → Option (Nat × Nat)} {w : WA} {n j o : Nat} {i : WoI} {v : Value} (ho : o = 291 + j) (hv : (plc w.nt)[j]? = some v) : (fdC t ++ woT w n i)[o]? = some v := by
 refine woT_at (j := 3 + j) (by omega) ?_
 show ([.slice i.wa n i.wc, ptr (some i.sb), .int .u64 w.now] ++ plc w.nt)[3 + j]? = _
 rw [List.getElem?_append_right (by simp), show 3 + j - List.length ([.slice i.wa n i.wc, ptr (some i.sb), .int .u64 w.now] : List Value) = j by simp]; exact hv
theorem wire_ring_same {b : Nat} {x : WireA} {i : WI} {k rb : Nat} {L : List SP} (hi : WIOk x i) (hk : k < 2) (hrb : i.p k = some rb) : ∀ h, sep (WireH b x i :: Rg rb x.cap (x.e k).b :: RgO (i.p (1 - k)) x.cap (x.e (1 - k)).b :: own 3 1 i.wa x.wt.length i.wc (nats x.wt) :: L) h → sep (WireP b x :: L) h := fun h s => by
 have := wire_ring (l' := (x.e k).b) hi hk hrb h s
 rwa [show (x.up k fun e => { e with b := (x.e k).b }) = x from up_id rfl] at this
theorem noticed_ct (L : List SP) (wb : Nat) (w : WA) (hb : ∀ c ∈ w.ct, 0 ≤ c ∧ c ≤ 2000000000) : Ct Tryz.prog 181 #[.pointer (some ⟨wb, 0, none⟩)] (WorldP wb w :: L) (fun _ : Unit => .tuple #[]) (fun _ : Unit => WorldP wb (ntcR w) :: L) := by
 refine Ct.o1 Tryz.func181 ?_; intro E
 show Hd E 57 _ _ _ _
 refine Hd.world .here (fun i hw hrs => ?_); refine Hd.seq fun _ K1 => ?_
 refine sr fun _ K2 => ?_
 refine yv y_mv <| yv y_np <| yv (y_f 291 190 Tryz.underlying210 sz190) <| yv (y_f 0 4 Tryz.underlying190 sz4) <| yv (y_load1 (v := .bool w.nt.isSome) ag4 rfl (Rd.pt1 pkk (woT_nt (j := 0) (by omega) (by rw [plc_o]; rfl)))) ?_; refine yv (y_not rfl) <| fk [(0,_),(10,_)] K2 ?_; refine qz ?_ ?_ <;> intro hc0 <;> try simp only [hyZ] at hc0
 ·refine Hd.ret ?_
  refine Hd.thenRet ?_
  have hn : w.nt = none := by cases h : w.nt with | none => rfl | some p => rw [h] at hc0; cases hc0
  rw [show ntcR w = w by unfold ntcR; rw [hn]]; exact Hd.ret0 rfl () rfl (Ent.sep (.ex i (.pure ⟨hw, hrs⟩ enn)))
 obtain ⟨n, k, hnt⟩ : ∃ n k, w.nt = some (n, k) := by cases h : w.nt with | none => rw [h] at hc0; cases hc0 | some p => exact ⟨p.1, p.2, rfl⟩
 obtain ⟨hk, x, hx, z0, z1⟩ := hw.nt n k hnt
 obtain ⟨b, hb'⟩ := rs_at hrs hx
 have hwf := hw.wf x (List.mem_of_getElem? hx)
 have hnl : n < i.rs.length := (List.getElem?_eq_some_iff.1 hb').1
 have hk1 : 1 - k < 2 := by omega
 have hrd : ∀ j, j < 2 → (x.e j).rd = true := fun j hj => by
  rcases (show j = 0 ∨ j = 1 by omega) with rfl | rfl
  ·exact z0
  ·exact z1
 have hsum : (w.ct.drop 1).sum = pendN w := rfl
 have hR : ntcR w = if pendN w = 0 then w.setW n (takeW x k (x.e k).b.length) else if (x.e k).b = [] then w.setW n (putW x (1 - k) [1]) else w := by
  unfold ntcR; rw [hnt]; dsimp only; rw [hx]
 refine qv K1 <| Hd.seq fun _ K3 => ?_
 refine Hd.quiet mixed kq ?_; refine Hq.yv y_mv ?_; refine Hq.yv y_np ?_; refine Hq.yv (y_f 288 208 Tryz.underlying210 sz208) ?_; refine Hq.yv (y_load1 ag208 rfl (Rd.pt1 pkk (by exact woT_at (j := 0) (by omega) rfl))) ?_; refine Hq.yv y_mv ?_; refine Hq.yv y_np ?_; refine Hq.yv (y_f 291 190 Tryz.underlying210 sz190) ?_; refine Hq.yv (y_f 1 3 Tryz.underlying190 sz3) ?_; refine Hq.yv (y_load1 ag3 rfl (Rd.pt1 pkk (by exact woT_nt (j := 1) (by omega) (by rw [hnt]; rfl)))) ?_; refine Hq.yv (y_idxR Tryz.underlying208 sz191 rfl rfl (by omega) (by exact RdS.own pkk)) ?_; refine Hq.yv (y_loadR1 ag191 rfl (by exact RdS.own pkk) (by exact pws_at hb')) ?_; refine Hq.yv y_mv ?_; refine Hq.yv y_np ?_; refine Hq.yv (y_f 291 190 Tryz.underlying210 sz190) ?_; refine Hq.yv (y_f 2 3 Tryz.underlying190 sz3) ?_; refine Hq.yv (y_load1 ag3 rfl (Rd.pt1 pkk (by exact woT_nt (j := 2) (by omega) (by rw [hnt]; rfl)))) ?_
 refine Hq.yv y_as ?_; refine Hq.yv y_as ?_; refine Hq.nil ?_; refine sk [(0,_),(2,_),(3,_)] K3 ?_; refine Hd.seq fun _ K4 => ?_
 refine Hd.wOut pkk hb' ?_; refine Hd.wireR .here k hk (hrd k hk) (fun i2 rb hi hrb => ?_); refine Hd.region <| yv y_mv <| yv y_mv <| yv y_np <| yv (y_f 0 197 Tryz.underlying199 sz197) <| yv (y_idxA Tryz.underlying197 sz196 rfl rfl (by omega)) ?_; refine yv (y_f 2 194 Tryz.underlying196 sz194) <| yv (y_to (v' := .pointer (some ⟨rb, 0, none⟩)) (y_load1 ag194 rfl (Rd.pt1 pkk (by exact enc_at 2 hk (by omega) (by omega) rfl))) (by (show ptr (i2.p k) = _; rw [hrb]; rfl))) ?_; refine yv y_as <| fk [(0,_),(2,_),(3,_),(4,_)] K4 ?_; refine Hd.block <| sr fun _ K5 => ?_
 refine yv y_mv <| yv y_np <| yv (y_f 289 205 Tryz.underlying210 sz205) <| yv (y_load1 ag205 rfl (Rd.pt1 pkk (by exact woT_at (j := 1) (by omega) rfl))) ?_; refine callE rfl fk198 (pending_ct _ i.sb w.hd w.ct hw.hdl hw.ctl hb) sq ?_; intro _; refine yv (y_eql rfl rfl) ?_; refine yv y_as <| fk [(2,_),(3,_),(4,_),(34,_)] K5 ?_; refine qz ?_ ?_ <;> intro hc1 <;> try simp only [hyZ] at hc1
 ·rw [if_pos (show pendN w = 0 from hc1)] at hR
  refine Hd.region <| yv y_mv <| yv y_mv <| yv (y_to (v' := .int .i64 ((1 - k : Nat) : Int)) (y_subn rfl rfl (by simp only [InK]; omega)) (by (congr 1; omega))) ?_; refine yv y_mv <| callE rfl fk178 (rclear_ct _ rb x.cap (x.e k).b) sq ?_; intro _; refine Hd.heap (WireP b (x.up k fun e => { e with b := [] }) :: WoR wb n w i L) (fun q s => wire_ring (l' := []) hi hk hrb q (Ent.sep enn q s)) ?_; refine yv (y_to (v' := .bool (decide (0 < ((x.e k).b.take (x.e k).b.length).length))) (y_gtr rfl rfl) (by (congr 1; rw [List.take_length]; simp only [decide_eq_decide]; omega))) ?_; refine callE rfl fk173 (came_ct _ b (x.up k fun e => { e with b := [] }) (1 - k) hk1 false (decide (0 < ((x.e k).b.take (x.e k).b.length).length))) sq ?_; intro _; refine Hd.nil <| slots [] sbq ?_; refine Hd.inB ?_
  have e : (x.up k fun e => { e with b := [] }).up (1 - k) (riseE false (decide (0 < ((x.e k).b.take (x.e k).b.length).length))) = takeW x k (x.e k).b.length := by
   unfold takeW
   congr 1
   exact up_eq (by rw [List.drop_length])
  rw [hR, e]; exact Hd.end0 rfl () rfl (fun q s => world_fold' hw hrs hb' (smW_take hwf hk (hrd k hk)) q (Ent.sep enn q s))
 rw [if_neg (show ¬ pendN w = 0 from hc1)] at hR; refine sr fun _ K6 => ?_
 refine yv y_mv <| callE rfl fk102 (rlen_ct _ rb x.cap (x.e k).b) sq ?_; intro _; refine yv (y_eql rfl rfl) ?_; refine yv y_as <| fk [(2,_),(3,_),(48,_)] K6 ?_; refine qz ?_ ?_ <;> intro hc2 <;> try simp only [hyZ] at hc2
 ·have hnil : (x.e k).b = [] := List.eq_nil_of_length_eq_zero (by omega)
  rw [if_pos hnil] at hR; refine Hd.region <| yv y_mv <| yv y_mv <| yv (y_to (v' := .int .i64 ((1 - k : Nat) : Int)) (y_subn rfl rfl (by simp only [InK]; omega)) (by (congr 1; omega))) ?_; refine Hd.bslice (vs := [(0,_)]) rfl (by exact bs181_55 ..) (fun b55 => ?_); refine Hd.heap (WireP b x :: pt b55 [.int .u8 1] 5 :: WoR wb n w i L) (fun q s => wire_ring_same hi hk hrb q (Ent.sep enn q s)) ?_; refine callE rfl fk112 (put_ct _ b x (1 - k) hk1 (hrd (1 - (1 - k)) (by omega)) (some ⟨b55, 0, none⟩) 1 1 [1] rfl ?hD (by omega) (by omega)) sq ?_
  case hD => exact RdS.rd (Rd.pt pkk (fun j v e => by rw [Nat.zero_add]; exact e)) rfl
  intro _; refine Hd.nil <| slots [] sbq ?_; refine Hd.inB ?_; rw [hR]; exact Hd.end0 rfl () rfl (fun q s => world_fold' hw hrs hb' (smW_put hwf hk1 [1] (hrd (1 - (1 - k)) (by omega))) q (Ent.sep enn q s))
 rw [if_neg (fun h => hc2 (by rw [h]; rfl))] at hR; refine Hd.skip <| Hd.inB ?_; rw [hR]; exact Hd.end0 rfl () rfl (fun q s => world_same hw hrs hb' q (wire_ring_same hi hk hrb q (Ent.sep enn q s)))
theorem world_ct {wb : Nat} {w : WA} {i : WoI} {hd : List Bool} {ct : List Int} {L : List SP} (hw : WOk w) (hrs : i.rs.map Prod.snd = w.ws) (h1 : hd.length = 32) (h2 : ct.length = 32) :
  ∀ h, sep (SigP i.sb hd ct :: WoH wb w.at w i.rs.length i :: own 191 1 i.wa i.rs.length i.wc (pws i.rs) :: Wires i.rs :: L) h → sep (WorldP wb { w with hd := hd, ct := ct } :: L) h := fun h s => by
 refine Ent.sep (.ex i (.pure ⟨ct_ok hw h1 h2, hrs⟩ ?_)) h s
 show Ent _ (WoH wb w.at w i.rs.length i :: own 191 1 i.wa i.rs.length i.wc (pws i.rs) :: Wires i.rs :: SigP i.sb hd ct :: L)
 exact enn
theorem whandle_ct (L : List SP) (wb : Nat) (w : WA) (hb : ∀ c ∈ w.ct, 0 ≤ c ∧ c ≤ 2000000000) (s : Int) (on : Bool) : Ct Tryz.prog 137 #[.pointer (some ⟨wb, 0, none⟩), .int .i64 s, .bool on] (WorldP wb w :: L) (fun _ : Unit => .int .i64 (hanR w s on).1) (fun _ : Unit => WorldP wb (hanR w s on).2 :: L) := by
 refine Ct.o3 Tryz.func137 ?_; intro E
 show Hd E 20 _ _ _ _
 refine Hd.world .here (fun i hw hrs => ?_); refine sr fun _ K1 => ?_
 refine yv y_as <| fk [(0,_),(1,_),(2,_)] K1 ?_; refine Hd.seq fun _ K2 => ?_
 refine sr fun _ K3 => ?_
 refine yv y_mv <| callE rfl fk113 (wnone_ct _ wb w.at w i.rs.length i) sq ?_; intro _; refine fk [(0,_),(1,_),(2,_),(9,_)] K3 ?_; refine Hd.condF rfl ?_; refine qv K2 <| sr fun _ K4 => ?_
 refine yv y_mv <| yv y_np <| yv (y_f 289 205 Tryz.underlying210 sz205) <| yv (y_load1 ag205 rfl (Rd.pt1 pkk (by exact woT_at (j := 1) (by omega) rfl))) ?_; refine yv y_mv <| yv y_mv <| callE rfl fk180 (shandle_ct _ i.sb w.hd w.ct hw.hdl hw.ctl s on) sq ?_; intro _
 obtain ⟨hd', hhd⟩ : ∃ z, z = if mayE s = 0 then w.hd.set s.toNat on else w.hd := ⟨_, rfl⟩
 obtain ⟨ct', hct⟩ : ∃ z, z = if mayE s = 0 ∧ on = false then w.ct.set s.toNat 0 else w.ct := ⟨_, rfl⟩
 rw [← hhd, ← hct]
 have hb' : ∀ c ∈ ct', 0 ≤ c ∧ c ≤ 2000000000 := fun c hc => by
  rw [hct] at hc
  split at hc
  ·rcases List.mem_or_eq_of_mem_set hc with h | rfl
   ·exact hb c h
   ·decide
  ·exact hb c hc
 have hR : hanR w s on = (mayE s, ntcR { w with hd := hd', ct := ct' }) := by
  unfold hanR
  by_cases h : s < 1 ∨ 31 < s
  ·have h0 : mayE s = 100 := if_neg (by omega)
   rw [if_pos h, hhd, hct, h0, if_neg (by decide), if_neg (fun h => absurd h.1 (by decide))]
  ·have h0 : mayE s = 0 := if_pos (by omega)
   rw [if_neg h, hhd, hct, h0, if_pos rfl]
   cases on with
   | true => rw [if_pos rfl, if_neg (by simp)]
   | false => rw [if_neg (by simp), if_pos ⟨rfl, rfl⟩]
 refine Hd.heap (WorldP wb { w with hd := hd', ct := ct' } :: L) (fun q t => world_ct hw hrs (by rw [hhd]; split; rw [List.length_set]; exact hw.hdl; exact hw.hdl) (by rw [hct]; split; rw [List.length_set]; exact hw.ctl; exact hw.ctl) q (Ent.sep enn q t)) ?_; refine yv y_as <| fk [(0,_),(7,_)] K4 ?_; refine sr fun _ K5 => ?_
 refine yv y_mv <| callE rfl fk181 (noticed_ct _ wb { w with hd := hd', ct := ct' } hb') sq ?_; intro _; refine fk [(7,_)] K5 ?_; refine sr fun _ K6 => ?_
 refine yv y_mv <| yv y_as <| fk [(6,_)] K6 ?_; refine Hd.ret ?_; rw [hR]; exact Hd.ret1 rfl () rfl sq
theorem wraise_ct (L : List SP) (wb : Nat) (w : WA) (hb : ∀ c ∈ w.ct, 0 ≤ c ∧ c ≤ 1000000000) (s : Int) : Ct Tryz.prog 139 #[.pointer (some ⟨wb, 0, none⟩), .int .i64 s] (WorldP wb w :: L) (fun _ : Unit => .int .i64 (raiR w s).1) (fun _ : Unit => WorldP wb (raiR w s).2 :: L) := by
 refine Ct.o2 Tryz.func139 ?_; intro E
 show Hd E 17 _ _ _ _
 refine Hd.world .here (fun i hw hrs => ?_); refine sr fun _ K1 => ?_
 refine yv y_as <| fk [(0,_),(1,_)] K1 ?_; refine Hd.seq fun _ K2 => ?_
 refine sr fun _ K3 => ?_
 refine yv y_mv <| callE rfl fk113 (wnone_ct _ wb w.at w i.rs.length i) sq ?_; intro _; refine fk [(0,_),(1,_),(7,_)] K3 ?_; refine Hd.condF rfl ?_; refine qv K2 <| sr fun _ K4 => ?_
 refine yv y_mv <| yv y_np <| yv (y_f 289 205 Tryz.underlying210 sz205) <| yv (y_load1 ag205 rfl (Rd.pt1 pkk (by exact woT_at (j := 1) (by omega) rfl))) ?_; refine yv y_mv <| callE rfl fk183 (sraise_ct _ i.sb w.hd w.ct hw.hdl hw.ctl (fun c hc => by have := hb c hc; omega) s) sq ?_; intro _
 obtain ⟨ct', hct⟩ : ∃ z, z = if mayE s = 0 ∧ w.hd.getD s.toNat false = true then w.ct.set s.toNat (w.ct.getD s.toNat 0 + 1) else w.ct := ⟨_, rfl⟩
 rw [← hct]
 have hb' : ∀ c ∈ ct', 0 ≤ c ∧ c ≤ 2000000000 := fun c hc => by
  rw [hct] at hc
  split at hc
  ·rename_i hm
   rcases List.mem_or_eq_of_mem_set hc with h | rfl
   ·have := hb c h; omega
   ·obtain ⟨k, rfl, hk1, hk⟩ := sig_open hm.1
    obtain ⟨v, hv⟩ : ∃ v, w.ct[k]? = some v := ⟨_, List.getElem?_eq_getElem (by rw [hw.ctl]; omega)⟩
    rw [Int.toNat_natCast, List.getD_eq_getElem?_getD, hv]
    have := hb v (List.mem_of_getElem? hv)
    show 0 ≤ v + 1 ∧ v + 1 ≤ 2000000000
    omega
  ·have := hb c hc; omega
 have hR : raiR w s = (mayE s, ntcR { w with hd := w.hd, ct := ct' }) := by
  unfold raiR
  by_cases h : s < 1 ∨ 31 < s
  ·have h0 : mayE s = 100 := if_neg (by omega)
   rw [if_pos h, hct, h0, if_neg (fun h => absurd h.1 (by decide))]
  ·have h0 : mayE s = 0 := if_pos (by omega)
   rw [if_neg h, hct, h0]
   by_cases hh : w.hd.getD s.toNat false = true
   ·rw [if_pos hh, if_pos ⟨rfl, hh⟩]
   ·rw [if_neg hh, if_neg (fun h => hh h.2)]
 refine Hd.heap (WorldP wb { w with hd := w.hd, ct := ct' } :: L) (fun q t => world_ct hw hrs hw.hdl (by rw [hct]; split; rw [List.length_set]; exact hw.ctl; exact hw.ctl) q (Ent.sep enn q t)) ?_; refine yv y_as <| fk [(0,_),(5,_)] K4 ?_; refine sr fun _ K5 => ?_
 refine yv y_mv <| callE rfl fk181 (noticed_ct _ wb { w with hd := w.hd, ct := ct' } hb') sq ?_; intro _; refine fk [(5,_)] K5 ?_; refine sr fun _ K6 => ?_
 refine yv y_mv <| yv y_as <| fk [(4,_)] K6 ?_; refine Hd.ret ?_; rw [hR]; exact Hd.ret1 rfl () rfl sq
theorem zer1_len (l : List Int) : (zer1 l).length = l.length := by cases l <;> simp [zer1]
theorem zer1_mem {l : List Int} {c : Int} (h : c ∈ zer1 l) : c ∈ l ∨ c = 0 := by
 cases l with
 | nil => cases h
 | cons a t =>
  rcases List.mem_cons.1 h with rfl | h
  ·exact .inl List.mem_cons_self
  ·obtain ⟨_, _, rfl⟩ := List.mem_map.1 h; exact .inr rfl
theorem sigR_eq (w : WA) : sigR w = (cntF 0 w.ct, ntcR { w with hd := w.hd, ct := zer1 w.ct }) := by
 unfold sigR zer1
 cases w.ct <;> rfl
theorem wsignals_ct (L : List SP) (wb : Nat) (w : WA) (hb : ∀ c ∈ w.ct, 0 ≤ c ∧ c ≤ 2000000000) : Ct Tryz.prog 141 #[.pointer (some ⟨wb, 0, none⟩)] (WorldP wb w :: L) (fun q_ : Option Addr × Nat => .slice q_.1 (sigR w).1.length q_.2) (fun q_ : Option Addr × Nat => own 241 2 q_.1 (sigR w).1.length q_.2 ((sigR w).1.flatMap encCn) :: WorldP wb (sigR w).2 :: L) := by
 refine Ct.o1 Tryz.func141 ?_; intro E
 show Hd E 14 _ _ _ _
 refine Hd.world .here (fun i hw hrs => ?_); refine sr fun _ K1 => ?_
 refine yv y_as <| fk [(0,_)] K1 ?_; refine Hd.seq fun _ K2 => ?_
 refine sr fun _ K3 => ?_
 refine yv y_mv <| callE rfl fk113 (wnone_ct _ wb w.at w i.rs.length i) sq ?_; intro _; refine fk [(0,_),(5,_)] K3 ?_; refine Hd.condF rfl ?_; refine qv K2 <| sr fun _ K4 => ?_
 refine yv y_mv <| yv y_np <| yv (y_f 289 205 Tryz.underlying210 sz205) <| yv (y_load1 ag205 rfl (Rd.pt1 pkk (by exact woT_at (j := 1) (by omega) rfl))) ?_; refine callE rfl fk184 (stake_ct _ i.sb w.hd w.ct hw.hdl hw.ctl) sq ?_; rintro ⟨ad, c⟩; dsimp only; refine Hd.heap (WorldP wb { w with hd := w.hd, ct := zer1 w.ct } :: own 241 2 ad (cntF 0 w.ct).length c ((cntF 0 w.ct).flatMap encCn) :: L) (fun q t => world_ct hw hrs hw.hdl (by rw [zer1_len]; exact hw.ctl) q (Ent.sep enn q t)) ?_; refine yv y_as <| fk [(0,_),(3,_)] K4 ?_; refine sr fun _ K5 => ?_
 refine yv y_mv <| callE rfl fk181 (noticed_ct _ wb { w with hd := w.hd, ct := zer1 w.ct } (fun c hc => by rcases zer1_mem hc with h | rfl; exact hb c h; decide)) sq ?_; intro _; refine fk [(3,_)] K5 ?_; refine sr fun _ K6 => ?_
 refine yv y_mv <| yv y_as <| fk [(2,_)] K6 ?_; refine Hd.ret ?_; rw [sigR_eq]; exact Hd.ret1 rfl (ad, c) rfl sq
theorem not_yes {w : WA} {n k m j : Nat} {x : WireA} {a b : Int} (ha : w.at a = some (n, k)) (hb : w.at b = some (m, j)) (hx : w.ws[n]? = some x) : notR w a b = if n ≠ m ∨ k = j ∨ (x.e 0).rd = false ∨ (x.e 1).rd = false then (111, w) else (0, ntcR { w with nt := some (n, k) }) := by
 unfold notR; rw [ha, hb]; dsimp only; rw [hx]
theorem world_nt {wb n k : Nat} {w : WA} {i : WoI} {cs : List Value} {L : List SP} (hok : WOk { w with nt := some (n, k) }) (hrs : i.rs.map Prod.snd = w.ws) (hcs : cs = fdC w.at ++ woT { w with nt := some (n, k) } i.rs.length i) :
  ∀ h, sep (pt wb cs 210 :: own 191 1 i.wa i.rs.length i.wc (pws i.rs) :: Wires i.rs :: SigP i.sb w.hd w.ct :: L) h → sep (WorldP wb { w with nt := some (n, k) } :: L) h := fun h s => by
 subst hcs; exact Ent.sep (.ex i (.pure ⟨hok, hrs⟩ enn)) h s
theorem nt_set {t : Int → Option (Nat × Nat)} {w : WA} {m n k : Nat} {i : WoI} : (fdC t ++ woT w m i).take (0 + 291) ++ plc (some (n, k)) ++ (fdC t ++ woT w m i).drop (0 + 291 + (plc (some (n, k))).length) = fdC t ++ woT { w with nt := some (n, k) } m i := by
 have h3 : (plc (some (n, k))).length = 3 := rfl
 rw [h3, List.take_append, List.drop_append, fdC_len, List.take_of_length_le (by rw [fdC_len]; omega), List.drop_of_length_le (l := fdC t) (by rw [fdC_len]; omega), List.nil_append]; unfold woT; rw [plc_o (o := w.nt)]; simp
theorem woT_len (w : WA) (n : Nat) (i : WoI) : (woT w n i).length = 6 := by
 unfold woT; rw [List.length_append, plc_len]; rfl
theorem wnotice_ct (L : List SP) (wb : Nat) (w : WA) (hb : ∀ c ∈ w.ct, 0 ≤ c ∧ c ≤ 2000000000) (fa fb : Int) : Ct Tryz.prog 143 #[.pointer (some ⟨wb, 0, none⟩), .int .i64 fa, .int .i64 fb] (WorldP wb w :: L) (fun _ : Unit => .int .i64 (notR w fa fb).1) (fun _ : Unit => WorldP wb (notR w fa fb).2 :: L) := by
 refine Ct.o3 Tryz.func143 ?_; intro E
 show Hd E 72 _ _ _ _
 refine Hd.world .here (fun i hw hrs => ?_); refine sr fun _ K1 => ?_
 refine yv y_as <| fk [(0,_),(1,_),(2,_)] K1 ?_; refine sr fun _ K2 => ?_
 refine yv y_mv <| yv y_mv <| callE rfl fk101 (find_ct _ wb w i hw hrs fa) sq ?_; intro _; refine yv y_mv <| yv y_ex <| yv y_ex <| yv y_ex <| Hd.alloc zr190 (fun b7 => ?_); refine Hd.storeA (us := plc (w.at fa)) (by rw [plc_len]; exact sz190) rfl rfl rfl (plc_one _) pkk (by rw [plc_len]; rfl) ?_; refine yv (y_to (v' := ptr (wfb i (w.at fa))) y_as (by rfl)) ?_; refine yv (y_to (v' := .int .i64 (fdErr (w.at fa))) y_as (by rfl)) ?_; refine fk [(0,_),(2,_),(7,_),(8,_),(9,_)] K2 ?_; refine sr fun _ K3 => ?_
 refine yv y_mv <| yv y_mv <| callE rfl fk101 (find_ct _ wb w i hw hrs fb) sq ?_; intro _; refine yv y_mv <| yv y_ex <| yv y_ex <| yv y_ex <| Hd.alloc zr190 (fun b10 => ?_); refine Hd.storeA (us := plc (w.at fb)) (by rw [plc_len]; exact sz190) rfl rfl rfl (plc_one _) pkk (by rw [plc_len]; rfl) ?_; refine yv y_as <| yv (y_to (v' := .int .i64 (fdErr (w.at fb))) y_as (by rfl)) ?_; refine fk [(0,_),(7,_),(8,_),(9,_),(10,_),(12,_)] K3 ?_; refine Hd.seq fun _ K4 => ?_
 refine Hd.block <| sr fun _ K5 => ?_
 refine yv y_mv <| yv (y_neq rfl rfl) ?_; refine yv y_as <| fk [(0,_),(7,_),(8,_),(9,_),(10,_),(12,_),(27,_)] K5 ?_; refine qz ?_ ?_ <;> intro hc0 <;> try simp only [hyZ] at hc0
 ·have hno : w.at fa = none := by
   cases h : w.at fa with
   | none => rfl
   | some p => rw [h] at hc0; exact absurd rfl hc0
  refine sr fun _ K6 => ?_
  refine yv y_mv <| yv y_as <| fk [(6,_)] K6 ?_; refine Hd.ret <| Hd.inBret <| Hd.thenRet ?_; rw [show notR w fa fb = (110, w) by unfold notR; rw [hno]]; exact Hd.ret1 rfl () (by rw [hno]; rfl) (Ent.sep (.ex i (.pure ⟨hw, hrs⟩ enn)))
 obtain ⟨n, k, hnk⟩ : ∃ m k, w.at fa = some (m, k) := by
  cases h : w.at fa with
  | none => rw [h] at hc0; exact absurd hc0 (by decide)
  | some p => exact ⟨p.1, p.2, rfl⟩
 refine sr fun _ K7 => ?_
 refine yv y_mv <| yv (y_neq rfl rfl) ?_; refine yv y_as <| fk [(0,_),(7,_),(8,_),(10,_),(12,_),(31,_)] K7 ?_; refine qz ?_ ?_ <;> intro hc1 <;> try simp only [hyZ] at hc1
 ·have hno : w.at fb = none := by
   cases h : w.at fb with
   | none => rfl
   | some p => rw [h] at hc1; exact absurd rfl hc1
  refine sr fun _ K8 => ?_
  refine yv y_mv <| yv y_as <| fk [(6,_)] K8 ?_; refine Hd.ret <| Hd.inBret <| Hd.thenRet ?_; rw [show notR w fa fb = (110, w) by unfold notR; rw [hno, hnk]]; exact Hd.ret1 rfl () (by rw [hno]; rfl) (Ent.sep (.ex i (.pure ⟨hw, hrs⟩ enn)))
 obtain ⟨m, j, hmj⟩ : ∃ m k, w.at fb = some (m, k) := by
  cases h : w.at fb with
  | none => rw [h] at hc1; exact absurd hc1 (by decide)
  | some p => exact ⟨p.1, p.2, rfl⟩
 obtain ⟨hf0, hf1, hk, hn, x, hx, _, _⟩ := hw.at_lt hnk
 obtain ⟨b, hb'⟩ := rs_at hrs hx
 have hwf := hw.wf x (List.mem_of_getElem? hx)
 have hR := not_yes hnk hmj hx
 have hnl : n < i.rs.length := (List.getElem?_eq_some_iff.1 hb').1
 rw [hnk, hmj, wfb_eq hb']; refine Hd.wOut pkk hb' ?_; refine Hd.wire .here 0 (by omega) (fun i2 hi => ?_)
 have hp0 := hi.rd 0 (by omega)
 have hp1 := hi.rd 1 (by omega)
 refine sr fun _ K9 => ?_
 refine yv (y_f 1 3 Tryz.underlying190 sz3) <| yv (y_l1 ag3 rfl) <| yv (y_f 1 3 Tryz.underlying190 sz3) <| yv (y_l1 ag3 rfl) <| yv (y_neq rfl rfl) ?_; refine yv y_mv ?_; apply Hd.org 6 41 47 [(0,_),(7,_),(8,_)] rfl sbq
 ·intro hg7_41
  try simp only [hyZ] at hg7_41
  simp only [List.take]; refine n1 <| n1 <| n1 <| n1 <| n1 <| yv (y_pickT rfl rfl) ?_; exact Hd.mn
 ·intro hg7_41
  try simp only [hyZ] at hg7_41
  simp only [List.take]; refine y2 (y_f 2 3 Tryz.underlying190 sz3) <| y2 (y_l1 ag3 rfl) <| y2 (y_f 2 3 Tryz.underlying190 sz3) <| y2 (y_l1 ag3 rfl) <| y2 (y_eql rfl rfl) ?_; refine yv (y_pickF rfl rfl) ?_; exact Hd.mn
 simp only [List.drop]; refine yv y_mv ?_; apply Hd.org 8 48 56 [(0,_),(7,_),(8,_)] rfl sbq
 ·intro hg7_48
  try simp only [hyZ] at hg7_48
  simp only [List.take]; refine n1 <| n1 <| n1 <| n1 <| n1 <| n1 <| n1 <| yv (y_pickT rfl rfl) ?_; exact Hd.mn
 ·intro hg7_48
  try simp only [hyZ] at hg7_48
  simp only [List.take]; refine y2 y_mv <| y2 y_np <| y2 (y_f 0 197 Tryz.underlying199 sz197) <| y2 (y_idxA Tryz.underlying197 sz196 rfl rfl (by decide)) ?_; refine y2 (y_f 2 194 Tryz.underlying196 sz194) <| y2 (y_l1 ag194 rfl) <| y2 (y_to (v' := .bool (!(x.e 0).rd)) (y_eql_pointer Tryz.underlying194 rfl rfl) (by (show Value.bool (Option.isNone _) = _; rw [ptr_no, hp0]))) ?_; refine yv (y_pickF rfl rfl) ?_; exact Hd.mn
 simp only [List.drop]; refine yv y_mv ?_; apply Hd.org 8 57 65 [(0,_),(7,_)] rfl sbq
 ·intro hg7_57
  try simp only [hyZ] at hg7_57
  simp only [List.take]; refine n1 <| n1 <| n1 <| n1 <| n1 <| n1 <| n1 <| yv (y_pickT rfl rfl) ?_; exact Hd.mn
 ·intro hg7_57
  try simp only [hyZ] at hg7_57
  simp only [List.take]; refine y2 y_mv <| y2 y_np <| y2 (y_f 0 197 Tryz.underlying199 sz197) <| y2 (y_idxA Tryz.underlying197 sz196 rfl rfl (by decide)) ?_; refine y2 (y_f 2 194 Tryz.underlying196 sz194) <| y2 (y_l1 ag194 rfl) <| y2 (y_to (v' := .bool (!(x.e 1).rd)) (y_eql_pointer Tryz.underlying194 rfl rfl) (by (show Value.bool (Option.isNone _) = _; rw [ptr_no, hp1]))) ?_; refine yv (y_pickF rfl rfl) ?_; exact Hd.mn
 simp only [List.drop]; refine yv y_as <| fk [(0,_),(7,_),(35,_)] K9 ?_; refine qz ?_ ?_ <;> intro hc2 <;> try simp only [hyZ] at hc2
 ·refine sr fun _ K10 => ?_
  refine yv y_as <| fk [(6,_)] K10 ?_; refine Hd.ret <| Hd.inBret <| Hd.thenRet ?_
  have h2 : n ≠ m ∨ k = j ∨ (x.e 0).rd = false ∨ (x.e 1).rd = false := by
   rcases hc2 with ((h | h) | h) | h
   ·exact .inl (fun e => h (by rw [e]))
   ·exact .inr (.inl (by omega))
   ·exact .inr (.inr (.inl h))
   ·exact .inr (.inr (.inr h))
  rw [hR, if_pos h2]; exact Hd.ret1 rfl () rfl (fun q s => world_back (k := 0) hw hrs hb' hi (by omega) q (Ent.sep enn q s))
 have h2 : ¬ (n ≠ m ∨ k = j ∨ (x.e 0).rd = false ∨ (x.e 1).rd = false) := by
  rintro (h | h | h | h)
  ·exact h (by omega)
  ·exact hc2.1.1.2 (by rw [h])
  ·rw [h] at hc2; cases hc2.1.2
  ·rw [h] at hc2; cases hc2.2
 have h0 : (x.e 0).rd = true := hc2.1.2
 have h1 : (x.e 1).rd = true := hc2.2
 have hok : WOk { w with nt := some (n, k) } := ⟨hw.uq, hw.fd, hw.len, hw.hdl, hw.ctl, hw.wf, hw.wn, hw.wm, fun a c e => by
  obtain ⟨rfl, rfl⟩ := Prod.mk.inj (Option.some.inj e)
  exact ⟨hk, x, hx, h0, h1⟩, hw.ns⟩
 rw [if_neg h2] at hR; refine Hd.skip <| Hd.inB <| Hd.toK K4 ?_; refine sr fun _ K11 => ?_
 refine yv y_mv <| yv (y_loadn (us := [_, _, _]) ag190 rfl (Rd.pt pkk (by (first | (intro j v e; rcases j with _|_|_|_|_|_|_|_|_|_|_|_|j <;> first | exact e | exact absurd e (by simp))))) (by exact sz190)) ?_; refine yv y_np <| yv (y_f 291 190 Tryz.underlying210 sz190) <| Hd.store (us := plc (some (n, k))) sz190 rfl rfl rfl (plc_one _) pkk (by rw [List.length_append, fdC_len, woT_len, plc_len]; decide) ?_; rw [nt_set]; refine Hd.nil ?_
 refine Hd.heap (WorldP wb { w with nt := some (n, k) } :: L) (fun q s => by
  have h1 : sep (WireP b x :: WoH wb w.at { w with nt := some (n, k) } i.rs.length i :: own 191 1 i.wa i.rs.length i.wc (pws i.rs) :: SigP i.sb w.hd w.ct :: Wires (i.rs.take n) :: Wires (i.rs.drop (n + 1)) :: L) q := Ent.sep (show Ent (WireL b x i2 0 (WoH wb w.at { w with nt := some (n, k) } i.rs.length i :: own 191 1 i.wa i.rs.length i.wc (pws i.rs) :: SigP i.sb w.hd w.ct :: Wires (i.rs.take n) :: Wires (i.rs.drop (n + 1)) :: L)) _ from .ex (i2, 0) (.pure ⟨hi, by omega⟩ enn)) q (Ent.sep enn q s)
  obtain ⟨hln, e⟩ := List.getElem?_eq_some_iff.1 hb'
  have h2 := ws_in (L := WoH wb w.at { w with nt := some (n, k) } i.rs.length i :: own 191 1 i.wa i.rs.length i.wc (pws i.rs) :: SigP i.sb w.hd w.ct :: L) hln (Ent.sep enn q h1)
  rw [← e, List.set_getElem_self] at h2
  exact world_nt hok hrs rfl q (Ent.sep enn q h2)) ?_
 refine sk [(0,_)] K11 ?_; refine sr fun _ K12 => ?_
 refine yv y_mv <| callE rfl fk181 (noticed_ct _ wb { w with nt := some (n, k) } hb) sq ?_; intro _; refine fk [] K12 ?_; refine sr fun _ K13 => ?_
 refine yv y_as <| fk [(6,_)] K13 ?_; refine Hd.ret ?_; rw [hR]; exact Hd.ret1 rfl () rfl sq
end Wo
end Go.Proofs.YtbfddabjbkohdaaGreat
namespace Go.Proofs.YtbfddabjbkohdaaGreat
open Go.RX Fx
namespace Kq
open Wo
def noK (f : Ky → Option KnA) (a : Ky) : NoA := (a.1, a.2, ((f a).getD zKn).flags, 0)
theorem noK_succ (f : Ky → Option KnA) {ks : List Ky} {i : Nat} (h : i < ks.length) : (ks.take (i + 1)).map (noK f) = (ks.take i).map (noK f) ++ [noK f ks[i]] := by
 rw [List.take_add_one, List.getElem?_eq_getElem h, List.map_append]; rfl
theorem knotes_ct (L : List SP) (qb wb mb : Nat) (f : Ky → Option KnA) (m : Nat) (hm : m ≤ 1000000) (w : WA) : Ct Tryz.prog 34 #[.pointer (some ⟨qb, 0, none⟩)] (KqB qb wb mb f m w L) (fun q_ : Option Addr × Nat × List Ky => .slice q_.1 q_.2.2.length q_.2.1) (fun q_ : Option Addr × Nat × List Ky => pu (AllK f m w q_.2.2) :: own 82 4 q_.1 q_.2.2.length q_.2.1 ((q_.2.2.map (noK f)).flatMap encNo) :: KqB qb wb mb f m w L) := by
 refine Ct.o1 Tryz.func34 ?_; intro E
 show Hd E 32 _ _ _ _
 refine sr fun _ K1 => ?_
 refine yv y_as <| fk [(0,_)] K1 ?_; refine Hd.seq fun _ K2 => ?_
 refine sr fun _ K3 => ?_
 refine yv y_mv <| callE rfl fk87 (knone_ct _ qb wb mb) sq ?_; intro _; refine fk [(0,_),(7,_)] K3 ?_; refine Hd.condF rfl ?_; refine qv K2 <| sr fun _ K4 => ?_
 refine yv y_as <| fk [(0,_),(3,_)] K4 ?_; refine Hd.seq fun _ K5 => ?_
 refine sr fun _ K6 => ?_
 refine yv y_mv <| callE rfl fk93 (kkeys_ct _ qb wb mb f m hm w) sq ?_; rintro ⟨ka, kc, ks⟩; dsimp only; refine Hd.pure (fun hA => ?_); refine yv (y_len Tryz.underlying178 rfl) ?_; refine yv y_mv <| fk [(0,_),(3,_),(9,_),(10,_),(11,_)] K6 ?_; refine Hd.block <| Hd.loopK (ι := Nat × Option Addr × Nat) [(0,_),(9,_),(10,_)] (fun q_ => [(3, .slice q_.2.1 q_.1 q_.2.2), (11, .int .i64 (q_.1 : Int))]) (fun q_ => pu (q_.1 ≤ ks.length) :: own 82 4 q_.2.1 q_.1 q_.2.2 (((ks.take q_.1).map (noK f)).flatMap encNo) :: OwK ka ks.length kc ks :: KqB qb wb mb f m w L) (fun q_ => ks.length - q_.1) (0, none, 0) sbq sbq (fun q t => Ent.sep (.pure (Nat.zero_le _) (.ownNil .same)) q t) ?_; rintro ⟨i, ad, c⟩
 try dsimp only
 refine Hd.pure (fun hp0 => ?_)
 try dsimp only at hp0
 refine sr fun _ K7 => ?_
 refine yv (y_lss rfl rfl) ?_; refine fk [(0,_),(3,_),(9,_),(10,_),(11,_),(12,_)] K7 ?_; refine Hd.seq fun _ K8 => ?_
 refine qz ?_ ?_ <;> intro hc1 <;> try simp only [hyZ] at hc1
 ·have hi : i < ks.length := by omega
  have hgi : ks[i]? = some ks[i] := List.getElem?_eq_getElem hi
  have hkl := hA.len
  have hsc := noK_succ f hi
  refine qv K8 <| Hd.seq fun _ K9 => ?_
  refine Hd.block <| sr fun _ K10 => ?_
  refine yv (y_idxR Tryz.underlying178 sz170 rfl rfl (by omega) (by exact RdS.own pkk)) ?_; refine yv (y_loadRn (vs := encKy ks[i]) ag170 rfl (RdS.own (ad := ka) (us := ks.flatMap encKy) pkk) (flat_cells encKy 2 (fun _ => rfl) hgi) (by exact sz170) (by simp)) ?_; refine Hd.alloc zr170 (fun b5 => ?_); refine Hd.storeA (us := encKy ks[i]) sz170 rfl rfl rfl (encKy_one _) pkk (by exact rfl) ?_; refine fk [(0,_),(3,_),(5,_),(9,_),(10,_),(11,_)] K10 ?_; refine Hd.draws mixed ?_; simp only [List.length, Nat.zero_add, Nat.reduceAdd]; refine Hd.take 0 rfl kq kq kq (fun _ => y_move rfl) fq ?_; refine Hd.take 1 rfl kq kq kq (fun _ => y_field' (q := 0) (ft := 3) Tryz.underlying170 rfl sz3 rfl rfl) fq ?_; refine Hd.take 3 rfl kq kq kq (fun _ => y_field' (q := 1) (ft := 3) Tryz.underlying170 rfl sz3 rfl rfl) fq ?_; refine Hd.take 5 rfl kq kq kq (fun _ => y_move rfl) fq ?_; refine Hd.take 6 rfl kq kq kq (fun _ => y_nilp rfl) fq ?_
  refine Hd.take 7 rfl kq kq kq (fun _ => y_field' (q := 1) (ft := 173) Tryz.underlying175 rfl sz173 rfl rfl) fq ?_; refine Hd.tailAt 13 [2, 4, 8, 9, 10, 11, 12] [13, 14, 15] rfl rfl rfl kq ?_; simp only [pk, List.getElem?_cons_zero, List.getElem?_cons_succ]; refine Ht.yv (y_l1 ag3 rfl) ?_; refine Ht.yv (y_l1 ag3 rfl) ?_; refine Ht.yv (y_l1 ag173 rfl) ?_; refine Ht.yv (y_loadn (us := [_, _]) ag170 rfl (Rd.pt pkk (by (first | (intro j v e; rcases j with _|_|_|_|_|_|_|_|_|_|_|_|j <;> first | exact e | exact absurd e (by simp))))) (by exact sz170)) ?_; refine Ht.yv (y_to (v' := .agg (encKn ((f ks[i]).getD zKn)).toArray) (y_lookupK mapt173 rfl rfl pkk) (by exact kmap_get f ks[i])) ?_; refine Ht.yv (y_fieldv1 (q := 1) (ft := 3) (cs := encKn ((f ks[i]).getD zKn)) (v := .int .i64 ((f ks[i]).getD zKn).flags) Tryz.underlying172 rfl ag3 rfl rfl) ?_; refine Ht.yv (y_build (vs := [(0,_),(1,_),(2,_)]) rfl (by exact bd34_27 ..)) ?_
  refine Ht.nil ?_; refine Hd.bslice (vs := [(0,_)]) rfl (by exact bs34_28 ..) (fun b28 => ?_); refine Hd.append Tryz.underlying67 ty82 rfl rfl rfl pkk (by exact RdS.rd (Rd.pt pkk (fun j v e => by simpa using e)) rfl) (by simp [Value.oneCell']; done) (by simp only [maxLen]; omega) (by omega) (fun ad29 cap29 => ?_); refine yv y_as <| Hd.nil <| Hd.noPn ?_; refine slots [(0,_),(3,_),(9,_),(10,_),(11,_)] sbq ?_; refine Hd.inB <| Hd.toK K9 ?_; refine Hd.region <| yv (y_addn rfl rfl (by simp only [InK]; omega)) ?_; refine yv y_mv <| Hd.nil <| slots [(0,_),(3,_),(9,_),(10,_),(11,_)] sbq ?_; refine thenN <| Hd.again (i + 1, ad29, cap29) (by show ks.length - (i + 1) < ks.length - i; omega) sbq (fun q t => ?_); exact Ent.sep (.pure (show i + 1 ≤ ks.length by omega) (.eq pkk (own_eq3 rfl rfl (by simp only [hsc, List.flatMap_append]; rfl)) enn)) q t
 obtain rfl : i = ks.length := by omega
 rw [List.take_length]; refine Hd.exit <| Hd.thenExit <| Hd.thenExit <| Hd.inBexit <| Hd.toK K5 ?_; refine sr fun _ K11 => ?_
 refine yv y_mv <| yv y_as <| fk [(2,_)] K11 ?_; refine Hd.ret ?_; exact Hd.ret1 rfl (ad, c, ks) rfl (Ent.sep (.pure hA enn))
theorem wcount_ct (L : List SP) (wb : Nat) (w : WA) (s : Int) : Ct Tryz.prog 189 #[.pointer (some ⟨wb, 0, none⟩), .int .i64 s] (WorldP wb w :: L) (fun _ : Unit => .int .i64 (cntS w.ct s)) (fun _ : Unit => WorldP wb w :: L) := by
 refine Ct.o2 Tryz.func189 ?_; intro E
 show Hd E 13 _ _ _ _
 refine Hd.world .here (fun i hw hrs => ?_); refine sr fun _ K1 => ?_
 refine yv y_as <| fk [(0,_),(1,_)] K1 ?_; refine Hd.seq fun _ K2 => ?_
 refine sr fun _ K3 => ?_
 refine yv y_mv <| callE rfl fk113 (wnone_ct _ wb w.at w i.rs.length i) sq ?_; intro _; refine fk [(0,_),(1,_),(6,_)] K3 ?_; refine Hd.condF rfl ?_; refine qv K2 <| sr fun _ K4 => ?_
 refine yv y_mv <| yv y_np <| yv (y_f 289 205 Tryz.underlying210 sz205) <| yv (y_load1 ag205 rfl (Rd.pt1 pkk (by exact woT_at (j := 1) (by omega) rfl))) ?_; refine yv y_mv <| callE rfl fk203 (count_ct _ i.sb w.hd w.ct hw.hdl hw.ctl s) sq ?_; intro _; refine yv y_as <| fk [(4,_)] K4 ?_; refine Hd.ret ?_; exact Hd.ret1 rfl () rfl (Ent.sep (.ex i (.pure ⟨hw, hrs⟩ enn)))
def onK (flt : Int) (r : RdyA) : Bool := (r.h || r.e || (decide (flt = 1) && r.i)) || (decide (flt = 2) && r.o)
def eofK (r : RdyA) : Int := if (r.h || r.e) = true then 128 else 0
def newsK (x : KnA) (flt : Int) (r : RdyA) : Bool := decide (bits .and .i64 x.flags 16 = 0) || x.armed || decide (riseK flt r > x.seen)
def toldK (f : Ky → Option KnA) (w : WA) (a : Ky) : NoA × Bool :=
 if bits .and .i64 ((f a).getD zKn).flags 8 ≠ 0 then ((a.1, a.2, 0, 0), false)
 else if a.2 = 3 then ((a.1, a.2, 0, cntS w.ct a.1), decide (cntS w.ct a.1 > 0))
 else ((a.1, a.2, eofK (readyR w a.1), 0), onK a.2 (readyR w a.1) && newsK ((f a).getD zKn) a.2 (readyR w a.1))
theorem ktold_ct (L : List SP) (qb wb mb : Nat) (f : Ky → Option KnA) (m : Nat) (w : WA) (a : Ky) : Ct Tryz.prog 154 #[.pointer (some ⟨qb, 0, none⟩), .agg (encKy a).toArray] (KqB qb wb mb f m w L) (fun _ : Unit => .tuple #[.agg (encNo (toldK f w a).1).toArray, .bool (toldK f w a).2]) (fun _ : Unit => KqB qb wb mb f m w L) := by
 refine Ct.o2 Tryz.func154 ?_; intro E
 show Hd E 100 _ _ _ _
 refine sr fun _ K1 => ?_
 refine Hd.box rfl rfl (fun b3 => ?_); refine Hd.alloc zr82 (fun b4 => ?_); refine yv y_as <| fk [(0,_),(3,_),(4,_)] K1 ?_; refine Hd.cutK (ι := Nat × Nat) [(0,_),(3,_),(4,_)] (fun i => [(6, .pointer (some ⟨i.1, 0, none⟩)), (7, .pointer (some ⟨i.2, 0, none⟩))]) (fun i => pt i.1 (encKn ((f a).getD zKn)) 172 :: pt i.2 (encNo (a.1, a.2, 0, 0)) 82 :: pt b4 (encNo (0, 0, 0, 0)) 82 :: pt b3 (encKy a) 170 :: KqB qb wb mb f m w L) ?_ ?_ ⟨rfl, rfl, rfl, trivial⟩
 ·refine Hd.drawsH ([KqH qb wb mb, mpP mb .i64 (kmap f) m, pt b3 (encKy a) 170]) (fun j => !([14].contains j)) mixed ?_
  simp only [List.length, Nat.zero_add, Nat.reduceAdd]; refine tH 0 rfl y_mv <| tH 1 rfl y_np <| tH 2 rfl (y_f 1 173 Tryz.underlying175 sz173) <| tH 3 rfl (y_l1 ag173 rfl) <| tH 4 rfl (y_loadn (us := [_, _]) ag170 rfl (Rd.pt pkk (by (first | (intro j v e; rcases j with _|_|_|_|_|_|_|_|_|_|_|_|j <;> first | exact e | exact absurd e (by simp))))) (by exact sz170)) ?_; refine tH 5 rfl (y_to (v' := .agg (encKn ((f a).getD zKn)).toArray) (y_lookupK mapt173 rfl rfl pkk) (by exact kmap_get f a)) ?_; refine tH 6 rfl (y_f 0 3 Tryz.underlying170 sz3) <| tH 7 rfl (y_l1 ag3 rfl) <| tH 8 rfl (y_f 1 3 Tryz.underlying170 sz3) <| tH 9 rfl (y_l1 ag3 rfl) <| tH 10 rfl (y_build (vs := [(0,_),(1,_)]) rfl (by exact bd154_20 ..)) ?_; refine Hd.eitherH 11 12 rfl rfl kq ?_ ?_
  ·refine Hd.alloc zr172 (fun b6 => ?_)
   refine qk <| qo 12 ?_; refine Hd.alloc zr82 (fun b7 => ?_); refine qk <| qo 13 ?_; refine Hd.storeA (us := encKn ((f a).getD zKn)) sz172 rfl rfl rfl (by simp [Value.oneCell']) pkk (by exact rfl) ?_; refine qk <| qo 14 ?_; refine Hd.storeA (us := encNo (a.1, a.2, 0, 0)) sz82 rfl rfl rfl (by simp [Value.oneCell']) pkk (by exact rfl) ?_; refine qn <| endH kq ?_; refine slots [(0,_),(3,_),(4,_),(6,_),(7,_)] sbq ?_; refine thenN ?_; exact Hd.meet (b6, b7) sbq sq
  refine Hd.alloc zr82 (fun b7 => ?_); refine qk <| qo 11 ?_; refine Hd.alloc zr172 (fun b6 => ?_); refine qk <| qo 13 ?_; refine Hd.storeA (us := encKn ((f a).getD zKn)) sz172 rfl rfl rfl (by simp [Value.oneCell']) pkk (by exact rfl) ?_; refine qk <| qo 14 ?_; refine Hd.storeA (us := encNo (a.1, a.2, 0, 0)) sz82 rfl rfl rfl (by simp [Value.oneCell']) pkk (by exact rfl) ?_; refine qn <| endH kq ?_; refine slots [(0,_),(3,_),(4,_),(6,_),(7,_)] sbq ?_; refine thenN ?_; exact Hd.meet (b6, b7) sbq sq
 rintro ⟨b6, b7⟩; dsimp only; refine Hd.seq fun _ K2 => ?_
 refine sr fun _ K3 => ?_
 refine yv (y_f 1 3 Tryz.underlying172 sz3) <| yv (y_l1 ag3 rfl) <| yv (y_and rfl rfl) ?_; refine yv (y_neq rfl rfl) ?_; refine fk [(0,_),(3,_),(4,_),(6,_),(7,_),(24,_)] K3 ?_; refine qz ?_ ?_ <;> intro hc0 <;> try simp only [hyZ] at hc0
 ·have h0 : toldK f w a = ((a.1, a.2, 0, 0), false) := if_pos hc0
  refine sr fun _ K4 => ?_
  refine yv (y_loadn (us := [_, _, _, _]) ag82 rfl (Rd.pt pkk (by (first | (intro j v e; rcases j with _|_|_|_|_|_|_|_|_|_|_|_|j <;> first | exact e | exact absurd e (by simp))))) (by exact sz82)) ?_; refine Hd.storeA (us := encNo (a.1, a.2, 0, 0)) sz82 rfl rfl rfl (by simp [Value.oneCell']) pkk (by exact rfl) ?_; refine yv y_as <| fk [(4,_),(5,_)] K4 ?_; refine Hd.ret <| Hd.thenRet ?_; rw [h0]; exact Hd.retCT rfl () ag82 rfl rfl (Rd.pt (b := b4) (us := encNo (a.1, a.2, 0, 0)) pkk (fun j v e => by rw [Nat.zero_add]; exact e)) (by exact sz82) rfl sq
 refine qv K2 <| Hd.seq fun _ K5 => ?_
 refine sr fun _ K6 => ?_
 refine yv (y_f 1 3 Tryz.underlying170 sz3) <| yv (y_l1 ag3 rfl) <| yv (y_eql rfl rfl) ?_; refine fk [(0,_),(3,_),(4,_),(6,_),(7,_),(28,_)] K6 ?_; refine qz ?_ ?_ <;> intro hc1 <;> try simp only [hyZ] at hc1
 ·have h0 : toldK f w a = ((a.1, a.2, 0, cntS w.ct a.1), decide (cntS w.ct a.1 > 0)) := by unfold toldK; rw [if_neg (fun h => h hc0), if_pos hc1]
  refine Hd.seq fun _ K7 => ?_
  refine Hd.drawsH ([KqH qb wb mb, pt b3 (encKy a) 170]) (fun j => !([8].contains j)) mixed ?_; simp only [List.length, Nat.zero_add, Nat.reduceAdd]; refine tH 0 rfl y_mv <| tH 1 rfl y_np <| tH 2 rfl (y_f 0 38 Tryz.underlying175 sz38) <| tH 3 rfl (y_l1 ag38 rfl) <| tH 4 rfl (y_f 0 3 Tryz.underlying170 sz3) <| tH 5 rfl (y_l1 ag3 rfl) <| qo 6 ?_; refine callE rfl fk189 (wcount_ct _ wb w a.1) sq ?_; intro _; refine qk <| tH 7 rfl (y_f 3 3 Tryz.underlying82 sz3) <| qo 8 ?_; refine Hd.store1 sz3 rfl rfl rfl pkk (by simp; done) ?_
  try simp only [hyS]
  refine qn <| endH kq ?_; refine sk [(4,_),(7,_)] K7 ?_; refine Hd.seq fun _ K8 => ?_
  refine Hd.drawsH ([pt b7 (encNo (a.1, a.2, 0, cntS w.ct a.1)) 82]) (fun j => !([4].contains j)) mixed ?_; simp only [List.length, Nat.zero_add, Nat.reduceAdd]; refine tH 0 rfl (y_loadn (us := [_, _, _, _]) ag82 rfl (Rd.pt pkk (by (first | (intro j v e; rcases j with _|_|_|_|_|_|_|_|_|_|_|_|j <;> first | exact e | exact absurd e (by simp))))) (by exact sz82)) ?_; refine Hd.eitherH 1 4 rfl rfl kq ?_ ?_
  ·refine yv (y_f 3 3 Tryz.underlying82 sz3) ?_
   refine qk <| Hd.eitherH 2 4 rfl rfl kq ?_ ?_
   ·refine yv (y_l1 ag3 rfl) ?_
    refine qk <| Hd.eitherH 3 4 rfl rfl kq ?_ ?_
    ·refine yv (y_gtr rfl rfl) ?_
     refine qk <| qo 4 ?_; refine Hd.storeA (us := encNo (a.1, a.2, 0, cntS w.ct a.1)) sz82 rfl rfl rfl (by simp [Value.oneCell']) pkk (by exact rfl) ?_; refine qn <| qo 5 ?_; refine yv y_as <| qk <| endH kq ?_; refine sk [(4,_),(5,_)] K8 ?_; refine Hd.ret <| Hd.thenRet ?_; rw [h0]; exact Hd.retCT rfl () ag82 rfl rfl (Rd.pt (b := b4) (us := encNo (a.1, a.2, 0, cntS w.ct a.1)) pkk (fun j v e => by rw [Nat.zero_add]; exact e)) (by exact sz82) rfl sq
    refine Hd.storeA (us := encNo (a.1, a.2, 0, cntS w.ct a.1)) sz82 rfl rfl rfl (by simp [Value.oneCell']) pkk (by exact rfl) ?_; refine qn <| qo 3 ?_; refine yv (y_gtr rfl rfl) ?_; refine qk <| qo 5 ?_; refine yv y_as <| qk <| endH kq ?_; refine sk [(4,_),(5,_)] K8 ?_; refine Hd.ret <| Hd.thenRet ?_; rw [h0]; exact Hd.retCT rfl () ag82 rfl rfl (Rd.pt (b := b4) (us := encNo (a.1, a.2, 0, cntS w.ct a.1)) pkk (fun j v e => by rw [Nat.zero_add]; exact e)) (by exact sz82) rfl sq
   refine Hd.storeA (us := encNo (a.1, a.2, 0, cntS w.ct a.1)) sz82 rfl rfl rfl (by simp [Value.oneCell']) pkk (by exact rfl) ?_; refine qn <| qo 2 ?_; refine yv (y_l1 ag3 rfl) <| qk <| qo 3 ?_; refine yv (y_gtr rfl rfl) ?_; refine qk <| qo 5 ?_; refine yv y_as <| qk <| endH kq ?_; refine sk [(4,_),(5,_)] K8 ?_; refine Hd.ret <| Hd.thenRet ?_; rw [h0]; exact Hd.retCT rfl () ag82 rfl rfl (Rd.pt (b := b4) (us := encNo (a.1, a.2, 0, cntS w.ct a.1)) pkk (fun j v e => by rw [Nat.zero_add]; exact e)) (by exact sz82) rfl sq
  refine Hd.storeA (us := encNo (a.1, a.2, 0, cntS w.ct a.1)) sz82 rfl rfl rfl (by simp [Value.oneCell']) pkk (by exact rfl) ?_; refine qn <| qo 1 ?_; refine yv (y_f 3 3 Tryz.underlying82 sz3) <| qk <| qo 2 ?_; refine yv (y_l1 ag3 rfl) <| qk <| qo 3 ?_; refine yv (y_gtr rfl rfl) ?_; refine qk <| qo 5 ?_; refine yv y_as <| qk <| endH kq ?_; refine sk [(4,_),(5,_)] K8 ?_; refine Hd.ret <| Hd.thenRet ?_; rw [h0]; exact Hd.retCT rfl () ag82 rfl rfl (Rd.pt (b := b4) (us := encNo (a.1, a.2, 0, cntS w.ct a.1)) pkk (fun j v e => by rw [Nat.zero_add]; exact e)) (by exact sz82) rfl sq
 obtain ⟨r, hr⟩ : ∃ r, r = readyR w a.1 := ⟨_, rfl⟩
 have h0 : toldK f w a = ((a.1, a.2, eofK r, 0), onK a.2 r && newsK ((f a).getD zKn) a.2 r) := by unfold toldK; rw [if_neg (fun h => h hc0), if_neg hc1, hr]
 refine qv K5 <| Hd.cutK (ι := Nat) [(3,_),(4,_),(6,_),(7,_)] (fun b8 => [(8, .pointer (some ⟨b8, 0, none⟩))]) (fun b8 => pt b8 (encR r) 105 :: pt b6 (encKn ((f a).getD zKn)) 172 :: pt b7 (encNo (a.1, a.2, 0, 0)) 82 :: pt b4 (encNo (0, 0, 0, 0)) 82 :: pt b3 (encKy a) 170 :: KqB qb wb mb f m w L) ?_ ?_ ⟨rfl, rfl, rfl, rfl, trivial⟩
 ·refine Hd.drawsH ([KqH qb wb mb, pt b3 (encKy a) 170]) (fun j => !([8].contains j)) mixed ?_
  simp only [List.length, Nat.zero_add, Nat.reduceAdd]; refine tH 0 rfl y_mv <| tH 1 rfl y_np <| tH 2 rfl (y_f 0 38 Tryz.underlying175 sz38) <| tH 3 rfl (y_l1 ag38 rfl) <| tH 4 rfl (y_f 0 3 Tryz.underlying170 sz3) <| tH 5 rfl (y_l1 ag3 rfl) <| Hd.eitherH 6 7 rfl rfl kq ?_ ?_
  ·refine callE rfl fk43 (wready_ct _ wb w a.1) sq ?_
   intro _; refine qk <| qo 7 ?_; refine Hd.alloc zr105 (fun b8 => ?_); refine qk <| qo 8 ?_; refine Hd.storeA (us := encR (readyR w a.1)) sz105 rfl rfl rfl (by simp [Value.oneCell']) pkk (by exact rfl) ?_; refine qn <| endH kq ?_; refine slots [(3,_),(4,_),(6,_),(7,_),(8,_)] sbq ?_; refine thenN ?_; exact Hd.meet b8 sbq (Ent.sep (.eq pkk (pt_eq (by rw [hr])) enn))
  refine Hd.alloc zr105 (fun b8 => ?_); refine qk <| qo 6 ?_; refine callE rfl fk43 (wready_ct _ wb w a.1) sq ?_; intro _; refine qk <| qo 8 ?_; refine Hd.storeA (us := encR (readyR w a.1)) sz105 rfl rfl rfl (by simp [Value.oneCell']) pkk (by exact rfl) ?_; refine qn <| endH kq ?_; refine slots [(3,_),(4,_),(6,_),(7,_),(8,_)] sbq ?_; refine thenN ?_; exact Hd.meet b8 sbq (Ent.sep (.eq pkk (pt_eq (by rw [hr])) enn))
 intro b8; refine sr fun _ K9 => ?_
 refine yv (y_f 3 4 Tryz.underlying105 sz4) <| yv (y_l1 ag4 rfl) <| yv y_mv ?_; apply Hd.org 3 50 53 [(3,_),(4,_),(6,_),(7,_),(8,_)] rfl sbq
 ·intro hg8_50
  try simp only [hyZ] at hg8_50
  simp only [List.take]; refine n1 <| n1 <| yv (y_pickT rfl rfl) ?_; exact Hd.mn
 ·intro hg8_50
  try simp only [hyZ] at hg8_50
  simp only [List.take]; refine y2 (y_f 4 4 Tryz.underlying105 sz4) <| y2 (y_l1 ag4 rfl) <| yv (y_pickF rfl rfl) ?_; exact Hd.mn
 simp only [List.drop]; refine yv y_mv ?_; apply Hd.org 8 54 62 [(3,_),(4,_),(6,_),(7,_),(8,_)] rfl sbq
 ·intro hg8_54
  try simp only [hyZ] at hg8_54
  simp only [List.take]; refine n1 <| n1 <| n1 <| n1 <| n1 <| n1 <| n1 <| yv (y_pickT rfl rfl) ?_; exact Hd.mn
 ·intro hg8_54
  try simp only [hyZ] at hg8_54
  simp only [List.take]; refine y2 (y_f 1 3 Tryz.underlying170 sz3) <| y2 (y_l1 ag3 rfl) <| y2 (y_eql rfl rfl) ?_; refine y2 y_mv ?_; apply Hd.andg 3 58 61 [(3,_),(4,_),(6,_),(7,_),(8,_),(54,_)] rfl sbq
  ·intro hg8_58
   try simp only [hyZ] at hg8_58
   simp only [List.take]; refine y2 (y_f 1 4 Tryz.underlying105 sz4) <| y2 (y_l1 ag4 rfl) <| y2 (y_pickT rfl rfl) ?_; exact Hd.mn
  ·intro hg8_58
   try simp only [hyZ] at hg8_58
   simp only [List.take]; refine n1 <| n1 <| y2 (y_pickF rfl rfl) ?_; exact Hd.mn
  simp only [List.drop]; refine yv (y_pickF rfl rfl) ?_; exact Hd.mn
 simp only [List.drop]; refine yv y_mv ?_; apply Hd.org 8 63 71 [(3,_),(4,_),(6,_),(7,_),(8,_)] rfl sbq
 ·intro hg8_63
  try simp only [hyZ] at hg8_63
  simp only [List.take]; refine n1 <| n1 <| n1 <| n1 <| n1 <| n1 <| n1 <| yv (y_pickT rfl rfl) ?_; exact Hd.mn
 ·intro hg8_63
  try simp only [hyZ] at hg8_63
  simp only [List.take]; refine y2 (y_f 1 3 Tryz.underlying170 sz3) <| y2 (y_l1 ag3 rfl) <| y2 (y_eql rfl rfl) ?_; refine y2 y_mv ?_; apply Hd.andg 3 67 70 [(3,_),(4,_),(6,_),(7,_),(8,_),(63,_)] rfl sbq
  ·intro hg8_67
   try simp only [hyZ] at hg8_67
   simp only [List.take]; refine y2 (y_f 2 4 Tryz.underlying105 sz4) <| y2 (y_l1 ag4 rfl) <| y2 (y_pickT rfl rfl) ?_; exact Hd.mn
  ·intro hg8_67
   try simp only [hyZ] at hg8_67
   simp only [List.take]; refine n1 <| n1 <| y2 (y_pickF rfl rfl) ?_; exact Hd.mn
  simp only [List.drop]; refine yv (y_pickF rfl rfl) ?_; exact Hd.mn
 simp only [List.drop]; refine yv (y_to (v' := .bool (onK a.2 r)) y_as (by rfl)) ?_; refine fk [(3,_),(4,_),(6,_),(7,_),(8,_),(9,_)] K9 ?_; refine Hd.cutK (ι := Unit) [(3,_),(4,_),(6,_),(7,_),(8,_),(9,_)] (fun _ => []) (fun _ => pt b7 (encNo (a.1, a.2, eofK r, 0)) 82 :: pt b8 (encR r) 105 :: pt b6 (encKn ((f a).getD zKn)) 172 :: pt b4 (encNo (0, 0, 0, 0)) 82 :: pt b3 (encKy a) 170 :: KqB qb wb mb f m w L) ?_ ?_ ⟨rfl, rfl, rfl, rfl, rfl, rfl, trivial⟩
 ·refine sr fun _ K10 => ?_
  refine yv (y_f 3 4 Tryz.underlying105 sz4) <| yv (y_l1 ag4 rfl) <| yv y_mv ?_; apply Hd.org 3 74 77 [(3,_),(4,_),(6,_),(7,_),(8,_),(9,_)] rfl sbq
  ·intro hg9_74
   try simp only [hyZ] at hg9_74
   simp only [List.take]; refine n1 <| n1 <| yv (y_pickT rfl rfl) ?_; exact Hd.mn
  ·intro hg9_74
   try simp only [hyZ] at hg9_74
   simp only [List.take]; refine y2 (y_f 4 4 Tryz.underlying105 sz4) <| y2 (y_l1 ag4 rfl) <| yv (y_pickF rfl rfl) ?_; exact Hd.mn
  simp only [List.drop]; refine fk [(3,_),(4,_),(6,_),(7,_),(8,_),(9,_),(77,_)] K10 ?_; refine qz ?_ ?_ <;> intro hc2 <;> try simp only [hyZ] at hc2
  ·refine Hd.region ?_
   refine yv (y_f 2 3 Tryz.underlying82 sz3) <| Hd.store1 sz3 rfl rfl rfl pkk (by simp; done) ?_
   try simp only [hyS]
   refine Hd.nil <| slots [(3,_),(4,_),(6,_),(7,_),(8,_),(9,_)] sbq ?_; refine thenN ?_; exact Hd.meet () sbq (Ent.sep (.eq pkk (pt_eq (by rw [show eofK r = 128 from if_pos (by simpa using hc2)])) enn))
  refine Hd.skip <| thenN ?_; exact Hd.meet () sbq (Ent.sep (.eq pkk (pt_eq (by rw [show eofK r = 0 from if_neg (by rw [hc2.1, hc2.2]; decide)])) enn))
 intro _; refine Hd.seq fun _ K11 => ?_
 refine Hd.drawsH ([pt b6 (encKn ((f a).getD zKn)) 172, pt b3 (encKy a) 170, pt b7 (encNo (a.1, a.2, eofK r, 0)) 82, pt b8 (encR r) 105]) (fun j => !(([1000] : List Nat).contains j)) mixed ?_; simp only [List.length, Nat.zero_add, Nat.reduceAdd]; refine tH 0 rfl (y_loadn (us := [_, _, _, _]) ag82 rfl (Rd.pt pkk (by (first | (intro j v e; rcases j with _|_|_|_|_|_|_|_|_|_|_|_|j <;> first | exact e | exact absurd e (by simp))))) (by exact sz82)) ?_; refine tH 1 rfl y_mv <| tH 2 rfl y_mv <| Hd.part (gd := 81) rfl (fun hg11_81 => ?_) (fun hg11_81 => ?_)
 ·try simp only [hyZ] at hg11_81
  refine Hd.takegH 3 rfl kq kq kq kq rfl rfl (y_f 1 3 Tryz.underlying172 sz3) fq sq ?_; refine Hd.takegH 4 rfl kq kq kq kq rfl rfl (y_l1 ag3 rfl) fq sq ?_; refine Hd.takegH 5 rfl kq kq kq kq rfl rfl (y_and rfl rfl) fq sq ?_; refine Hd.takegH 6 rfl kq kq kq kq rfl rfl (y_eql rfl rfl) fq sq ?_; refine Hd.takegH 7 rfl kq kq kq kq rfl rfl y_mv fq sq ?_; refine Hd.part (gd := 86) rfl (fun hg11_86 => ?_) (fun hg11_86 => ?_)
  ·try simp only [hyZ] at hg11_86
   refine qt 8 ?_; refine qt 9 ?_; refine Hd.takegH 10 rfl kq kq kq kq rfl rfl (y_pickT rfl rfl) fq sq ?_; refine Hd.takegH 11 rfl kq kq kq kq rfl rfl y_mv fq sq ?_; refine Hd.part (gd := 90) rfl (fun hg11_90 => ?_) (fun hg11_90 => ?_)
   ·try simp only [hyZ] at hg11_90
    refine qt 12 ?_; refine qt 13 ?_; refine qt 14 ?_; refine qt 16 ?_; refine qt 17 ?_; refine qo 15 ?_; refine n1 <| qk <| qt 18 ?_; refine Hd.takegH 19 rfl kq kq kq kq rfl rfl (y_pickT rfl rfl) fq sq ?_; refine tH 20 rfl (y_pickT rfl rfl) ?_; refine qo 21 ?_; refine Hd.storeA (us := encNo (a.1, a.2, eofK r, 0)) sz82 rfl rfl rfl (by simp [Value.oneCell']) pkk (by exact rfl) ?_; refine qk <| tH 22 rfl y_as <| endH kq ?_; refine sk [(4,_),(5,_)] K11 ?_; refine Hd.ret ?_; rw [h0, show (onK a.2 r && newsK ((f a).getD zKn) a.2 r) = true by unfold newsK; simp [hg11_81, hg11_86]]; exact Hd.retCT rfl () ag82 rfl rfl (Rd.pt (b := b4) (us := encNo (a.1, a.2, eofK r, 0)) pkk (fun j v e => by rw [Nat.zero_add]; exact e)) (by exact sz82) rfl sq
   try simp only [hyZ] at hg11_90
   exact absurd hg11_90 (by simp)
  try simp only [hyZ] at hg11_86
  refine Hd.takegH 8 rfl kq kq kq kq rfl rfl (y_f 2 4 Tryz.underlying172 sz4) fq sq ?_; refine Hd.takegH 9 rfl kq kq kq kq rfl rfl (y_l1 ag4 rfl) fq sq ?_; refine Hd.takegH 10 rfl kq kq kq kq rfl rfl (y_pickF rfl rfl) fq sq ?_; refine Hd.takegH 11 rfl kq kq kq kq rfl rfl y_mv fq sq ?_; refine Hd.part (gd := 90) rfl (fun hg11_90 => ?_) (fun hg11_90 => ?_)
  ·try simp only [hyZ] at hg11_90
   refine qt 12 ?_; refine qt 13 ?_; refine qt 14 ?_; refine qt 16 ?_; refine qt 17 ?_; refine qo 15 ?_; refine n1 <| qk <| qt 18 ?_; refine Hd.takegH 19 rfl kq kq kq kq rfl rfl (y_pickT rfl rfl) fq sq ?_; refine tH 20 rfl (y_pickT rfl rfl) ?_; refine qo 21 ?_; refine Hd.storeA (us := encNo (a.1, a.2, eofK r, 0)) sz82 rfl rfl rfl (by simp [Value.oneCell']) pkk (by exact rfl) ?_; refine qk <| tH 22 rfl y_as <| endH kq ?_; refine sk [(4,_),(5,_)] K11 ?_; refine Hd.ret ?_; rw [h0, show (onK a.2 r && newsK ((f a).getD zKn) a.2 r) = true by unfold newsK; simp [hg11_81, hg11_90]]; exact Hd.retCT rfl () ag82 rfl rfl (Rd.pt (b := b4) (us := encNo (a.1, a.2, eofK r, 0)) pkk (fun j v e => by rw [Nat.zero_add]; exact e)) (by exact sz82) rfl sq
  try simp only [hyZ] at hg11_90
  refine Hd.takegH 12 rfl kq kq kq kq rfl rfl (y_f 1 3 Tryz.underlying170 sz3) fq sq ?_; refine Hd.takegH 13 rfl kq kq kq kq rfl rfl (y_l1 ag3 rfl) fq sq ?_; refine Hd.takegH 14 rfl kq kq kq kq rfl rfl (y_loadn (us := [_, _, _, _, _, _, _]) ag105 rfl (Rd.pt pkk (by (first | (intro j v e; rcases j with _|_|_|_|_|_|_|_|_|_|_|_|j <;> first | exact e | exact absurd e (by simp))))) (by exact sz105)) fq sq ?_; refine Hd.takegH 16 rfl kq kq kq kq rfl rfl (y_f 3 30 Tryz.underlying172 sz30) fq sq ?_; refine Hd.takegH 17 rfl kq kq kq kq rfl rfl (y_l1 ag30 rfl) fq sq ?_; refine qo 15 ?_; refine Hd.unguard rfl rfl ?_; refine callE rfl fk91 (krises_ct _ a.2 r) sq ?_; intro _; refine qk <| Hd.takegH 18 rfl kq kq kq kq rfl rfl (y_gtr rfl rfl) fq sq ?_; refine Hd.takegH 19 rfl kq kq kq kq rfl rfl (y_pickF rfl rfl) fq sq ?_; refine tH 20 rfl (y_pickT rfl rfl) ?_; refine qo 21 ?_; refine Hd.storeA (us := encNo (a.1, a.2, eofK r, 0)) sz82 rfl rfl rfl (by simp [Value.oneCell']) pkk (by exact rfl) ?_
  refine qk <| tH 22 rfl y_as <| endH kq ?_; refine sk [(4,_),(5,_)] K11 ?_; refine Hd.ret ?_; rw [h0, show (onK a.2 r && newsK ((f a).getD zKn) a.2 r) = decide (riseK a.2 r > ((f a).getD zKn).seen) by unfold newsK; simp [hg11_81, hg11_86, hg11_90]]; exact Hd.retCT rfl () ag82 rfl rfl (Rd.pt (b := b4) (us := encNo (a.1, a.2, eofK r, 0)) pkk (fun j v e => by rw [Nat.zero_add]; exact e)) (by exact sz82) rfl sq
 try simp only [hyZ] at hg11_81
 refine qt 3 ?_; refine qt 4 ?_; refine qt 5 ?_; refine qt 6 ?_; refine qt 7 ?_; refine qt 8 ?_; refine qt 9 ?_; refine qt 10 ?_; refine qt 11 ?_; refine qt 12 ?_; refine qt 13 ?_; refine qt 14 ?_; refine qt 16 ?_; refine qt 17 ?_; refine qo 15 ?_; refine n1 <| qk <| qt 18 ?_; refine qt 19 ?_; refine tH 20 rfl (y_pickF rfl rfl) ?_; refine qo 21 ?_; refine Hd.storeA (us := encNo (a.1, a.2, eofK r, 0)) sz82 rfl rfl rfl (by simp [Value.oneCell']) pkk (by exact rfl) ?_; refine qk <| tH 22 rfl y_as <| endH kq ?_; refine sk [(4,_),(5,_)] K11 ?_; refine Hd.ret ?_; rw [h0, show (onK a.2 r && newsK ((f a).getD zKn) a.2 r) = false by unfold newsK; simp [hg11_81]]; exact Hd.retCT rfl () ag82 rfl rfl (Rd.pt (b := b4) (us := encNo (a.1, a.2, eofK r, 0)) pkk (fun j v e => by rw [Nat.zero_add]; exact e)) (by exact sz82) rfl sq
end Kq
end Go.Proofs.YtbfddabjbkohdaaGreat
namespace Go.Proofs.YtbfddabjbkohdaaGreat
open Go.RX Fx
namespace Wo
theorem Hd.wokK {E : World} {n : Nat} {ds : List Deferred} {st : List (Nat × Value)} {L L' : List SP} {K : Act → World → Prop} {wb : Nat} {w : WA} (p : Pick L (WorldP wb w) L') (h : WOk w → Hd E n ds st L K) : Hd E n ds st L K := fun a v f s => by
 refine h ?_ a v f s
 obtain ⟨h1, s1, i, x⟩ := sep.one p s.2.2.2
 obtain ⟨_, _, _, _, _, hq, _⟩ := x
 exact hq.1
end Wo
namespace Kq
open Wo
theorem ltK_ext : ∀ {a b : List Ky}, a.Pairwise ltK → b.Pairwise ltK → (∀ x, x ∈ a ↔ x ∈ b) → a = b
 | [], [], _, _, _ => rfl
 | [], y :: b, _, _, h => absurd ((h y).2 List.mem_cons_self) (by simp)
 | x :: a, [], _, _, h => absurd ((h x).1 List.mem_cons_self) (by simp)
 | x :: a, y :: b, ha, hb, h => by
  rw [List.pairwise_cons] at ha hb
  have hxy : x = y := by
   rcases List.mem_cons.1 ((h x).1 List.mem_cons_self) with e | e
   ·exact e
   ·rcases List.mem_cons.1 ((h y).2 List.mem_cons_self) with e2 | e2
    ·exact e2.symm
    ·have h1 := hb.1 x e
     have h2 := ha.1 y e2
     unfold ltK at h1 h2; omega
  subst hxy
  congr 1
  refine ltK_ext ha.2 hb.2 fun z => ?_
  have := h z
  simp only [List.mem_cons] at this
  constructor
  ·intro hz
   rcases this.1 (.inr hz) with rfl | e
   ·have := ha.1 z hz; unfold ltK at this; omega
   ·exact e
  ·intro hz
   rcases this.2 (.inr hz) with rfl | e
   ·have := hb.1 z hz; unfold ltK at this; omega
   ·exact e
structure OkK (f : Ky → Option KnA) : Prop where
 fl : ∀ a x, f a = some x → 1 ≤ a.2 ∧ a.2 ≤ 3
 sg : ∀ a x, f a = some x → a.2 = 3 → 1 ≤ a.1 ∧ a.1 ≤ 31
def gridK : List Ky := (List.range 96).flatMap fun n : Nat => [((n : Int), 1), ((n : Int), 2), ((n : Int), 3)]
theorem mem_grid {a : Ky} : a ∈ gridK ↔ (0 ≤ a.1 ∧ a.1 < 96) ∧ 1 ≤ a.2 ∧ a.2 ≤ 3 := by
 unfold gridK; rw [List.mem_flatMap]
 constructor
 ·rintro ⟨n, hn, h⟩
  have := List.mem_range.1 hn
  simp only [List.mem_cons, List.not_mem_nil, or_false] at h
  rcases h with rfl | rfl | rfl <;> exact ⟨⟨by omega, by omega⟩, by omega, by omega⟩
 ·rintro ⟨⟨h1, h2⟩, h3, h4⟩
  refine ⟨a.1.toNat, List.mem_range.2 (by omega), ?_⟩
  have e : ((a.1.toNat : Nat) : Int) = a.1 := by omega
  rw [e]; simp only [List.mem_cons, List.not_mem_nil, or_false]
  have h5 : a.2 = 1 ∨ a.2 = 2 ∨ a.2 = 3 := by omega
  rcases h5 with h | h | h
  ·exact .inl (Prod.ext rfl h)
  ·exact .inr (.inl (Prod.ext rfl h))
  ·exact .inr (.inr (Prod.ext rfl h))
theorem grid_srt : gridK.Pairwise ltK := by
 unfold gridK; rw [List.pairwise_flatMap]; refine ⟨fun n _ => by simp [ltK], ?_⟩; refine List.pairwise_lt_range.imp fun {a b} h x hx y hy => ?_
 simp only [List.mem_cons, List.not_mem_nil, or_false] at hx hy
 have h1 : x.1 = (a : Int) := by rcases hx with rfl | rfl | rfl <;> rfl
 have h2 : y.1 = (b : Int) := by rcases hy with rfl | rfl | rfl <;> rfl
 exact .inl (by omega)
def allK (f : Ky → Option KnA) (w : WA) : List Ky := gridK.filter (isK f w)
theorem mem_allK {f : Ky → Option KnA} {w : WA} (hw : WOk w) (hf : OkK f) {a : Ky} : a ∈ allK f w ↔ isK f w a = true := by
 unfold allK; rw [List.mem_filter, mem_grid]; refine ⟨fun h => h.2, fun h => ⟨?_, h⟩⟩
 obtain ⟨x, hx⟩ := Option.isSome_iff_exists.1 (isK_some h)
 have h1 := hf.fl a x hx
 refine ⟨?_, h1⟩
 by_cases h3 : a.2 = 3
 ·have := hf.sg a x hx h3
  omega
 ·unfold isK at h
  rw [hx] at h; simp only [if_neg h3, decide_eq_true_eq] at h
  obtain ⟨p, hp⟩ := Option.isSome_iff_exists.1 h.1
  have := hw.at_lt (n := p.1) (k := p.2) hp
  omega
theorem AllK.eq {f : Ky → Option KnA} {m : Nat} {w : WA} {ks : List Ky} (hw : WOk w) (hf : OkK f) (h : AllK f m w ks) : ks = allK f w :=
 ltK_ext h.srt (grid_srt.sublist List.filter_sublist) fun a => by rw [h.mem, mem_allK hw hf]
theorem allK_len (f : Ky → Option KnA) (w : WA) : (allK f w).length ≤ 288 := by
 unfold allK
 have := List.length_filter_le (isK f w) gridK
 have e : gridK.length = 288 := by decide +kernel
 omega
theorem OkK.upd {f : Ky → Option KnA} (h : OkK f) {k : Ky} {o : Option KnA} (hk : ∀ x, o = some x → (1 ≤ k.2 ∧ k.2 ≤ 3) ∧ (k.2 = 3 → 1 ≤ k.1 ∧ k.1 ≤ 31)) : OkK (updK f k o) := by
 constructor
 ·intro a x ha
  unfold updK at ha
  split at ha
  ·rename_i e; subst e; exact (hk x ha).1
  ·exact h.fl a x ha
 ·intro a x ha h3
  unfold updK at ha
  split at ha
  ·rename_i e; subst e; exact (hk x ha).2 h3
  ·exact h.sg a x ha h3
theorem mayK_fl {p : NoA} (h : ¬ (mayK p = false)) : 1 ≤ p.2.1 ∧ p.2.1 ≤ 3 := by
 by_cases hb : badN p
 ·exact absurd (if_pos hb) h
 ·unfold badN at hb
  simp only [not_or] at hb; omega
theorem OkK.chg {f : Ky → Option KnA} (h : OkK f) (w : WA) (p : NoA) : OkK (chgK f w p).2 := by
 unfold chgK
 split
 ·exact h
 rename_i h0
 split
 ·exact h
 rename_i h1
 have hk : ∀ (o : Option KnA) x, o = some x → (1 ≤ ((p.1, p.2.1) : Ky).2 ∧ ((p.1, p.2.1) : Ky).2 ≤ 3) ∧ (((p.1, p.2.1) : Ky).2 = 3 → 1 ≤ ((p.1, p.2.1) : Ky).1 ∧ ((p.1, p.2.1) : Ky).1 ≤ 31) := fun o x _ => ⟨mayK_fl h0, fun h3 => by
  have h3' : p.2.1 = 3 := h3
  show 1 ≤ p.1 ∧ p.1 ≤ 31
  omega⟩
 repeat' split
 all_goals first | exact h | exact h.upd (hk _)
def dueT (f : Ky → Option KnA) (w : WA) (l : List Ky) : List NoA := l.filterMap fun a => if (toldK f w a).2 = true then some (toldK f w a).1 else none
abbrev dueK (f : Ky → Option KnA) (w : WA) : List NoA := dueT f w (allK f w)
theorem dueT_app (f : Ky → Option KnA) (w : WA) (a b : List Ky) : dueT f w (a ++ b) = dueT f w a ++ dueT f w b := List.filterMap_append
theorem dueT_one (f : Ky → Option KnA) (w : WA) (a : Ky) : dueT f w [a] = if (toldK f w a).2 = true then [(toldK f w a).1] else [] := by
 unfold dueT; rw [List.filterMap_cons]
 by_cases h : (toldK f w a).2 = true
 ·rw [if_pos h, if_pos h]; rfl
 ·rw [if_neg h, if_neg h]; rfl
theorem dueT_succ (f : Ky → Option KnA) (w : WA) {l : List Ky} {i : Nat} (h : i < l.length) : dueT f w (l.take (i + 1)) = dueT f w (l.take i) ++ (if (toldK f w l[i]).2 = true then [(toldK f w l[i]).1] else []) := by
 rw [List.take_add_one, List.getElem?_eq_getElem h, Option.toList_some, dueT_app, dueT_one]
theorem dueT_pre (f : Ky → Option KnA) (w : WA) (l : List Ky) (i : Nat) : dueT f w (l.take i) <+: dueT f w l := by
 conv => rhs; rw [← List.take_append_drop i l]
 rw [dueT_app]; exact List.prefix_append _ _
theorem dueK_len (f : Ky → Option KnA) (w : WA) : (dueK f w).length ≤ 288 := Nat.le_trans (List.length_filterMap_le _ _) (allK_len f w)
abbrev encNA (p : NoA) : List Value := [.agg (encNo p).toArray]
abbrev KqM (px qb wb mb : Nat) (f : Ky → Option KnA) (m : Nat) (w : WA) (L : List SP) : List SP := pt px [.pointer (some ⟨qb, 0, none⟩)] 68 :: KqB qb wb mb f m w L
theorem kdu_ct (L : List SP) (qb : Nat) : Ct Tryz.prog 88 #[.pointer (some ⟨qb, 0, none⟩)] (L) (fun b : Nat => .func (.func 153) #[] #[.pointer (some ⟨b, 0, none⟩)]) (fun b : Nat => pt b [.pointer (some ⟨qb, 0, none⟩)] 68 :: L) := by
 refine Ct.o1 Tryz.func88 ?_; intro E
 show Hd E 4 _ _ _ _
 refine sr fun _ K1 => ?_
 refine Hd.box rfl rfl (fun b1 => ?_); refine yv y_as <| fk [(1,_)] K1 ?_; refine sr fun _ K2 => ?_
 refine yv (y_mkf (fv := []) (cv := [_]) rfl rfl) ?_; refine yv y_as <| fk [(2,_)] K2 ?_; refine Hd.ret ?_; exact Hd.ret1 rfl b1 rfl sq
theorem kdu_it (px qb wb mb : Nat) (f : Ky → Option KnA) (m : Nat) (hm : m ≤ 1000000) (hf : OkK f) (w : WA) : RX.It Tryz.prog 153 [.pointer (some ⟨px, 0, none⟩)] encNA (fun ys => ys = dueK f w) (fun ys => ys <+: dueK f w)
  (KqM px qb wb mb f m w []) (KqM px qb wb mb f m w []) := by
 intro l J X hy; refine Ct.of (vs := [.func (.yield l) #[] #[], .pointer (some ⟨px, 0, none⟩)]) Tryz.func153 rfl rfl [(0, .func (.yield l) #[] #[]), (1, .pointer (some ⟨px, 0, none⟩))] ⟨rfl, rfl, trivial⟩ ?_; intro E
 show Hd E 28 _ _ _ _
 refine Hd.heap (KqM px qb wb mb f m w (J [])) (fun k h => by have := sep_app h; exact this) ?_; refine Hd.wokK pkk (fun hw => ?_); refine sr fun _ K1 => ?_
 refine yv (y_l1 ag68 rfl) <| callE rfl fk93 (kkeys_ct _ qb wb mb f m hm w) sq ?_; rintro ⟨ka, kc, ks⟩; dsimp only; refine Hd.pure (fun hA => ?_)
 obtain rfl := hA.eq hw hf
 clear hA
 have hkl := allK_len f w
 refine yv (y_len Tryz.underlying178 rfl) ?_; refine yv y_mv <| fk [(0,_),(1,_),(8,_),(9,_),(10,_)] K1 ?_; refine Hd.block <| Hd.loopK (ι := Nat) [(0,_),(1,_),(8,_),(9,_)] (fun i => [(10, .int .i64 (i : Int))]) (fun i => pu (i ≤ (allK f w).length) :: OwK ka (allK f w).length kc (allK f w) :: KqM px qb wb mb f m w (J (dueT f w ((allK f w).take i)))) (fun i => (allK f w).length - i) 0 sbq sbq (Ent.sep (.pure (by omega) enn)) ?_; intro i
 try dsimp only
 refine Hd.pure (fun hp0 => ?_)
 try dsimp only at hp0
 refine sr fun _ K2 => ?_
 refine yv (y_lss rfl rfl) ?_; refine fk [(0,_),(1,_),(8,_),(9,_),(10,_),(11,_)] K2 ?_; refine Hd.seq fun _ K3 => ?_
 refine qz ?_ ?_ <;> intro hc0 <;> try simp only [hyZ] at hc0
 ·have hi : i < (allK f w).length := by omega
  have hgi : (allK f w)[i]? = some (allK f w)[i] := List.getElem?_eq_getElem hi
  have hsc := dueT_succ f w hi
  have hpr := dueT_pre f w (allK f w) (i + 1)
  obtain ⟨a, ha⟩ : ∃ a, a = (allK f w)[i] := ⟨_, rfl⟩
  rw [← ha] at hgi hsc; refine qv K3 <| Hd.seq fun _ K4 => ?_
  refine Hd.block <| sr fun _ K5 => ?_
  refine yv (y_idxR Tryz.underlying178 sz170 rfl rfl (by omega) (by exact RdS.own pkk)) ?_; refine yv (y_loadRn (vs := encKy a) ag170 rfl (RdS.own (ad := ka) (us := (allK f w).flatMap encKy) pkk) (flat_cells encKy 2 (fun _ => rfl) hgi) (by exact sz170) (by simp)) ?_; refine Hd.alloc zr170 (fun b4 => ?_); refine Hd.storeA (us := encKy a) sz170 rfl rfl rfl (encKy_one _) pkk (by exact rfl) ?_; refine fk [(0,_),(1,_),(4,_),(8,_),(9,_),(10,_)] K5 ?_; refine sr fun _ K6 => ?_
  refine yv (y_l1 ag68 rfl) <| yv (y_loadn (us := [_, _]) ag170 rfl (Rd.pt pkk (by (first | (intro j v e; rcases j with _|_|_|_|_|_|_|_|_|_|_|_|j <;> first | exact e | exact absurd e (by simp))))) (by exact sz170)) ?_; refine callE rfl fk154 (ktold_ct _ qb wb mb f m w a) sq ?_; intro _; refine yv y_mv <| yv y_ex <| yv y_ex <| Hd.alloc zr82 (fun b5 => ?_); refine Hd.storeA (us := encNo (toldK f w a).1) sz82 rfl rfl rfl (encNo_one _) pkk (by exact rfl) ?_; refine yv y_as <| fk [(0,_),(1,_),(5,_),(6,_),(8,_),(9,_),(10,_)] K6 ?_; refine sr fun _ K7 => ?_
  refine yv y_mv <| yv y_mv <| Hd.part (gd := 21) rfl (fun hg4_21 => ?_) (fun hg4_21 => ?_)
  ·try simp only [hyZ] at hg4_21
   have hb : (toldK f w a).2 = true := hg4_21
   rw [if_pos hb] at hsc; rw [hsc] at hpr; refine y2 y_mv <| y2 (y_loadn (us := [_, _, _, _]) ag82 rfl (Rd.pt pkk (by (first | (intro j v e; rcases j with _|_|_|_|_|_|_|_|_|_|_|_|j <;> first | exact e | exact absurd e (by simp))))) (by exact sz82)) ?_; refine Hd.unguard rfl rfl ?_; refine Hd.yield (pre := dueT f w ((allK f w).take i)) (c := (toldK f w a).1) (M := pt b4 (encKy a) 170 :: OwK ka (allK f w).length kc (allK f w) :: KqM px qb wb mb f m w []) hy rfl rfl hpr (fun k' h => sep_app (show sep ((pt b4 (encKy a) 170 :: OwK ka (allK f w).length kc (allK f w) :: KqM px qb wb mb f m w []) ++ J (dueT f w ((allK f w).take i))) k' from Ent.sep enn k' h)) ?_; intro yb; refine y2 (y_not rfl) <| yv (y_pickT rfl rfl) ?_; refine fk [(0,_),(1,_),(8,_),(9,_),(10,_),(26,_)] K7 ?_; refine qz ?_ ?_ <;> intro hc1 <;> try simp only [hyZ] at hc1
   ·subst hc1
    simp only [cond_false]; refine Hd.ret <| Hd.inBret <| Hd.thenRet <| Hd.thenRet <| Hd.inBret ?_; exact Hd.ret0 rfl (dueT f w ((allK f w).take i) ++ [(toldK f w a).1], false) rfl (fun k' h => Ent.sep (.pure hpr .same) k' (sep_right (fun k s => Ent.sep (show Ent (pt b4 (encKy a) 170 :: OwK ka (allK f w).length kc (allK f w) :: KqM px qb wb mb f m w []) (KqM px qb wb mb f m w []) from .skip (.skip .same)) k s) h))
   subst hc1; simp only [cond_true]; refine Hd.heap (pt b4 (encKy a) 170 :: OwK ka (allK f w).length kc (allK f w) :: KqM px qb wb mb f m w (J (dueT f w ((allK f w).take i) ++ [(toldK f w a).1]))) (fun k' h => sep_app h) ?_; rw [← hsc]; refine Hd.skip <| Hd.inB <| Hd.toK K4 ?_; refine Hd.region <| yv (y_addn rfl rfl (by simp only [InK]; omega)) ?_; refine yv y_mv <| Hd.nil <| slots [(0,_),(1,_),(8,_),(9,_),(10,_)] sbq ?_; refine thenN ?_; exact Hd.again (i + 1) (by omega) sbq (Ent.sep (.pure (by omega) enn))
  try simp only [hyZ] at hg4_21
  have hb : ¬ ((toldK f w a).2 = true) := by rw [hg4_21]; decide
  rw [if_neg hb, List.append_nil] at hsc; refine n1 <| n1 <| n1 <| n1 <| yv (y_pickF rfl rfl) ?_; refine fk [(0,_),(1,_),(8,_),(9,_),(10,_),(26,_)] K7 ?_; refine Hd.condF rfl ?_; refine Hd.skip <| Hd.inB <| Hd.toK K4 ?_; refine Hd.region <| yv (y_addn rfl rfl (by simp only [InK]; omega)) ?_; refine yv y_mv <| Hd.nil <| slots [(0,_),(1,_),(8,_),(9,_),(10,_)] sbq ?_; refine thenN ?_; rw [← hsc]; exact Hd.again (i + 1) (by omega) sbq (Ent.sep (.pure (by omega) enn))
 refine Hd.exit <| Hd.thenExit <| Hd.thenExit <| Hd.inBexit ?_
 obtain rfl : i = (allK f w).length := by omega
 rw [List.take_length]; exact Hd.end0 rfl (dueK f w, true) rfl (fun k' h => Ent.sep (.pure rfl .same) k' (sep_app (M := KqM px qb wb mb f m w []) (N := J (dueK f w)) (Ent.sep enn k' h)))
end Kq
end Go.Proofs.YtbfddabjbkohdaaGreat
namespace Go.Proofs.YtbfddabjbkohdaaGreat
open Go.RX Fx
namespace Kq
open Wo
abbrev vi (l : List Int) : List Value := l.map fun v => Value.int .i64 v
theorem kdue_ct (L : List SP) (qb wb mb : Nat) (f : Ky → Option KnA) (m : Nat) (hm : m ≤ 1000000) (hf : OkK f) (w : WA) : Ct Tryz.prog 29 #[.pointer (some ⟨qb, 0, none⟩)] (KqB qb wb mb f m w L) (fun _ : Unit => .bool (!(dueK f w).isEmpty)) (fun _ : Unit => KqB qb wb mb f m w L) := by
 refine Ct.o1M Tryz.func29 ?_; intro E
 show Hd E 8 _ _ _ _
 refine sr fun _ K1 => ?_
 refine Hd.alloc zr4 (fun b2 => ?_); refine fk [(0,_),(2,_)] K1 ?_; refine Hd.seq fun _ K2 => ?_
 refine sr fun _ K3 => ?_
 refine yv y_mv <| callE rfl fk87 (knone_ct _ qb wb mb) sq ?_; intro _; refine fk [(0,_),(2,_),(4,_)] K3 ?_; refine Hd.condF rfl ?_; refine qv K2 <| Hd.seq fun _ K4 => ?_
 refine sr fun _ K5 => ?_
 refine yv y_mv <| callE rfl fk88 (kdu_ct _ qb) sq ?_; intro px; refine fk [(2,_),(6,_)] K5 ?_; refine Hd.block <| Hd.rangeF (enc := encNA) (S := fun ys => ys = dueK f w) (Sp := fun ys => ys <+: dueK f w)
  (fun pre => pu (pre = []) :: pt b2 [.bool false] 4 :: L) (fun j _ => [pu (j = none ∧ dueK f w ≠ []), pt b2 [.bool true] 4] ++ L)
  rfl kq (fun _ => rfl) rfl (kdu_it px qb wb mb f m hm hf w) (by refine Ent.sep ?_; refine Ent.pure rfl ?_; refine Ent.pick pkk ?_; exact Ent.swap (L := [_, _, _, _])) ?_ ?_ ?_
 ·intro E l' R pre p N hR hG
  unfold Rnd; simp only [List.cons_append, List.nil_append, pz, encNA]; refine Hd.skip <| thenN <| Hd.begin hR pkk ?_; refine Hd.block <| sr fun _ K6 => ?_
  refine Hd.store1 sz4 rfl rfl rfl pkk (by decide) ?_
  try simp only [hyS]
  refine fk [(2,_)] K6 ?_; refine Hd.ret <| Hd.inBret <| Hd.reR ?_; simp only [List.cons_append, List.nil_append]
  have hne : dueK f w ≠ [] := fun e => by rw [e] at hG; have := hG.length_le; simp at this
  exact Ent.sep (.pick pkk (.pure ⟨(by trivial), hne⟩ enn))
 ·intro r0 ys hys
  obtain rfl : ys = dueK f w := hys
  simp only [List.cons_append, List.nil_append]; refine Hd.pure (fun he => ?_)
  try simp only [List.cons_append, List.nil_append]
  refine Hd.inB <| Hd.toK K4 ?_; refine sr fun _ K7 => ?_
  refine Hd.store1 sz4 rfl rfl rfl pkk (by decide) ?_
  try simp only [hyS]
  refine fk [(2,_)] K7 ?_; refine Hd.ret ?_; rw [he]; exact Hd.retM (fun a fr => Lv.mark pkk (Lv.endC1 fr rfl () ag4 rfl (Rd.pt1 pkk rfl) rfl sq))
 rintro r0_0 (_ | id0) pre0 hG0
 ·simp only [List.cons_append, List.nil_append]
  refine Hd.pure (fun hne => ?_)
  try simp only [List.cons_append, List.nil_append]
  refine Hd.ret <| Hd.inBret <| Hd.thenRet ?_
  have e : (dueK f w).isEmpty = false := by cases h : dueK f w with | nil => exact absurd h hne.2 | cons a t => rfl
  rw [e]; exact Hd.retM (fun a fr => Lv.mark pkk (Lv.endC1 fr rfl () ag4 rfl (Rd.pt1 pkk rfl) rfl sq))
 exact Hd.absurd (by simp)
abbrev OutN (b : Nat) (l : List NoA) : SP := RX.ex fun i : Option Addr × Nat => [pt b [.slice i.1 l.length i.2] 67, own 82 4 i.1 l.length i.2 (l.flatMap encNo)]
abbrev seqK (px : Nat) : Value := .func (.func 153) #[] #[.pointer (some ⟨px, 0, none⟩)]
theorem appd_ct (L : List SP) (px qb wb mb : Nat) (f : Ky → Option KnA) (m : Nat) (hm : m ≤ 1000000) (hf : OkK f) (w : WA) : Ct Tryz.prog 156 #[.slice none 0 0, seqK px] (KqM px qb wb mb f m w L) (fun q_ : Option Addr × Nat => .slice q_.1 (dueK f w).length q_.2) (fun q_ : Option Addr × Nat => own 82 4 q_.1 (dueK f w).length q_.2 ((dueK f w).flatMap encNo) :: KqM px qb wb mb f m w L) := by
 refine Ct.o2M Tryz.func156 ?_; intro E
 show Hd E 13 _ _ _ _
 refine sr fun _ K1 => ?_
 refine Hd.box rfl rfl (fun b2 => ?_); refine yv y_as <| fk [(1,_),(2,_)] K1 ?_; refine Hd.seq fun _ K2 => ?_
 refine sr fun _ K3 => ?_
 refine yv y_mv <| fk [(2,_),(6,_)] K3 ?_; refine Hd.block <| Hd.rangeF (enc := encNA) (S := fun ys => ys = dueK f w) (Sp := fun ys => ys <+: dueK f w)
  (fun pre => OutN b2 pre :: L) (fun _ _ => [pu False])
  rfl kq (fun _ => rfl) rfl (kdu_it px qb wb mb f m hm hf w) (by refine Ent.sep ?_; refine Ent.ex (none, 0) ?_; refine Ent.eq pkk (pt_eq (by rfl)) ?_; refine Ent.ownNil ?_; exact Ent.swap (L := [_, _, _, _])) ?_ ?_ ?_
 ·intro E l' R pre c N hR hG
  have hdl := dueK_len f w
  have hpl : pre.length + 1 ≤ 1000000 := by have h1 := hG.length_le; simp at h1; omega
  unfold Rnd; simp only [List.cons_append, List.nil_append, pz, encNA]; refine Hd.region <| Hd.alloc zr82 (fun b5 => ?_); refine Hd.storeA (us := encNo c) sz82 rfl rfl rfl (encNo_one _) pkk (by exact rfl) ?_; refine Hd.nil <| slots [(2,_),(5,_)] sbq ?_; refine thenN <| Hd.begin hR pkk ?_; refine Hd.block <| Hd.exs pkk ?_; rintro ⟨a3, c3⟩; simp only [List.cons_append, List.nil_append]; refine Hd.region <| yv (y_l1 ag67 rfl) <| yv (y_loadn (us := encNo c) ag82 rfl (Rd.pt pkk (fun j v e => by rw [Nat.zero_add]; exact e)) (by exact sz82)) ?_; refine Hd.bslice (vs := [(0,_)]) rfl (by exact bs156_10 ..) (fun b10 => ?_); refine Hd.append Tryz.underlying67 ty82 rfl rfl rfl pkk (by exact RdS.rd (Rd.pt pkk (fun j v e => by simpa using e)) rfl) (by simp [Value.oneCell']; done) (by simp only [maxLen]; omega) (by omega) (fun ad11 cap11 => ?_); refine Hd.store1 sz67 rfl rfl rfl pkk (by simp; done) ?_
  try simp only [hyS]
  refine Hd.nil <| slots [(2,_)] sbq ?_; refine Hd.inB <| Hd.reN ?_; simp only [List.cons_append, List.nil_append]; exact Ent.sep (.pick pkk (.ex (ad11, cap11) (.eq pkk (pt_eq (by simp)) (.eq pkk (own_eq (by simp) (by simp)) enn))))
 ·intro r0 ys hys
  obtain rfl : ys = dueK f w := hys
  try simp only [List.cons_append, List.nil_append]
  refine Hd.inB <| Hd.toK K2 ?_; refine Hd.seq fun _ K4 => ?_
  refine Hd.exs pkk ?_; rintro ⟨a3, c3⟩; simp only [List.cons_append, List.nil_append]; refine Hd.region <| yv (y_l1 ag67 rfl) <| yv y_as <| fk [(4,_)] K4 ?_; refine Hd.ret ?_; exact Hd.retM (fun a fr => Lv.mark pkk (Lv.end1 fr rfl (a3, c3) rfl sq))
 rintro r0_0 (_ | id0) pre0 hG0
 ·exact Hd.absurd (by exact id)
 exact Hd.absurd (by exact id)
theorem colld_ct (L : List SP) (px qb wb mb : Nat) (f : Ky → Option KnA) (m : Nat) (hm : m ≤ 1000000) (hf : OkK f) (w : WA) : Ct Tryz.prog 90 #[seqK px] (KqM px qb wb mb f m w L) (fun q_ : Option Addr × Nat => .slice q_.1 (dueK f w).length q_.2) (fun q_ : Option Addr × Nat => own 82 4 q_.1 (dueK f w).length q_.2 ((dueK f w).flatMap encNo) :: KqM px qb wb mb f m w L) := by
 refine Ct.o1 Tryz.func90 ?_; intro E
 show Hd E 5 _ _ _ _
 refine sr fun _ K1 => ?_
 refine yv y_as <| fk [(0,_)] K1 ?_; refine sr fun _ K2 => ?_
 refine yv y_mv <| callE rfl fk156 (appd_ct L px qb wb mb f m hm hf w) sq ?_; rintro ⟨a2, c2⟩; dsimp only; refine yv y_as <| fk [(2,_)] K2 ?_; refine Hd.ret ?_; exact Hd.ret1 rfl (a2, c2) rfl sq
def offX (w : WA) (y : KnA) (k : Ky) : KnA := { y with armed := false, seen := riseK k.2 (readyR w k.1) }
def off1 (w : WA) (f : Ky → Option KnA) (x : NoA) : Ky → Option KnA :=
 if bits .and .i64 (oldK f x).flags 32 ≠ 0 then updK (updK f (x.1, x.2.1) (some (offX w (oldK f x) (x.1, x.2.1)))) (x.1, x.2.1) none else updK f (x.1, x.2.1) (some (offX w (oldK f x) (x.1, x.2.1)))
def offK (w : WA) (f : Ky → Option KnA) : List NoA → (Ky → Option KnA)
 | [] => f
 | x :: t => offK w (off1 w f x) t
theorem offK_app (w : WA) (x : NoA) : ∀ (l : List NoA) (f : Ky → Option KnA), offK w f (l ++ [x]) = off1 w (offK w f l) x
 | [], _ => rfl
 | y :: t, f => offK_app w x t _
def polK (f : Ky → Option KnA) (w : WA) (most : Int) (ord : List Int) : List NoA := (Sh.shufTo ord (dueK f w) (dueK f w).length).take most.toNat
theorem polK_len (f : Ky → Option KnA) (w : WA) (most : Int) (ord : List Int) : (polK f w most ord).length = min most.toNat (dueK f w).length := by unfold polK; rw [List.length_take, Sh.shuf_len]
theorem kpollbad_ct (L : List SP) (qb wb mb : Nat) (most : Int) (h1 : most < 1) (v : Value) : Ct Tryz.prog 30 #[.pointer (some ⟨qb, 0, none⟩), .int .i64 most, v] (KqH qb wb mb :: L) (fun _ : Unit => .tuple #[.slice none 0 0, .int .i64 2]) (fun _ : Unit => KqH qb wb mb :: L) := by
 refine Ct.o3 Tryz.func30 ?_; intro E
 show Hd E 76 _ _ _ _
 refine sr fun _ K1 => ?_
 refine yv y_as <| yv y_as <| fk [(0,_),(1,_),(2,_)] K1 ?_; refine Hd.seq fun _ K2 => ?_
 refine Hd.block <| sr fun _ K3 => ?_
 refine yv y_mv <| callE rfl fk87 (knone_ct _ qb wb mb) sq ?_; intro _; refine yv y_as <| fk [(0,_),(1,_),(2,_),(13,_)] K3 ?_; refine Hd.condF rfl ?_; refine sr fun _ K4 => ?_
 refine yv y_mv <| yv (y_lss rfl rfl) ?_; refine yv y_as <| fk [(0,_),(1,_),(2,_),(16,_)] K4 ?_; refine qz ?_ ?_ <;> intro hc1 <;> try simp only [hyZ] at hc1
 ·refine sr fun _ K5 => ?_
  refine yv y_as <| yv y_as <| fk [(6,_),(7,_)] K5 ?_; refine Hd.ret <| Hd.inBret <| Hd.thenRet ?_; exact Hd.ret2 rfl () rfl rfl rfl sq
 omega
theorem kpoll_ct (L : List SP) (qb wb mb : Nat) (f : Ky → Option KnA) (m : Nat) (hm : m ≤ 1000000) (hf : OkK f) (w : WA) (most : Int) (h1 : 1 ≤ most) (ao : Option Addr) (co : Nat) (ord : List Int) (ho : RdS L 1 ao ord.length (vi ord)) (hol : ord.length ≤ 1000000) : Ct Tryz.prog 30 #[.pointer (some ⟨qb, 0, none⟩), .int .i64 most, .slice ao ord.length co] (KqB qb wb mb f m w L) (fun q_ : Option Addr × Nat × Nat => .tuple #[.slice q_.1 (polK f w most ord).length q_.2.1, .int .i64 0]) (fun q_ : Option Addr × Nat × Nat => pu (q_.2.2 ≤ m + (polK f w most ord).length) :: own 82 4 q_.1 (polK f w most ord).length q_.2.1 ((polK f w most ord).flatMap encNo) :: KqB qb wb mb (offK w f (polK f w most ord)) q_.2.2 w L) := by
 refine Ct.o3 Tryz.func30 ?_; intro E
 show Hd E 76 _ _ _ _
 have hdl := dueK_len f w
 refine sr fun _ K1 => ?_
 refine yv y_as <| yv y_as <| fk [(0,_),(1,_),(2,_)] K1 ?_; refine Hd.seq fun _ K2 => ?_
 refine Hd.block <| sr fun _ K3 => ?_
 refine yv y_mv <| callE rfl fk87 (knone_ct _ qb wb mb) sq ?_; intro _; refine yv y_as <| fk [(0,_),(1,_),(2,_),(13,_)] K3 ?_; refine Hd.condF rfl ?_; refine sr fun _ K4 => ?_
 refine yv y_mv <| yv (y_lss rfl rfl) ?_; refine yv y_as <| fk [(0,_),(1,_),(2,_),(16,_)] K4 ?_; refine qz ?_ ?_ <;> intro hc1 <;> try simp only [hyZ] at hc1
 ·omega
 refine Hd.skip <| Hd.inB <| Hd.toK K2 ?_; refine sr fun _ K5 => ?_
 refine yv y_mv <| callE rfl fk88 (kdu_ct _ qb) sq ?_; intro px; refine callE rfl fk90 (colld_ct L px qb wb mb f m hm hf w) sq ?_; rintro ⟨a1, c1⟩; dsimp only; refine yv y_mv <| callE rfl fk89 (Sh.shuffleN_ct _ a1 ao c1 co (dueK f w) ord ?hD ?hO (by omega) hol) sq ?_
 case hD => exact RdS.own pkk
 case hO => exact RdS.mono ho sq
 rintro ⟨a2, c2⟩; dsimp only
 obtain ⟨s, hs⟩ : ∃ s, s = Sh.shufTo ord (dueK f w) (dueK f w).length := ⟨_, rfl⟩
 have hsl : s.length = (dueK f w).length := by rw [hs, Sh.shuf_len]
 obtain ⟨kk, hkk⟩ : ∃ k, k = min most.toNat (dueK f w).length := ⟨_, rfl⟩
 have hpo : polK f w most ord = s.take kk := by
  unfold polK; rw [← hs, hkk, ← hsl]
  rcases Nat.le_total most.toNat s.length with h | h
  ·rw [Nat.min_eq_left h]
  ·rw [Nat.min_eq_right h, List.take_length, List.take_of_length_le h]
 have hpl : (polK f w most ord).length = kk := by rw [polK_len, hkk]
 rw [hpo] at hpl ⊢; rw [hpl, ← hs]; refine Hd.ownCap (e := 82) (ad := a2) (m := (dueK f w).length) (cap := c2) pkk (fun hcap => ?_); refine yv y_as <| fk [(0,_),(1,_),(8,_)] K5 ?_; refine sr fun _ K6 => ?_
 refine yv y_mv <| yv y_mv <| yv y_mv <| yv (y_len Tryz.underlying67 rfl) ?_; refine yv (y_to (v' := .int .i64 (kk : Int)) (y_min rfl rfl) (by (congr 1; omega))) ?_; refine yv (y_slo_xoxN Tryz.underlying67 sz82 rfl rfl (by omega)) ?_; refine yv y_as <| fk [(0,_),(8,_)] K6 ?_; refine Hd.seq fun _ K7 => ?_
 refine sr fun _ K8 => ?_
 refine yv y_mv <| yv (y_len Tryz.underlying67 rfl) ?_; refine yv y_mv <| fk [(0,_),(8,_),(30,_),(31,_),(32,_)] K8 ?_; refine Hd.block <| Hd.loopK (ι := Nat × Nat) [(0,_),(8,_),(30,_),(31,_)] (fun q_ => [(32, .int .i64 (q_.1 : Int))]) (fun q_ => pu (q_.1 ≤ kk ∧ q_.2 ≤ m + q_.1) :: own 82 4 a2 (dueK f w).length c2 (s.flatMap encNo) :: KqB qb wb mb (offK w f (s.take q_.1)) q_.2 w L) (fun q_ => kk - q_.1) (0, m) sbq sbq (Ent.sep (.pure ⟨Nat.zero_le _, Nat.le_refl _⟩ enn)) ?_; rintro ⟨i, m'⟩
 try dsimp only
 refine Hd.pure (fun hp0 => ?_)
 try dsimp only at hp0
 refine sr fun _ K9 => ?_
 refine yv (y_lss rfl rfl) ?_; refine fk [(0,_),(8,_),(30,_),(31,_),(32,_),(33,_)] K9 ?_; refine Hd.seq fun _ K10 => ?_
 refine qz ?_ ?_ <;> intro hc2 <;> try simp only [hyZ] at hc2
 ·have hi : i < s.length := by omega
  have hgi : s[i]? = some s[i] := List.getElem?_eq_getElem hi
  have hsc : s.take (i + 1) = s.take i ++ [s[i]] := by rw [List.take_add_one, hgi]; rfl
  obtain ⟨x, hx⟩ : ∃ x, x = s[i] := ⟨_, rfl⟩
  rw [← hx] at hgi hsc
  obtain ⟨g, hg⟩ : ∃ g, g = offK w f (s.take i) := ⟨_, rfl⟩
  have hoa := offK_app w x (s.take i) f
  rw [← hsc, ← hg] at hoa; rw [← hg]; refine qv K10 <| Hd.seq fun _ K11 => ?_
  refine Hd.block <| sr fun _ K12 => ?_
  refine yv (y_idxR Tryz.underlying67 sz82 rfl rfl (by omega) (by exact RdS.head (RdS.own (ad := a2) (us := s.flatMap encNo) pkk) (by omega))) ?_; refine yv (y_loadRn (vs := encNo x) ag82 rfl (RdS.own (ad := a2) (us := s.flatMap encNo) pkk) (flat_cells encNo 4 (fun _ => rfl) hgi) (by exact sz82) (by simp)) ?_; refine Hd.alloc zr82 (fun b10 => ?_); refine Hd.storeA (us := encNo x) sz82 rfl rfl rfl (encNo_one _) pkk (by exact rfl) ?_; refine fk [(0,_),(8,_),(10,_),(30,_),(31,_),(32,_)] K12 ?_; refine sr fun _ K13 => ?_
  refine yv (y_f 0 3 Tryz.underlying82 sz3) <| yv (y_l1 ag3 rfl) <| yv (y_f 1 3 Tryz.underlying82 sz3) <| yv (y_l1 ag3 rfl) <| yv (y_build (vs := [(0,_),(1,_)]) rfl (by exact bd30_40 ..)) ?_; refine Hd.alloc zr170 (fun b11 => ?_); refine Hd.storeA (us := [.int .i64 x.1, .int .i64 x.2.1]) sz170 rfl rfl rfl (by simp [Value.oneCell']) pkk (by exact rfl) ?_; refine fk [(0,_),(8,_),(11,_),(30,_),(31,_),(32,_)] K13 ?_; refine Hd.seq fun _ K14 => ?_
  refine Hd.drawsH ([KqH qb wb mb, pt b11 [.int .i64 x.1, .int .i64 x.2.1] 170, mpP mb .i64 (kmap g) m']) (fun j => !([7].contains j)) mixed ?_; simp only [List.length, Nat.zero_add, Nat.reduceAdd]; refine tH 0 rfl y_mv <| tH 1 rfl y_np <| tH 2 rfl (y_f 1 173 Tryz.underlying175 sz173) <| tH 3 rfl (y_l1 ag173 rfl) <| tH 4 rfl (y_loadn (us := [_, _]) ag170 rfl (Rd.pt pkk (by (first | (intro j v e; rcases j with _|_|_|_|_|_|_|_|_|_|_|_|j <;> first | exact e | exact absurd e (by simp))))) (by exact sz170)) ?_; refine tH 5 rfl (y_to (v' := .agg (encKn (oldK g x)).toArray) (y_lookupK mapt173 rfl rfl pkk) (by exact kmap_get g (x.1, x.2.1))) ?_; refine qo 6 ?_; refine Hd.alloc zr172 (fun b12 => ?_); refine qk <| qo 7 ?_; refine Hd.storeA (us := encKn (oldK g x)) sz172 rfl rfl rfl (by simp [Value.oneCell']) pkk (by exact rfl) ?_; refine qn <| endH kq ?_
  refine sk [(0,_),(8,_),(11,_),(12,_),(30,_),(31,_),(32,_)] K14 ?_; refine Hd.seq fun _ K15 => ?_
  refine Hd.drawsH ([KqH qb wb mb, pt b11 [.int .i64 x.1, .int .i64 x.2.1] 170]) (fun j => !(([1000] : List Nat).contains j)) mixed ?_; simp only [List.length, Nat.zero_add, Nat.reduceAdd]; refine tH 0 rfl (y_f 1 3 Tryz.underlying170 sz3) <| tH 1 rfl (y_l1 ag3 rfl) <| tH 2 rfl y_mv <| tH 3 rfl y_np <| tH 4 rfl (y_f 0 38 Tryz.underlying175 sz38) <| tH 5 rfl (y_l1 ag38 rfl) <| tH 6 rfl (y_f 0 3 Tryz.underlying170 sz3) <| tH 7 rfl (y_l1 ag3 rfl) <| tH 10 rfl (y_f 2 4 Tryz.underlying172 sz4) <| qo 8 ?_; refine callE rfl fk43 (wready_ct _ wb w x.1) sq ?_; intro _; refine qk <| qo 9 ?_; refine callE rfl fk91 (krises_ct _ x.2.1 (readyR w x.1)) sq ?_; intro _; refine qk <| qo 11 ?_; refine Hd.store1 sz4 rfl rfl rfl pkk (by simp; done) ?_
  try simp only [hyS]
  refine qk <| tH 12 rfl (y_f 3 30 Tryz.underlying172 sz30) <| qo 13 ?_; refine Hd.store1 sz30 rfl rfl rfl pkk (by simp; done) ?_
  try simp only [hyS]
  refine qk <| endH kq ?_; refine sk [(0,_),(8,_),(11,_),(12,_),(30,_),(31,_),(32,_)] K15 ?_; refine Hd.seq fun _ K16 => ?_
  refine Hd.tail 6 mixed kq ?_; simp only [List.take, List.drop]; refine Ht.yv y_mv ?_; refine Ht.yv y_np ?_; refine Ht.yv (y_f 1 173 Tryz.underlying175 sz173) ?_; refine Ht.yv (y_l1 ag173 rfl) ?_; refine Ht.yv (y_loadn (us := [_, _]) ag170 rfl (Rd.pt pkk (by (first | (intro j v e; rcases j with _|_|_|_|_|_|_|_|_|_|_|_|j <;> first | exact e | exact absurd e (by simp))))) (by exact sz170)) ?_; refine Ht.yv (y_loadn (us := [_, _, _, _]) ag172 rfl (Rd.pt pkk (by (first | (intro j v e; rcases j with _|_|_|_|_|_|_|_|_|_|_|_|j <;> first | exact e | exact absurd e (by simp))))) (by exact sz172)) ?_; refine Ht.nil ?_; refine Hd.mapUpdateK mapt173 rfl rfl rfl pkk ?_; refine fk [(0,_),(8,_),(11,_),(12,_),(30,_),(31,_),(32,_)] K16 ?_; refine sr fun _ K17 => ?_
  refine yv (y_f 1 3 Tryz.underlying172 sz3) <| yv (y_l1 ag3 rfl) <| yv (y_and rfl rfl) ?_; refine yv (y_neq rfl rfl) ?_; refine fk [(0,_),(8,_),(11,_),(30,_),(31,_),(32,_),(68,_)] K17 ?_; refine qz ?_ ?_ <;> intro hc3 <;> try simp only [hyZ] at hc3
  ·refine Hd.tail 5 mixed kq ?_
   simp only [List.take, List.drop]; refine Ht.yv y_mv ?_; refine Ht.yv y_np ?_; refine Ht.yv (y_f 1 173 Tryz.underlying175 sz173) ?_; refine Ht.yv (y_l1 ag173 rfl) ?_; refine Ht.yv (y_loadn (us := [_, _]) ag170 rfl (Rd.pt pkk (by (first | (intro j v e; rcases j with _|_|_|_|_|_|_|_|_|_|_|_|j <;> first | exact e | exact absurd e (by simp))))) (by exact sz170)) ?_; refine Ht.nil ?_; refine Hd.mapDelete0K mapt173 rfl rfl pkk ?_; refine Hd.nil <| slots [(0,_),(8,_),(30,_),(31,_),(32,_)] sbq ?_; refine Hd.inB <| Hd.toK K11 ?_; refine Hd.region <| yv (y_addn rfl rfl (by simp only [InK]; omega)) ?_; refine yv y_mv <| Hd.nil <| slots [(0,_),(8,_),(30,_),(31,_),(32,_)] sbq ?_; refine thenN ?_; exact Hd.again (i + 1, (if (kmap g (x.1, x.2.1)).isSome then m' else m' + 1) - 1) (by omega) sbq (Ent.sep (.pure ⟨by omega, by dsimp only; split <;> omega⟩ (.pick pkk (.pick pkk (.eq pkk (mpP_eq (by rw [hoa]; unfold off1; rw [if_pos hc3, kmap_del, kmap_upd]; rfl) (by simp)) enn)))))
  refine Hd.skip <| Hd.inB <| Hd.toK K11 ?_; refine Hd.region <| yv (y_addn rfl rfl (by simp only [InK]; omega)) ?_; refine yv y_mv <| Hd.nil <| slots [(0,_),(8,_),(30,_),(31,_),(32,_)] sbq ?_; refine thenN ?_; exact Hd.again (i + 1, (if (kmap g (x.1, x.2.1)).isSome then m' else m' + 1)) (by omega) sbq (Ent.sep (.pure ⟨by omega, by dsimp only; split <;> omega⟩ (.pick pkk (.pick pkk (.eq pkk (mpP_eq (by rw [hoa]; unfold off1; rw [if_neg (fun h => h hc3), kmap_upd]; rfl) rfl) enn)))))
 obtain rfl : i = kk := by omega
 refine Hd.exit <| Hd.thenExit <| Hd.thenExit <| Hd.inBexit <| Hd.toK K7 ?_; refine sr fun _ K18 => ?_
 refine yv y_mv <| yv y_as <| yv y_as <| fk [(6,_),(7,_)] K18 ?_; refine Hd.ret <| Hd.ownTake (e := 82) (ad := a2) (m := (dueK f w).length) (cap := c2) pkk i ((s.take i).flatMap encNo) ((s.drop i).flatMap encNo) (by omega) (by rw [← List.flatMap_append, List.take_append_drop]) (by rw [rows_len (k := 4) (fun _ => rfl), List.length_take]; omega) ?_; rw [hpo, hpl]; exact Hd.ret2 rfl (a2, c2, m') rfl rfl rfl (Ent.sep (.pure hp0.2 enn))
end Kq
end Go.Proofs.YtbfddabjbkohdaaGreat
namespace Go.Proofs.YtbfddabjbkohdaaGreat
open Go.RX Fx
namespace Wo
def mkN (w : WA) (k : Nat) : Int := if mkE w k = 0 then (w.ws.length : Int) else 0
theorem mkW_len {w : WA} {k : Nat} {x : WireA} (h : mkE w k = 0) : (mkW w k x).ws.length = w.ws.length + 1 := by
 unfold mkE at h; unfold mkW
 by_cases h1 : mkOk w k = true
 ·rw [if_pos h1]
  show (w.ws ++ [_]).length = _
  rw [List.length_append]; rfl
 ·rw [if_neg h1] at h; exact absurd h (by decide)
theorem outer_mk (L : List SP) (wb : Nat) (w : WA) (n : Nat) (h1 : 1 ≤ n) (h2 : n ≤ 65536) : Ct Tryz.prog 50 #[.pointer (some ⟨wb, 0, none⟩), .int .i64 (n : Int)] (WorldP wb w :: L) (fun _ : Unit => .tuple #[.int .i64 (mkI w 1 0), .int .i64 (mkN w 1), .int .i64 (mkE w 1)]) (fun _ : Unit => WorldP wb (mkW w 1 (connW n)) :: L) := by
 refine Ct.o2 Tryz.func50 ?_; intro E
 show Hd E 35 _ _ _ _
 refine sr fun _ K1 => ?_
 refine yv y_as <| yv y_as <| yv y_as <| fk [(0,_),(1,_)] K1 ?_; refine sr fun _ K2 => ?_
 refine yv y_mv <| callE rfl fk109 (both_ct _ n h1 h2) sq ?_; intro b; refine yv y_as <| fk [(0,_),(1,_),(7,_)] K2 ?_; refine Hd.seq fun _ K3 => ?_
 refine Hd.wire pkk 1 (by omega) (fun i hi => ?_); refine Hd.region <| yv y_mv <| yv y_np <| yv (y_f 0 197 Tryz.underlying199 sz197) <| yv (y_idxA Tryz.underlying197 sz196 rfl rfl (by decide)) ?_; refine yv (y_f 0 3 Tryz.underlying196 sz3) <| Hd.store1 sz3 rfl rfl rfl pkk (by simp; done) ?_
 try simp only [hyS]
 refine Hd.nil ?_; rw [show (encW (halfW n 2) i).set (0 + 0 + 1 * 7 + 0) (.int .i64 2) = encW (connW n) i from rfl]; refine Hd.heap (WireP b (connW n) :: WorldP wb w :: L) (fun q s => wire_close (x := halfW n 2) (f := fun e => { e with what := 2 }) (k := 1) (k' := 1) hi (by omega) (fun _ => rfl) (fun _ => rfl) q (Ent.sep enn q s)) ?_; refine sk [(0,_),(1,_),(7,_)] K3 ?_; refine sr fun _ K4 => ?_
 refine yv y_mv <| yv y_mv <| yv y_mv <| callE rfl fk110 (make_ct _ wb b w n h1 h2 1 (by omega) (connW n) (conn_new h2)) sq ?_; rintro ⟨ad, c⟩; dsimp only; refine yv y_mv <| yv (y_to (v' := .slice ad (mkF w 1).length c) y_ex (by rfl)) ?_; refine yv (y_to (v' := .int .i64 (mkE w 1)) y_ex (by rfl)) ?_; refine yv y_as <| yv y_as <| fk [(0,_),(6,_),(8,_)] K4 ?_; refine Hd.seq fun _ K5 => ?_
 refine sr fun _ K6 => ?_
 refine yv y_mv <| yv (y_neq rfl rfl) ?_; refine fk [(0,_),(6,_),(8,_),(24,_)] K6 ?_; refine qz ?_ ?_ <;> intro hc0 <;> try simp only [hyZ] at hc0
 ·refine sr fun _ K7 => ?_
  refine yv y_mv <| yv y_as <| yv y_as <| yv y_as <| fk [(4,_),(5,_),(6,_)] K7 ?_; refine Hd.ret <| Hd.thenRet ?_
  have h : mkF w 1 = [] := by
   rcases mkF_len (w := w) (k := 1) with h | h
   ·exact absurd h.1 hc0
   ·exact h.2
  rw [show mkI w 1 0 = 0 by unfold mkI; rw [h]; rfl, show mkN w 1 = 0 by unfold mkN; rw [if_neg hc0]]; exact Hd.ret3 rfl () rfl rfl rfl rfl sq
 have hl : (mkF w 1).length = 1 := by
  rcases mkF_len (w := w) (k := 1) with h | h
  ·exact h.2
  ·rw [h.1] at hc0; exact absurd hc0 (by decide)
 have hg0 : (nats (mkF w 1))[0 * 1]? = some (.int .i64 (mkI w 1 0)) := nats_at (by omega)
 have hwl := mkW_len (x := connW n) hc0
 refine qv K5 <| Hd.seq fun _ K8 => ?_
 refine Hd.world pkk (fun i hw hrs => ?_)
 have hrl : i.rs.length = w.ws.length + 1 := by rw [← hwl, ← hrs, List.length_map]
 have hln : i.rs.length ≤ 1000 := by rw [hrl, ← hwl]; exact hw.len
 refine Hd.quiet mixed kq ?_; refine Hq.yv y_mv ?_; refine Hq.yv (y_idxR Tryz.underlying44 sz3 rfl rfl (by exact (show (0 : Nat) < _ by omega)) (by exact RdS.own pkk)) ?_; refine Hq.yv (y_loadR1 ag3 rfl (RdS.own (ad := ad) (us := nats (mkF w 1)) pkk) hg0) ?_; refine Hq.yv y_mv ?_; refine Hq.yv y_np ?_; refine Hq.yv (y_f 288 208 Tryz.underlying210 sz208) ?_; refine Hq.yv (y_load1 ag208 rfl (Rd.pt1 pkk (by exact woT_at (j := 0) (by omega) rfl))) ?_; refine Hq.yv (y_len Tryz.underlying208 rfl) ?_; refine Hq.yv (y_to (v' := .int .i64 (w.ws.length : Int)) (y_subn rfl rfl (by simp only [InK]; omega)) (by (congr 1; omega))) ?_; refine Hq.yv y_as ?_; refine Hq.yv y_as ?_; refine Hq.yv y_as ?_; refine Hq.nil ?_; refine sk [(4,_),(5,_),(6,_)] K8 ?_; refine Hd.ret ?_; rw [show mkN w 1 = (w.ws.length : Int) by unfold mkN; rw [if_pos hc0]]; exact Hd.ret3 rfl () rfl rfl (by rw [hc0]; rfl) rfl (Ent.sep (.ex i (.pure ⟨hw, hrs⟩ enn)))
theorem outer_bad (L : List SP) (wb : Nat) (w : WA) (n : Int) (h : n < 1 ∨ 65536 < n) : Ct Tryz.prog 50 #[.pointer (some ⟨wb, 0, none⟩), .int .i64 n] (WorldP wb w :: L) (fun _ : Unit => .tuple #[.int .i64 0, .int .i64 0, .int .i64 2]) (fun _ : Unit => WorldP wb w :: L) := by
 refine Ct.o2 Tryz.func50 ?_; intro E
 show Hd E 35 _ _ _ _
 refine sr fun _ K1 => ?_
 refine yv y_as <| yv y_as <| yv y_as <| fk [(0,_),(1,_)] K1 ?_; refine sr fun _ K2 => ?_
 refine yv y_mv <| callE rfl fk109 (bothbad_ct _ n h) sq ?_; rintro ⟨b, cs⟩; dsimp only; refine Hd.pure (fun hcs => ?_); refine yv y_as <| fk [(0,_),(1,_),(7,_)] K2 ?_; refine sr fun _ K3 => ?_
 refine yv y_mv <| yv y_np <| yv (y_f 0 197 Tryz.underlying199 sz197) <| yv (y_idxA Tryz.underlying197 sz196 rfl rfl (by decide)) ?_; refine yv (y_f 0 3 Tryz.underlying196 sz3) <| Hd.store1 sz3 rfl rfl rfl pkk (by rw [hcs]; decide) ?_
 try simp only [hyS]
 refine fk [(0,_),(1,_),(7,_)] K3 ?_; refine sr fun _ K4 => ?_
 refine yv y_mv <| yv y_mv <| yv y_mv <| callE rfl fk110 (makebad_ct _ wb b w n h 1) sq ?_; intro _; refine yv y_mv <| yv (y_to (v' := .slice none 0 0) y_ex (by rfl)) ?_; refine yv (y_to (v' := .int .i64 2) y_ex (by rfl)) ?_; refine yv y_as <| yv y_as <| fk [(0,_),(6,_),(8,_)] K4 ?_; refine Hd.seq fun _ K5 => ?_
 refine sr fun _ K6 => ?_
 refine yv y_mv <| yv (y_neq rfl rfl) ?_; refine fk [(0,_),(6,_),(8,_),(24,_)] K6 ?_; refine qz ?_ ?_ <;> intro hc0 <;> try simp only [hyZ] at hc0
 ·refine sr fun _ K7 => ?_
  refine yv y_mv <| yv y_as <| yv y_as <| yv y_as <| fk [(4,_),(5,_),(6,_)] K7 ?_; refine Hd.ret <| Hd.thenRet ?_; exact Hd.ret3 rfl () rfl rfl rfl rfl sq
 exact absurd hc0 (by decide)
def pipeW (n : Nat) : WireA := ((halfW n 2).up 0 fun e => { e with wr := false }).up 1 fun e => { e with rd := false }
theorem pipe_new {n l : Nat} (h : n ≤ 65536) : NewW (pipeW n) l := by
 have e : ∀ k, k < 2 → ((pipeW n).e k).b = [] ∧ ((pipeW n).e k).what = 0 := fun k hk => by
  rcases (show k = 0 ∨ k = 1 by omega) with rfl | rfl <;> exact ⟨rfl, rfl⟩
 refine ⟨⟨fun k hk => ?_, fun k hk => by rw [(e k hk).1]; exact Nat.zero_le _, fun k hk _ => (e k hk).1, h, fun k hk => by rw [(e k hk).2]; decide, ⟨Int.le_refl _, by show (0 : Int) ≤ 64; decide, by show ((0 : Nat) : Int) ≤ 0; decide⟩, fun h1 => absurd h1 (by rw [(e 1 (by omega)).2]; decide)⟩, fun k hk => by rw [(e k hk).2]; decide, rfl⟩
 rcases (show k = 0 ∨ k = 1 by omega) with rfl | rfl <;> rfl
abbrev pwi (i : WI) : WI := ⟨fun j => if j = 0 then i.p 0 else none, i.wa, i.wc⟩
theorem pipe_wire {b n : Nat} {i : WI} {L : List SP} (hi0 : (i.p 0).isSome = true) : ∀ h, sep (pt b (encW (pipeW n) (pwi i)) 199 :: RgO (i.p 0) n [] :: own 3 1 i.wa 0 i.wc [] :: L) h → sep (WireP b (pipeW n) :: L) h := fun h s => by
 refine Ent.sep (Ent.ex (pwi i, 0) (Ent.pure ⟨⟨fun j hj => by
  rcases (show j = 0 ∨ j = 1 by omega) with rfl | rfl
  ·exact hi0
  ·rfl⟩, by omega⟩ ?_)) h s
 show Ent _ (pt b (encW (pipeW n) (pwi i)) 199 :: RgO (i.p 0) n [] :: pu True :: own 3 1 i.wa 0 i.wc [] :: L)
 exact .pick pkk (.pick pkk (.pure trivial enn))
theorem pipe_mk (L : List SP) (wb : Nat) (w : WA) (n : Nat) (h1 : 1 ≤ n) (h2 : n ≤ 65536) : Ct Tryz.prog 54 #[.pointer (some ⟨wb, 0, none⟩), .int .i64 (n : Int)] (WorldP wb w :: L) (fun _ : Unit => .tuple #[.int .i64 (mkI w 2 0), .int .i64 (mkI w 2 1), .int .i64 (mkE w 2)]) (fun _ : Unit => WorldP wb (mkW w 2 (pipeW n)) :: L) := by
 refine Ct.o2 Tryz.func54 ?_; intro E
 show Hd E 37 _ _ _ _
 refine sr fun _ K1 => ?_
 refine yv y_as <| yv y_as <| yv y_as <| fk [(0,_),(1,_)] K1 ?_; refine sr fun _ K2 => ?_
 refine yv y_mv <| callE rfl fk109 (both_ct _ n h1 h2) sq ?_; intro b; refine yv y_as <| fk [(0,_),(1,_),(7,_)] K2 ?_; refine Hd.seq fun _ K3 => ?_
 refine Hd.wire pkk 0 (by omega) (fun i hi => ?_)
 have hi0 : (i.p 0).isSome = true := hi.rd 0 (by omega)
 refine Hd.draws mixed ?_; simp only [List.length, Nat.zero_add, Nat.reduceAdd]; refine Hd.take 0 rfl kq kq kq (fun _ => y_move rfl) fq ?_; refine Hd.take 1 rfl kq kq kq (fun _ => y_move rfl) fq ?_; refine Hd.take 2 rfl kq kq kq (fun _ => y_nilp rfl) fq ?_; refine Hd.take 3 rfl kq kq kq (fun _ => y_field' (q := 0) (ft := 197) Tryz.underlying199 rfl sz197 rfl rfl) fq ?_; refine Hd.take 7 rfl kq kq kq (fun _ => y_nilp rfl) fq ?_; refine Hd.take 8 rfl kq kq kq (fun _ => y_field' (q := 0) (ft := 197) Tryz.underlying199 rfl sz197 rfl rfl) fq ?_; refine Hd.tailAt 6 [4, 5] [6, 9, 10, 11] rfl rfl rfl kq ?_; simp only [pk, List.getElem?_cons_zero, List.getElem?_cons_succ]; refine Ht.yv (y_idxA Tryz.underlying197 sz196 rfl rfl (by decide)) ?_; refine Ht.yv (y_f 3 4 Tryz.underlying196 sz4) ?_; refine Ht.nil ?_; refine Hd.store1 sz4 rfl rfl rfl pkk (by simp; done) ?_
 try simp only [hyS]
 refine yv (y_idxA Tryz.underlying197 sz196 rfl rfl (by decide)) ?_; refine yv (y_f 2 194 Tryz.underlying196 sz194) <| Hd.store1 sz194 rfl rfl rfl pkk (by simp; done) ?_
 try simp only [hyS]
 refine Hd.nil <| Hd.noPn ?_; refine Hd.heap (WireP b (pipeW n) :: WorldP wb w :: L) (fun q s => pipe_wire hi0 q (Ent.sep (.eq pkk (pt_eq (by rfl)) (.eq pkk (show RgO (i.p 0) (halfW n 2).cap ((halfW n 2).e 0).b = RgO (i.p 0) n [] from rfl) (.eq pkk (show own 3 1 i.wa (halfW n 2).wt.length i.wc (nats (halfW n 2).wt) = own 3 1 i.wa 0 i.wc [] from rfl) enn))) q s)) ?_; refine sk [(0,_),(1,_),(7,_)] K3 ?_; refine sr fun _ K4 => ?_
 refine yv y_mv <| yv y_mv <| yv y_mv <| callE rfl fk110 (make_ct _ wb b w n h1 h2 2 (by omega) (pipeW n) (pipe_new h2)) sq ?_; rintro ⟨ad, c⟩; dsimp only; refine yv y_mv <| yv (y_to (v' := .slice ad (mkF w 2).length c) y_ex (by rfl)) ?_; refine yv (y_to (v' := .int .i64 (mkE w 2)) y_ex (by rfl)) ?_; refine yv y_as <| yv y_as <| fk [(6,_),(8,_)] K4 ?_; refine Hd.seq fun _ K5 => ?_
 refine sr fun _ K6 => ?_
 refine yv y_mv <| yv (y_neq rfl rfl) ?_; refine fk [(6,_),(8,_),(29,_)] K6 ?_; refine qz ?_ ?_ <;> intro hc0 <;> try simp only [hyZ] at hc0
 ·refine sr fun _ K7 => ?_
  refine yv y_mv <| yv y_as <| yv y_as <| yv y_as <| fk [(4,_),(5,_),(6,_)] K7 ?_; refine Hd.ret <| Hd.thenRet ?_
  have h : mkF w 2 = [] := by
   rcases mkF_len (w := w) (k := 2) with h | h
   ·exact absurd h.1 hc0
   ·exact h.2
  rw [show mkI w 2 0 = 0 by unfold mkI; rw [h]; rfl, show mkI w 2 1 = 0 by unfold mkI; rw [h]; rfl]; exact Hd.ret3 rfl () rfl rfl rfl rfl sq
 have hl : (mkF w 2).length = 2 := by
  rcases mkF_len (w := w) (k := 2) with h | h
  ·exact h.2
  ·rw [h.1] at hc0; exact absurd hc0 (by decide)
 have hg0 : (nats (mkF w 2))[0 * 1]? = some (.int .i64 (mkI w 2 0)) := nats_at (by omega)
 have hg1 : (nats (mkF w 2))[1 * 1]? = some (.int .i64 (mkI w 2 1)) := nats_at (by omega)
 refine qv K5 <| Hd.seq fun _ K8 => ?_
 refine Hd.quiet mixed kq ?_; refine Hq.yv y_mv ?_; refine Hq.yv (y_idxR Tryz.underlying44 sz3 rfl rfl (by exact (show (0 : Nat) < _ by omega)) (by exact RdS.own pkk)) ?_; refine Hq.yv (y_loadR1 ag3 rfl (RdS.own (ad := ad) (us := nats (mkF w 2)) pkk) hg0) ?_; refine Hq.yv y_mv ?_; refine Hq.yv (y_idxR Tryz.underlying44 sz3 rfl rfl (by exact (show (1 : Nat) < _ by omega)) (by exact RdS.own pkk)) ?_; refine Hq.yv (y_loadR1 ag3 rfl (RdS.own (ad := ad) (us := nats (mkF w 2)) pkk) hg1) ?_; refine Hq.yv y_as ?_; refine Hq.yv y_as ?_; refine Hq.yv y_as ?_; refine Hq.nil ?_; refine sk [(4,_),(5,_),(6,_)] K8 ?_; refine Hd.ret ?_; exact Hd.ret3 rfl () rfl rfl (by rw [hc0]; rfl) rfl sq
theorem pipe_bad (L : List SP) (wb : Nat) (w : WA) (n : Int) (h : n < 1 ∨ 65536 < n) : Ct Tryz.prog 54 #[.pointer (some ⟨wb, 0, none⟩), .int .i64 n] (WorldP wb w :: L) (fun _ : Unit => .tuple #[.int .i64 0, .int .i64 0, .int .i64 2]) (fun _ : Unit => WorldP wb w :: L) := by
 refine Ct.o2 Tryz.func54 ?_; intro E
 show Hd E 37 _ _ _ _
 refine sr fun _ K1 => ?_
 refine yv y_as <| yv y_as <| yv y_as <| fk [(0,_),(1,_)] K1 ?_; refine sr fun _ K2 => ?_
 refine yv y_mv <| callE rfl fk109 (bothbad_ct _ n h) sq ?_; rintro ⟨b, cs⟩; dsimp only; refine Hd.pure (fun hcs => ?_); refine yv y_as <| fk [(0,_),(1,_),(7,_)] K2 ?_; refine Hd.seq fun _ K3 => ?_
 refine Hd.draws mixed ?_; simp only [List.length, Nat.zero_add, Nat.reduceAdd]; refine Hd.take 0 rfl kq kq kq (fun _ => y_move rfl) fq ?_; refine Hd.take 1 rfl kq kq kq (fun _ => y_move rfl) fq ?_; refine Hd.take 2 rfl kq kq kq (fun _ => y_nilp rfl) fq ?_; refine Hd.take 3 rfl kq kq kq (fun _ => y_field' (q := 0) (ft := 197) Tryz.underlying199 rfl sz197 rfl rfl) fq ?_; refine Hd.take 7 rfl kq kq kq (fun _ => y_nilp rfl) fq ?_; refine Hd.take 8 rfl kq kq kq (fun _ => y_field' (q := 0) (ft := 197) Tryz.underlying199 rfl sz197 rfl rfl) fq ?_; refine Hd.tailAt 6 [4, 5] [6, 9, 10, 11] rfl rfl rfl kq ?_; simp only [pk, List.getElem?_cons_zero, List.getElem?_cons_succ]; refine Ht.yv (y_idxA Tryz.underlying197 sz196 rfl rfl (by decide)) ?_; refine Ht.yv (y_f 3 4 Tryz.underlying196 sz4) ?_; refine Ht.nil ?_; refine Hd.store1 sz4 rfl rfl rfl pkk (by rw [hcs]; decide) ?_
 try simp only [hyS]
 refine yv (y_idxA Tryz.underlying197 sz196 rfl rfl (by decide)) ?_; refine yv (y_f 2 194 Tryz.underlying196 sz194) <| Hd.store1 sz194 rfl rfl rfl pkk (by rw [List.length_set, hcs]; decide) ?_
 try simp only [hyS]
 refine Hd.nil <| Hd.noPn ?_; refine sk [(0,_),(1,_),(7,_)] K3 ?_; refine sr fun _ K4 => ?_
 refine yv y_mv <| yv y_mv <| yv y_mv <| callE rfl fk110 (makebad_ct _ wb b w n h 2) sq ?_; intro _; refine yv y_mv <| yv (y_to (v' := .slice none 0 0) y_ex (by rfl)) ?_; refine yv (y_to (v' := .int .i64 2) y_ex (by rfl)) ?_; refine yv y_as <| yv y_as <| fk [(6,_),(8,_)] K4 ?_; refine Hd.seq fun _ K5 => ?_
 refine sr fun _ K6 => ?_
 refine yv y_mv <| yv (y_neq rfl rfl) ?_; refine fk [(6,_),(8,_),(29,_)] K6 ?_; refine qz ?_ ?_ <;> intro hc0 <;> try simp only [hyZ] at hc0
 ·refine sr fun _ K7 => ?_
  refine yv y_mv <| yv y_as <| yv y_as <| yv y_as <| fk [(4,_),(5,_),(6,_)] K7 ?_; refine Hd.ret <| Hd.thenRet ?_; exact Hd.ret3 rfl () rfl rfl rfl rfl sq
 exact absurd hc0 (by decide)
def listW (n : Nat) : WireA := { e := fun _ => blankE, cap := n, rs := false, bl := (n : Int), wt := [] }
theorem list_new {n l : Nat} (h : n ≤ 64) : NewW (listW n) l :=
 ⟨⟨fun k hk => rfl, fun k hk => Nat.zero_le _, fun k hk _ => rfl, by show n ≤ 65536; omega, fun k hk => by show (0 : Int) ≤ 0 ∧ (0 : Int) ≤ 3; decide, ⟨by show (0 : Int) ≤ (n : Int); omega, by show (n : Int) ≤ 64; omega, by show ((0 : Nat) : Int) ≤ (n : Int); omega⟩, fun h1 => absurd (show (0 : Int) = 2 from h1) (by decide)⟩, fun k hk => by show (0 : Int) ≠ 1; decide, rfl⟩
theorem bd_list (n : Int) : Tryz.prog.built 199 [(2, .int .i64 n)] = some ([.int .i64 0, .int .i64 0, .pointer none, .bool false, .bool false, .int .u64 0, .int .u64 0, .int .i64 0, .int .i64 0, .pointer none, .bool false, .bool false, .int .u64 0, .int .u64 0, .bool false, .int .i64 n, .slice none 0 0] : List Value).toArray := by kernel_rfl
theorem listen_mk (L : List SP) (wb : Nat) (w : WA) (n : Nat) (h1 : 1 ≤ n) (h2 : n ≤ 64) : Ct Tryz.prog 56 #[.pointer (some ⟨wb, 0, none⟩), .int .i64 (n : Int)] (WorldP wb w :: L) (fun _ : Unit => .tuple #[.int .i64 (mkI w 1 0), .int .i64 (mkN w 1), .int .i64 (mkE w 1)]) (fun _ : Unit => WorldP wb (mkW w 1 (listW n)) :: L) := by
 refine Ct.o2 Tryz.func56 ?_; intro E
 show Hd E 36 _ _ _ _
 refine Hd.world .here (fun i hw hrs => ?_); refine sr fun _ K1 => ?_
 refine yv y_as <| yv y_as <| yv y_as <| fk [(0,_),(1,_)] K1 ?_; refine Hd.seq fun _ K2 => ?_
 refine sr fun _ K3 => ?_
 refine yv y_mv <| callE rfl fk113 (wnone_ct _ wb w.at w i.rs.length i) sq ?_; intro _; refine yv (y_not rfl) <| yv y_mv ?_; apply Hd.andg 3 11 14 [(0,_),(1,_)] rfl sbq
 ·intro hg1_11
  try simp only [hyZ] at hg1_11
  simp only [List.take]; refine y2 y_mv <| y2 (y_gtr rfl rfl) ?_; refine yv (y_pickT rfl rfl) ?_; exact Hd.mn
 ·intro hg1_11
  try simp only [hyZ] at hg1_11
  simp only [List.take]; refine n1 <| n1 <| yv (y_pickF rfl rfl) ?_; exact Hd.mn
 simp only [List.drop]; refine fk [(0,_),(1,_),(14,_)] K3 ?_; refine qz ?_ ?_ <;> intro hc0 <;> try simp only [hyZ] at hc0
 ·exfalso
  omega
 refine qv K2 <| sr fun _ K4 => ?_
 refine yv y_mv <| yv y_mv <| yv y_mv <| yv (y_build (vs := [(2,_)]) rfl (bd_list (n : Int))) ?_; refine Hd.box (us := [.int .i64 0, .int .i64 0, .pointer none, .bool false, .bool false, .int .u64 0, .int .u64 0, .int .i64 0, .int .i64 0, .pointer none, .bool false, .bool false, .int .u64 0, .int .u64 0, .bool false, .int .i64 (n : Int), .slice none 0 0]) rfl rfl (fun b20 => ?_); refine Hd.heap (WorldP wb w :: WireP b20 (listW n) :: L) (fun q s => Ent.sep (.ex i (.pure ⟨hw, hrs⟩ (.pick pkk (.pick pkk (.pick pkk (.pick pkk (.ex (⟨fun _ => none, none, 0⟩, 0) (.pure ⟨⟨fun j _ => rfl⟩, by omega⟩ (.eq pkk (pt_eq (by rfl)) (.pure trivial (.pure trivial (.ownNil enn)))))))))))) q s) ?_; refine callE rfl fk110 (make_ct _ wb b20 w n h1 (by omega) 1 (by omega) (listW n) (list_new h2)) sq ?_; rintro ⟨ad, c⟩; dsimp only; refine yv y_mv <| yv (y_to (v' := .slice ad (mkF w 1).length c) y_ex (by rfl)) ?_
 refine yv (y_to (v' := .int .i64 (mkE w 1)) y_ex (by rfl)) ?_; refine yv y_as <| yv y_as <| fk [(0,_),(6,_),(7,_)] K4 ?_; refine Hd.seq fun _ K5 => ?_
 refine sr fun _ K6 => ?_
 refine yv y_mv <| yv (y_neq rfl rfl) ?_; refine fk [(0,_),(6,_),(7,_),(25,_)] K6 ?_; refine qz ?_ ?_ <;> intro hc1 <;> try simp only [hyZ] at hc1
 ·refine sr fun _ K7 => ?_
  refine yv y_mv <| yv y_as <| yv y_as <| yv y_as <| fk [(4,_),(5,_),(6,_)] K7 ?_; refine Hd.ret <| Hd.thenRet ?_
  have h : mkF w 1 = [] := by
   rcases mkF_len (w := w) (k := 1) with h | h
   ·exact absurd h.1 hc1
   ·exact h.2
  rw [show mkI w 1 0 = 0 by unfold mkI; rw [h]; rfl, show mkN w 1 = 0 by unfold mkN; rw [if_neg hc1]]; exact Hd.ret3 rfl () rfl rfl rfl rfl sq
 have hl : (mkF w 1).length = 1 := by
  rcases mkF_len (w := w) (k := 1) with h | h
  ·exact h.2
  ·rw [h.1] at hc1; exact absurd hc1 (by decide)
 have hg0 : (nats (mkF w 1))[0 * 1]? = some (.int .i64 (mkI w 1 0)) := nats_at (by omega)
 have hwl := mkW_len (x := listW n) hc1
 refine qv K5 <| Hd.seq fun _ K8 => ?_
 refine Hd.world pkk (fun i hw hrs => ?_)
 have hrl : i.rs.length = w.ws.length + 1 := by rw [← hwl, ← hrs, List.length_map]
 have hln : i.rs.length ≤ 1000 := by rw [hrl, ← hwl]; exact hw.len
 refine Hd.quiet mixed kq ?_; refine Hq.yv y_mv ?_; refine Hq.yv (y_idxR Tryz.underlying44 sz3 rfl rfl (by exact (show (0 : Nat) < _ by omega)) (by exact RdS.own pkk)) ?_; refine Hq.yv (y_loadR1 ag3 rfl (RdS.own (ad := ad) (us := nats (mkF w 1)) pkk) hg0) ?_; refine Hq.yv y_mv ?_; refine Hq.yv y_np ?_; refine Hq.yv (y_f 288 208 Tryz.underlying210 sz208) ?_; refine Hq.yv (y_load1 ag208 rfl (Rd.pt1 pkk (by exact woT_at (j := 0) (by omega) rfl))) ?_; refine Hq.yv (y_len Tryz.underlying208 rfl) ?_; refine Hq.yv (y_to (v' := .int .i64 (w.ws.length : Int)) (y_subn rfl rfl (by simp only [InK]; omega)) (by (congr 1; omega))) ?_; refine Hq.yv y_as ?_; refine Hq.yv y_as ?_; refine Hq.yv y_as ?_; refine Hq.nil ?_; refine sk [(4,_),(5,_),(6,_)] K8 ?_; refine Hd.ret ?_; rw [show mkN w 1 = (w.ws.length : Int) by unfold mkN; rw [if_pos hc1]]; exact Hd.ret3 rfl () rfl rfl (by rw [hc1]; rfl) rfl (Ent.sep (.ex i (.pure ⟨hw, hrs⟩ enn)))
theorem listen_bad (L : List SP) (wb : Nat) (w : WA) (n : Int) (h : n < 1 ∨ 64 < n) : Ct Tryz.prog 56 #[.pointer (some ⟨wb, 0, none⟩), .int .i64 n] (WorldP wb w :: L) (fun _ : Unit => .tuple #[.int .i64 0, .int .i64 0, .int .i64 2]) (fun _ : Unit => WorldP wb w :: L) := by
 refine Ct.o2 Tryz.func56 ?_; intro E
 show Hd E 36 _ _ _ _
 refine Hd.world .here (fun i hw hrs => ?_); refine sr fun _ K1 => ?_
 refine yv y_as <| yv y_as <| yv y_as <| fk [(0,_),(1,_)] K1 ?_; refine Hd.seq fun _ K2 => ?_
 refine sr fun _ K3 => ?_
 refine yv y_mv <| callE rfl fk113 (wnone_ct _ wb w.at w i.rs.length i) sq ?_; intro _; refine yv (y_not rfl) <| yv y_mv ?_; apply Hd.andg 3 11 14 [(0,_),(1,_)] rfl sbq
 ·intro hg1_11
  try simp only [hyZ] at hg1_11
  simp only [List.take]; refine y2 y_mv <| y2 (y_gtr rfl rfl) ?_; refine yv (y_pickT rfl rfl) ?_; exact Hd.mn
 ·intro hg1_11
  try simp only [hyZ] at hg1_11
  simp only [List.take]; refine n1 <| n1 <| yv (y_pickF rfl rfl) ?_; exact Hd.mn
 simp only [List.drop]; refine fk [(0,_),(1,_),(14,_)] K3 ?_; refine qz ?_ ?_ <;> intro hc0 <;> try simp only [hyZ] at hc0
 ·refine sr fun _ K4 => ?_
  refine yv y_as <| yv y_as <| yv y_as <| fk [(4,_),(5,_),(6,_)] K4 ?_; refine Hd.ret <| Hd.thenRet ?_; exact Hd.ret3 rfl () rfl rfl rfl rfl (Ent.sep (.ex i (.pure ⟨hw, hrs⟩ enn)))
 have hn : n < 1 := by simp at hc0; omega
 refine Hd.heap (WorldP wb w :: L) (Ent.sep (.ex i (.pure ⟨hw, hrs⟩ enn))) ?_; refine qv K2 <| sr fun _ K5 => ?_
 refine yv y_mv <| yv y_mv <| yv y_mv <| yv (y_build (vs := [(2,_)]) rfl (bd_list n)) ?_; refine Hd.box (us := [.int .i64 0, .int .i64 0, .pointer none, .bool false, .bool false, .int .u64 0, .int .u64 0, .int .i64 0, .int .i64 0, .pointer none, .bool false, .bool false, .int .u64 0, .int .u64 0, .bool false, .int .i64 n, .slice none 0 0]) rfl rfl (fun b20 => ?_); refine callE rfl fk110 (makebad_ct _ wb b20 w n (.inl hn) 1) sq ?_; intro _; refine yv y_mv <| yv (y_to (v' := .slice none 0 0) y_ex (by rfl)) ?_; refine yv (y_to (v' := .int .i64 2) y_ex (by rfl)) ?_; refine yv y_as <| yv y_as <| fk [(0,_),(6,_),(7,_)] K5 ?_; refine Hd.seq fun _ K6 => ?_
 refine sr fun _ K7 => ?_
 refine yv y_mv <| yv (y_neq rfl rfl) ?_; refine fk [(0,_),(6,_),(7,_),(25,_)] K7 ?_; refine qz ?_ ?_ <;> intro hc1 <;> try simp only [hyZ] at hc1
 ·refine sr fun _ K8 => ?_
  refine yv y_mv <| yv y_as <| yv y_as <| yv y_as <| fk [(4,_),(5,_),(6,_)] K8 ?_; refine Hd.ret <| Hd.thenRet ?_; exact Hd.ret3 rfl () rfl rfl rfl rfl sq
 exact absurd hc1 (by decide)
def optW : Option (Nat × WireA) → SP
 | none => pu True
 | some p => WireP p.1 p.2
theorem map_optW (rs : List (Nat × WireA)) : (rs.map some).map optW = rs.map fun p => WireP p.1 p.2 := by rw [List.map_map]; rfl
theorem wires_bag {rs : List (Nat × WireA)} {L : List SP} {h : PH} (s : sep (Wires rs :: L) h) : sep (Bag optW (rs.map some) :: L) h := by
 obtain ⟨h1, h2, d, s1, s2, ⟨x⟩, y⟩ := s
 exact ⟨h1, h2, d, s1, s2, ⟨by rw [map_optW]; exact x⟩, y⟩
theorem bag_wires {rs : List (Nat × WireA)} {L : List SP} {h : PH} (s : sep (Bag optW (rs.map some) :: L) h) : sep (Wires rs :: L) h := by
 obtain ⟨h1, h2, d, s1, s2, ⟨x⟩, y⟩ := s
 exact ⟨h1, h2, d, s1, s2, ⟨by rw [← map_optW]; exact x⟩, y⟩
theorem bag_take {os : List (Option (Nat × WireA))} {j b : Nat} {x : WireA} {L : List SP} {h : PH} (hj : os[j]? = some (some (b, x))) (s : sep (Bag optW os :: L) h) : sep (WireP b x :: Bag optW (os.set j none) :: L) h := by
 have h1 := bag_out hj s
 have hl := (List.getElem?_eq_some_iff.1 hj).1
 have h2 : sep (optW none :: Bag optW (os.take j) :: Bag optW (os.drop (j + 1)) :: WireP b x :: L) h := Ent.sep (show Ent (WireP b x :: Bag optW (os.take j) :: Bag optW (os.drop (j + 1)) :: L) (pu True :: Bag optW (os.take j) :: Bag optW (os.drop (j + 1)) :: WireP b x :: L) from .pure trivial enn) h h1
 exact Ent.sep enn h (bag_in hl h2)
theorem bag_give {os : List (Option (Nat × WireA))} {j b : Nat} {x : WireA} {L : List SP} {h : PH} (hj : os[j]? = some none) (s : sep (WireP b x :: Bag optW os :: L) h) : sep (Bag optW (os.set j (some (b, x))) :: L) h := by
 have hl := (List.getElem?_eq_some_iff.1 hj).1
 have h1 : sep (Bag optW os :: WireP b x :: L) h := Ent.sep enn h s
 have h2 := bag_out hj h1
 have h3 : sep (optW (some (b, x)) :: Bag optW (os.take j) :: Bag optW (os.drop (j + 1)) :: L) h := Ent.sep (show Ent (pu True :: Bag optW (os.take j) :: Bag optW (os.drop (j + 1)) :: WireP b x :: L) (WireP b x :: Bag optW (os.take j) :: Bag optW (os.drop (j + 1)) :: L) from enn) h h2
 exact bag_in hl h3
def clo1 (rs : List (Nat × WireA)) (n : Nat) : List (Nat × WireA) := match rs[n]? with
 | some p => rs.set n (p.1, closeW p.2 0)
 | none => rs
def closeL (rs : List (Nat × WireA)) (l : List Nat) : List (Nat × WireA) := l.foldl clo1 rs
theorem closeL_snoc (rs : List (Nat × WireA)) (l : List Nat) (n : Nat) : closeL rs (l ++ [n]) = clo1 (closeL rs l) n := by unfold closeL; rw [List.foldl_append]; rfl
theorem clo1_fst (rs : List (Nat × WireA)) (n : Nat) : (clo1 rs n).map Prod.fst = rs.map Prod.fst := by
 unfold clo1
 split
 ·rename_i p hp
  rw [List.map_set]; apply List.ext_getElem?; intro j
  by_cases e : n = j
  ·subst e
   rw [List.getElem?_set_self (by rw [List.length_map]; exact (List.getElem?_eq_some_iff.1 hp).1), List.getElem?_map, hp]; rfl
  ·rw [List.getElem?_set_ne e]
 ·rfl
theorem closeL_fst : ∀ (l : List Nat) (rs : List (Nat × WireA)), (closeL rs l).map Prod.fst = rs.map Prod.fst
 | [], _ => rfl
 | n :: t, rs => by
  show (closeL (clo1 rs n) t).map Prod.fst = _
  rw [closeL_fst t, clo1_fst]
theorem clo1_snd (rs : List (Nat × WireA)) (n : Nat) : (clo1 rs n).map Prod.snd = match (rs.map Prod.snd)[n]? with | some y => (rs.map Prod.snd).set n (closeW y 0) | none => rs.map Prod.snd := by
 unfold clo1; rw [List.getElem?_map]
 cases h : rs[n]? with
 | none => rfl
 | some p => show (rs.set n _).map Prod.snd = _; rw [List.map_set]; rfl
theorem closeL_snd : ∀ (l : List Nat) (rs : List (Nat × WireA)), (closeL rs l).map Prod.snd = closeAll (rs.map Prod.snd) l
 | [], _ => rfl
 | n :: t, rs => by
  show (closeL (clo1 rs n) t).map Prod.snd = closeAll _ t
  rw [closeL_snd t, clo1_snd]
  try rfl
theorem closeL_len (l : List Nat) (rs : List (Nat × WireA)) : (closeL rs l).length = rs.length := by
 have := congrArg List.length (closeL_fst l rs)
 rwa [List.length_map, List.length_map] at this
theorem closeAll_set : ∀ (l : List Nat) (ws : List WireA) {m : Nat} {X : WireA}, m ∉ l → closeAll (ws.set m X) l = (closeAll ws l).set m X
 | [], _, _, _, _ => rfl
 | n :: t, ws, m, X, h => by
  have hne : m ≠ n := fun e => h (e ▸ List.mem_cons_self)
  have ht : m ∉ t := fun e => h (List.mem_cons_of_mem _ e)
  show closeAll (match (ws.set m X)[n]? with | some y => (ws.set m X).set n (closeW y 0) | none => ws.set m X) t = (closeAll (match ws[n]? with | some y => ws.set n (closeW y 0) | none => ws) t).set m X
  rw [List.getElem?_set_ne hne]
  cases h2 : ws[n]? with
  | none => exact closeAll_set t ws ht
  | some y =>
   show closeAll ((ws.set m X).set n (closeW y 0)) t = (closeAll (ws.set n (closeW y 0)) t).set m X
   rw [List.set_comm _ _ hne, closeAll_set t _ ht]
theorem world_all {wb : Nat} {w w' : WA} {i : WoI} {rs' : List (Nat × WireA)} {t : Int → Option (Nat × Nat)} {L : List SP} (hok : WOk w') (hf : rs'.map Prod.fst = i.rs.map Prod.fst) (hws : rs'.map Prod.snd = w'.ws) (hat : w'.at = t) (hr : w' = { w with ws := w'.ws }) :
  ∀ h, sep (Wires rs' :: WoH wb t w i.rs.length i :: own 191 1 i.wa i.rs.length i.wc (pws i.rs) :: SigP i.sb w.hd w.ct :: L) h → sep (WorldP wb w' :: L) h := by
 intro h s
 have hl : rs'.length = i.rs.length := by have := congrArg List.length hf; rwa [List.length_map, List.length_map] at this
 have hp : pws rs' = pws i.rs := by
  have : ∀ l : List (Nat × WireA), pws l = (l.map Prod.fst).map fun b => ptr (some b) := fun l => by unfold pws; rw [List.map_map]; rfl
  rw [this, this, hf]
 have hsg : SigP i.sb w.hd w.ct = SigP i.sb w'.hd w'.ct := by rw [hr]
 refine Ent.sep (.ex { i with rs := rs' } (.pure ⟨hok, hws⟩ ?_)) h s; exact .eq pkk (pt_eq (show fdC t ++ woT w i.rs.length i = fdC w'.at ++ woT w' rs'.length { i with rs := rs' } by rw [hat, hl, hr])) (.eq pkk (own_eq3 hl.symm rfl hp.symm) (.pick pkk (.eq pkk hsg enn)))
abbrev WoS (wb : Nat) (t : Int → Option (Nat × Nat)) (w : WA) (i : WoI) (L : List SP) : List SP := WoH wb t w i.rs.length i :: own 191 1 i.wa i.rs.length i.wc (pws i.rs) :: SigP i.sb w.hd w.ct :: L
theorem wclose_ct (L : List SP) (wb : Nat) (w : WA) (fd : Int) : Ct Tryz.prog 67 #[.pointer (some ⟨wb, 0, none⟩), .int .i64 fd] (WorldP wb w :: L) (fun _ : Unit => .int .i64 (closeF w fd).1) (fun _ : Unit => WorldP wb (closeF w fd).2 :: L) := by
 refine Ct.o2 Tryz.func67 ?_; intro E
 show Hd E 51 _ _ _ _
 refine Hd.world .here (fun i hw hrs => ?_); refine sr fun _ K1 => ?_
 refine yv y_as <| fk [(0,_),(1,_)] K1 ?_; refine sr fun _ K2 => ?_
 refine yv y_mv <| yv y_mv <| callE rfl fk101 (find_ct _ wb w i hw hrs fd) sq ?_; intro _; refine yv y_mv <| yv y_ex <| yv y_ex <| yv y_ex <| Hd.alloc zr190 (fun b5 => ?_); refine Hd.storeA (us := plc (w.at fd)) (by rw [plc_len]; exact sz190) rfl rfl rfl (plc_one _) pkk (by rw [plc_len]; rfl) ?_; refine yv (y_to (v' := ptr (wfb i (w.at fd))) y_as (by rfl)) ?_; refine yv (y_to (v' := .int .i64 (fdErr (w.at fd))) y_as (by rfl)) ?_; refine fk [(0,_),(1,_),(5,_),(6,_),(7,_)] K2 ?_; refine Hd.seq fun _ K3 => ?_
 refine sr fun _ K4 => ?_
 refine yv y_mv <| yv (y_neq rfl rfl) ?_; refine fk [(0,_),(1,_),(5,_),(6,_),(7,_),(18,_)] K4 ?_; refine qz ?_ ?_ <;> intro hc0 <;> try simp only [hyZ] at hc0
 ·refine sr fun _ K5 => ?_
  refine yv y_mv <| yv y_as <| fk [(4,_)] K5 ?_; refine Hd.ret <| Hd.thenRet ?_
  have hno : w.at fd = none := by
   cases h : w.at fd with
   | none => rfl
   | some p => rw [h] at hc0; exact absurd rfl hc0
  rw [show closeF w fd = (110, w) by unfold closeF; rw [hno]]; exact Hd.ret1 rfl () (by rw [hno]; rfl) (Ent.sep (.ex i (.pure ⟨hw, hrs⟩ enn)))
 obtain ⟨m0, k, hnk⟩ : ∃ m k, w.at fd = some (m, k) := by
  cases h : w.at fd with
  | none => rw [h] at hc0; exact absurd hc0 (by decide)
  | some p => exact ⟨p.1, p.2, rfl⟩
 obtain ⟨hf0, hf1, hk, hn, x, hx, _, _⟩ := hw.at_lt hnk
 obtain ⟨b, hb⟩ := rs_at hrs hx
 have hm0 := hw.ns m0 x hx
 have hcl := closeF_ok hw fd
 have hrd : closeF w fd = (0, { w with ws := closeAll (w.ws.set m0 ((closeW x k).wts [])) x.wt }) := by unfold closeF; rw [hnk]; dsimp only; rw [hx]
 have hml : m0 < i.rs.length := (List.getElem?_eq_some_iff.1 hb).1
 have hwl := wt_le hw hx
 rw [hnk, wfb_eq hb]
 obtain ⟨f, hf⟩ : ∃ f : Nat, fd = (f : Int) := ⟨fd.toNat, by omega⟩
 subst hf
 have hf96 : f < 96 := by omega
 refine qv K3 <| sr fun _ K6 => ?_
 refine yv y_mv <| yv y_mv <| yv (y_build (cs := (plc none).toArray) (vs := []) rfl kq) ?_; refine yv y_np <| yv (y_f 0 207 Tryz.underlying210 sz207) <| yv (y_idxA Tryz.underlying207 sz190 rfl rfl (by omega)) ?_; refine Hd.store (us := plc none) sz190 rfl rfl rfl (plc_one _) pkk (by rw [List.length_append, fdC_len, plc_len]; omega) ?_; refine Hd.nil ?_; rw [show 0 + 0 + f * 3 = f * 3 by omega, show (plc none).length = 3 from rfl, fdC_set hf96]; refine Hd.heap (WireP b x :: Bag optW ((i.rs.map some).set m0 none) :: pt b5 (plc (some (m0, k))) 190 :: WoS wb (setT w.at f none) w i L) (fun q s => bag_take (by rw [List.getElem?_map, hb]; rfl) (wires_bag (Ent.sep enn q s))) ?_; refine sk [(0,_),(5,_),(6,_)] K6 ?_; refine sr fun _ K7 => ?_
 refine yv y_mv <| yv (y_f 2 3 Tryz.underlying190 sz3) <| yv (y_l1 ag3 rfl) <| callE rfl fk122 (close_ct _ b x k hk) sq ?_; intro _; refine fk [(0,_),(6,_)] K7 ?_; refine Hd.seq fun _ K8 => ?_
 refine Hd.seq fun _ K9 => ?_
 refine Hd.wire .here k hk (fun i2 hi => ?_); refine Hd.region <| yv y_mv <| yv y_np <| yv (y_f 16 44 Tryz.underlying199 sz44) <| yv (y_to (v' := .slice i2.wa x.wt.length i2.wc) (y_l1 ag44 rfl) (by rfl)) ?_; refine yv (y_len Tryz.underlying44 rfl) ?_; refine yv y_mv <| fk [(0,_),(6,_),(33,_),(34,_),(35,_)] K9 ?_; refine Hd.block <| Hd.loopK (ι := Nat) [(0,_),(6,_),(33,_),(34,_)] (fun j => [(35, .int .i64 (j : Int))]) (fun j => pu (j ≤ x.wt.length) :: Bag optW (((closeL i.rs (x.wt.take j)).map some).set m0 none) :: WireH b (closeW x k) i2 :: RgO (i2.p k) (closeW x k).cap ((closeW x k).e k).b :: RgO (i2.p (1 - k)) (closeW x k).cap ((closeW x k).e (1 - k)).b :: own 3 1 i2.wa x.wt.length i2.wc (nats x.wt) :: pt b5 (plc (some (m0, k))) 190 :: WoS wb (setT w.at f none) w i L) (fun j => x.wt.length - j) 0 sbq sbq (Ent.sep (.pure (Nat.zero_le _) (.eq pkk (show Bag optW ((i.rs.map some).set m0 none) = Bag optW (((closeL i.rs (x.wt.take 0)).map some).set m0 none) from rfl) (.pick pkk (.pick pkk (.pick pkk (.eq pkk (show own 3 1 i2.wa (closeW x k).wt.length i2.wc (nats (closeW x k).wt) = own 3 1 i2.wa x.wt.length i2.wc (nats x.wt) from rfl) enn))))))) ?_
 intro j
 try dsimp only
 refine Hd.pure (fun hp0 => ?_)
 try dsimp only at hp0
 refine sr fun _ K10 => ?_
 refine yv (y_lss rfl rfl) ?_; refine fk [(0,_),(6,_),(33,_),(34,_),(35,_),(36,_)] K10 ?_; refine Hd.seq fun _ K11 => ?_
 refine qz ?_ ?_ <;> intro hc1 <;> try simp only [hyZ] at hc1
 ·have hj : j < x.wt.length := by omega
  have hgj := nats_at hj
  obtain ⟨n, hn⟩ : ∃ n, n = x.wt.getD j 0 := ⟨_, rfl⟩
  have hnj : x.wt[j]? = some n := by rw [hn, List.getD_eq_getElem?_getD, List.getElem?_eq_getElem hj]; rfl
  have hnm : n ∈ x.wt := List.mem_of_getElem? hnj
  obtain ⟨y0, hy0, _⟩ := hw.wm n (List.mem_flatMap.2 ⟨x, List.mem_of_getElem? hx, hnm⟩)
  obtain ⟨bn, hbn⟩ := rs_at hrs hy0
  have hnl : n < i.rs.length := (List.getElem?_eq_some_iff.1 hbn).1
  have hnm0 : n ≠ m0 := fun e => hm0 (e ▸ hnm)
  obtain ⟨yn, hyn⟩ : ∃ yn, (closeL i.rs (x.wt.take j))[n]? = some (bn, yn) := by
   have h1 : (closeL i.rs (x.wt.take j))[n]? = some ((closeL i.rs (x.wt.take j))[n]'(by rw [closeL_len]; exact hnl)) := List.getElem?_eq_getElem _
   have h2 : ((closeL i.rs (x.wt.take j)).map Prod.fst)[n]? = some bn := by rw [closeL_fst, List.getElem?_map, hbn]; rfl
   rw [List.getElem?_map, h1] at h2; exact ⟨_, by rw [h1]; exact congrArg some (Prod.ext (Option.some.inj h2) rfl)⟩
  have htk : closeL i.rs (x.wt.take (j + 1)) = (closeL i.rs (x.wt.take j)).set n (bn, closeW yn 0) := by
   rw [List.take_add_one, hnj]
   show closeL i.rs (x.wt.take j ++ [n]) = _
   rw [closeL_snoc]; unfold clo1; rw [hyn]
  rw [← hn] at hgj; refine qv K11 <| Hd.seq fun _ K12 => ?_
  refine Hd.block <| sr fun _ K13 => ?_
  refine yv (y_idxR Tryz.underlying44 sz3 rfl rfl (by omega) (by exact RdS.own pkk)) ?_; refine yv (y_loadR1 ag3 rfl (RdS.own (ad := i2.wa) (us := nats x.wt) pkk) hgj) ?_; refine yv y_as <| fk [(0,_),(6,_),(9,_),(33,_),(34,_),(35,_)] K13 ?_; refine Hd.region <| yv y_mv <| yv y_np <| yv (y_f 288 208 Tryz.underlying210 sz208) <| yv (y_load1 ag208 rfl (Rd.pt1 pkk (by exact woT_at (j := 0) (by omega) rfl))) ?_; refine yv y_mv <| yv (y_idxR Tryz.underlying208 sz191 rfl rfl (by omega) (by exact RdS.own pkk)) ?_; refine yv (y_loadR1 ag191 rfl (by exact RdS.own pkk) (by exact pws_at hbn)) ?_; refine Hd.heap (WireP bn yn :: Bag optW ((((closeL i.rs (x.wt.take j)).map some).set m0 none).set n none) :: WireH b (closeW x k) i2 :: RgO (i2.p k) (closeW x k).cap ((closeW x k).e k).b :: RgO (i2.p (1 - k)) (closeW x k).cap ((closeW x k).e (1 - k)).b :: own 3 1 i2.wa x.wt.length i2.wc (nats x.wt) :: pt b5 (plc (some (m0, k))) 190 :: WoS wb (setT w.at f none) w i L) (fun q s => bag_take (by rw [List.getElem?_set_ne (Ne.symm hnm0), List.getElem?_map, hyn]; rfl) (Ent.sep enn q s)) ?_
  refine callE rfl fk122 (close_ct _ bn yn 0 (by omega)) sq ?_; intro _
  refine Hd.heap (Bag optW (((closeL i.rs (x.wt.take (j + 1))).map some).set m0 none) :: WireH b (closeW x k) i2 :: RgO (i2.p k) (closeW x k).cap ((closeW x k).e k).b :: RgO (i2.p (1 - k)) (closeW x k).cap ((closeW x k).e (1 - k)).b :: own 3 1 i2.wa x.wt.length i2.wc (nats x.wt) :: pt b5 (plc (some (m0, k))) 190 :: WoS wb (setT w.at f none) w i L) (fun q s => by
   have h1 := bag_give (j := n) (b := bn) (x := closeW yn 0) (by rw [List.getElem?_set_self (by simp [closeL_len]; exact hnl)]) s
   rw [List.set_set, List.set_comm _ _ (Ne.symm hnm0), show (List.map some (closeL i.rs (x.wt.take j))).set n (some (bn, closeW yn 0)) = (closeL i.rs (x.wt.take (j + 1))).map some by rw [htk, List.map_set]] at h1
   exact h1) ?_
  refine Hd.nil <| slots [(0,_),(6,_),(33,_),(34,_),(35,_)] sbq ?_; refine Hd.inB <| Hd.toK K12 ?_; refine Hd.region <| yv (y_addn rfl rfl (by simp only [InK]; omega)) ?_; refine yv y_mv <| Hd.nil <| slots [(0,_),(6,_),(33,_),(34,_),(35,_)] sbq ?_; refine thenN ?_; exact Hd.again (j + 1) (by omega) sbq (Ent.sep (.pure (by omega) enn))
 obtain rfl : j = x.wt.length := by omega
 rw [List.take_length]; refine Hd.exit <| Hd.thenExit <| Hd.thenExit <| Hd.inBexit <| Hd.toK K8 ?_; refine sr fun _ K14 => ?_
 refine yv y_mv <| yv y_np <| yv (y_f 16 44 Tryz.underlying199 sz44) <| Hd.store1 sz44 rfl rfl rfl pkk (by simp; done) ?_
 try simp only [hyS]
 refine Hd.nil ?_; rw [show (encW (closeW x k) i2).set (0 + 16) (.slice none 0 0) = encW ((closeW x k).wts []) { i2 with wa := none, wc := 0 } from rfl]; refine Hd.heap (WireP b ((closeW x k).wts []) :: Bag optW (((closeL i.rs x.wt).map some).set m0 none) :: WoS wb (setT w.at f none) w i L) (fun q s => wire_fold (x := (closeW x k).wts []) (i := { i2 with wa := none, wc := 0 }) (k := k) ⟨hi.rd⟩ hk q (Ent.sep (show Ent _ (pt b (encW ((closeW x k).wts []) { i2 with wa := none, wc := 0 }) 199 :: RgO (i2.p k) (closeW x k).cap ((closeW x k).e k).b :: RgO (i2.p (1 - k)) (closeW x k).cap ((closeW x k).e (1 - k)).b :: own 3 1 none 0 0 [] :: Bag optW (((closeL i.rs x.wt).map some).set m0 none) :: WoS wb (setT w.at f none) w i L) from .pick pkk (.pick pkk (.pick pkk (.ownNil enn)))) q s)) ?_; refine sk [] K14 ?_; refine sr fun _ K15 => ?_
 refine yv y_as <| fk [(4,_)] K15 ?_; refine Hd.ret ?_
 have hws : ((closeL i.rs x.wt).set m0 (b, (closeW x k).wts [])).map Prod.snd = closeAll (w.ws.set m0 ((closeW x k).wts [])) x.wt := by
  rw [List.map_set, closeL_snd, hrs, closeAll_set _ _ hm0]
 have hfs : ((closeL i.rs x.wt).set m0 (b, (closeW x k).wts [])).map Prod.fst = i.rs.map Prod.fst := by
  rw [List.map_set, closeL_fst]; apply List.ext_getElem?; intro j
  by_cases e : m0 = j
  ·subst e
   rw [List.getElem?_set_self (by rw [List.length_map]; exact hml), List.getElem?_map, hb]; rfl
  ·rw [List.getElem?_set_ne e]
 rw [hrd] at hcl ⊢
 exact Hd.ret1 rfl () rfl (fun q s => world_all hcl.1 hfs hws hcl.2.1 rfl q (bag_wires (by
  have h1 := bag_give (j := m0) (b := b) (x := (closeW x k).wts []) (by rw [List.getElem?_set_self (by simp [closeL_len]; exact hml)]) s
  rw [List.set_set, show (List.map some (closeL i.rs x.wt)).set m0 (some (b, (closeW x k).wts [])) = ((closeL i.rs x.wt).set m0 (b, (closeW x k).wts [])).map some by rw [List.map_set]] at h1
  exact h1)))
end Wo
end Go.Proofs.YtbfddabjbkohdaaGreat
namespace Go.Proofs.YtbfddabjbkohdaaGreat
open Go.RX Fx
namespace Kq
open Wo
theorem same16_ct (L : List SP) (a1 : Option Addr) (c1 : Nat) (xs : List NoA) (h1 : RdS L 4 a1 xs.length (xs.flatMap encNo)) (hb1 : xs.length ≤ 1000000) (a2 : Option Addr) (c2 : Nat) (ys : List NoA) (h2 : RdS L 4 a2 ys.length (ys.flatMap encNo)) (hb2 : ys.length ≤ 1000000) : Ct Tryz.prog 31 #[.slice a1 xs.length c1, .slice a2 ys.length c2] (L) (fun _ : Unit => .bool (decide (xs = ys))) (fun _ : Unit => L) := by
 refine Ct.o2 Tryz.func31 ?_; intro E
 show Hd E 26 _ _ _ _
 refine sr fun _ K1 => ?_
 refine yv y_as <| fk [(0,_),(1,_)] K1 ?_; refine Hd.seq fun _ K2 => ?_
 refine sr fun _ K3 => ?_
 refine yv y_mv <| yv (y_len Tryz.underlying67 rfl) ?_; refine yv y_mv <| yv (y_len Tryz.underlying67 rfl) ?_; refine yv (y_neq rfl rfl) ?_; refine fk [(0,_),(1,_),(10,_)] K3 ?_; refine qz ?_ ?_ <;> intro hc0 <;> try simp only [hyZ] at hc0
 ·have hne : xs ≠ ys := fun e => hc0 (by rw [e])
  refine sr fun _ K4 => ?_
  refine yv y_as <| fk [(4,_)] K4 ?_; refine Hd.ret <| Hd.thenRet ?_; rw [decide_eq_false hne]; exact Hd.ret1 rfl () rfl sq
 have hl : xs.length = ys.length := by omega
 refine qv K2 <| Hd.seq fun _ K5 => ?_
 refine sr fun _ K6 => ?_
 refine yv y_as <| fk [(0,_),(1,_),(5,_)] K6 ?_; refine Hd.block <| Hd.loopK (ι := Nat) [(0,_),(1,_)] (fun i => [(5, .int .i64 (i : Int))]) (fun i => pu (i ≤ xs.length ∧ xs.take i = ys.take i) :: L) (fun i => xs.length - i) 0 sbq sbq (Ent.sep (.pure ⟨Nat.zero_le _, rfl⟩ enn)) ?_; intro i
 try dsimp only
 refine Hd.pure (fun hp0 => ?_)
 try dsimp only at hp0
 refine Hd.seq fun _ K7 => ?_
 refine sr fun _ K8 => ?_
 refine yv y_mv <| yv y_mv <| yv (y_len Tryz.underlying67 rfl) ?_; refine yv (y_lss rfl rfl) ?_; refine fk [(0,_),(1,_),(5,_),(14,_)] K8 ?_; refine qz ?_ ?_ <;> intro hc1 <;> try simp only [hyZ] at hc1
 ·have hi : i < xs.length := by omega
  have hi2 : i < ys.length := by omega
  have hgx : xs[i]? = some xs[i] := List.getElem?_eq_getElem hi
  have hgy : ys[i]? = some ys[i] := List.getElem?_eq_getElem hi2
  refine qv K7 <| Hd.seq fun _ K9 => ?_
  refine Hd.block <| Hd.seq fun _ K10 => ?_
  refine Hd.quiet mixed kq ?_; refine Hq.yv y_mv ?_; refine Hq.yv y_mv ?_; refine Hq.yv (y_idxR Tryz.underlying67 sz82 rfl rfl hi h1) ?_; refine Hq.yv (y_loadRn (vs := encNo xs[i]) ag82 rfl h1 (flat_cells encNo 4 (fun _ => rfl) hgx) (by exact sz82) (by simp)) ?_; refine Hq.yv y_mv ?_; refine Hq.yv y_mv ?_; refine Hq.yv (y_idxR Tryz.underlying67 sz82 rfl rfl hi2 h2) ?_; refine Hq.yv (y_loadRn (vs := encNo ys[i]) ag82 rfl h2 (flat_cells encNo 4 (fun _ => rfl) hgy) (by exact sz82) (by simp)) ?_; refine Hq.yv (y_to (v' := .bool (decide (xs[i] ≠ ys[i]))) (y_neq_agg rfl rfl eqt82 rfl ⟨rfl, rfl⟩) (by (congr 1; simp [allEq, eqv, Prod.ext_iff]))) ?_; refine Hq.nil ?_; refine sk [(0,_),(1,_),(5,_),(25,_)] K10 ?_; refine qz ?_ ?_ <;> intro hc2 <;> try simp only [hyZ] at hc2
  ·refine sr fun _ K11 => ?_
   refine yv y_as <| fk [(4,_)] K11 ?_; refine Hd.ret <| Hd.inBret <| Hd.thenRet <| Hd.thenRet <| Hd.inBret <| Hd.thenRet ?_
   have hne : xs ≠ ys := fun e => hc2 (by subst e; rfl)
   rw [decide_eq_false hne]; exact Hd.ret1 rfl () rfl sq
  refine Hd.skip <| Hd.inB <| Hd.toK K9 ?_; refine Hd.region <| yv y_mv <| yv (y_addn rfl rfl (by simp only [InK]; omega)) ?_; refine yv y_as <| Hd.nil <| slots [(0,_),(1,_),(5,_)] sbq ?_; refine thenN ?_
  have ht : xs.take (i + 1) = ys.take (i + 1) := by
   rw [List.take_add_one, List.take_add_one, hgx, hgy, hp0.2, hc2]
  exact Hd.again (i + 1) (by omega) sbq (Ent.sep (.pure ⟨hi, ht⟩ enn))
 refine Hd.exit <| Hd.thenExit <| Hd.thenExit <| Hd.inBexit <| Hd.toK K5 ?_; refine sr fun _ K12 => ?_
 refine yv y_as <| fk [(4,_)] K12 ?_; refine Hd.ret ?_
 have he : xs = ys := by
  have := hp0.2
  rwa [List.take_of_length_le (by omega), List.take_of_length_le (by omega)] at this
 rw [decide_eq_true he]; exact Hd.ret1 rfl () rfl sq
theorem OkK.off {w : WA} : ∀ {l : List NoA} {f : Ky → Option KnA} (_ : OkK f) (_ : ∀ x ∈ l, (1 ≤ x.2.1 ∧ x.2.1 ≤ 3) ∧ (x.2.1 = 3 → 1 ≤ x.1 ∧ x.1 ≤ 31)), OkK (offK w f l)
 | [], _, h, _ => h
 | x :: l, f, h, hl => by
  have hx := hl x List.mem_cons_self
  refine OkK.off (l := l) (f := off1 w f x) ?_ (fun y hy => hl y (List.mem_cons_of_mem _ hy)); unfold off1
  split
  ·exact (h.upd (fun _ _ => hx)).upd (fun _ _ => hx)
  ·exact h.upd (fun _ _ => hx)
theorem told_key (f : Ky → Option KnA) (w : WA) (a : Ky) : (toldK f w a).1.1 = a.1 ∧ (toldK f w a).1.2.1 = a.2 := by
 unfold toldK
 split
 ·exact ⟨rfl, rfl⟩
 ·split <;> exact ⟨rfl, rfl⟩
theorem due_key {f : Ky → Option KnA} {w : WA} {x : NoA} (h : x ∈ dueK f w) : isK f w (x.1, x.2.1) = true := by
 unfold dueK dueT at h
 obtain ⟨a, ha, hx⟩ := List.mem_filterMap.1 h
 split at hx
 ·simp only [Option.some.injEq] at hx
  subst hx
  have := told_key f w a
  rw [this.1, this.2]; exact (List.mem_filter.1 ha).2
 ·cases hx
def wA1 : WA := mkW newA 1 (connW 8)
def wA2 : WA := (putR wA1 0 [97]).2
def af1 : Ky → Option KnA := (chsK k0 wA2 [(0, 1, 1, 0), (0, 2, 17, 0), (9, 1, 1, 0), (0, 1, 66, 0)]).2
theorem ad2 : (dueK af1 wA2).take 99 = [(0, 2, 0, 0)] := by decide +kernel
end Kq
end Go.Proofs.YtbfddabjbkohdaaGreat
namespace Go.Proofs.YtbfddabjbkohdaaGreat
open Go.RX Fx
namespace Ep
abbrev vi (l : List Int) : List Value := l.map (Value.int .i64)
end Ep
end Go.Proofs.YtbfddabjbkohdaaGreat
namespace Go.Proofs.YtbfddabjbkohdaaGreat
open Go.RX Fx Go.Sort Go.Shelf
namespace Ep
def srt (l : List Int) : List Int := l.mergeSort fun x y => decide (x ≤ y)
end Ep
end Go.Proofs.YtbfddabjbkohdaaGreat
namespace Go.Proofs.YtbfddabjbkohdaaGreat
open Go.RX Fx
namespace Ep
open Wo
structure IxA where
 wire : Int
 events : Int
 armed : Int
 reads : Int
 writes : Int
abbrev zIx : IxA := ⟨0, 0, 0, 0, 0⟩
def findE (f : Int → Option IxA) (w : WA) (fd : Int) : Option IxA := match f fd with
 | none => none
 | some x => if (w.at fd).isSome = true ∧ wireN (w.at fd) = x.wire then some x else none
abbrev qE (f : Int → Option IxA) (w : WA) (fd : Int) : Bool := (findE f w fd).isSome
abbrev allK (px : Nat) : Value := .func (.func 148) #[] #[.pointer (some ⟨px, 0, none⟩)]
structure DlI (q : Int → Bool) (xs cs : List Int) (i j : Nat) : Prop where
 len : cs.length = xs.length
 lt : i < j
 le : j ≤ xs.length
 tk : cs.take i = (xs.take j).filter q
 dr : cs.drop j = xs.drop j
theorem DlI.at_ {q : Int → Bool} {xs cs : List Int} {i j : Nat} (h : DlI q xs cs i j) (hj : j < xs.length) : cs[j]? = some xs[j] := by
 have h1 := congrArg (fun l : List Int => l[0]?) h.dr
 simpa [List.getElem?_drop, hj] using h1
theorem DlI.keep {q : Int → Bool} {xs cs : List Int} {i j : Nat} (h : DlI q xs cs i j) (hj : j < xs.length) (hq : q xs[j] = true) : DlI q xs (cs.set i xs[j]) (i + 1) (j + 1) := by
 have hl := h.len
 have hlt := h.lt
 refine ⟨by rw [List.length_set]; exact hl, by omega, hj, ?_, ?_⟩
 ·rw [List.take_add_one, List.getElem?_set_self (by omega), List.take_set_of_le (Nat.le_refl i), h.tk, List.take_add_one, List.getElem?_eq_getElem hj, List.filter_append]
  show _ = _ ++ [xs[j]].filter q
  rw [List.filter_cons_of_pos hq]; rfl
 ·rw [List.drop_set_of_lt (by omega)]
  have := congrArg (fun l : List Int => l.drop 1) h.dr
  simpa [List.drop_drop, Nat.add_comm] using this
theorem DlI.drop {q : Int → Bool} {xs cs : List Int} {i j : Nat} (h : DlI q xs cs i j) (hj : j < xs.length) (hq : q xs[j] = false) : DlI q xs cs i (j + 1) := by
 refine ⟨h.len, by have := h.lt; omega, hj, ?_, ?_⟩
 ·rw [h.tk, List.take_add_one, List.getElem?_eq_getElem hj, List.filter_append]
  show _ = _ ++ [xs[j]].filter q
  rw [List.filter_cons_of_neg (by rw [hq]; simp), List.filter_nil, List.append_nil]
 ·have := congrArg (fun l : List Int => l.drop 1) h.dr
  simpa [List.drop_drop, Nat.add_comm] using this
theorem DlI.done {q : Int → Bool} {xs cs : List Int} {i j : Nat} (h : DlI q xs cs i j) (hj : j = xs.length) : cs.take i = xs.filter q := by rw [h.tk, hj, List.take_length]
structure AllE (f : Int → Option IxA) (m : Nat) (w : WA) (ks : List Int) : Prop where
 srt : ks.Pairwise (· < ·)
 mem : ∀ a, a ∈ ks ↔ (findE f w a).isSome = true
 len : ks.length ≤ m
abbrev f0 : Int → Option IxA := fun _ => none
end Ep
end Go.Proofs.YtbfddabjbkohdaaGreat
