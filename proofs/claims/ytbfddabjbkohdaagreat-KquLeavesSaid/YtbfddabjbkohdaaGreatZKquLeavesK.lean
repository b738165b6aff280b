/-
  The world and the document's, side by side: what comes in; Fresh; more. The world and the document's, side by side: wires that are made; Do. Kqueue's laws: twins; KquMost. Kqueue's laws: KquLeaves. Calls of the world, as the rows give them. The changes of kqueue's laws, as the rows give them.
-/
import Derived.Test.YtbfddabjbkohdaaGreatZKquLeavesJ
namespace Go.Proofs.YtbfddabjbkohdaaGreat
set_option maxHeartbeats 2000000
open Go.RX.Hd (yv y2 n1 fk sk sr tH callE heldK onlyH endH thenN slots)
set_option linter.unusedSimpArgs false
set_option linter.unusedVariables false
set_option linter.unnecessarySimpa false
open Go.RX Fx
namespace Wo
set_option maxRecDepth 8000
abbrev encO (o : Ov) : List Value := [.int .i64 o.k, .int .i64 o.a, .int .i64 o.n, .int .u64 o.t, .slice o.ad o.d.length o.c]
structure OvOk (L : List SP) (o : Ov) : Prop where
 rd : RdS L 1 o.ad o.d.length (bsl o.d)
 c : o.d.length ≤ o.c
 k : InK .i64 o.k
 a : InK .i64 o.a
 n : InK .i64 o.n
 t : InK .u64 o.t
def gO (xs : List Ov) : Int := if 200 < xs.length then 1 else if ∀ o ∈ xs, o.d.length ≤ 300 then 0 else 1
theorem gO_ok {xs : List Ov} (h : ¬ 0 < gO xs) : xs.length ≤ 200 ∧ ∀ o ∈ xs, o.d.length ≤ 300 := by
 unfold gO at h
 split at h
 ·exact absurd (by decide) h
 ·split at h
  ·rename_i h1 h2; exact ⟨by omega, h2⟩
  ·exact absurd (by decide) h
theorem great11_ct (L : List SP) (ad : Option Addr) (c : Nat) (xs : List Ov) (hR : RdS L 5 ad xs.length (xs.flatMap encO)) : Ct Tryz.prog 14 #[.slice ad xs.length c] (L) (fun _ : Unit => .int .i64 (gO xs)) (fun _ : Unit => L) := by
 refine Ct.o1 Tryz.func14 ?_; intro E
 show Hd E 20 _ _ _ _
 refine sr fun _ hK1 => ?_
 refine yv y_as <| fk [(0, _)] hK1 ?_; refine Hd.seq fun _ hK2 => ?_
 refine sr fun _ hK3 => ?_
 refine yv y_mv <| yv (y_len Tryz.underlying22 rfl) ?_; refine yv (y_gtr rfl rfl) ?_; refine fk [(0, _), (6, _)] hK3 ?_; refine Hd.cond rfl (fun hc0 => ?_) (fun hc0 => ?_)
 ·try simp only [hyA, hyB, hyC, ne_eq] at hc0
  refine sr fun _ hK4 => ?_
  refine yv y_as <| fk [(2, _)] hK4 ?_; refine Hd.ret <| Hd.thenRet ?_; exact Hd.ret1 rfl () (by unfold gO; rw [if_pos (by omega)]; rfl) sq
 ·try simp only [hyA, hyB, hyC, ne_eq] at hc0
  have hx : xs.length ≤ 200 := by omega
  refine Hd.skip <| Hd.toK hK2 ?_; refine Hd.seq fun _ hK5 => ?_
  refine sr fun _ hK6 => ?_
  refine yv y_mv <| yv (y_len Tryz.underlying22 rfl) ?_; refine yv y_mv <| fk [(0, _), (8, _), (9, _)] hK6 ?_; refine Hd.block <| Hd.loopK (ι := Nat) [(0, _), (8, _)] (fun i => [(9, .int .i64 (i : Int))]) (fun i => pu (i ≤ xs.length ∧ ∀ o ∈ xs.take i, o.d.length ≤ 300) :: L) (fun i => xs.length - i) 0 sbq sbq (Ent.sep (.pure ⟨Nat.zero_le _, fun o ho => by simp at ho⟩ enn)) ?_; intro i
  try dsimp only
  refine Hd.pure (fun hp0 => ?_)
  try dsimp only at hp0
  refine sr fun _ hK7 => ?_
  refine yv (y_lss rfl rfl) ?_; refine fk [(0, _), (8, _), (9, _), (10, _)] hK7 ?_; refine Hd.seq fun _ hK8 => ?_
  refine Hd.cond rfl (fun hc1 => ?_) (fun hc1 => ?_)
  ·try simp only [hyA, hyB, hyC, ne_eq] at hc1
   have hi : i < xs.length := by omega
   obtain ⟨o, ho⟩ : ∃ o, xs[i]? = some o := ⟨_, List.getElem?_eq_getElem hi⟩
   refine Hd.skip <| Hd.toK hK8 ?_; refine Hd.seq fun _ hK9 => ?_
   refine Hd.block <| sr fun _ hK10 => ?_
   refine yv y_mv <| yv y_as <| fk [(0, _), (3, _), (8, _), (9, _)] hK10 ?_; refine sr fun _ hK11 => ?_
   refine yv y_mv <| yv y_mv <| yv (y_idxR Tryz.underlying22 sz33 rfl rfl (by omega) (by exact RdS.mono hR sq)) ?_; refine yv (y_fR 4 31 Tryz.underlying33 sz31) ?_; refine yv (y_loadR1 ag31 rfl (by exact RdS.mono hR sq) (by exact flat_cells encO 5 (fun _ => rfl) ho 4 _ rfl)) ?_; refine yv (y_len Tryz.underlying31 rfl) ?_; refine yv (y_gtr rfl rfl) ?_; refine fk [(0, _), (8, _), (9, _), (18, _)] hK11 ?_; refine Hd.cond rfl (fun hc2 => ?_) (fun hc2 => ?_)
   ·try simp only [hyA, hyB, hyC, ne_eq] at hc2
    refine sr fun _ hK12 => ?_
    refine yv y_as <| fk [(2, _)] hK12 ?_; refine Hd.ret <| Hd.inBret <| Hd.thenRet <| Hd.thenRet <| Hd.inBret <| Hd.thenRet ?_; exact Hd.ret1 rfl () (by unfold gO; rw [if_neg (by omega), if_neg (fun h => by have := h o (List.mem_of_getElem? ho); omega)]; rfl) sq
   ·try simp only [hyA, hyB, hyC, ne_eq] at hc2
    refine Hd.skip <| Hd.inB <| Hd.toK hK9 ?_; refine Hd.region <| yv (y_addn rfl rfl (by simp only [InK]; omega)) ?_; refine yv y_mv <| Hd.nil <| slots [(0, _), (8, _), (9, _)] sbq ?_; refine thenN ?_
    have hnew : ∀ q ∈ xs.take (i + 1), q.d.length ≤ 300 := by
     intro q hq; rw [List.take_add_one, ho] at hq
     rcases List.mem_append.1 hq with h | h
     ·exact hp0.2 q h
     ·obtain rfl : q = o := by simpa using h
      omega
    exact Hd.again (i + 1) (by omega) sbq (Ent.sep (.pure ⟨hi, hnew⟩ enn))
  ·try simp only [hyA, hyB, hyC, ne_eq] at hc1
   refine Hd.exit <| Hd.thenExit <| Hd.thenExit <| Hd.inBexit <| Hd.toK hK5 ?_; refine sr fun _ hK13 => ?_
   refine yv y_as <| fk [(2, _)] hK13 ?_; refine Hd.ret ?_; exact Hd.ret1 rfl () (by unfold gO; rw [if_neg (by omega), if_pos (by rw [List.take_of_length_le (by omega)] at hp0; exact hp0.2)]; rfl) sq
theorem Hd.wokW {E : World} {n : Nat} {ds : List Deferred} {st : List (Nat × Value)} {L L' : List SP} {K : Act → World → Prop} {wb : Nat} {w : WA} (p : Pick L (WorldP wb w) L') (h : WOk w → Hd E n ds st L K) : Hd E n ds st L K := fun a v f s => by
 refine h ?_ a v f s
 obtain ⟨h1, s1, i, x⟩ := sep.one p s.2.2.2
 obtain ⟨_, _, _, _, _, hq, _⟩ := x
 exact hq.1
abbrev BoP (pb wb rb : Nat) : SP := pt pb [.pointer (some ⟨wb, 0, none⟩), .pointer (some ⟨rb, 0, none⟩)] 41
theorem fresh_ct (L : List SP) : Ct Tryz.prog 16 #[] (L) (fun q_ : Nat × Nat × Nat => .pointer (some ⟨q_.1, 0, none⟩)) (fun q_ : Nat × Nat × Nat => BoP q_.1 q_.2.1 q_.2.2 :: WorldP q_.2.1 newA :: Rf.RwP q_.2.2 newA :: L) := by
 refine Ct.o0 Tryz.func16 ?_; intro E
 show Hd E 5 _ _ _ _
 refine sr fun _ hK1 => ?_
 refine yv y_as <| fk [] hK1 ?_; refine sr fun _ hK2 => ?_
 refine callE rfl fk49 (wnew_ct _) sq ?_; intro wb; refine callE rfl fk53 (Rf.rNew_ct _) sq ?_; intro rb; refine yv (y_build (vs := [(0, _), (1, _)]) rfl (by exact bd16_3 ..)) ?_; refine Hd.box rfl rfl (fun b4 => ?_); refine yv y_as <| fk [(0, _)] hK2 ?_; refine Hd.ret ?_; exact Hd.ret1 rfl (b4, wb, rb) rfl sq
theorem more_ct (L : List SP) (pb wb rb : Nat) (w : WA) (K : Nat) (hK : K ≤ 100000000) (hl : Lo K w) (o : Ov) (hk : o.k < 0 ∨ 8 < o.k) (ht : InK .u64 o.t) (hd : o.d.length ≤ 300) (hR : RdS L 1 o.ad o.d.length (bsl o.d)) (hc : o.d.length ≤ o.c) (ad : Option Addr) (c : Nat) (hR2 : RdS L 1 ad o.d.length (bsl o.d)) (hc2 : o.d.length ≤ c) : Ct Tryz.prog 69 #[.pointer (some ⟨pb, 0, none⟩), .agg (encO o).toArray, .slice ad o.d.length c] (BoP pb wb rb :: WorldP wb w :: Rf.RwP rb w :: L) (fun _ : Unit => .bool true) (fun _ : Unit => BoP pb wb rb :: WorldP wb (doA w o) :: Rf.RwP rb (doA w o) :: L) := by
 refine Ct.o3 Tryz.func69 ?_; intro E
 show Hd E 333 _ _ _ _
 simp only [InK] at ht
 have hnow := hl.now
 have hb2 := hl.bd (B := 2000000000) (by omega)
 have hb1 := hl.bd (B := 1000000000) (by omega)
 refine Hd.wokW (.there .here) (fun hw => ?_); refine sr fun _ hK1 => ?_
 refine Hd.box rfl rfl (fun b4 => ?_); refine yv y_as <| fk [(0, _), (2, _), (4, _)] hK1 ?_; refine Hd.seq fun _ hK2 => ?_
 refine sr fun _ hK3 => ?_
 refine yv (y_f 0 3 Tryz.underlying33 sz3) ?_; refine yv (y_l1 ag3 rfl) ?_; refine fk [(0, _), (2, _), (4, _), (33, _)] hK3 ?_; refine Hd.block <| sr fun _ hK4 => ?_
 refine yv (y_eql rfl rfl) ?_; refine yv y_as <| fk [(0, _), (2, _), (4, _), (33, _), (34, _)] hK4 ?_; refine Hd.cond rfl (fun hc0 => ?_) (fun hc0 => ?_)
 ·try simp only [hyA, hyB, hyC, ne_eq] at hc0
  refine Hd.seq fun _ hK5 => ?_
  refine Hd.drawsH ([BoP pb wb rb, pt b4 (encO o) 33]) (fun _ => true) mixed ?_; simp only [List.length, Nat.zero_add, Nat.reduceAdd]; refine tH 0 rfl y_mv ?_; refine tH 1 rfl y_np ?_; refine tH 2 rfl (y_f 0 38 Tryz.underlying41 sz38) ?_; refine tH 3 rfl (y_l1 ag38 rfl) ?_; refine tH 4 rfl (y_f 1 3 Tryz.underlying33 sz3) ?_; refine tH 5 rfl (y_l1 ag3 rfl) ?_; refine tH 6 rfl y_mv ?_; refine onlyH 7 rfl kq ?_; refine callE rfl fk52 (wput_ct _ wb w o.a ad o.d.length c o.d rfl ?hD (by omega) hc2) sq ?_
  case hD => exact RdS.mono hR2 sq
  intro _; refine Hd.nil <| thenN <| heldK (J := (fun _ => true)) (i := 7) sq ?_; refine tH 8 rfl y_mv ?_; refine tH 9 rfl y_ex ?_; refine tH 10 rfl y_ex ?_; refine tH 11 rfl y_as ?_; refine tH 12 rfl y_as ?_; refine endH kq ?_; refine sk [(0, _), (4, _), (7, _), (8, _)] hK5 ?_; refine Hd.seq fun _ hK6 => ?_
  refine Hd.drawsH ([BoP pb wb rb, pt b4 (encO o) 33]) (fun _ => true) mixed ?_; simp only [List.length, Nat.zero_add, Nat.reduceAdd]; refine tH 0 rfl y_mv ?_; refine tH 1 rfl y_np ?_; refine tH 2 rfl (y_f 1 39 Tryz.underlying41 sz39) ?_; refine tH 3 rfl (y_l1 ag39 rfl) ?_; refine tH 4 rfl (y_f 1 3 Tryz.underlying33 sz3) ?_; refine tH 5 rfl (y_l1 ag3 rfl) ?_; refine tH 6 rfl (y_f 4 31 Tryz.underlying33 sz31) ?_; refine tH 7 rfl (y_l1 ag31 rfl) ?_; refine onlyH 8 rfl kq ?_; refine callE rfl fk124 (Rf.rPut_ct _ rb w hw o.a o.ad o.d.length o.c o.d rfl ?hD (by omega) hc) sq ?_
  case hD => exact RdS.mono hR sq
  intro _; refine Hd.nil <| thenN <| heldK (J := (fun _ => true)) (i := 8) sq ?_; refine tH 9 rfl y_mv ?_; refine tH 10 rfl y_ex ?_; refine tH 11 rfl y_ex ?_; refine tH 12 rfl y_as ?_; refine tH 13 rfl y_as ?_; refine endH kq ?_; refine sk [(7, _), (8, _), (9, _), (10, _)] hK6 ?_; refine sr fun _ hK7 => ?_
  refine yv y_mv <| yv y_mv <| yv (y_eqlT rfl rfl) ?_; refine yv y_mv ?_; apply Hd.andg 4 62 66 [] rfl sbq
  ·intro _
   simp only [List.take]; refine y2 y_mv <| y2 y_mv <| y2 (y_eqlT rfl rfl) ?_; refine yv (y_pickT rfl rfl) ?_; refine Hd.nil ?_; exact Hd.mq
  ·intro _
   simp only [List.take]; refine n1 <| n1 <| n1 <| yv (y_pickF rfl rfl) ?_; refine Hd.nil ?_; exact Hd.mq
  simp only [List.drop]; refine yv y_as <| fk [(6, _)] hK7 ?_; refine Hd.ret <| Hd.inBret <| Hd.thenRet ?_; rw [do_9 hc0]; exact Hd.ret1 rfl () (by rfl) sq
 ·try simp only [hyA, hyB, hyC, ne_eq] at hc0
  refine sr fun _ hK8 => ?_
  refine yv (y_eql rfl rfl) ?_; refine yv y_as <| fk [(0, _), (4, _), (33, _), (67, _)] hK8 ?_; refine Hd.cond rfl (fun hc1 => ?_) (fun hc1 => ?_)
  ·try simp only [hyA, hyB, hyC, ne_eq] at hc1
   refine Hd.seq fun _ hK9 => ?_
   refine Hd.drawsH ([BoP pb wb rb, pt b4 (encO o) 33]) (fun _ => true) mixed ?_; simp only [List.length, Nat.zero_add, Nat.reduceAdd]; refine tH 0 rfl y_mv ?_; refine tH 1 rfl y_np ?_; refine tH 2 rfl (y_f 0 38 Tryz.underlying41 sz38) ?_; refine tH 3 rfl (y_l1 ag38 rfl) ?_; refine tH 4 rfl (y_f 1 3 Tryz.underlying33 sz3) ?_; refine tH 5 rfl (y_l1 ag3 rfl) ?_; refine tH 6 rfl (y_f 2 3 Tryz.underlying33 sz3) ?_; refine tH 7 rfl (y_l1 ag3 rfl) ?_; refine onlyH 8 rfl kq ?_; refine callE rfl fk125 (wtake_ct _ wb w o.a o.n) sq ?_; rintro ⟨ta, tc⟩; dsimp only; refine Hd.nil <| thenN <| heldK (J := (fun _ => true)) (i := 8) sq ?_; refine tH 9 rfl y_mv ?_; refine tH 10 rfl y_ex ?_; refine tH 11 rfl y_ex ?_; refine tH 12 rfl y_as ?_; refine tH 13 rfl y_as ?_; refine endH kq ?_; refine sk [(0, _), (4, _), (11, _), (12, _)] hK9 ?_; refine Hd.seq fun _ hK10 => ?_
   refine Hd.drawsH ([BoP pb wb rb, pt b4 (encO o) 33]) (fun _ => true) mixed ?_; simp only [List.length, Nat.zero_add, Nat.reduceAdd]; refine tH 0 rfl y_mv ?_; refine tH 1 rfl y_np ?_; refine tH 2 rfl (y_f 1 39 Tryz.underlying41 sz39) ?_; refine tH 3 rfl (y_l1 ag39 rfl) ?_; refine tH 4 rfl (y_f 1 3 Tryz.underlying33 sz3) ?_; refine tH 5 rfl (y_l1 ag3 rfl) ?_; refine tH 6 rfl (y_f 2 3 Tryz.underlying33 sz3) ?_; refine tH 7 rfl (y_l1 ag3 rfl) ?_; refine onlyH 8 rfl kq ?_; refine callE rfl fk126 (Rf.rTake_ct _ rb w o.a o.n) sq ?_; rintro ⟨ua, uc⟩; dsimp only; refine Hd.nil <| thenN <| heldK (J := (fun _ => true)) (i := 8) sq ?_; refine tH 9 rfl y_mv ?_; refine tH 10 rfl y_ex ?_; refine tH 11 rfl y_ex ?_; refine tH 12 rfl y_as ?_; refine tH 13 rfl y_as ?_; refine endH kq ?_; refine sk [(11, _), (12, _), (13, _), (14, _)] hK10 ?_; refine sr fun _ hK11 => ?_
   refine yv y_mv <| yv (y_strOf (l := _) kq Tryz.underlying9 rfl (by exact RdS.own pkk)) ?_; refine yv y_mv <| yv (y_strOf (l := _) kq Tryz.underlying9 rfl (by exact RdS.own pkk)) ?_; refine yv (y_eqlstr rfl rfl) ?_; refine yv y_mv ?_; apply Hd.andg 4 98 102 [] rfl sbq
   ·intro _
    simp only [List.take]; refine y2 y_mv <| y2 y_mv <| y2 (y_eqlT rfl rfl) ?_; refine yv (y_pickT rfl rfl) ?_; refine Hd.nil ?_; exact Hd.mq
   ·intro _
    simp only [List.take]; refine n1 <| n1 <| n1 <| yv (y_pickF rfl rfl) ?_; refine Hd.nil ?_; exact Hd.mq
   simp only [List.drop]; refine yv y_as <| fk [(6, _)] hK11 ?_; refine Hd.ret <| Hd.inBret <| Hd.thenRet ?_; rw [do_10 hc1]; exact Hd.ret1 rfl () (by rfl) sq
  ·try simp only [hyA, hyB, hyC, ne_eq] at hc1
   refine sr fun _ hK12 => ?_
   refine yv (y_eql rfl rfl) ?_; refine yv y_as <| fk [(0, _), (4, _), (33, _), (103, _)] hK12 ?_; refine Hd.cond rfl (fun hc2 => ?_) (fun hc2 => ?_)
   ·try simp only [hyA, hyB, hyC, ne_eq] at hc2
    refine Hd.seq fun _ hK13 => ?_
    refine Hd.drawsH ([BoP pb wb rb, pt b4 (encO o) 33]) (fun _ => true) mixed ?_; simp only [List.length, Nat.zero_add, Nat.reduceAdd]; refine tH 0 rfl y_mv ?_; refine tH 1 rfl y_np ?_; refine tH 2 rfl (y_f 0 38 Tryz.underlying41 sz38) ?_; refine tH 3 rfl (y_l1 ag38 rfl) ?_; refine tH 4 rfl (y_f 1 3 Tryz.underlying33 sz3) ?_; refine tH 5 rfl (y_l1 ag3 rfl) ?_; refine onlyH 6 rfl kq ?_; refine callE rfl fk127 (pshut_ct _ wb w o.a) sq ?_; intro _; refine Hd.nil <| thenN <| heldK (J := (fun _ => true)) (i := 6) sq ?_; refine tH 7 rfl y_as ?_; refine endH kq ?_; refine sk [(0, _), (4, _), (15, _)] hK13 ?_; refine Hd.seq fun _ hK14 => ?_
    refine Hd.drawsH ([BoP pb wb rb, pt b4 (encO o) 33]) (fun _ => true) mixed ?_; simp only [List.length, Nat.zero_add, Nat.reduceAdd]; refine tH 0 rfl y_mv ?_; refine tH 1 rfl y_mv ?_; refine tH 2 rfl y_np ?_; refine tH 3 rfl (y_f 1 39 Tryz.underlying41 sz39) ?_; refine tH 4 rfl (y_l1 ag39 rfl) ?_; refine tH 5 rfl (y_f 1 3 Tryz.underlying33 sz3) ?_; refine tH 6 rfl (y_l1 ag3 rfl) ?_; refine onlyH 7 rfl kq ?_; refine callE rfl fk128 (Rf.rPshut_ct _ rb w o.a) sq ?_; intro _; refine Hd.nil <| thenN <| heldK (J := (fun _ => true)) (i := 7) sq ?_; refine tH 8 rfl (y_eqlT rfl rfl) ?_; refine tH 9 rfl y_as ?_; refine endH kq ?_; refine sk [(6, _)] hK14 ?_; refine Hd.ret <| Hd.inBret <| Hd.thenRet ?_; rw [do_11 hc2]; exact Hd.ret1 rfl () (by rfl) sq
   ·try simp only [hyA, hyB, hyC, ne_eq] at hc2
    refine sr fun _ hK15 => ?_
    refine yv (y_eql rfl rfl) ?_; refine yv y_as <| fk [(0, _), (4, _), (33, _), (121, _)] hK15 ?_; refine Hd.cond rfl (fun hc3 => ?_) (fun hc3 => ?_)
    ·try simp only [hyA, hyB, hyC, ne_eq] at hc3
     refine Hd.seq fun _ hK16 => ?_
     refine Hd.drawsH ([BoP pb wb rb, pt b4 (encO o) 33]) (fun _ => true) mixed ?_; simp only [List.length, Nat.zero_add, Nat.reduceAdd]; refine tH 0 rfl y_mv ?_; refine tH 1 rfl y_np ?_; refine tH 2 rfl (y_f 0 38 Tryz.underlying41 sz38) ?_; refine tH 3 rfl (y_l1 ag38 rfl) ?_; refine tH 4 rfl (y_f 1 3 Tryz.underlying33 sz3) ?_; refine tH 5 rfl (y_l1 ag3 rfl) ?_; refine onlyH 6 rfl kq ?_; refine callE rfl fk129 (pclose_ct _ wb w o.a) sq ?_; intro _; refine Hd.nil <| thenN <| heldK (J := (fun _ => true)) (i := 6) sq ?_; refine tH 7 rfl y_as ?_; refine endH kq ?_; refine sk [(0, _), (4, _), (16, _)] hK16 ?_; refine Hd.seq fun _ hK17 => ?_
     refine Hd.drawsH ([BoP pb wb rb, pt b4 (encO o) 33]) (fun _ => true) mixed ?_; simp only [List.length, Nat.zero_add, Nat.reduceAdd]; refine tH 0 rfl y_mv ?_; refine tH 1 rfl y_mv ?_; refine tH 2 rfl y_np ?_; refine tH 3 rfl (y_f 1 39 Tryz.underlying41 sz39) ?_; refine tH 4 rfl (y_l1 ag39 rfl) ?_; refine tH 5 rfl (y_f 1 3 Tryz.underlying33 sz3) ?_; refine tH 6 rfl (y_l1 ag3 rfl) ?_; refine onlyH 7 rfl kq ?_; refine callE rfl fk130 (Rf.rPclose_ct _ rb w o.a) sq ?_; intro _; refine Hd.nil <| thenN <| heldK (J := (fun _ => true)) (i := 7) sq ?_; refine tH 8 rfl (y_eqlT rfl rfl) ?_; refine tH 9 rfl y_as ?_; refine endH kq ?_; refine sk [(6, _)] hK17 ?_; refine Hd.ret <| Hd.inBret <| Hd.thenRet ?_; rw [do_12 hc3]; exact Hd.ret1 rfl () (by rfl) sq
    ·try simp only [hyA, hyB, hyC, ne_eq] at hc3
     refine sr fun _ hK18 => ?_
     refine yv (y_eql rfl rfl) ?_; refine yv y_as <| fk [(0, _), (4, _), (33, _), (139, _)] hK18 ?_; refine Hd.cond rfl (fun hc4 => ?_) (fun hc4 => ?_)
     ·try simp only [hyA, hyB, hyC, ne_eq] at hc4
      refine Hd.seq fun _ hK19 => ?_
      refine Hd.drawsH ([BoP pb wb rb, pt b4 (encO o) 33]) (fun _ => true) mixed ?_; simp only [List.length, Nat.zero_add, Nat.reduceAdd]; refine tH 0 rfl y_mv ?_; refine tH 1 rfl y_np ?_; refine tH 2 rfl (y_f 0 38 Tryz.underlying41 sz38) ?_; refine tH 3 rfl (y_l1 ag38 rfl) ?_; refine tH 4 rfl (y_f 1 3 Tryz.underlying33 sz3) ?_; refine tH 5 rfl (y_l1 ag3 rfl) ?_; refine onlyH 6 rfl kq ?_; refine callE rfl fk131 (wreset_ct _ wb w o.a) sq ?_; intro _; refine Hd.nil <| thenN <| heldK (J := (fun _ => true)) (i := 6) sq ?_; refine tH 7 rfl y_as ?_; refine endH kq ?_; refine sk [(0, _), (4, _), (17, _)] hK19 ?_; refine Hd.seq fun _ hK20 => ?_
      refine Hd.drawsH ([BoP pb wb rb, pt b4 (encO o) 33]) (fun _ => true) mixed ?_; simp only [List.length, Nat.zero_add, Nat.reduceAdd]; refine tH 0 rfl y_mv ?_; refine tH 1 rfl y_mv ?_; refine tH 2 rfl y_np ?_; refine tH 3 rfl (y_f 1 39 Tryz.underlying41 sz39) ?_; refine tH 4 rfl (y_l1 ag39 rfl) ?_; refine tH 5 rfl (y_f 1 3 Tryz.underlying33 sz3) ?_; refine tH 6 rfl (y_l1 ag3 rfl) ?_; refine onlyH 7 rfl kq ?_; refine callE rfl fk132 (Rf.rReset_ct _ rb w o.a) sq ?_; intro _; refine Hd.nil <| thenN <| heldK (J := (fun _ => true)) (i := 7) sq ?_; refine tH 8 rfl (y_eqlT rfl rfl) ?_; refine tH 9 rfl y_as ?_; refine endH kq ?_; refine sk [(6, _)] hK20 ?_; refine Hd.ret <| Hd.inBret <| Hd.thenRet ?_; rw [do_13 hc4]; exact Hd.ret1 rfl () (by rfl) sq
     ·try simp only [hyA, hyB, hyC, ne_eq] at hc4
      refine sr fun _ hK21 => ?_
      refine yv (y_eql rfl rfl) ?_; refine yv y_as <| fk [(0, _), (4, _), (33, _), (157, _)] hK21 ?_; refine Hd.cond rfl (fun hc5 => ?_) (fun hc5 => ?_)
      ·try simp only [hyA, hyB, hyC, ne_eq] at hc5
       refine Hd.seq fun _ hK22 => ?_
       refine Hd.drawsH ([BoP pb wb rb, pt b4 (encO o) 33]) (fun _ => true) mixed ?_; simp only [List.length, Nat.zero_add, Nat.reduceAdd]; refine tH 0 rfl y_mv ?_; refine tH 1 rfl y_np ?_; refine tH 2 rfl (y_f 0 38 Tryz.underlying41 sz38) ?_; refine tH 3 rfl (y_l1 ag38 rfl) ?_; refine tH 4 rfl (y_f 1 3 Tryz.underlying33 sz3) ?_; refine tH 5 rfl (y_l1 ag3 rfl) ?_; refine tH 6 rfl (y_f 2 3 Tryz.underlying33 sz3) ?_; refine tH 7 rfl (y_l1 ag3 rfl) ?_; refine onlyH 8 rfl kq ?_; refine callE rfl fk133 (wconn_ct _ wb w o.a o.n) sq ?_; intro _; refine Hd.nil <| thenN <| heldK (J := (fun _ => true)) (i := 8) sq ?_; refine tH 9 rfl y_mv ?_; refine tH 10 rfl y_ex ?_; refine tH 11 rfl y_ex ?_; refine tH 12 rfl y_as ?_; refine tH 13 rfl y_as ?_; refine endH kq ?_; refine sk [(0, _), (4, _), (18, _), (19, _)] hK22 ?_; refine Hd.seq fun _ hK23 => ?_
       refine Hd.drawsH ([BoP pb wb rb, pt b4 (encO o) 33]) (fun _ => true) mixed ?_; simp only [List.length, Nat.zero_add, Nat.reduceAdd]; refine tH 0 rfl y_mv ?_; refine tH 1 rfl y_np ?_; refine tH 2 rfl (y_f 1 39 Tryz.underlying41 sz39) ?_; refine tH 3 rfl (y_l1 ag39 rfl) ?_; refine tH 4 rfl (y_f 1 3 Tryz.underlying33 sz3) ?_; refine tH 5 rfl (y_l1 ag3 rfl) ?_; refine tH 6 rfl (y_f 2 3 Tryz.underlying33 sz3) ?_; refine tH 7 rfl (y_l1 ag3 rfl) ?_; refine onlyH 8 rfl kq ?_; refine callE rfl fk134 (Rf.rConnect_ct _ rb w hw o.a o.n) sq ?_; intro _; refine Hd.nil <| thenN <| heldK (J := (fun _ => true)) (i := 8) sq ?_; refine tH 9 rfl y_mv ?_; refine tH 10 rfl y_ex ?_; refine tH 11 rfl y_ex ?_; refine tH 12 rfl y_as ?_; refine tH 13 rfl y_as ?_; refine endH kq ?_; refine sk [(18, _), (19, _), (20, _), (21, _)] hK23 ?_; refine sr fun _ hK24 => ?_
       refine yv y_mv <| yv y_mv <| yv (y_eqlT rfl rfl) ?_; refine yv y_mv ?_; apply Hd.andg 4 186 190 [] rfl sbq
       ·intro _
        simp only [List.take]; refine y2 y_mv <| y2 y_mv <| y2 (y_eqlT rfl rfl) ?_; refine yv (y_pickT rfl rfl) ?_; refine Hd.nil ?_; exact Hd.mq
       ·intro _
        simp only [List.take]; refine n1 <| n1 <| n1 <| yv (y_pickF rfl rfl) ?_; refine Hd.nil ?_; exact Hd.mq
       simp only [List.drop]; refine yv y_as <| fk [(6, _)] hK24 ?_; refine Hd.ret <| Hd.inBret <| Hd.thenRet ?_; rw [do_14 hc5]; exact Hd.ret1 rfl () (by rfl) sq
      ·try simp only [hyA, hyB, hyC, ne_eq] at hc5
       refine sr fun _ hK25 => ?_
       refine yv (y_eql rfl rfl) ?_; refine yv y_as <| fk [(0, _), (4, _), (33, _), (191, _)] hK25 ?_; refine Hd.cond rfl (fun hc6 => ?_) (fun hc6 => ?_)
       ·try simp only [hyA, hyB, hyC, ne_eq] at hc6
        refine Hd.seq fun _ hK26 => ?_
        refine Hd.drawsH ([BoP pb wb rb, pt b4 (encO o) 33]) (fun _ => true) mixed ?_; simp only [List.length, Nat.zero_add, Nat.reduceAdd]; refine tH 0 rfl y_mv ?_; refine tH 1 rfl y_np ?_; refine tH 2 rfl (y_f 0 38 Tryz.underlying41 sz38) ?_; refine tH 3 rfl (y_l1 ag38 rfl) ?_; refine tH 4 rfl (y_f 3 30 Tryz.underlying33 sz30) ?_; refine tH 5 rfl (y_l1 ag30 rfl) ?_; refine onlyH 6 rfl kq ?_; refine callE rfl fk135 (pass_ct _ wb w o.t ht hnow) sq ?_; intro _; refine Hd.nil <| thenN <| heldK (J := (fun _ => true)) (i := 6) sq ?_; refine endH kq ?_; refine sk [(0, _), (4, _)] hK26 ?_; refine Hd.drawsH ([BoP pb wb rb, pt b4 (encO o) 33]) (fun _ => true) mixed ?_; simp only [List.length, Nat.zero_add, Nat.reduceAdd]; refine tH 0 rfl y_mv ?_; refine tH 1 rfl y_np ?_; refine tH 2 rfl (y_f 1 39 Tryz.underlying41 sz39) ?_; refine tH 3 rfl (y_l1 ag39 rfl) ?_; refine tH 4 rfl (y_f 3 30 Tryz.underlying33 sz30) ?_
        refine tH 5 rfl (y_l1 ag30 rfl) ?_; refine onlyH 6 rfl kq ?_; refine callE rfl fk136 (Rf.rPass_ct _ rb w o.t ht hnow) sq ?_; intro _; refine Hd.nil <| thenN <| heldK (J := (fun _ => true)) (i := 6) sq ?_; refine endH kq ?_; refine slots [] sbq ?_; refine Hd.inB <| Hd.toK hK2 ?_; refine sr fun _ hK27 => ?_
        refine yv y_as <| fk [(6, _)] hK27 ?_; refine Hd.ret ?_; rw [do_15 hc6]; exact Hd.ret1 rfl () (by rfl) sq
       ·try simp only [hyA, hyB, hyC, ne_eq] at hc6
        refine sr fun _ hK28 => ?_
        refine yv (y_eql rfl rfl) ?_; refine yv y_as <| fk [(0, _), (4, _), (33, _), (207, _)] hK28 ?_; refine Hd.cond rfl (fun hc7 => ?_) (fun hc7 => ?_)
        ·try simp only [hyA, hyB, hyC, ne_eq] at hc7
         refine Hd.seq fun _ hK29 => ?_
         refine Hd.drawsH ([BoP pb wb rb, pt b4 (encO o) 33]) (fun _ => true) mixed ?_; simp only [List.length, Nat.zero_add, Nat.reduceAdd]; refine tH 0 rfl y_mv ?_; refine tH 1 rfl y_np ?_; refine tH 2 rfl (y_f 0 38 Tryz.underlying41 sz38) ?_; refine tH 3 rfl (y_l1 ag38 rfl) ?_; refine tH 4 rfl (y_f 1 3 Tryz.underlying33 sz3) ?_; refine tH 5 rfl (y_l1 ag3 rfl) ?_; refine tH 6 rfl (y_f 2 3 Tryz.underlying33 sz3) ?_; refine tH 7 rfl (y_l1 ag3 rfl) ?_; refine tH 8 rfl (y_gtr rfl rfl) ?_; refine onlyH 9 rfl kq ?_; refine callE rfl fk137 (whandle_ct _ wb w hb2 o.a (decide (o.n > 0))) sq ?_; intro _; refine Hd.nil <| thenN <| heldK (J := (fun _ => true)) (i := 9) sq ?_; refine tH 10 rfl y_as ?_; refine endH kq ?_; refine sk [(0, _), (4, _), (22, _)] hK29 ?_; refine Hd.seq fun _ hK30 => ?_
         refine Hd.drawsH ([BoP pb wb rb, pt b4 (encO o) 33]) (fun _ => true) mixed ?_; simp only [List.length, Nat.zero_add, Nat.reduceAdd]; refine tH 0 rfl y_mv ?_; refine tH 1 rfl y_mv ?_; refine tH 2 rfl y_np ?_; refine tH 3 rfl (y_f 1 39 Tryz.underlying41 sz39) ?_; refine tH 4 rfl (y_l1 ag39 rfl) ?_; refine tH 5 rfl (y_f 1 3 Tryz.underlying33 sz3) ?_; refine tH 6 rfl (y_l1 ag3 rfl) ?_; refine tH 7 rfl (y_f 2 3 Tryz.underlying33 sz3) ?_; refine tH 8 rfl (y_l1 ag3 rfl) ?_; refine tH 9 rfl (y_gtr rfl rfl) ?_; refine onlyH 10 rfl kq ?_; refine callE rfl fk138 (Rf.rHandle_ct _ rb w hw hb2 o.a (decide (o.n > 0))) sq ?_; intro _; refine Hd.nil <| thenN <| heldK (J := (fun _ => true)) (i := 10) sq ?_; refine tH 11 rfl (y_eqlT rfl rfl) ?_; refine tH 12 rfl y_as ?_; refine endH kq ?_; refine sk [(6, _)] hK30 ?_; refine Hd.ret <| Hd.inBret <| Hd.thenRet ?_; rw [do_16 hc7]
         exact Hd.ret1 rfl () (by rfl) sq
        ·try simp only [hyA, hyB, hyC, ne_eq] at hc7
         refine sr fun _ hK31 => ?_
         refine yv (y_eql rfl rfl) ?_; refine yv y_as <| fk [(0, _), (4, _), (33, _), (231, _)] hK31 ?_; refine Hd.cond rfl (fun hc8 => ?_) (fun hc8 => ?_)
         ·try simp only [hyA, hyB, hyC, ne_eq] at hc8
          refine Hd.seq fun _ hK32 => ?_
          refine Hd.drawsH ([BoP pb wb rb, pt b4 (encO o) 33]) (fun _ => true) mixed ?_; simp only [List.length, Nat.zero_add, Nat.reduceAdd]; refine tH 0 rfl y_mv ?_; refine tH 1 rfl y_np ?_; refine tH 2 rfl (y_f 0 38 Tryz.underlying41 sz38) ?_; refine tH 3 rfl (y_l1 ag38 rfl) ?_; refine tH 4 rfl (y_f 1 3 Tryz.underlying33 sz3) ?_; refine tH 5 rfl (y_l1 ag3 rfl) ?_; refine onlyH 6 rfl kq ?_; refine callE rfl fk139 (wraise_ct _ wb w hb1 o.a) sq ?_; intro _; refine Hd.nil <| thenN <| heldK (J := (fun _ => true)) (i := 6) sq ?_; refine tH 7 rfl y_as ?_; refine endH kq ?_; refine sk [(0, _), (4, _), (23, _)] hK32 ?_; refine Hd.seq fun _ hK33 => ?_
          refine Hd.drawsH ([BoP pb wb rb, pt b4 (encO o) 33]) (fun _ => true) mixed ?_; simp only [List.length, Nat.zero_add, Nat.reduceAdd]; refine tH 0 rfl y_mv ?_; refine tH 1 rfl y_mv ?_; refine tH 2 rfl y_np ?_; refine tH 3 rfl (y_f 1 39 Tryz.underlying41 sz39) ?_; refine tH 4 rfl (y_l1 ag39 rfl) ?_; refine tH 5 rfl (y_f 1 3 Tryz.underlying33 sz3) ?_; refine tH 6 rfl (y_l1 ag3 rfl) ?_; refine onlyH 7 rfl kq ?_; refine callE rfl fk140 (Rf.rRaise_ct _ rb w hw hb1 o.a) sq ?_; intro _; refine Hd.nil <| thenN <| heldK (J := (fun _ => true)) (i := 7) sq ?_; refine tH 8 rfl (y_eqlT rfl rfl) ?_; refine tH 9 rfl y_as ?_; refine endH kq ?_; refine sk [(6, _)] hK33 ?_; refine Hd.ret <| Hd.inBret <| Hd.thenRet ?_; rw [do_17 hc8]; exact Hd.ret1 rfl () (by rfl) sq
         ·try simp only [hyA, hyB, hyC, ne_eq] at hc8
          refine sr fun _ hK34 => ?_
          refine yv (y_eql rfl rfl) ?_; refine yv y_as <| fk [(0, _), (4, _), (33, _), (249, _)] hK34 ?_; refine Hd.cond rfl (fun hc9 => ?_) (fun hc9 => ?_)
          ·try simp only [hyA, hyB, hyC, ne_eq] at hc9
           have hgl : (sigR w).1.length ≤ 32 := by have := cntF_le w.ct 0; rw [hw.ctl] at this; exact this
           refine sr fun _ hK35 => ?_
           refine yv y_mv <| yv y_np <| yv (y_f 0 38 Tryz.underlying41 sz38) ?_; refine yv (y_l1 ag38 rfl) ?_; refine callE rfl fk141 (wsignals_ct _ wb w hb2) sq ?_; rintro ⟨sa, sc⟩; dsimp only; refine yv y_as <| fk [(0, _), (24, _)] hK35 ?_; refine sr fun _ hK36 => ?_
           refine yv y_mv <| yv y_np <| yv (y_f 1 39 Tryz.underlying41 sz39) ?_; refine yv (y_l1 ag39 rfl) ?_; refine callE rfl fk142 (Rf.rSignals_ct _ rb w hw hb2) sq ?_; rintro ⟨va, vc⟩; dsimp only; refine yv y_as <| fk [(24, _), (25, _)] hK36 ?_; refine Hd.seq fun _ hK37 => ?_
           refine sr fun _ hK38 => ?_
           refine yv y_mv <| yv (y_len Tryz.underlying238 rfl) ?_; refine yv y_mv <| yv (y_len Tryz.underlying238 rfl) ?_; refine yv (y_neq rfl rfl) ?_; refine fk [(24, _), (25, _), (265, _)] hK38 ?_; refine Hd.cond rfl (fun hc10 => ?_) (fun hc10 => ?_)
           ·try simp only [hyA, hyB, hyC, ne_eq] at hc10
            exact absurd trivial hc10
           ·try simp only [hyA, hyB, hyC, ne_eq] at hc10
            refine Hd.skip <| Hd.toK hK37 ?_; refine sr fun _ hK39 => ?_
            refine yv y_mv <| yv (y_len Tryz.underlying238 rfl) ?_; refine yv y_mv <| fk [(24, _), (25, _), (267, _), (268, _)] hK39 ?_; refine Hd.block <| Hd.loopK (ι := Nat) [(24, _), (25, _), (267, _)] (fun i => [(268, .int .i64 (i : Int))]) (fun i => pu (i ≤ (sigR w).1.length) :: own 241 2 va (sigR w).1.length vc ((sigR w).1.flatMap encCn) :: own 241 2 sa (sigR w).1.length sc ((sigR w).1.flatMap encCn) :: BoP pb wb rb :: WorldP wb (sigR w).2 :: Rf.RwP rb (sigR w).2 :: L) (fun i => (sigR w).1.length - i) 0 sbq sbq (Ent.sep (.pure (by omega) enn)) ?_; intro i
            try dsimp only
            refine Hd.pure (fun hp0 => ?_)
            try dsimp only at hp0
            refine sr fun _ hK40 => ?_
            refine yv (y_lss rfl rfl) ?_; refine fk [(24, _), (25, _), (267, _), (268, _), (269, _)] hK40 ?_; refine Hd.seq fun _ hK41 => ?_
            refine Hd.cond rfl (fun hc11 => ?_) (fun hc11 => ?_)
            ·try simp only [hyA, hyB, hyC, ne_eq] at hc11
             have hi : i < (sigR w).1.length := by omega
             obtain ⟨q, hq⟩ : ∃ q, (sigR w).1[i]? = some q := ⟨_, List.getElem?_eq_getElem hi⟩
             refine Hd.skip <| Hd.toK hK41 ?_; refine Hd.seq fun _ hK42 => ?_
             refine Hd.block <| sr fun _ hK43 => ?_
             refine yv y_mv <| yv y_as <| fk [(24, _), (25, _), (26, _), (267, _), (268, _)] hK43 ?_; refine Hd.seq fun _ hK44 => ?_
             refine Hd.quiet mixed kq ?_; refine Hq.yv y_mv ?_; refine Hq.yv y_mv ?_; refine Hq.yv (y_idxR Tryz.underlying238 sz241 rfl rfl (by omega) (by exact RdS.own pkk)) ?_; refine Hq.yv (y_loadRn (vs := encCn q) ag241 rfl (RdS.own (ad := sa) (us := (sigR w).1.flatMap encCn) pkk) (flat_cells encCn 2 (fun _ => rfl) hq) sz241 (by simp)) ?_; refine Hq.yv y_mv ?_; refine Hq.yv y_mv ?_; refine Hq.yv (y_idxR Tryz.underlying238 sz241 rfl rfl (by omega) (by exact RdS.own pkk)) ?_; refine Hq.yv (y_loadRn (vs := encCn q) ag241 rfl (RdS.own (ad := va) (us := (sigR w).1.flatMap encCn) pkk) (flat_cells encCn 2 (fun _ => rfl) hq) sz241 (by simp)) ?_; refine Hq.yv (y_neq_agg rfl rfl eqt241 rfl ⟨rfl, rfl⟩) ?_; refine Hq.nil ?_; refine sk [(24, _), (25, _), (267, _), (268, _), (279, _)] hK44 ?_; refine Hd.cond rfl (fun hc12 => ?_) (fun hc12 => ?_)
             ·try simp only [hyA, hyB, hyC, ne_eq] at hc12
              simp [allEq, eqv] at hc12
             ·try simp only [hyA, hyB, hyC, ne_eq] at hc12
              refine Hd.skip <| Hd.inB <| Hd.toK hK42 ?_; refine Hd.region <| yv (y_addn rfl rfl (by simp only [InK]; omega)) ?_; refine yv y_mv <| Hd.nil <| slots [(24, _), (25, _), (267, _), (268, _)] sbq ?_; refine thenN ?_; exact Hd.again (i + 1) (by omega) sbq (Ent.sep (.pure (by omega) enn))
            ·try simp only [hyA, hyB, hyC, ne_eq] at hc11
             refine Hd.exit <| Hd.thenExit <| Hd.thenExit <| Hd.inBexit <| Hd.inB <| Hd.toK hK2 ?_; refine sr fun _ hK45 => ?_
             refine yv y_as <| fk [(6, _)] hK45 ?_; refine Hd.ret ?_; rw [do_18 hc9]; exact Hd.ret1 rfl () rfl sq
          ·try simp only [hyA, hyB, hyC, ne_eq] at hc9
           refine sr fun _ hK46 => ?_
           refine yv (y_eql rfl rfl) ?_; refine yv y_as <| fk [(0, _), (4, _), (33, _), (281, _)] hK46 ?_; refine Hd.cond rfl (fun hc13 => ?_) (fun hc13 => ?_)
           ·try simp only [hyA, hyB, hyC, ne_eq] at hc13
            refine Hd.seq fun _ hK47 => ?_
            refine Hd.drawsH ([BoP pb wb rb, pt b4 (encO o) 33]) (fun _ => true) mixed ?_; simp only [List.length, Nat.zero_add, Nat.reduceAdd]; refine tH 0 rfl y_mv ?_; refine tH 1 rfl y_np ?_; refine tH 2 rfl (y_f 0 38 Tryz.underlying41 sz38) ?_; refine tH 3 rfl (y_l1 ag38 rfl) ?_; refine tH 4 rfl (y_f 1 3 Tryz.underlying33 sz3) ?_; refine tH 5 rfl (y_l1 ag3 rfl) ?_; refine tH 6 rfl (y_f 2 3 Tryz.underlying33 sz3) ?_; refine tH 7 rfl (y_l1 ag3 rfl) ?_; refine onlyH 8 rfl kq ?_; refine callE rfl fk143 (wnotice_ct _ wb w hb2 o.a o.n) sq ?_; intro _; refine Hd.nil <| thenN <| heldK (J := (fun _ => true)) (i := 8) sq ?_; refine tH 9 rfl y_as ?_; refine endH kq ?_; refine sk [(0, _), (4, _), (27, _)] hK47 ?_; refine Hd.seq fun _ hK48 => ?_
            refine Hd.drawsH ([BoP pb wb rb, pt b4 (encO o) 33]) (fun _ => true) mixed ?_; simp only [List.length, Nat.zero_add, Nat.reduceAdd]; refine tH 0 rfl y_mv ?_; refine tH 1 rfl y_mv ?_; refine tH 2 rfl y_np ?_; refine tH 3 rfl (y_f 1 39 Tryz.underlying41 sz39) ?_; refine tH 4 rfl (y_l1 ag39 rfl) ?_; refine tH 5 rfl (y_f 1 3 Tryz.underlying33 sz3) ?_; refine tH 6 rfl (y_l1 ag3 rfl) ?_; refine tH 7 rfl (y_f 2 3 Tryz.underlying33 sz3) ?_; refine tH 8 rfl (y_l1 ag3 rfl) ?_; refine onlyH 9 rfl kq ?_; refine callE rfl fk144 (Rf.rNotice_ct _ rb w hw hb2 o.a o.n) sq ?_; intro _; refine Hd.nil <| thenN <| heldK (J := (fun _ => true)) (i := 9) sq ?_; refine tH 10 rfl (y_eqlT rfl rfl) ?_; refine tH 11 rfl y_as ?_; refine endH kq ?_; refine sk [(6, _)] hK48 ?_; refine Hd.ret <| Hd.inBret <| Hd.thenRet ?_; rw [do_19 hc13]; exact Hd.ret1 rfl () (by rfl) sq
           ·try simp only [hyA, hyB, hyC, ne_eq] at hc13
            refine sr fun _ hK49 => ?_
            refine yv (y_eql rfl rfl) ?_; refine yv y_as <| fk [(0, _), (4, _), (303, _)] hK49 ?_; refine Hd.cond rfl (fun hc14 => ?_) (fun hc14 => ?_)
            ·try simp only [hyA, hyB, hyC, ne_eq] at hc14
             refine Hd.seq fun _ hK50 => ?_
             refine Hd.quiet mixed kq ?_; refine Hq.yv y_mv ?_; refine Hq.yv y_np ?_; refine Hq.yv (y_f 0 38 Tryz.underlying41 sz38) ?_; refine Hq.yv (y_l1 ag38 rfl) ?_; refine Hq.yv (y_f 1 3 Tryz.underlying33 sz3) ?_; refine Hq.yv (y_l1 ag3 rfl) ?_; refine Hq.call rfl fk71 ((wwire_ct _ wb w o.a).swap sq sq) ?_; refine Hq.yv y_mv ?_; refine Hq.yv y_ex ?_; refine Hq.yv y_ex ?_; refine Hq.yv y_as ?_; refine Hq.yv y_as ?_; refine Hq.nil ?_; refine sk [(0, _), (4, _), (28, _), (29, _)] hK50 ?_; refine Hd.seq fun _ hK51 => ?_
             refine Hd.quiet mixed kq ?_; refine Hq.yv y_mv ?_; refine Hq.yv y_np ?_; refine Hq.yv (y_f 1 39 Tryz.underlying41 sz39) ?_; refine Hq.yv (y_l1 ag39 rfl) ?_; refine Hq.yv (y_f 1 3 Tryz.underlying33 sz3) ?_; refine Hq.yv (y_l1 ag3 rfl) ?_; refine Hq.call rfl fk79 ((Rf.rWire_ct _ rb w hw o.a).swap sq sq) ?_; refine Hq.yv y_mv ?_; refine Hq.yv y_ex ?_; refine Hq.yv y_ex ?_; refine Hq.yv y_as ?_; refine Hq.yv y_as ?_; refine Hq.nil ?_; refine sk [(28, _), (29, _), (30, _), (31, _)] hK51 ?_; refine sr fun _ hK52 => ?_
             refine yv y_mv <| yv y_mv <| yv (y_eqlT rfl rfl) ?_; refine yv y_mv ?_; apply Hd.andg 4 328 332 [] rfl sbq
             ·intro _
              simp only [List.take]; refine y2 y_mv <| y2 y_mv <| y2 (y_eqlT rfl rfl) ?_; refine yv (y_pickT rfl rfl) ?_; refine Hd.nil ?_; exact Hd.mq
             ·intro _
              simp only [List.take]; refine n1 <| n1 <| n1 <| yv (y_pickF rfl rfl) ?_; refine Hd.nil ?_; exact Hd.mq
             simp only [List.drop]; refine yv y_as <| fk [(6, _)] hK52 ?_; refine Hd.ret <| Hd.inBret <| Hd.thenRet ?_; rw [do_oth (by omega)]; exact Hd.ret1 rfl () (by rfl) sq
            ·try simp only [hyA, hyB, hyC, ne_eq] at hc14
             refine Hd.skip <| Hd.inB <| Hd.toK hK2 ?_; refine sr fun _ hK53 => ?_
             refine yv y_as <| fk [(6, _)] hK53 ?_; refine Hd.ret ?_; rw [do_oth (by omega)]; exact Hd.ret1 rfl () rfl sq
end Wo
end Go.Proofs.YtbfddabjbkohdaaGreat
namespace Go.Proofs.YtbfddabjbkohdaaGreat
set_option maxHeartbeats 2000000
open Go.RX.Hd (yv y2 n1 fk sk sr tH callE heldK onlyH endH thenN slots)
set_option linter.unusedSimpArgs false
set_option linter.unusedVariables false
set_option linter.unnecessarySimpa false
open Go.RX Fx
namespace Wo
set_option maxRecDepth 8000
open Rf (badK mkErr mkLst mk_bad mk_no mk_yes)
def mkA (w : WA) (k n : Int) : Int := if badK k n then 0 else mkI w (mkKE k) 0
def mkB (w : WA) (k n : Int) : Int := if badK k n then 0 else if k ≤ 1 then mkI w 2 1 else mkN w 1
theorem bad_of {k n : Int} (hk : k ≠ 3) : badK k n ↔ (n < 1 ∨ 65536 < n) := by unfold badK; omega
theorem wmk0_ct (L : List SP) (wb : Nat) (w : WA) (k n : Int) (hk : k = 0) : Ct Tryz.prog 54 #[.pointer (some ⟨wb, 0, none⟩), .int .i64 n] (WorldP wb w :: L) (fun _ : Unit => .tuple #[.int .i64 (mkA w k n), .int .i64 (mkB w k n), .int .i64 (mkErr w k n)]) (fun _ => WorldP wb (makeR w k n) :: L) := by
 subst hk
 by_cases h : badK 0 n
 ·obtain ⟨e1, _, e3⟩ := mk_bad (w := w) h
  rw [show mkA w 0 n = 0 from if_pos h, show mkB w 0 n = 0 from if_pos h, e1, e3]; exact pipe_bad L wb w n ((bad_of (by decide)).1 h)
 ·rw [show mkA w 0 n = mkI w 2 0 from if_neg h, show mkB w 0 n = mkI w 2 1 from if_neg h, show mkErr w 0 n = mkE w 2 from if_neg h, show makeR w 0 n = mkW w 2 (pipeW n.toNat) from if_neg h]
  rw [bad_of (by decide)] at h
  obtain ⟨m, rfl⟩ : ∃ m : Nat, n = (m : Int) := ⟨n.toNat, by omega⟩
  exact pipe_mk L wb w m (by omega) (by omega)
theorem wmk1_ct (L : List SP) (wb : Nat) (w : WA) (k n : Int) (hk : k = 1) : Ct Tryz.prog 55 #[.pointer (some ⟨wb, 0, none⟩), .int .i64 n] (WorldP wb w :: L) (fun _ : Unit => .tuple #[.int .i64 (mkA w k n), .int .i64 (mkB w k n), .int .i64 (mkErr w k n)]) (fun _ => WorldP wb (makeR w k n) :: L) := by
 subst hk
 by_cases h : badK 1 n
 ·obtain ⟨e1, _, e3⟩ := mk_bad (w := w) h
  rw [show mkA w 1 n = 0 from if_pos h, show mkB w 1 n = 0 from if_pos h, e1, e3]; exact pairbad_ct L wb w n ((bad_of (by decide)).1 h)
 ·rw [show mkA w 1 n = mkI w 2 0 from if_neg h, show mkB w 1 n = mkI w 2 1 from if_neg h, show mkErr w 1 n = mkE w 2 from if_neg h, show makeR w 1 n = mkW w 2 (halfW n.toNat 2) from if_neg h]
  rw [bad_of (by decide)] at h
  obtain ⟨m, rfl⟩ : ∃ m : Nat, n = (m : Int) := ⟨n.toNat, by omega⟩
  exact pair_ct L wb w m (by omega) (by omega)
theorem wmk2_ct (L : List SP) (wb : Nat) (w : WA) (k n : Int) (hk : k = 2) : Ct Tryz.prog 50 #[.pointer (some ⟨wb, 0, none⟩), .int .i64 n] (WorldP wb w :: L) (fun _ : Unit => .tuple #[.int .i64 (mkA w k n), .int .i64 (mkB w k n), .int .i64 (mkErr w k n)]) (fun _ => WorldP wb (makeR w k n) :: L) := by
 subst hk
 by_cases h : badK 2 n
 ·obtain ⟨e1, _, e3⟩ := mk_bad (w := w) h
  rw [show mkA w 2 n = 0 from if_pos h, show mkB w 2 n = 0 from if_pos h, e1, e3]; exact outer_bad L wb w n ((bad_of (by decide)).1 h)
 ·rw [show mkA w 2 n = mkI w 1 0 from if_neg h, show mkB w 2 n = mkN w 1 from if_neg h, show mkErr w 2 n = mkE w 1 from if_neg h, show makeR w 2 n = mkW w 1 (connW n.toNat) from if_neg h]
  rw [bad_of (by decide)] at h
  obtain ⟨m, rfl⟩ : ∃ m : Nat, n = (m : Int) := ⟨n.toNat, by omega⟩
  exact outer_mk L wb w m (by omega) (by omega)
theorem wmk3_ct (L : List SP) (wb : Nat) (w : WA) (k n : Int) (hk : k = 3) : Ct Tryz.prog 56 #[.pointer (some ⟨wb, 0, none⟩), .int .i64 n] (WorldP wb w :: L) (fun _ : Unit => .tuple #[.int .i64 (mkA w k n), .int .i64 (mkB w k n), .int .i64 (mkErr w k n)]) (fun _ => WorldP wb (makeR w k n) :: L) := by
 subst hk
 by_cases h : badK 3 n
 ·obtain ⟨e1, _, e3⟩ := mk_bad (w := w) h
  rw [show mkA w 3 n = 0 from if_pos h, show mkB w 3 n = 0 from if_pos h, e1, e3]; exact listen_bad L wb w n (by unfold badK at h; omega)
 ·rw [show mkA w 3 n = mkI w 1 0 from if_neg h, show mkB w 3 n = mkN w 1 from if_neg h, show mkErr w 3 n = mkE w 1 from if_neg h, show makeR w 3 n = mkW w 1 (listW n.toNat) from if_neg h]
  unfold badK at h
  obtain ⟨m, rfl⟩ : ∃ m : Nat, n = (m : Int) := ⟨n.toNat, by omega⟩
  exact listen_mk L wb w m (by omega) (by omega)
structure MadeOk (a b e wire : Int) (l : List Nat) : Prop where
 no : e ≠ 0 → a = 0 ∧ b = 0
 yes : e = 0 → ∃ f t, l = f :: t ∧ a = ((f : Nat) : Int) ∧ ((t = [] ∧ b = wire) ∨ ∃ g, t = [g] ∧ b = ((g : Nat) : Int))
theorem made_ok (w : WA) {k : Int} (hk : 0 ≤ k ∧ k ≤ 3) (n : Int) : MadeOk (mkA w k n) (mkB w k n) (mkErr w k n) (((makeR w k n).ws.length : Nat) - 1) (mkLst w k n) := by
 by_cases h : badK k n
 ·obtain ⟨e1, e2, e3⟩ := mk_bad (w := w) h
  exact ⟨fun _ => ⟨if_pos h, if_pos h⟩, fun e => by rw [e1] at e; exact absurd e (by decide)⟩
 have hA : mkA w k n = mkI w (mkKE k) 0 := if_neg h
 have hB : mkB w k n = if k ≤ 1 then mkI w 2 1 else mkN w 1 := if_neg h
 cases ho : mkOk w (mkKE k) with
 | false =>
  obtain ⟨e1, e2, e3⟩ := mk_no (w := w) h ho
  have hF : mkF w (mkKE k) = [] := by unfold mkF; rw [ho]; rfl
  refine ⟨fun _ => ⟨by rw [hA]; unfold mkI; rw [hF]; rfl, ?_⟩, fun e => by rw [e1] at e; exact absurd e (by decide)⟩; rw [hB]
  by_cases h1 : k ≤ 1
  ·rw [if_pos h1]
   have : mkKE k = 2 := if_pos (by omega)
   rw [this] at hF; unfold mkI; rw [hF]; rfl
  ·rw [if_neg h1]
   have : mkKE k = 1 := if_neg (by omega)
   rw [this] at ho; unfold mkN mkE; rw [ho]; rfl
 | true =>
  obtain ⟨e1, e2, e3⟩ := mk_yes (w := w) h ho
  have hF : mkF w (mkKE k) = (frees w.at).take (mkKE k) := by unfold mkF; rw [ho]; rfl
  have hl : ((frees w.at).take (mkKE k)).length = mkKE k := by unfold mkOk at ho; simp only [Bool.and_eq_true, decide_eq_true_eq] at ho; omega
  refine ⟨fun e => absurd e1 e, fun _ => ?_⟩; rw [e2, hA, hB]; unfold mkI; rw [hF]
  by_cases h1 : k ≤ 1
  ·have h2 : mkKE k = 2 := if_pos (by omega)
   rw [h2] at hl hF ⊢; rw [if_pos h1, hF]
   obtain ⟨f, g, hfg⟩ : ∃ f g, (frees w.at).take 2 = [f, g] := by
    match hm : (frees w.at).take 2, hl with
    | [f, g], _ => exact ⟨f, g, rfl⟩
   rw [hfg]; exact ⟨f, [g], rfl, rfl, .inr ⟨g, rfl, rfl⟩⟩
  ·have h2 : mkKE k = 1 := if_neg (by omega)
   rw [h2] at hl ho ⊢; rw [if_neg h1]
   obtain ⟨f, hf⟩ : ∃ f, (frees w.at).take 1 = [f] := by
    match hm : (frees w.at).take 1, hl with
    | [f], _ => exact ⟨f, rfl⟩
   rw [hf]; refine ⟨f, [], rfl, rfl, .inl ⟨rfl, ?_⟩⟩
   have he : mkE w 1 = 0 := by unfold mkE; rw [ho]; rfl
   rw [show mkN w 1 = (w.ws.length : Int) from if_pos he]
   have : makeR w k n = mkW w 1 (mkKW k n) := by
    rw [← h2]; exact if_neg h
   rw [this, mkW_len he]; omega
theorem made_ct (L : List SP) (a b e wire : Int) (l : List Nat) (ad : Option Addr) (c : Nat) (hR : RdS L 1 ad l.length (nats l)) (h : MadeOk a b e wire l) : Ct Tryz.prog 58 #[.int .i64 a, .int .i64 b, .int .i64 e, .slice ad l.length c, .int .i64 wire, .int .i64 e] (L) (fun _ : Unit => .bool true) (fun _ : Unit => L) := by
 refine Ct.o6 Tryz.func58 ?_; intro E
 show Hd E 55 _ _ _ _
 refine sr fun _ hK1 => ?_
 refine yv y_as <| fk [(0, _), (1, _), (2, _), (3, _), (4, _), (5, _)] hK1 ?_; refine Hd.seq fun _ hK2 => ?_
 refine sr fun _ hK3 => ?_
 refine yv y_mv <| yv (y_neq rfl rfl) ?_; refine yv y_mv ?_; apply Hd.org 3 15 18 [(0, _), (1, _), (2, _), (3, _), (4, _), (5, _)] rfl sbq
 ·intro _
  simp only [List.take]; refine n1 <| n1 <| yv (y_pickT rfl rfl) ?_; refine Hd.nil ?_; exact Hd.mq
 ·intro _
  simp only [List.take]; refine y2 y_mv <| y2 (y_neq rfl rfl) ?_; refine yv (y_pickF rfl rfl) ?_; refine Hd.nil ?_; exact Hd.mq
 simp only [List.drop]; refine fk [(0, _), (1, _), (2, _), (3, _), (4, _), (5, _), (18, _)] hK3 ?_; refine Hd.cond rfl (fun hc0 => ?_) (fun hc0 => ?_)
 ·try simp only [hyA, hyB, hyC, ne_eq] at hc0
  refine sr fun _ hK4 => ?_
  refine yv y_mv <| yv y_mv <| yv (y_eqlT rfl rfl) ?_; refine yv y_mv ?_; apply Hd.andg 3 22 25 [(1, _)] rfl sbq
  ·intro _
   simp only [List.take]; refine y2 y_mv <| y2 (y_eql rfl rfl) ?_; refine yv (y_pickT rfl rfl) ?_; refine Hd.nil ?_; exact Hd.mq
  ·intro _
   simp only [List.take]; refine n1 <| n1 <| yv (y_pickF rfl rfl) ?_; refine Hd.nil ?_; exact Hd.mq
  simp only [List.drop]; refine yv y_mv ?_; apply Hd.andg 3 26 29 [] rfl sbq
  ·intro _
   simp only [List.take]; refine y2 y_mv <| y2 (y_eql rfl rfl) ?_; refine yv (y_pickT rfl rfl) ?_; refine Hd.nil ?_; exact Hd.mq
  ·intro _
   simp only [List.take]; refine n1 <| n1 <| yv (y_pickF rfl rfl) ?_; refine Hd.nil ?_; exact Hd.mq
  simp only [List.drop]; refine yv y_as <| fk [(12, _)] hK4 ?_; refine Hd.ret <| Hd.thenRet ?_
  obtain ⟨rfl, rfl⟩ := h.no (by omega)
  exact Hd.ret1 rfl () rfl sq
 ·try simp only [hyA, hyB, hyC, ne_eq] at hc0
  obtain ⟨f, t, rfl, rfl, ht⟩ := h.yes (by omega)
  have hln : 0 < (f :: t).length := Nat.succ_pos _
  refine Hd.skip <| Hd.toK hK2 ?_; refine Hd.seq fun _ hK5 => ?_
  refine sr fun _ hK6 => ?_
  refine yv y_mv <| yv (y_len Tryz.underlying44 rfl) ?_; refine yv (y_eql rfl rfl) ?_; refine fk [(0, _), (1, _), (3, _), (4, _), (32, _)] hK6 ?_; refine Hd.cond rfl (fun hc1 => ?_) (fun hc1 => ?_)
  ·try simp only [hyA, hyB, hyC, ne_eq] at hc1
   obtain ⟨g, rfl, rfl⟩ : ∃ g, t = [g] ∧ b = ((g : Nat) : Int) := by
    rcases ht with ⟨rfl, _⟩ | h1
    ·simp at hc1
    ·exact h1
   refine sr fun _ hK7 => ?_
   refine yv y_mv <| yv y_mv <| yv (y_idxR Tryz.underlying44 sz3 rfl rfl (by exact (show (0 : Nat) < _ by omega)) (by exact hR)) ?_; refine yv (y_loadR1 ag3 rfl (by exact hR) (by rfl)) ?_; refine yv (y_eqlT rfl rfl) ?_; refine yv y_mv ?_; apply Hd.andg 6 38 44 [] rfl sbq
   ·intro hg4_38
    try simp only [hyA, hyB, hyC, ne_eq] at hg4_38
    simp only [List.take]; refine y2 y_mv <| y2 y_mv <| y2 (y_idxR Tryz.underlying44 sz3 rfl rfl (by exact (show (1 : Nat) < _ by omega)) (by exact hR)) ?_; refine y2 (y_loadR1 ag3 rfl (by exact hR) (by rfl)) ?_; refine y2 (y_eqlT rfl rfl) ?_; refine yv (y_pickT rfl rfl) ?_; refine Hd.nil ?_; exact Hd.mq
   ·intro _
    simp only [List.take]; refine n1 <| n1 <| n1 <| n1 <| n1 <| yv (y_pickF rfl rfl) ?_; refine Hd.nil ?_; exact Hd.mq
   simp only [List.drop]; refine yv y_as <| fk [(12, _)] hK7 ?_; refine Hd.ret <| Hd.thenRet ?_; exact Hd.ret1 rfl () (by rfl) sq
  ·try simp only [hyA, hyB, hyC, ne_eq] at hc1
   obtain ⟨rfl, rfl⟩ : t = [] ∧ b = wire := by
    rcases ht with h1 | ⟨g, rfl, _⟩
    ·exact h1
    ·exact absurd rfl hc1
   refine Hd.skip <| Hd.toK hK5 ?_; refine sr fun _ hK8 => ?_
   refine yv y_mv <| yv y_mv <| yv (y_idxR Tryz.underlying44 sz3 rfl rfl (by exact (show (0 : Nat) < _ by omega)) (by exact hR)) ?_; refine yv (y_loadR1 ag3 rfl (by exact hR) (by rfl)) ?_; refine yv (y_eqlT rfl rfl) ?_; refine yv y_mv ?_; apply Hd.andg 4 50 54 [] rfl sbq
   ·intro _
    simp only [List.take]; refine y2 y_mv <| y2 y_mv <| y2 (y_eqlT rfl rfl) ?_; refine yv (y_pickT rfl rfl) ?_; refine Hd.nil ?_; exact Hd.mq
   ·intro _
    simp only [List.take]; refine n1 <| n1 <| n1 <| yv (y_pickF rfl rfl) ?_; refine Hd.nil ?_; exact Hd.mq
   simp only [List.drop]; refine yv y_as <| fk [(12, _)] hK8 ?_; refine Hd.ret ?_; exact Hd.ret1 rfl () (by rfl) sq
theorem do_ct (L : List SP) (pb wb rb : Nat) (w : WA) (K : Nat) (hK : K ≤ 100000000) (hl : Lo K w) (o : Ov) (ht : InK .u64 o.t) (hd : o.d.length ≤ 300) (hR : RdS L 1 o.ad o.d.length (bsl o.d)) (hc : o.d.length ≤ o.c) : Ct Tryz.prog 17 #[.pointer (some ⟨pb, 0, none⟩), .agg (encO o).toArray] (BoP pb wb rb :: WorldP wb w :: Rf.RwP rb w :: L) (fun _ : Unit => .bool true) (fun _ : Unit => BoP pb wb rb :: WorldP wb (doA w o) :: Rf.RwP rb (doA w o) :: L) := by
 refine Ct.o2 Tryz.func17 ?_; intro E
 show Hd E 289 _ _ _ _
 have ht0 := ht
 simp only [InK] at ht
 have hnow := hl.now
 refine Hd.wokW (.there .here) (fun hw => ?_); refine sr fun _ hK1 => ?_
 refine Hd.box rfl rfl (fun b3 => ?_); refine yv y_as <| fk [(0, _), (3, _)] hK1 ?_; refine sr fun _ hK2 => ?_
 refine Hd.bslice (vs := []) rfl (by exact bs17_31 ..) (fun b31 => ?_); refine Hd.ownNil 5 1 (some ⟨b31, 0, none⟩) ?_; refine yv (y_f 4 31 Tryz.underlying33 sz31) ?_; refine yv (y_l1 ag31 rfl) ?_; refine Hd.append Tryz.underlying31 ty5 rfl rfl rfl pkk (by exact RdS.mono hR sq) (by simp [Value.oneCell']; done) (by simp only [maxLen]; omega) (by omega) (fun ad34 cap34 => ?_); refine yv y_as <| Hd.nil ?_; rw [Nat.zero_add, List.nil_append]; refine sk [(0, _), (3, _), (5, _)] hK2 ?_; refine Hd.seq fun _ hK3 => ?_
 refine Hd.ownCap (ad := ad34) (us := bsl o.d) pkk (fun hcap => ?_); refine Hd.region <| yv y_as <| fk [(0, _), (3, _), (5, _)] hK3 ?_; refine Hd.cutK (ι := Unit) [(5, _)] (fun _ => [(6, .bool true)]) (fun _ => own 5 1 ad34 o.d.length cap34 (bsl o.d) :: BoP pb wb rb :: WorldP wb (doA w o) :: Rf.RwP rb (doA w o) :: L) ?_ ?_ ⟨rfl, trivial⟩
 ·refine sr fun _ hK4 => ?_
  refine yv (y_f 0 3 Tryz.underlying33 sz3) ?_; refine yv (y_l1 ag3 rfl) ?_; refine fk [(0, _), (3, _), (5, _), (36, _)] hK4 ?_; refine Hd.block <| Hd.seq fun _ hK5 => ?_
  refine sr fun _ hK6 => ?_
  refine yv (y_eql rfl rfl) ?_; refine yv y_as <| fk [(0, _), (3, _), (5, _), (36, _), (41, _)] hK6 ?_; refine Hd.cond rfl (fun hc0 => ?_) (fun hc0 => ?_)
  ·try simp only [hyA, hyB, hyC, ne_eq] at hc0
   rw [decide_eq_true hc0]; refine Hd.skip <| Hd.toK hK5 ?_; refine Hd.condT rfl ?_; refine sr fun _ hK7 => ?_
   refine yv y_as <| yv y_as <| fk [(0, _), (3, _), (5, _)] hK7 ?_; refine sr fun _ hK8 => ?_
   refine yv y_as <| fk [(0, _), (3, _), (5, _)] hK8 ?_; refine Hd.seq fun _ hK9 => ?_
   refine sr fun _ hK10 => ?_
   refine yv (y_f 0 3 Tryz.underlying33 sz3) ?_; refine yv (y_l1 ag3 rfl) ?_; refine fk [(0, _), (3, _), (5, _), (47, _)] hK10 ?_; refine Hd.block <| sr fun _ hK11 => ?_
   refine yv (y_eql rfl rfl) ?_; refine yv y_as <| fk [(0, _), (3, _), (5, _), (47, _), (59, _)] hK11 ?_; refine Hd.cond rfl (fun hc4 => ?_) (fun hc4 => ?_)
   ·try simp only [hyA, hyB, hyC, ne_eq] at hc4
    refine Hd.drawsH ([BoP pb wb rb, pt b3 (encO o) 33]) (fun _ => true) mixed ?_; simp only [List.length, Nat.zero_add, Nat.reduceAdd]; refine tH 0 rfl y_mv ?_; refine tH 1 rfl y_np ?_; refine tH 2 rfl (y_f 0 38 Tryz.underlying41 sz38) ?_; refine tH 3 rfl (y_l1 ag38 rfl) ?_; refine tH 4 rfl (y_f 2 3 Tryz.underlying33 sz3) ?_; refine tH 5 rfl (y_l1 ag3 rfl) ?_; refine onlyH 6 rfl kq ?_; refine callE rfl fk54 (wmk0_ct _ wb w o.k o.n (by omega)) sq ?_; intro _; refine Hd.nil <| thenN <| heldK (J := (fun _ => true)) (i := 6) sq ?_; refine tH 7 rfl y_mv ?_; refine tH 8 rfl y_ex ?_; refine tH 9 rfl y_ex ?_; refine tH 10 rfl y_ex ?_; refine tH 11 rfl y_as ?_; refine tH 12 rfl y_as ?_; refine tH 13 rfl y_as ?_; refine endH kq ?_; refine slots [(0, _), (3, _), (5, _), (7, _), (8, _), (9, _)] sbq ?_; refine Hd.inB <| Hd.toK hK9 ?_; refine Hd.seq fun _ hK12 => ?_
    refine Hd.drawsH ([BoP pb wb rb, pt b3 (encO o) 33]) (fun _ => true) mixed ?_; simp only [List.length, Nat.zero_add, Nat.reduceAdd]; refine tH 0 rfl y_mv ?_; refine tH 1 rfl y_np ?_; refine tH 2 rfl (y_f 1 39 Tryz.underlying41 sz39) ?_; refine tH 3 rfl (y_l1 ag39 rfl) ?_; refine tH 4 rfl (y_f 0 3 Tryz.underlying33 sz3) ?_; refine tH 5 rfl (y_l1 ag3 rfl) ?_; refine tH 6 rfl (y_f 2 3 Tryz.underlying33 sz3) ?_; refine tH 7 rfl (y_l1 ag3 rfl) ?_; refine onlyH 8 rfl kq ?_; refine callE rfl fk57 (Rf.rMake_ct _ rb w hw o.k o.n (by omega)) sq ?_; rintro ⟨ma, mc⟩; dsimp only; refine Hd.nil <| thenN <| heldK (J := (fun _ => true)) (i := 8) sq ?_; refine tH 9 rfl y_mv ?_; refine tH 10 rfl y_ex ?_; refine tH 11 rfl y_ex ?_; refine tH 12 rfl y_as ?_; refine tH 13 rfl y_as ?_; refine endH kq ?_; refine sk [(0, _), (5, _), (7, _), (8, _), (9, _), (10, _), (11, _)] hK12 ?_; refine Hd.wokW (wb := wb) (w := makeR w o.k o.n) pkk (fun hw2 => ?_)
    refine Rf.Hd.rw (b := rb) (w := makeR w o.k o.n) pkk (fun i hi => ?_)
    have hrl := Rf.rows_n hi
    have hlen := hw2.len
    refine Hd.region <| yv y_mv <| yv y_mv <| yv y_mv <| yv y_mv <| yv y_mv <| yv y_np <| yv (y_f 1 39 Tryz.underlying41 sz39) ?_; refine yv (y_l1 ag39 rfl) ?_; refine yv y_np <| yv (y_f 0 129 Tryz.underlying133 sz129) ?_; refine yv (y_l1 ag129 rfl) ?_; refine yv (y_len Tryz.underlying129 rfl) ?_; refine yv (y_to (v' := .int .i64 (((makeR w o.k o.n).ws.length : Nat) - 1)) (y_subn rfl rfl (by simp only [InK]; omega)) (by (congr 1; omega))) ?_; refine yv y_mv <| callE rfl fk58 (made_ct _ _ _ _ _ _ ma mc ?hD (made_ok w (k := o.k) (by omega) o.n)) sq ?_
    case hD => exact RdS.own pkk
    intro _; refine yv y_as <| Hd.nil <| slots [(5, _), (6, _)] sbq ?_; refine Hd.inB <| thenN ?_; rw [do_mk ⟨by omega, by omega⟩]; exact Hd.meet () sbq (Ent.sep (.pick pkk (.pick pkk (.pick pkk (.ex i (.pure hi enn))))))
   ·try simp only [hyA, hyB, hyC, ne_eq] at hc4
    exact absurd hc0 hc4
  ·try simp only [hyA, hyB, hyC, ne_eq] at hc0
   refine sr fun _ hK13 => ?_
   refine yv (y_eql rfl rfl) ?_; refine yv y_as <| fk [(0, _), (3, _), (5, _), (36, _), (41, _)] hK13 ?_; refine Hd.cond rfl (fun hc1 => ?_) (fun hc1 => ?_)
   ·try simp only [hyA, hyB, hyC, ne_eq] at hc1
    rw [decide_eq_true hc1]; refine Hd.skip <| Hd.toK hK5 ?_; refine Hd.condT rfl ?_; refine sr fun _ hK14 => ?_
    refine yv y_as <| yv y_as <| fk [(0, _), (3, _), (5, _)] hK14 ?_; refine sr fun _ hK15 => ?_
    refine yv y_as <| fk [(0, _), (3, _), (5, _)] hK15 ?_; refine Hd.seq fun _ hK16 => ?_
    refine sr fun _ hK17 => ?_
    refine yv (y_f 0 3 Tryz.underlying33 sz3) ?_; refine yv (y_l1 ag3 rfl) ?_; refine fk [(0, _), (3, _), (5, _), (47, _)] hK17 ?_; refine Hd.block <| sr fun _ hK18 => ?_
    refine yv (y_eql rfl rfl) ?_; refine yv y_as <| fk [(0, _), (3, _), (5, _), (47, _), (59, _)] hK18 ?_; refine Hd.cond rfl (fun hc4 => ?_) (fun hc4 => ?_)
    ·try simp only [hyA, hyB, hyC, ne_eq] at hc4
     exact absurd (hc4.symm.trans hc1) (by decide)
    ·try simp only [hyA, hyB, hyC, ne_eq] at hc4
     refine sr fun _ hK19 => ?_
     refine yv (y_eql rfl rfl) ?_; refine yv y_as <| fk [(0, _), (3, _), (5, _), (47, _), (72, _)] hK19 ?_; refine Hd.cond rfl (fun hc5 => ?_) (fun hc5 => ?_)
     ·try simp only [hyA, hyB, hyC, ne_eq] at hc5
      refine Hd.drawsH ([BoP pb wb rb, pt b3 (encO o) 33]) (fun _ => true) mixed ?_; simp only [List.length, Nat.zero_add, Nat.reduceAdd]; refine tH 0 rfl y_mv ?_; refine tH 1 rfl y_np ?_; refine tH 2 rfl (y_f 0 38 Tryz.underlying41 sz38) ?_; refine tH 3 rfl (y_l1 ag38 rfl) ?_; refine tH 4 rfl (y_f 2 3 Tryz.underlying33 sz3) ?_; refine tH 5 rfl (y_l1 ag3 rfl) ?_; refine onlyH 6 rfl kq ?_; refine callE rfl fk55 (wmk1_ct _ wb w o.k o.n (by omega)) sq ?_; intro _; refine Hd.nil <| thenN <| heldK (J := (fun _ => true)) (i := 6) sq ?_; refine tH 7 rfl y_mv ?_; refine tH 8 rfl y_ex ?_; refine tH 9 rfl y_ex ?_; refine tH 10 rfl y_ex ?_; refine tH 11 rfl y_as ?_; refine tH 12 rfl y_as ?_; refine tH 13 rfl y_as ?_; refine endH kq ?_; refine slots [(0, _), (3, _), (5, _), (7, _), (8, _), (9, _)] sbq ?_; refine Hd.inB <| Hd.toK hK16 ?_; refine Hd.seq fun _ hK20 => ?_
      refine Hd.drawsH ([BoP pb wb rb, pt b3 (encO o) 33]) (fun _ => true) mixed ?_; simp only [List.length, Nat.zero_add, Nat.reduceAdd]; refine tH 0 rfl y_mv ?_; refine tH 1 rfl y_np ?_; refine tH 2 rfl (y_f 1 39 Tryz.underlying41 sz39) ?_; refine tH 3 rfl (y_l1 ag39 rfl) ?_; refine tH 4 rfl (y_f 0 3 Tryz.underlying33 sz3) ?_; refine tH 5 rfl (y_l1 ag3 rfl) ?_; refine tH 6 rfl (y_f 2 3 Tryz.underlying33 sz3) ?_; refine tH 7 rfl (y_l1 ag3 rfl) ?_; refine onlyH 8 rfl kq ?_; refine callE rfl fk57 (Rf.rMake_ct _ rb w hw o.k o.n (by omega)) sq ?_; rintro ⟨ma, mc⟩; dsimp only; refine Hd.nil <| thenN <| heldK (J := (fun _ => true)) (i := 8) sq ?_; refine tH 9 rfl y_mv ?_; refine tH 10 rfl y_ex ?_; refine tH 11 rfl y_ex ?_; refine tH 12 rfl y_as ?_; refine tH 13 rfl y_as ?_; refine endH kq ?_; refine sk [(0, _), (5, _), (7, _), (8, _), (9, _), (10, _), (11, _)] hK20 ?_; refine Hd.wokW (wb := wb) (w := makeR w o.k o.n) pkk (fun hw2 => ?_)
      refine Rf.Hd.rw (b := rb) (w := makeR w o.k o.n) pkk (fun i hi => ?_)
      have hrl := Rf.rows_n hi
      have hlen := hw2.len
      refine Hd.region <| yv y_mv <| yv y_mv <| yv y_mv <| yv y_mv <| yv y_mv <| yv y_np <| yv (y_f 1 39 Tryz.underlying41 sz39) ?_; refine yv (y_l1 ag39 rfl) ?_; refine yv y_np <| yv (y_f 0 129 Tryz.underlying133 sz129) ?_; refine yv (y_l1 ag129 rfl) ?_; refine yv (y_len Tryz.underlying129 rfl) ?_; refine yv (y_to (v' := .int .i64 (((makeR w o.k o.n).ws.length : Nat) - 1)) (y_subn rfl rfl (by simp only [InK]; omega)) (by (congr 1; omega))) ?_; refine yv y_mv <| callE rfl fk58 (made_ct _ _ _ _ _ _ ma mc ?hD (made_ok w (k := o.k) (by omega) o.n)) sq ?_
      case hD => exact RdS.own pkk
      intro _; refine yv y_as <| Hd.nil <| slots [(5, _), (6, _)] sbq ?_; refine Hd.inB <| thenN ?_; rw [do_mk ⟨by omega, by omega⟩]; exact Hd.meet () sbq (Ent.sep (.pick pkk (.pick pkk (.pick pkk (.ex i (.pure hi enn))))))
     ·try simp only [hyA, hyB, hyC, ne_eq] at hc5
      exact absurd hc1 hc5
   ·try simp only [hyA, hyB, hyC, ne_eq] at hc1
    refine sr fun _ hK21 => ?_
    refine yv (y_eql rfl rfl) ?_; refine yv y_as <| fk [(0, _), (3, _), (5, _), (36, _), (41, _)] hK21 ?_; refine Hd.cond rfl (fun hc2 => ?_) (fun hc2 => ?_)
    ·try simp only [hyA, hyB, hyC, ne_eq] at hc2
     rw [decide_eq_true hc2]; refine Hd.skip <| Hd.toK hK5 ?_; refine Hd.condT rfl ?_; refine sr fun _ hK22 => ?_
     refine yv y_as <| yv y_as <| fk [(0, _), (3, _), (5, _)] hK22 ?_; refine sr fun _ hK23 => ?_
     refine yv y_as <| fk [(0, _), (3, _), (5, _)] hK23 ?_; refine Hd.seq fun _ hK24 => ?_
     refine sr fun _ hK25 => ?_
     refine yv (y_f 0 3 Tryz.underlying33 sz3) ?_; refine yv (y_l1 ag3 rfl) ?_; refine fk [(0, _), (3, _), (5, _), (47, _)] hK25 ?_; refine Hd.block <| sr fun _ hK26 => ?_
     refine yv (y_eql rfl rfl) ?_; refine yv y_as <| fk [(0, _), (3, _), (5, _), (47, _), (59, _)] hK26 ?_; refine Hd.cond rfl (fun hc4 => ?_) (fun hc4 => ?_)
     ·try simp only [hyA, hyB, hyC, ne_eq] at hc4
      exact absurd (hc4.symm.trans hc2) (by decide)
     ·try simp only [hyA, hyB, hyC, ne_eq] at hc4
      refine sr fun _ hK27 => ?_
      refine yv (y_eql rfl rfl) ?_; refine yv y_as <| fk [(0, _), (3, _), (5, _), (47, _), (72, _)] hK27 ?_; refine Hd.cond rfl (fun hc5 => ?_) (fun hc5 => ?_)
      ·try simp only [hyA, hyB, hyC, ne_eq] at hc5
       exact absurd (hc5.symm.trans hc2) (by decide)
      ·try simp only [hyA, hyB, hyC, ne_eq] at hc5
       refine sr fun _ hK28 => ?_
       refine yv (y_eql rfl rfl) ?_; refine yv y_as <| fk [(0, _), (3, _), (5, _), (85, _)] hK28 ?_; refine Hd.cond rfl (fun hc6 => ?_) (fun hc6 => ?_)
       ·try simp only [hyA, hyB, hyC, ne_eq] at hc6
        refine Hd.drawsH ([BoP pb wb rb, pt b3 (encO o) 33]) (fun _ => true) mixed ?_; simp only [List.length, Nat.zero_add, Nat.reduceAdd]; refine tH 0 rfl y_mv ?_; refine tH 1 rfl y_np ?_; refine tH 2 rfl (y_f 0 38 Tryz.underlying41 sz38) ?_; refine tH 3 rfl (y_l1 ag38 rfl) ?_; refine tH 4 rfl (y_f 2 3 Tryz.underlying33 sz3) ?_; refine tH 5 rfl (y_l1 ag3 rfl) ?_; refine onlyH 6 rfl kq ?_; refine callE rfl fk50 (wmk2_ct _ wb w o.k o.n (by omega)) sq ?_; intro _; refine Hd.nil <| thenN <| heldK (J := (fun _ => true)) (i := 6) sq ?_; refine tH 7 rfl y_mv ?_; refine tH 8 rfl y_ex ?_; refine tH 9 rfl y_ex ?_; refine tH 10 rfl y_ex ?_; refine tH 11 rfl y_as ?_; refine tH 12 rfl y_as ?_; refine tH 13 rfl y_as ?_; refine endH kq ?_; refine slots [(0, _), (3, _), (5, _), (7, _), (8, _), (9, _)] sbq ?_; refine Hd.inB <| Hd.toK hK24 ?_; refine Hd.seq fun _ hK29 => ?_
        refine Hd.drawsH ([BoP pb wb rb, pt b3 (encO o) 33]) (fun _ => true) mixed ?_; simp only [List.length, Nat.zero_add, Nat.reduceAdd]; refine tH 0 rfl y_mv ?_; refine tH 1 rfl y_np ?_; refine tH 2 rfl (y_f 1 39 Tryz.underlying41 sz39) ?_; refine tH 3 rfl (y_l1 ag39 rfl) ?_; refine tH 4 rfl (y_f 0 3 Tryz.underlying33 sz3) ?_; refine tH 5 rfl (y_l1 ag3 rfl) ?_; refine tH 6 rfl (y_f 2 3 Tryz.underlying33 sz3) ?_; refine tH 7 rfl (y_l1 ag3 rfl) ?_; refine onlyH 8 rfl kq ?_; refine callE rfl fk57 (Rf.rMake_ct _ rb w hw o.k o.n (by omega)) sq ?_; rintro ⟨ma, mc⟩; dsimp only; refine Hd.nil <| thenN <| heldK (J := (fun _ => true)) (i := 8) sq ?_; refine tH 9 rfl y_mv ?_; refine tH 10 rfl y_ex ?_; refine tH 11 rfl y_ex ?_; refine tH 12 rfl y_as ?_; refine tH 13 rfl y_as ?_; refine endH kq ?_; refine sk [(0, _), (5, _), (7, _), (8, _), (9, _), (10, _), (11, _)] hK29 ?_; refine Hd.wokW (wb := wb) (w := makeR w o.k o.n) pkk (fun hw2 => ?_)
        refine Rf.Hd.rw (b := rb) (w := makeR w o.k o.n) pkk (fun i hi => ?_)
        have hrl := Rf.rows_n hi
        have hlen := hw2.len
        refine Hd.region <| yv y_mv <| yv y_mv <| yv y_mv <| yv y_mv <| yv y_mv <| yv y_np <| yv (y_f 1 39 Tryz.underlying41 sz39) ?_; refine yv (y_l1 ag39 rfl) ?_; refine yv y_np <| yv (y_f 0 129 Tryz.underlying133 sz129) ?_; refine yv (y_l1 ag129 rfl) ?_; refine yv (y_len Tryz.underlying129 rfl) ?_; refine yv (y_to (v' := .int .i64 (((makeR w o.k o.n).ws.length : Nat) - 1)) (y_subn rfl rfl (by simp only [InK]; omega)) (by (congr 1; omega))) ?_; refine yv y_mv <| callE rfl fk58 (made_ct _ _ _ _ _ _ ma mc ?hD (made_ok w (k := o.k) (by omega) o.n)) sq ?_
        case hD => exact RdS.own pkk
        intro _; refine yv y_as <| Hd.nil <| slots [(5, _), (6, _)] sbq ?_; refine Hd.inB <| thenN ?_; rw [do_mk ⟨by omega, by omega⟩]; exact Hd.meet () sbq (Ent.sep (.pick pkk (.pick pkk (.pick pkk (.ex i (.pure hi enn))))))
       ·try simp only [hyA, hyB, hyC, ne_eq] at hc6
        exact absurd hc2 hc6
    ·try simp only [hyA, hyB, hyC, ne_eq] at hc2
     refine Hd.region <| yv (y_eql rfl rfl) ?_; refine yv y_as <| fk [(0, _), (3, _), (5, _), (36, _), (41, _)] hK5 ?_; refine Hd.cond rfl (fun hc3 => ?_) (fun hc3 => ?_)
     ·try simp only [hyA, hyB, hyC, ne_eq] at hc3
      refine sr fun _ hK30 => ?_
      refine yv y_as <| yv y_as <| fk [(0, _), (3, _), (5, _)] hK30 ?_; refine sr fun _ hK31 => ?_
      refine yv y_as <| fk [(0, _), (3, _), (5, _)] hK31 ?_; refine Hd.seq fun _ hK32 => ?_
      refine sr fun _ hK33 => ?_
      refine yv (y_f 0 3 Tryz.underlying33 sz3) ?_; refine yv (y_l1 ag3 rfl) ?_; refine fk [(0, _), (3, _), (5, _), (47, _)] hK33 ?_; refine Hd.block <| sr fun _ hK34 => ?_
      refine yv (y_eql rfl rfl) ?_; refine yv y_as <| fk [(0, _), (3, _), (5, _), (47, _), (59, _)] hK34 ?_; refine Hd.cond rfl (fun hc4 => ?_) (fun hc4 => ?_)
      ·try simp only [hyA, hyB, hyC, ne_eq] at hc4
       exact absurd (hc4.symm.trans hc3) (by decide)
      ·try simp only [hyA, hyB, hyC, ne_eq] at hc4
       refine sr fun _ hK35 => ?_
       refine yv (y_eql rfl rfl) ?_; refine yv y_as <| fk [(0, _), (3, _), (5, _), (47, _), (72, _)] hK35 ?_; refine Hd.cond rfl (fun hc5 => ?_) (fun hc5 => ?_)
       ·try simp only [hyA, hyB, hyC, ne_eq] at hc5
        exact absurd (hc5.symm.trans hc3) (by decide)
       ·try simp only [hyA, hyB, hyC, ne_eq] at hc5
        refine sr fun _ hK36 => ?_
        refine yv (y_eql rfl rfl) ?_; refine yv y_as <| fk [(0, _), (3, _), (5, _), (85, _)] hK36 ?_; refine Hd.cond rfl (fun hc6 => ?_) (fun hc6 => ?_)
        ·try simp only [hyA, hyB, hyC, ne_eq] at hc6
         exact absurd (hc6.symm.trans hc3) (by decide)
        ·try simp only [hyA, hyB, hyC, ne_eq] at hc6
         refine Hd.drawsH ([BoP pb wb rb, pt b3 (encO o) 33]) (fun _ => true) mixed ?_; simp only [List.length, Nat.zero_add, Nat.reduceAdd]; refine tH 0 rfl y_mv ?_; refine tH 1 rfl y_np ?_; refine tH 2 rfl (y_f 0 38 Tryz.underlying41 sz38) ?_; refine tH 3 rfl (y_l1 ag38 rfl) ?_; refine tH 4 rfl (y_f 2 3 Tryz.underlying33 sz3) ?_; refine tH 5 rfl (y_l1 ag3 rfl) ?_; refine onlyH 6 rfl kq ?_; refine callE rfl fk56 (wmk3_ct _ wb w o.k o.n (by omega)) sq ?_; intro _; refine Hd.nil <| thenN <| heldK (J := (fun _ => true)) (i := 6) sq ?_; refine tH 7 rfl y_mv ?_; refine tH 8 rfl y_ex ?_; refine tH 9 rfl y_ex ?_; refine tH 10 rfl y_ex ?_; refine tH 11 rfl y_as ?_; refine tH 12 rfl y_as ?_; refine tH 13 rfl y_as ?_; refine endH kq ?_; refine slots [(0, _), (3, _), (5, _), (7, _), (8, _), (9, _)] sbq ?_; refine Hd.inB <| Hd.toK hK32 ?_; refine Hd.seq fun _ hK37 => ?_
         refine Hd.drawsH ([BoP pb wb rb, pt b3 (encO o) 33]) (fun _ => true) mixed ?_; simp only [List.length, Nat.zero_add, Nat.reduceAdd]; refine tH 0 rfl y_mv ?_; refine tH 1 rfl y_np ?_; refine tH 2 rfl (y_f 1 39 Tryz.underlying41 sz39) ?_; refine tH 3 rfl (y_l1 ag39 rfl) ?_; refine tH 4 rfl (y_f 0 3 Tryz.underlying33 sz3) ?_; refine tH 5 rfl (y_l1 ag3 rfl) ?_; refine tH 6 rfl (y_f 2 3 Tryz.underlying33 sz3) ?_; refine tH 7 rfl (y_l1 ag3 rfl) ?_; refine onlyH 8 rfl kq ?_; refine callE rfl fk57 (Rf.rMake_ct _ rb w hw o.k o.n (by omega)) sq ?_; rintro ⟨ma, mc⟩; dsimp only; refine Hd.nil <| thenN <| heldK (J := (fun _ => true)) (i := 8) sq ?_; refine tH 9 rfl y_mv ?_; refine tH 10 rfl y_ex ?_; refine tH 11 rfl y_ex ?_; refine tH 12 rfl y_as ?_; refine tH 13 rfl y_as ?_; refine endH kq ?_; refine sk [(0, _), (5, _), (7, _), (8, _), (9, _), (10, _), (11, _)] hK37 ?_; refine Hd.wokW (wb := wb) (w := makeR w o.k o.n) pkk (fun hw2 => ?_)
         refine Rf.Hd.rw (b := rb) (w := makeR w o.k o.n) pkk (fun i hi => ?_)
         have hrl := Rf.rows_n hi
         have hlen := hw2.len
         refine Hd.region <| yv y_mv <| yv y_mv <| yv y_mv <| yv y_mv <| yv y_mv <| yv y_np <| yv (y_f 1 39 Tryz.underlying41 sz39) ?_; refine yv (y_l1 ag39 rfl) ?_; refine yv y_np <| yv (y_f 0 129 Tryz.underlying133 sz129) ?_; refine yv (y_l1 ag129 rfl) ?_; refine yv (y_len Tryz.underlying129 rfl) ?_; refine yv (y_to (v' := .int .i64 (((makeR w o.k o.n).ws.length : Nat) - 1)) (y_subn rfl rfl (by simp only [InK]; omega)) (by (congr 1; omega))) ?_; refine yv y_mv <| callE rfl fk58 (made_ct _ _ _ _ _ _ ma mc ?hD (made_ok w (k := o.k) (by omega) o.n)) sq ?_
         case hD => exact RdS.own pkk
         intro _; refine yv y_as <| Hd.nil <| slots [(5, _), (6, _)] sbq ?_; refine Hd.inB <| thenN ?_; rw [do_mk ⟨by omega, by omega⟩]; exact Hd.meet () sbq (Ent.sep (.pick pkk (.pick pkk (.pick pkk (.ex i (.pure hi enn))))))
     ·try simp only [hyA, hyB, hyC, ne_eq] at hc3
      refine sr fun _ hK38 => ?_
      refine yv (y_eql rfl rfl) ?_; refine yv y_as <| fk [(0, _), (3, _), (5, _), (36, _), (125, _)] hK38 ?_; refine Hd.cond rfl (fun hc7 => ?_) (fun hc7 => ?_)
      ·try simp only [hyA, hyB, hyC, ne_eq] at hc7
       refine Hd.seq fun _ hK39 => ?_
       refine Hd.drawsH ([BoP pb wb rb, pt b3 (encO o) 33]) (fun _ => true) mixed ?_; simp only [List.length, Nat.zero_add, Nat.reduceAdd]; refine tH 0 rfl y_mv ?_; refine tH 1 rfl y_np ?_; refine tH 2 rfl (y_f 0 38 Tryz.underlying41 sz38) ?_; refine tH 3 rfl (y_l1 ag38 rfl) ?_; refine tH 4 rfl (y_f 1 3 Tryz.underlying33 sz3) ?_; refine tH 5 rfl (y_l1 ag3 rfl) ?_; refine onlyH 6 rfl kq ?_; refine callE rfl fk59 (waccept_ct _ wb w o.a) sq ?_; intro _; refine Hd.nil <| thenN <| heldK (J := (fun _ => true)) (i := 6) sq ?_; refine tH 7 rfl y_mv ?_; refine tH 8 rfl y_ex ?_; refine tH 9 rfl y_ex ?_; refine tH 10 rfl y_ex ?_; refine tH 11 rfl y_as ?_; refine tH 12 rfl y_as ?_; refine tH 13 rfl y_as ?_; refine endH kq ?_; refine sk [(0, _), (3, _), (5, _), (12, _), (13, _), (14, _)] hK39 ?_; refine Hd.seq fun _ hK40 => ?_
       refine Hd.drawsH ([BoP pb wb rb, pt b3 (encO o) 33]) (fun _ => true) mixed ?_; simp only [List.length, Nat.zero_add, Nat.reduceAdd]; refine tH 0 rfl y_mv ?_; refine tH 1 rfl y_np ?_; refine tH 2 rfl (y_f 1 39 Tryz.underlying41 sz39) ?_; refine tH 3 rfl (y_l1 ag39 rfl) ?_; refine tH 4 rfl (y_f 1 3 Tryz.underlying33 sz3) ?_; refine tH 5 rfl (y_l1 ag3 rfl) ?_; refine onlyH 6 rfl kq ?_; refine callE rfl fk60 (Rf.rAccept_ct _ rb w hw o.a) sq ?_; intro _; refine Hd.nil <| thenN <| heldK (J := (fun _ => true)) (i := 6) sq ?_; refine tH 7 rfl y_mv ?_; refine tH 8 rfl y_ex ?_; refine tH 9 rfl y_ex ?_; refine tH 10 rfl y_ex ?_; refine tH 11 rfl y_as ?_; refine tH 12 rfl y_as ?_; refine tH 13 rfl y_as ?_; refine endH kq ?_; refine sk [(5, _), (12, _), (13, _), (14, _), (15, _), (16, _), (17, _)] hK40 ?_; refine Hd.region <| yv y_mv <| yv y_mv <| yv (y_eqlT rfl rfl) ?_
       refine yv y_mv ?_; apply Hd.andg 4 152 156 [(5, _), (14, _), (17, _)] rfl sbq
       ·intro _
        simp only [List.take]; refine y2 y_mv <| y2 y_mv <| y2 (y_eqlT rfl rfl) ?_; refine yv (y_pickT rfl rfl) ?_; refine Hd.nil ?_; exact Hd.mq
       ·intro _
        simp only [List.take]; refine n1 <| n1 <| n1 <| yv (y_pickF rfl rfl) ?_; refine Hd.nil ?_; exact Hd.mq
       simp only [List.drop]; refine yv y_mv ?_; apply Hd.andg 4 157 161 [(5, _)] rfl sbq
       ·intro _
        simp only [List.take]; refine y2 y_mv <| y2 y_mv <| y2 (y_eqlT rfl rfl) ?_; refine yv (y_pickT rfl rfl) ?_; refine Hd.nil ?_; exact Hd.mq
       ·intro _
        simp only [List.take]; refine n1 <| n1 <| n1 <| yv (y_pickF rfl rfl) ?_; refine Hd.nil ?_; exact Hd.mq
       simp only [List.drop]; refine yv y_as <| Hd.nil <| slots [(5, _), (6, _)] sbq ?_; refine Hd.inB <| thenN ?_; rw [do_4 hc7]; exact Hd.meet () (by (repeat (first | exact trivial | refine ⟨rfl, ?_⟩)); done) sq
      ·try simp only [hyA, hyB, hyC, ne_eq] at hc7
       refine sr fun _ hK41 => ?_
       refine yv (y_eql rfl rfl) ?_; refine yv y_as <| fk [(0, _), (3, _), (5, _), (36, _), (162, _)] hK41 ?_; refine Hd.cond rfl (fun hc8 => ?_) (fun hc8 => ?_)
       ·try simp only [hyA, hyB, hyC, ne_eq] at hc8
        refine Hd.seq fun _ hK42 => ?_
        refine Hd.drawsH ([BoP pb wb rb, pt b3 (encO o) 33]) (fun _ => true) mixed ?_; simp only [List.length, Nat.zero_add, Nat.reduceAdd]; refine tH 0 rfl y_mv ?_; refine tH 1 rfl y_np ?_; refine tH 2 rfl (y_f 0 38 Tryz.underlying41 sz38) ?_; refine tH 3 rfl (y_l1 ag38 rfl) ?_; refine tH 4 rfl (y_f 1 3 Tryz.underlying33 sz3) ?_; refine tH 5 rfl (y_l1 ag3 rfl) ?_; refine tH 6 rfl (y_f 2 3 Tryz.underlying33 sz3) ?_; refine tH 7 rfl (y_l1 ag3 rfl) ?_; refine onlyH 8 rfl kq ?_; refine callE rfl fk61 (wread_ct _ wb w o.a o.n) sq ?_; rintro ⟨ta, tc⟩; dsimp only; refine Hd.nil <| thenN <| heldK (J := (fun _ => true)) (i := 8) sq ?_; refine tH 9 rfl y_mv ?_; refine tH 10 rfl y_ex ?_; refine tH 11 rfl y_ex ?_; refine tH 12 rfl y_ex ?_; refine tH 13 rfl y_as ?_; refine tH 14 rfl y_as ?_; refine tH 15 rfl y_as ?_; refine endH kq ?_; refine sk [(0, _), (3, _), (5, _), (18, _), (19, _), (20, _)] hK42 ?_
        refine Hd.seq fun _ hK43 => ?_
        refine Hd.drawsH ([BoP pb wb rb, pt b3 (encO o) 33]) (fun _ => true) mixed ?_; simp only [List.length, Nat.zero_add, Nat.reduceAdd]; refine tH 0 rfl y_mv ?_; refine tH 1 rfl y_np ?_; refine tH 2 rfl (y_f 1 39 Tryz.underlying41 sz39) ?_; refine tH 3 rfl (y_l1 ag39 rfl) ?_; refine tH 4 rfl (y_f 1 3 Tryz.underlying33 sz3) ?_; refine tH 5 rfl (y_l1 ag3 rfl) ?_; refine tH 6 rfl (y_f 2 3 Tryz.underlying33 sz3) ?_; refine tH 7 rfl (y_l1 ag3 rfl) ?_; refine onlyH 8 rfl kq ?_; refine callE rfl fk62 (Rf.rRead_ct _ rb w hw o.a o.n) sq ?_; rintro ⟨ua, uc⟩; dsimp only; refine Hd.nil <| thenN <| heldK (J := (fun _ => true)) (i := 8) sq ?_; refine tH 9 rfl y_mv ?_; refine tH 10 rfl y_ex ?_; refine tH 11 rfl y_ex ?_; refine tH 12 rfl y_ex ?_; refine tH 13 rfl y_as ?_; refine tH 14 rfl y_as ?_; refine tH 15 rfl y_as ?_; refine endH kq ?_; refine sk [(5, _), (18, _), (19, _), (20, _), (21, _), (22, _), (23, _)] hK43 ?_
        refine Hd.region <| yv y_mv <| yv (y_strOf (l := _) kq Tryz.underlying9 rfl (by exact RdS.own pkk)) ?_; refine yv y_mv <| yv (y_strOf (l := _) kq Tryz.underlying9 rfl (by exact RdS.own pkk)) ?_; refine yv (y_eqlstr rfl rfl) ?_; refine yv y_mv ?_; apply Hd.andg 4 195 199 [(5, _), (20, _), (23, _)] rfl sbq
        ·intro _
         simp only [List.take]; refine y2 y_mv <| y2 y_mv <| y2 (y_eqlb Tryz.underlying4 rfl rfl) ?_; refine yv (y_pickT rfl rfl) ?_; refine Hd.nil ?_; exact Hd.mq
        ·intro _
         simp only [List.take]; refine n1 <| n1 <| n1 <| yv (y_pickF rfl rfl) ?_; refine Hd.nil ?_; exact Hd.mq
        simp only [List.drop]; refine yv y_mv ?_; apply Hd.andg 4 200 204 [(5, _)] rfl sbq
        ·intro _
         simp only [List.take]; refine y2 y_mv <| y2 y_mv <| y2 (y_eqlT rfl rfl) ?_; refine yv (y_pickT rfl rfl) ?_; refine Hd.nil ?_; exact Hd.mq
        ·intro _
         simp only [List.take]; refine n1 <| n1 <| n1 <| yv (y_pickF rfl rfl) ?_; refine Hd.nil ?_; exact Hd.mq
        simp only [List.drop]; refine yv y_as <| Hd.nil <| slots [(5, _), (6, _)] sbq ?_; refine Hd.inB <| thenN ?_; rw [do_5 hc8]; exact Hd.meet () (by simp; repeat (first | exact trivial | refine ⟨rfl, ?_⟩)) sq
       ·try simp only [hyA, hyB, hyC, ne_eq] at hc8
        refine sr fun _ hK44 => ?_
        refine yv (y_eql rfl rfl) ?_; refine yv y_as <| fk [(0, _), (3, _), (5, _), (36, _), (205, _)] hK44 ?_; refine Hd.cond rfl (fun hc9 => ?_) (fun hc9 => ?_)
        ·try simp only [hyA, hyB, hyC, ne_eq] at hc9
         refine Hd.seq fun _ hK45 => ?_
         refine Hd.drawsH ([BoP pb wb rb, pt b3 (encO o) 33]) (fun _ => true) mixed ?_; simp only [List.length, Nat.zero_add, Nat.reduceAdd]; refine tH 0 rfl y_mv ?_; refine tH 1 rfl y_np ?_; refine tH 2 rfl (y_f 0 38 Tryz.underlying41 sz38) ?_; refine tH 3 rfl (y_l1 ag38 rfl) ?_; refine tH 4 rfl (y_f 1 3 Tryz.underlying33 sz3) ?_; refine tH 5 rfl (y_l1 ag3 rfl) ?_; refine tH 6 rfl y_mv ?_; refine onlyH 7 rfl kq ?_; refine callE rfl fk63 (wwrite_ct _ wb w o.a ad34 o.d.length cap34 o.d rfl ?hD (by omega) hcap) sq ?_
         case hD => exact RdS.own pkk
         intro _; refine Hd.nil <| thenN <| heldK (J := (fun _ => true)) (i := 7) sq ?_; refine tH 8 rfl y_mv ?_; refine tH 9 rfl y_ex ?_; refine tH 10 rfl y_ex ?_; refine tH 11 rfl y_as ?_; refine tH 12 rfl y_as ?_; refine endH kq ?_; refine sk [(0, _), (3, _), (5, _), (24, _), (25, _)] hK45 ?_; refine Hd.seq fun _ hK46 => ?_
         refine Hd.drawsH ([BoP pb wb rb, pt b3 (encO o) 33]) (fun _ => true) mixed ?_; simp only [List.length, Nat.zero_add, Nat.reduceAdd]; refine tH 0 rfl y_mv ?_; refine tH 1 rfl y_np ?_; refine tH 2 rfl (y_f 1 39 Tryz.underlying41 sz39) ?_; refine tH 3 rfl (y_l1 ag39 rfl) ?_; refine tH 4 rfl (y_f 1 3 Tryz.underlying33 sz3) ?_; refine tH 5 rfl (y_l1 ag3 rfl) ?_; refine tH 6 rfl (y_f 4 31 Tryz.underlying33 sz31) ?_; refine tH 7 rfl (y_l1 ag31 rfl) ?_; refine onlyH 8 rfl kq ?_; refine callE rfl fk64 (Rf.rWrite_ct _ rb w hw o.a o.ad o.d.length o.c o.d rfl ?hD (by omega) hc) sq ?_
         case hD => exact RdS.mono hR sq
         intro _; refine Hd.nil <| thenN <| heldK (J := (fun _ => true)) (i := 8) sq ?_; refine tH 9 rfl y_mv ?_; refine tH 10 rfl y_ex ?_; refine tH 11 rfl y_ex ?_; refine tH 12 rfl y_as ?_; refine tH 13 rfl y_as ?_; refine endH kq ?_; refine sk [(5, _), (24, _), (25, _), (26, _), (27, _)] hK46 ?_; refine Hd.region <| yv y_mv <| yv y_mv <| yv (y_eqlT rfl rfl) ?_; refine yv y_mv ?_; apply Hd.andg 4 233 237 [(5, _)] rfl sbq
         ·intro _
          simp only [List.take]; refine y2 y_mv <| y2 y_mv <| y2 (y_eqlT rfl rfl) ?_; refine yv (y_pickT rfl rfl) ?_; refine Hd.nil ?_; exact Hd.mq
         ·intro _
          simp only [List.take]; refine n1 <| n1 <| n1 <| yv (y_pickF rfl rfl) ?_; refine Hd.nil ?_; exact Hd.mq
         simp only [List.drop]; refine yv y_as <| Hd.nil <| slots [(5, _), (6, _)] sbq ?_; refine Hd.inB <| thenN ?_; rw [do_6 hc9]; exact Hd.meet () (by (repeat (first | exact trivial | refine ⟨rfl, ?_⟩)); done) sq
        ·try simp only [hyA, hyB, hyC, ne_eq] at hc9
         refine sr fun _ hK47 => ?_
         refine yv (y_eql rfl rfl) ?_; refine yv y_as <| fk [(0, _), (3, _), (5, _), (36, _), (238, _)] hK47 ?_; refine Hd.cond rfl (fun hc10 => ?_) (fun hc10 => ?_)
         ·try simp only [hyA, hyB, hyC, ne_eq] at hc10
          refine Hd.seq fun _ hK48 => ?_
          refine Hd.drawsH ([BoP pb wb rb, pt b3 (encO o) 33]) (fun _ => true) mixed ?_; simp only [List.length, Nat.zero_add, Nat.reduceAdd]; refine tH 0 rfl y_mv ?_; refine tH 1 rfl y_np ?_; refine tH 2 rfl (y_f 0 38 Tryz.underlying41 sz38) ?_; refine tH 3 rfl (y_l1 ag38 rfl) ?_; refine tH 4 rfl (y_f 1 3 Tryz.underlying33 sz3) ?_; refine tH 5 rfl (y_l1 ag3 rfl) ?_; refine onlyH 6 rfl kq ?_; refine callE rfl fk65 (wshut_ct _ wb w o.a) sq ?_; intro _; refine Hd.nil <| thenN <| heldK (J := (fun _ => true)) (i := 6) sq ?_; refine tH 7 rfl y_as ?_; refine endH kq ?_; refine sk [(0, _), (3, _), (5, _), (28, _)] hK48 ?_; refine Hd.drawsH ([BoP pb wb rb, pt b3 (encO o) 33]) (fun _ => true) mixed ?_; simp only [List.length, Nat.zero_add, Nat.reduceAdd]; refine tH 0 rfl y_mv ?_; refine tH 1 rfl y_mv ?_; refine tH 2 rfl y_np ?_; refine tH 3 rfl (y_f 1 39 Tryz.underlying41 sz39) ?_; refine tH 4 rfl (y_l1 ag39 rfl) ?_
          refine tH 5 rfl (y_f 1 3 Tryz.underlying33 sz3) ?_; refine tH 6 rfl (y_l1 ag3 rfl) ?_; refine onlyH 7 rfl kq ?_; refine callE rfl fk66 (Rf.rShut_ct _ rb w hw o.a) sq ?_; intro _; refine Hd.nil <| thenN <| heldK (J := (fun _ => true)) (i := 7) sq ?_; refine tH 8 rfl (y_eqlT rfl rfl) ?_; refine tH 9 rfl y_as ?_; refine endH kq ?_; refine slots [(5, _), (6, _)] sbq ?_; refine Hd.inB <| thenN ?_; rw [do_7 hc10]; exact Hd.meet () (by (repeat (first | exact trivial | refine ⟨rfl, ?_⟩)); done) sq
         ·try simp only [hyA, hyB, hyC, ne_eq] at hc10
          refine sr fun _ hK49 => ?_
          refine yv (y_eql rfl rfl) ?_; refine yv y_as <| fk [(0, _), (3, _), (5, _), (256, _)] hK49 ?_; refine Hd.cond rfl (fun hc11 => ?_) (fun hc11 => ?_)
          ·try simp only [hyA, hyB, hyC, ne_eq] at hc11
           refine Hd.seq fun _ hK50 => ?_
           refine Hd.drawsH ([BoP pb wb rb, pt b3 (encO o) 33]) (fun _ => true) mixed ?_; simp only [List.length, Nat.zero_add, Nat.reduceAdd]; refine tH 0 rfl y_mv ?_; refine tH 1 rfl y_np ?_; refine tH 2 rfl (y_f 0 38 Tryz.underlying41 sz38) ?_; refine tH 3 rfl (y_l1 ag38 rfl) ?_; refine tH 4 rfl (y_f 1 3 Tryz.underlying33 sz3) ?_; refine tH 5 rfl (y_l1 ag3 rfl) ?_; refine onlyH 6 rfl kq ?_; refine callE rfl fk67 (wclose_ct _ wb w o.a) sq ?_; intro _; refine Hd.nil <| thenN <| heldK (J := (fun _ => true)) (i := 6) sq ?_; refine tH 7 rfl y_as ?_; refine endH kq ?_; refine sk [(0, _), (3, _), (5, _), (29, _)] hK50 ?_; refine Hd.drawsH ([BoP pb wb rb, pt b3 (encO o) 33]) (fun _ => true) mixed ?_; simp only [List.length, Nat.zero_add, Nat.reduceAdd]; refine tH 0 rfl y_mv ?_; refine tH 1 rfl y_mv ?_; refine tH 2 rfl y_np ?_; refine tH 3 rfl (y_f 1 39 Tryz.underlying41 sz39) ?_; refine tH 4 rfl (y_l1 ag39 rfl) ?_
           refine tH 5 rfl (y_f 1 3 Tryz.underlying33 sz3) ?_; refine tH 6 rfl (y_l1 ag3 rfl) ?_; refine onlyH 7 rfl kq ?_; refine callE rfl fk68 (Rf.rClose_ct _ rb w hw o.a) sq ?_; intro _; refine Hd.nil <| thenN <| heldK (J := (fun _ => true)) (i := 7) sq ?_; refine tH 8 rfl (y_eqlT rfl rfl) ?_; refine tH 9 rfl y_as ?_; refine endH kq ?_; refine slots [(5, _), (6, _)] sbq ?_; refine Hd.inB <| thenN ?_; rw [do_8 hc11]; exact Hd.meet () (by (repeat (first | exact trivial | refine ⟨rfl, ?_⟩)); done) sq
          ·try simp only [hyA, hyB, hyC, ne_eq] at hc11
           refine Hd.region <| yv y_mv <| yv (y_loadn (us := [_, _, _, _, _]) ag33 rfl (Rd.pt pkk (by exact fun j v e => by rw [Nat.zero_add]; exact e)) (by exact sz33)) ?_; refine yv y_mv <| callE rfl fk69 (more_ct _ pb wb rb w K hK hl o (by omega) ht0 hd ?hD hc ad34 cap34 ?hD2 hcap) sq ?_
           case hD => exact RdS.mono hR sq
           case hD2 => exact RdS.own pkk
           intro _; refine yv y_as <| Hd.nil <| slots [(5, _), (6, _)] sbq ?_; refine Hd.inB <| thenN ?_; exact Hd.meet () sbq sq
 ·intro _
  refine Hd.seq fun _ hK51 => ?_
  refine sr fun _ hK52 => ?_
  refine yv y_mv <| yv (y_len Tryz.underlying31 rfl) ?_; refine yv y_mv <| fk [(5, _), (6, _), (275, _), (276, _)] hK52 ?_; refine Hd.block <| Hd.loopK (ι := Nat × List Value) [(5, _), (6, _), (275, _)] (fun q_ => [(276, .int .i64 (q_.1 : Int))]) (fun q_ => pu (q_.1 ≤ o.d.length ∧ q_.2.length = o.d.length ∧ ∀ v ∈ q_.2, ∃ x, v = .int .u8 x) :: own 5 1 ad34 o.d.length cap34 q_.2 :: BoP pb wb rb :: WorldP wb (doA w o) :: Rf.RwP rb (doA w o) :: L) (fun q_ => o.d.length - q_.1) (0, bsl o.d) sbq sbq (Ent.sep (.pure ⟨Nat.zero_le _, by simp [bsl], fun v hv => by obtain ⟨b, _, rfl⟩ := List.mem_map.1 hv; exact ⟨_, rfl⟩⟩ enn)) ?_; rintro ⟨i, us⟩
  try dsimp only
  refine Hd.pure (fun hp0 => ?_)
  try dsimp only at hp0
  refine sr fun _ hK53 => ?_
  refine yv (y_lss rfl rfl) ?_; refine fk [(5, _), (6, _), (275, _), (276, _), (277, _)] hK53 ?_; refine Hd.seq fun _ hK54 => ?_
  refine Hd.cond rfl (fun hc12 => ?_) (fun hc12 => ?_)
  ·try simp only [hyA, hyB, hyC, ne_eq] at hc12
   have hi : i < o.d.length := by omega
   have hiu : i < us.length := by omega
   obtain ⟨x, hx⟩ := hp0.2.2 us[i] (List.getElem_mem hiu)
   have hg : us[i * 1]? = some (.int .u8 x) := by rw [Nat.mul_one, List.getElem?_eq_getElem hiu, hx]
   refine Hd.skip <| Hd.toK hK54 ?_; refine Hd.seq fun _ hK55 => ?_
   refine Hd.block <| sr fun _ hK56 => ?_
   refine yv y_mv <| yv y_as <| fk [(5, _), (6, _), (30, _), (275, _), (276, _)] hK56 ?_; refine Hd.region <| yv y_mv <| yv y_mv <| yv y_mv <| yv y_mv <| yv (y_idxR Tryz.underlying31 sz5 rfl rfl (by omega) (by exact RdS.own pkk)) ?_; refine yv (y_loadR1 ag5 rfl (by exact RdS.own pkk) (by exact hg)) ?_; refine yv (y_add rfl rfl) ?_; refine yv (y_idxR Tryz.underlying31 sz5 rfl rfl (by omega) (by exact RdS.own pkk)) ?_; refine Hd.storeO1 sz5 rfl rfl rfl pkk (by omega) ?_
   try simp only [List.set_cons_zero, List.set_cons_succ]
   refine Hd.nil <| slots [(5, _), (6, _), (275, _), (276, _)] sbq ?_; refine Hd.inB <| Hd.toK hK55 ?_; refine Hd.region <| yv (y_addn rfl rfl (by simp only [InK]; omega)) ?_; refine yv y_mv <| Hd.nil <| slots [(5, _), (6, _), (275, _), (276, _)] sbq ?_; refine thenN ?_
   have hnew : ∀ v ∈ us.set (i * 1) (.int .u8 (IntKind.u8.wrap (x + 1))), ∃ x, v = .int .u8 x := fun v hv => (List.mem_or_eq_of_mem_set hv).elim (fun h => hp0.2.2 v h) (fun h => ⟨_, h⟩)
   exact Hd.again (i + 1, us.set (i * 1) (.int .u8 (IntKind.u8.wrap (x + 1)))) (by omega) sbq (Ent.sep (.pure ⟨hi, by rw [List.length_set]; exact hp0.2.1, hnew⟩ enn))
  ·try simp only [hyA, hyB, hyC, ne_eq] at hc12
   refine Hd.exit <| Hd.thenExit <| Hd.thenExit <| Hd.inBexit <| Hd.toK hK51 ?_; refine sr fun _ hK57 => ?_
   refine yv y_mv <| yv y_as <| fk [(4, _)] hK57 ?_; refine Hd.ret ?_; exact Hd.ret1 rfl () (by rfl) sq
end Wo
end Go.Proofs.YtbfddabjbkohdaaGreat
namespace Go.Proofs.YtbfddabjbkohdaaGreat
set_option maxHeartbeats 2000000
open Go.RX.Hd (yv y2 n1 fk sk sr tH callE heldK onlyH endH thenN slots)
set_option linter.unusedSimpArgs false
set_option linter.unusedVariables false
set_option linter.unnecessarySimpa false
open Go.RX Fx
namespace Kq
open Wo
set_option maxRecDepth 8000
theorem most_v {most : Int} (h : InK .u8 most) : IntKind.i64.wrap (1 + most.tmod 20) = 1 + most.tmod 20 := by
 simp only [InK] at h
 have h1 := Int.tmod_nonneg 20 (show 0 ≤ most by omega)
 have h2 := Int.tmod_lt_of_pos most (b := 20) (by decide)
 rw [wrap_i64]; omega
theorem twins_ct (L : List SP) (a1 : Option Addr) (c1 : Nat) (fs : List Ov) (hF : RdS L 5 a1 fs.length (fs.flatMap encO)) (hFo : ∀ o ∈ fs, OvOk L o) (hfl : fs.length ≤ 60) (hfd : ∀ o ∈ fs, o.d.length ≤ 300) (a2 : Option Addr) (c2 : Nat) (xs : List NoA) (hX : RdS L 4 a2 xs.length (xs.flatMap encNo)) (hxl : xs.length ≤ 40) : Ct Tryz.prog 28 #[.slice a1 fs.length c1, .slice a2 xs.length c2] (L) (fun q_ : Nat × Nat × Nat × Nat × Nat × Nat × Nat => .tuple #[.pointer (some ⟨q_.1, 0, none⟩), .pointer (some ⟨q_.2.2.1, 0, none⟩)]) (fun q_ : Nat × Nat × Nat × Nat × Nat × Nat × Nat => pu (q_.2.2.2.2.2.1 ≤ 40 ∧ q_.2.2.2.2.2.2 ≤ 40 ∧ WOk (runA newA fs)) :: KqH q_.2.2.1 q_.2.2.2.2.1 q_.2.2.2.1 :: mpP q_.2.2.2.1 .i64 (kmap (chsK k0 (runA newA fs) xs).2) q_.2.2.2.2.2.2 :: KqB q_.1 q_.2.2.2.2.1 q_.2.1 (chsK k0 (runA newA fs) xs).2 q_.2.2.2.2.2.1 (runA newA fs) L) := by
 refine Ct.o2 Tryz.func28 ?_; intro E
 show Hd E 55 _ _ _ _
 refine sr fun _ hK1 => ?_
 refine yv y_as <| yv y_as <| fk [(0, _), (1, _)] hK1 ?_; refine sr fun _ hK2 => ?_
 refine callE rfl fk16 (fresh_ct _) sq ?_; rintro ⟨pb, wb, rb⟩; dsimp only; refine yv y_as <| fk [(0, _), (1, _), (6, _)] hK2 ?_; refine Hd.seq fun _ hK3 => ?_
 refine sr fun _ hK4 => ?_
 refine yv y_mv <| yv (y_len Tryz.underlying22 rfl) ?_; refine yv y_mv <| fk [(0, _), (1, _), (6, _), (14, _), (15, _)] hK4 ?_; refine Hd.block <| Hd.loopK (ι := Nat) [(0, _), (1, _), (6, _), (14, _)] (fun i => [(15, .int .i64 (i : Int))]) (fun i => pu (i ≤ fs.length ∧ Lo (100 * i) (runA newA (fs.take i))) :: BoP pb wb rb :: WorldP wb (runA newA (fs.take i)) :: Rf.RwP rb (runA newA (fs.take i)) :: L) (fun i => fs.length - i) 0 sbq sbq (Ent.sep (.pure ⟨Nat.zero_le _, newA_lo⟩ enn)) ?_; intro i
 try dsimp only
 refine Hd.pure (fun hp0 => ?_)
 try dsimp only at hp0
 refine sr fun _ hK5 => ?_
 refine yv (y_lss rfl rfl) ?_; refine fk [(0, _), (1, _), (6, _), (14, _), (15, _), (16, _)] hK5 ?_; refine Hd.seq fun _ hK6 => ?_
 refine Hd.cond rfl (fun hc0 => ?_) (fun hc0 => ?_)
 ·try simp only [hyA, hyB, hyC, ne_eq] at hc0
  have hi : i < fs.length := by omega
  obtain ⟨o, ho⟩ : ∃ o, fs[i]? = some o := ⟨_, List.getElem?_eq_getElem hi⟩
  have hoo := hFo o (List.mem_of_getElem? ho)
  have hod := hfd o (List.mem_of_getElem? ho)
  have hrs : runA newA (fs.take (i + 1)) = doA (runA newA (fs.take i)) o := by rw [List.take_add_one, ho]; exact runA_snoc _ _ _
  refine Hd.wokW (.there .here) (fun hw => ?_)
  have hst := (do_stp hw o (by have := hoo.t; simp only [InK] at this; omega) (100 * i) (by omega) hp0.2).1
  rw [← hrs] at hst; refine Hd.skip <| Hd.toK hK6 ?_; refine Hd.seq fun _ hK7 => ?_
  refine Hd.block <| sr fun _ hK8 => ?_
  refine yv y_mv <| yv y_as <| fk [(0, _), (1, _), (6, _), (7, _), (14, _), (15, _)] hK8 ?_; refine Hd.region <| yv y_mv <| yv y_mv <| yv y_mv <| yv (y_idxR Tryz.underlying22 sz33 rfl rfl hi (RdS.mono hF sq)) ?_; refine yv (y_loadRn (vs := encO o) ag33 rfl (RdS.mono hF sq) (flat_cells encO 5 (fun _ => rfl) ho) sz33 (by simp)) ?_; refine callE rfl fk17 (do_ct _ pb wb rb _ (100 * i) (by omega) hp0.2 o hoo.t hod ?hD hoo.c) sq ?_
  case hD => exact RdS.mono hoo.rd sq
  intro _; rw [← hrs]; refine Hd.nil <| slots [(0, _), (1, _), (6, _), (14, _), (15, _)] sbq ?_; refine Hd.inB <| Hd.toK hK7 ?_; refine Hd.region <| yv (y_addn rfl rfl (by simp only [InK]; omega)) ?_; refine yv y_mv <| Hd.nil <| slots [(0, _), (1, _), (6, _), (14, _), (15, _)] sbq ?_; refine thenN ?_; exact Hd.again (i + 1) (by omega) sbq (Ent.sep (.pure ⟨hi, hst⟩ enn))
 ·try simp only [hyA, hyB, hyC, ne_eq] at hc0
  obtain rfl : i = fs.length := by omega
  rw [List.take_of_length_le (Nat.le_refl _)]
  obtain ⟨w, hrw⟩ : ∃ w, runA newA fs = w := ⟨_, rfl⟩
  rw [hrw]; refine Hd.wokW (.there .here) (fun hw => ?_); refine Hd.exit <| Hd.thenExit <| Hd.thenExit <| Hd.inBexit <| Hd.toK hK3 ?_; refine sr fun _ hK9 => ?_
  refine yv y_mv <| yv y_np <| yv (y_f 0 38 Tryz.underlying41 sz38) ?_; refine yv (y_l1 ag38 rfl) ?_; refine callE rfl fk32 (knew_ct _ wb) sq ?_; rintro ⟨qb, mb⟩; dsimp only; refine yv y_mv <| yv (y_to (v' := .pointer (some ⟨qb, 0, none⟩)) y_ex (by rfl)) ?_; refine yv (y_to (v' := .int .i64 0) y_ex (by rfl)) ?_; refine yv y_as <| yv y_as <| fk [(1, _), (6, _), (8, _), (9, _)] hK9 ?_; refine sr fun _ hK10 => ?_
  refine yv y_mv <| yv y_np <| yv (y_f 0 38 Tryz.underlying41 sz38) ?_; refine yv (y_l1 ag38 rfl) ?_; refine callE rfl fk32 (knew_ct _ wb) sq ?_; rintro ⟨qb2, mb2⟩; dsimp only; refine yv y_mv <| yv (y_to (v' := .pointer (some ⟨qb2, 0, none⟩)) y_ex (by rfl)) ?_; refine yv (y_to (v' := .int .i64 0) y_ex (by rfl)) ?_; refine yv y_as <| yv y_as <| fk [(1, _), (8, _), (9, _), (10, _), (11, _)] hK10 ?_; refine Hd.seq fun _ hK11 => ?_
  refine sr fun _ hK12 => ?_
  refine yv y_mv <| yv (y_neq rfl rfl) ?_; refine yv y_mv ?_; apply Hd.org 3 43 46 [(1, _), (8, _), (10, _)] rfl sbq
  ·intro _
   simp only [List.take]; refine n1 <| n1 <| yv (y_pickT rfl rfl) ?_; refine Hd.nil ?_; exact Hd.mq
  ·intro _
   simp only [List.take]; refine y2 y_mv <| y2 (y_neq rfl rfl) ?_; refine yv (y_pickF rfl rfl) ?_; refine Hd.nil ?_; exact Hd.mq
  simp only [List.drop]; refine fk [(1, _), (8, _), (10, _), (46, _)] hK12 ?_; refine Hd.cond rfl (fun hc1 => ?_) (fun hc1 => ?_)
  ·try simp only [hyA, hyB, hyC, ne_eq] at hc1
   exfalso; simp at hc1
  ·try simp only [hyA, hyB, hyC, ne_eq] at hc1
   refine Hd.skip <| Hd.toK hK11 ?_; refine sr fun _ hK13 => ?_
   refine yv y_mv <| yv y_mv <| callE rfl fk33 (kchs_ct _ qb wb mb k0 0 w a2 c2 xs ?hD (by omega)) sq ?_
   case hD => exact RdS.mono hX sq
   rintro ⟨ra, rc, m⟩; dsimp only; refine Hd.pure fun hm => ?_
   refine fk [(1, _), (8, _), (10, _)] hK13 ?_; refine sr fun _ hK14 => ?_
   refine yv y_mv <| yv y_mv <| callE rfl fk33 (kchs_ct _ qb2 wb mb2 k0 0 w a2 c2 xs ?hD (by omega)) sq ?_
   case hD => exact RdS.mono hX sq
   rintro ⟨ra2, rc2, m2⟩; dsimp only; refine Hd.pure fun hm2 => ?_
   refine fk [(8, _), (10, _)] hK14 ?_; refine sr fun _ hK15 => ?_
   refine yv y_mv <| yv y_mv <| yv y_as <| yv y_as <| fk [(4, _), (5, _)] hK15 ?_; refine Hd.ret ?_; rw [← hrw] at hw ⊢; exact Hd.ret2 rfl (qb, mb, qb2, mb2, wb, m, m2) rfl rfl rfl (Ent.sep (.pure ⟨(show m ≤ 40 by omega), (show m2 ≤ 40 by omega), hw⟩ enn))
def inB (B : List NoA) (y : NoA) : Bool := decide (keyN y ∈ B.map keyN)
def lfB (B : List NoA) (y : NoA) : Bool := !(inB B y) || decide (bits .and .i64 y.2.2.1 32 = 0)
theorem inB_succ {B : List NoA} {k : Nat} {z : NoA} (h : B[k]? = some z) (y : NoA) : inB (B.take (k + 1)) y = (inB (B.take k) y || (decide (z.1 = y.1) && decide (z.2.1 = y.2.1))) := by
 unfold inB; rw [List.take_add_one, h, Option.toList_some, List.map_append, Bool.eq_iff_iff]; simp only [decide_eq_true_eq, List.mem_append, List.map_cons, List.map_nil, List.mem_singleton, Bool.or_eq_true, Bool.and_eq_true]; unfold keyN; rw [Prod.ext_iff]
 constructor
 ·rintro (h | ⟨h1, h2⟩)
  ·exact .inl h
  ·exact .inr ⟨h1.symm, h2.symm⟩
 ·rintro (h | ⟨h1, h2⟩)
  ·exact .inl h
  ·exact .inr ⟨h1.symm, h2.symm⟩
theorem filter_succ {α : Type} (p : α → Bool) {l : List α} {i : Nat} {y : α} (h : l[i]? = some y) : (l.take (i + 1)).filter p = (l.take i).filter p ++ (if p y = true then [y] else []) := by
 rw [List.take_add_one, h, Option.toList_some, List.filter_append, List.filter_cons, List.filter_nil]
theorem filter_le {α : Type} (p : α → Bool) (l : List α) (i : Nat) : ((l.take i).filter p).length ≤ i := by
 have := List.length_filter_le p (l.take i)
 rw [List.length_take] at this; omega
theorem met_len {f : Ky → Option KnA} {w : WA} {B : List NoA} (hs : ∀ y ∈ B, y ∈ dueK f w) (hn : (B.map keyN).Nodup) (hw : WOk w) (hok : OkK f) : (((allK f w).map (noK f)).filter (inB B)).length = B.length := by
 have hp : (((allK f w).map (noK f)).filter (inB B)).map keyN = (allK f w).filter fun a => decide (a ∈ B.map keyN) := by
  rw [List.filter_map, List.map_map]
  have e1 : (keyN ∘ noK f) = id := by funext a; rfl
  have e2 : (inB B ∘ noK f) = fun a => decide (a ∈ B.map keyN) := by funext a; rfl
  rw [e1, e2, List.map_id]
 have hperm : ((allK f w).filter fun a => decide (a ∈ B.map keyN)).Perm (B.map keyN) := (List.perm_ext_iff_of_nodup ((allK_nd f w).filter _) hn).2 fun a => by
  rw [List.mem_filter, decide_eq_true_eq]; refine ⟨fun h => h.2, fun h => ⟨?_, h⟩⟩
  obtain ⟨y, hy, rfl⟩ := List.mem_map.1 h
  exact (mem_allK hw hok).2 (dueK_mem (hs y hy)).1
 have h1 := congrArg List.length hp
 rw [List.length_map, hperm.length_eq, List.length_map] at h1; exact h1
theorem left_eq {f : Ky → Option KnA} {w : WA} (hw : WOk w) (hg : GdK f w) {B : List NoA} (hs : ∀ y ∈ B, y ∈ dueK f w) (hn : (B.map keyN).Nodup) : (allK (offK w f B) w).map (noK (offK w f B)) = ((allK f w).map (noK f)).filter (lfB B) := by
 obtain ⟨g', _, hall, hno, _⟩ := offK_all hg hs hn
 have e1 : (allK (offK w f B) w).map (noK (offK w f B)) = (allK (offK w f B) w).map (noK f) := List.map_congr_left fun a ha => hno a (isK_some ((mem_allK hw g'.ok).1 ha))
 rw [e1, hall, List.filter_map]; refine congrArg (List.map (noK f)) (List.filter_congr fun a _ => ?_)
 show _ = (!(decide (a ∈ B.map keyN)) || decide (bits .and .i64 ((f a).getD zKn).flags 32 = 0))
 unfold oneF
 by_cases h1 : a ∈ B.map keyN
 ·rw [decide_eq_true h1]
  by_cases h2 : bits .and .i64 ((f a).getD zKn).flags 32 = 0
  ·simp [h2]
  ·simp [h2]
 ·rw [decide_eq_false h1]; rfl
theorem due_on {f : Ky → Option KnA} {w : WA} {y : NoA} (hy : y ∈ dueK f w) : bits .and .i64 ((f (keyN y)).getD zKn).flags 8 = 0 := by
 have h := (dueK_mem hy).2.1
 by_cases h8 : bits .and .i64 ((f (keyN y)).getD zKn).flags 8 = 0
 ·exact h8
 ·unfold toldK at h
  rw [if_pos h8] at h; cases h
theorem leaves_ct (L : List SP) (a1 : Option Addr) (c1 : Nat) (fs : List Ov) (hF : RdS L 5 a1 fs.length (fs.flatMap encO)) (hFo : ∀ o ∈ fs, OvOk L o) (a2 : Option Addr) (c2 : Nat) (xs : List NoA) (hX : RdS L 4 a2 xs.length (xs.flatMap encNo)) (hXo : ∀ p ∈ xs, InK .i64 p.2.2.1) (most : Int) (hmo : InK .u8 most) : Ct Tryz.prog 10 #[.slice a1 fs.length c1, .slice a2 xs.length c2, .int .u8 most] (L) (fun _ : Unit => .bool true) (fun _ : Unit => L) := by
 refine Ct.o3 Tryz.func10 ?_; intro E
 show Hd E 152 _ _ _ _
 refine sr fun _ hK1 => ?_
 refine yv y_as <| fk [(0, _), (1, _), (2, _)] hK1 ?_; refine sr fun _ hK2 => ?_
 refine callE rfl fk27 (alive16_ct L) sq ?_; intro _; refine yv y_as <| fk [(0, _), (1, _), (2, _), (7, _)] hK2 ?_; refine Hd.seq fun _ hK3 => ?_
 refine sr fun _ hK4 => ?_
 refine yv y_mv <| callE rfl fk14 (great11_ct _ a1 c1 fs hF) sq ?_; intro _; refine yv (y_gtr rfl rfl) ?_; refine yv y_mv ?_; apply Hd.org 4 22 26 [(0, _), (1, _), (2, _), (7, _)] rfl sbq
 ·intro _
  simp only [List.take]; refine n1 <| n1 <| n1 <| yv (y_pickT rfl rfl) ?_; refine Hd.nil ?_; exact Hd.mq
 ·intro _
  simp only [List.take]; refine y2 y_mv <| y2 (y_len Tryz.underlying22 rfl) ?_; refine y2 (y_gtr rfl rfl) ?_; refine yv (y_pickF rfl rfl) ?_; refine Hd.nil ?_; exact Hd.mq
 simp only [List.drop]; refine yv y_mv ?_; apply Hd.org 4 27 31 [(0, _), (1, _), (2, _), (7, _)] rfl sbq
 ·intro _
  simp only [List.take]; refine n1 <| n1 <| n1 <| yv (y_pickT rfl rfl) ?_; refine Hd.nil ?_; exact Hd.mq
 ·intro _
  simp only [List.take]; refine y2 y_mv <| y2 (y_len Tryz.underlying67 rfl) ?_; refine y2 (y_gtr rfl rfl) ?_; refine yv (y_pickF rfl rfl) ?_; refine Hd.nil ?_; exact Hd.mq
 simp only [List.drop]; refine yv y_mv ?_; apply Hd.org 3 32 35 [(0, _), (1, _), (2, _), (7, _)] rfl sbq
 ·intro _
  simp only [List.take]; refine n1 <| n1 <| yv (y_pickT rfl rfl) ?_; refine Hd.nil ?_; exact Hd.mq
 ·intro _
  simp only [List.take]; refine y2 y_mv <| y2 (y_not rfl) ?_; refine yv (y_pickF rfl rfl) ?_; refine Hd.nil ?_; exact Hd.mq
 simp only [List.drop]; refine fk [(0, _), (1, _), (2, _), (7, _), (35, _)] hK4 ?_; refine Hd.cond rfl (fun hc0 => ?_) (fun hc0 => ?_)
 ·try simp only [hyA, hyB, hyC, ne_eq] at hc0
  refine sr fun _ hK5 => ?_
  refine yv y_mv <| yv y_as <| fk [(6, _)] hK5 ?_; refine Hd.ret <| Hd.thenRet ?_; exact Hd.ret1 rfl () rfl sq
 ·try simp only [hyA, hyB, hyC, ne_eq] at hc0
  have hb1 : ¬ 0 < gO fs ∧ fs.length ≤ 60 ∧ xs.length ≤ 40 := by simp at hc0; omega
  have hgo := gO_ok hb1.1
  refine Hd.skip <| Hd.toK hK3 ?_; refine sr fun _ hK6 => ?_
  refine yv y_mv <| yv y_mv <| callE rfl fk28 (twins_ct _ a1 c1 fs hF hFo hb1.2.1 hgo.2 a2 c2 xs hX hb1.2.2) sq ?_; rintro ⟨qb, mb, qb2, mb2, wb, m, m2⟩; dsimp only; refine Hd.pure fun hpp => ?_
  obtain ⟨w, hrw⟩ : ∃ w, runA newA fs = w := ⟨_, rfl⟩
  rw [hrw] at hpp ⊢
  obtain ⟨f, hf⟩ : ∃ f, (chsK k0 w xs).2 = f := ⟨_, rfl⟩
  have hg : GdK f w := by rw [← hf]; exact chs_gd (k0_gd w) xs hXo
  rw [hf]
  have hw := hpp.2.2
  have hdl := dueK_len f w
  have hal := allK_len f w
  obtain ⟨mn, hmn, hmn1, hmn2⟩ : ∃ mn : Nat, 1 + Int.tmod most 20 = (mn : Int) ∧ 1 ≤ mn ∧ mn ≤ 20 := by
   simp only [InK] at hmo
   have h1 := Int.tmod_nonneg 20 (show 0 ≤ most by omega)
   have h2 := Int.tmod_lt_of_pos most (b := 20) (by decide)
   exact ⟨(1 + Int.tmod most 20).toNat, by omega, by omega, by omega⟩
  refine yv y_mv <| yv (y_to (v' := .pointer (some ⟨qb, 0, none⟩)) y_ex (by rfl)) ?_; refine yv (y_to (v' := .pointer (some ⟨qb2, 0, none⟩)) y_ex (by rfl)) ?_; refine yv y_as <| yv y_as <| fk [(2, _), (7, _), (8, _), (9, _)] hK6 ?_; refine Hd.seq fun _ hK7 => ?_
  refine sr fun _ hK8 => ?_
  refine yv y_mv <| yv (y_eql_pointer Tryz.underlying68 rfl rfl) ?_; refine yv y_mv ?_; apply Hd.org 3 45 48 [(2, _), (7, _), (8, _), (9, _)] rfl sbq
  ·intro _
   simp only [List.take]; refine n1 <| n1 <| yv (y_pickT rfl rfl) ?_; refine Hd.nil ?_; exact Hd.mq
  ·intro _
   simp only [List.take]; refine y2 y_mv <| y2 (y_eql_pointer Tryz.underlying68 rfl rfl) ?_; refine yv (y_pickF rfl rfl) ?_; refine Hd.nil ?_; exact Hd.mq
  simp only [List.drop]; refine fk [(2, _), (7, _), (8, _), (9, _), (48, _)] hK8 ?_; refine Hd.cond rfl (fun hc1 => ?_) (fun hc1 => ?_)
  ·try simp only [hyA, hyB, hyC, ne_eq] at hc1
   exfalso; simp at hc1
  ·try simp only [hyA, hyB, hyC, ne_eq] at hc1
   refine Hd.skip <| Hd.toK hK7 ?_; refine sr fun _ hK9 => ?_
   refine yv y_mv <| callE rfl fk34 (knotes_ct _ qb wb mb f m (by omega) w) sq ?_; rintro ⟨na, nc, ks⟩; dsimp only; refine Hd.pure fun hks => ?_
   obtain rfl := hks.eq hw hg.ok
   obtain ⟨W, hW⟩ : ∃ W, (allK f w).map (noK f) = W := ⟨_, rfl⟩
   have hWl : (allK f w).length = W.length := by rw [← hW, List.length_map]
   rw [hW, hWl]; rw [hWl] at hal; refine yv y_as <| fk [(2, _), (7, _), (8, _), (9, _), (10, _)] hK9 ?_; refine sr fun _ hK10 => ?_
   refine yv y_mv <| yv y_mv <| yv (y_rem rfl rfl (by omega)) ?_; refine yv (y_convn rfl Tryz.underlying5 Tryz.underlying3 (by simp only [InK]; omega)) ?_; refine yv (y_to (v' := .int .i64 (mn : Int)) (y_add rfl rfl) (by (rw [← hmn]; exact congrArg (Value.int .i64) (most_v hmo)))) ?_; refine callE rfl fk30 (kpoll_ct _ qb wb mb f m (by omega) hg.ok w (mn : Int) (by omega) none 0 [] ?hD (by decide)) sq ?_
   case hD => exact RdS.none _ _ _
   rintro ⟨pa, pc, m3⟩; dsimp only; refine Hd.pure fun hm3 => ?_
   obtain ⟨B, hB⟩ : ∃ B, polK f w (mn : Int) [] = B := ⟨_, rfl⟩
   have hBt : B = (dueK f w).take mn := by rw [← hB, polK_nil, Int.toNat_natCast]
   have hBs : ∀ y ∈ B, y ∈ dueK f w := fun y hy => by rw [hBt] at hy; exact List.mem_of_mem_take hy
   have hBn : (B.map keyN).Nodup := by rw [hBt, List.map_take]; exact (dueK_nd f w).sublist (List.take_sublist _ _)
   have hBl : B.length ≤ 20 := by rw [hBt, List.length_take]; omega
   have hml := met_len hBs hBn hw hg.ok
   have hle := left_eq hw hg hBs hBn
   rw [hW] at hml hle; rw [hB] at hm3 ⊢; refine yv y_mv <| yv (y_to (v' := .slice pa B.length pc) y_ex (by rfl)) ?_; refine yv (y_to (v' := .int .i64 0) y_ex (by rfl)) ?_; refine yv y_as <| yv y_as <| fk [(7, _), (8, _), (9, _), (10, _), (11, _), (12, _)] hK10 ?_; refine Hd.seq fun _ hK11 => ?_
   refine sr fun _ hK12 => ?_
   refine yv y_mv <| yv (y_neq rfl rfl) ?_; refine yv y_mv ?_; apply Hd.org 6 62 68 [(7, _), (8, _), (10, _), (11, _)] rfl sbq
   ·intro _
    simp only [List.take]; refine n1 <| n1 <| n1 <| n1 <| n1 <| yv (y_pickT rfl rfl) ?_; refine Hd.nil ?_; exact Hd.mq
   ·intro hg9_62
    try simp only [hyA, hyB, hyC, ne_eq] at hg9_62
    simp only [List.take]; refine y2 y_mv <| Hd.unguard rfl rfl ?_; refine callE rfl fk34 (knotes_ct _ qb2 wb mb2 f m2 (by omega) w) sq ?_; rintro ⟨na2, nc2, ks2⟩; dsimp only; refine Hd.pure fun hks2 => ?_
    obtain rfl := hks2.eq hw hg.ok
    rw [hW, hWl]; refine y2 y_mv <| Hd.unguard rfl rfl ?_; refine callE rfl fk31 (same16_ct _ na2 nc2 W ?hD (by omega) na nc W ?hE (by omega)) sq ?_
    case hD => exact RdS.own (ad := na2) (us := W.flatMap encNo) pkk
    case hE => exact RdS.own (ad := na) (us := W.flatMap encNo) pkk
    intro _; refine y2 (y_not rfl) ?_; refine yv (y_pickF rfl rfl) ?_; refine Hd.nil ?_; exact Hd.mq
   simp only [List.drop]; refine fk [(7, _), (8, _), (10, _), (11, _), (68, _)] hK12 ?_; refine Hd.cond rfl (fun hc2 => ?_) (fun hc2 => ?_)
   ·try simp only [hyA, hyB, hyC, ne_eq] at hc2
    exfalso; simp at hc2
   ·try simp only [hyA, hyB, hyC, ne_eq] at hc2
    refine Hd.skip <| Hd.toK hK11 ?_; refine sr fun _ hK13 => ?_
    refine yv y_as <| fk [(7, _), (8, _), (10, _), (11, _), (13, _)] hK13 ?_; refine sr fun _ hK14 => ?_
    refine yv y_as <| fk [(7, _), (8, _), (10, _), (11, _), (13, _), (14, _)] hK14 ?_; refine Hd.seq fun _ hK15 => ?_
    refine sr fun _ hK16 => ?_
    refine yv y_mv <| yv (y_len Tryz.underlying67 rfl) ?_; refine yv y_mv <| fk [(7, _), (8, _), (10, _), (11, _), (13, _), (14, _), (70, _), (71, _)] hK16 ?_; refine Hd.block <| Hd.loopK (ι := Nat × Option Addr × Nat) [(7, _), (8, _), (10, _), (11, _), (70, _)] (fun q_ => [(13, .int .i64 (((W.take q_.1).filter (inB B)).length : Nat)), (14, .slice q_.2.1 ((W.take q_.1).filter (lfB B)).length q_.2.2), (71, .int .i64 (q_.1 : Int))]) (fun q_ => pu (q_.1 ≤ W.length) :: own 82 4 q_.2.1 ((W.take q_.1).filter (lfB B)).length q_.2.2 (((W.take q_.1).filter (lfB B)).flatMap encNo) :: own 82 4 na W.length nc (W.flatMap encNo) :: own 82 4 pa B.length pc (B.flatMap encNo) :: KqB qb wb mb (offK w f B) m3 w L) (fun q_ => W.length - q_.1) (0, none, 0) sbq sbq (fun q t => Ent.sep (.pure (Nat.zero_le _) (.ownNil enn)) q t) ?_; rintro ⟨i, la, lc⟩
    try dsimp only
    refine Hd.pure (fun hp0 => ?_)
    try dsimp only at hp0
    refine sr fun _ hK17 => ?_
    refine yv (y_lss rfl rfl) ?_; refine fk [(7, _), (8, _), (10, _), (11, _), (13, _), (14, _), (70, _), (71, _), (72, _)] hK17 ?_; refine Hd.seq fun _ hK18 => ?_
    refine Hd.cond rfl (fun hc3 => ?_) (fun hc3 => ?_)
    ·try simp only [hyA, hyB, hyC, ne_eq] at hc3
     have hi : i < W.length := by omega
     obtain ⟨y, hy⟩ : ∃ y, W[i]? = some y := ⟨_, List.getElem?_eq_getElem hi⟩
     have hfm := filter_succ (inB B) hy
     have hfl := filter_succ (lfB B) hy
     have hl1 := filter_le (inB B) W i
     have hl2 := filter_le (lfB B) W i
     refine Hd.skip <| Hd.toK hK18 ?_; refine Hd.seq fun _ hK19 => ?_
     refine Hd.block <| sr fun _ hK20 => ?_
     refine yv y_mv <| yv y_as <| fk [(7, _), (8, _), (10, _), (11, _), (13, _), (14, _), (15, _), (70, _), (71, _)] hK20 ?_; refine sr fun _ hK21 => ?_
     refine yv y_as <| fk [(7, _), (8, _), (10, _), (11, _), (13, _), (14, _), (15, _), (16, _), (70, _), (71, _)] hK21 ?_; refine Hd.seq fun _ hK22 => ?_
     refine sr fun _ hK23 => ?_
     refine yv y_mv <| yv (y_len Tryz.underlying67 rfl) ?_; refine yv y_mv <| fk [(7, _), (8, _), (10, _), (11, _), (13, _), (14, _), (15, _), (16, _), (70, _), (71, _), (75, _), (76, _)] hK23 ?_; refine Hd.block <| Hd.loopK (ι := Nat) [(7, _), (8, _), (10, _), (11, _), (13, _), (14, _), (15, _), (70, _), (71, _), (75, _)] (fun k => [(16, .bool (inB (B.take k) y)), (76, .int .i64 (k : Int))]) (fun k => pu (k ≤ B.length) :: own 82 4 la ((W.take i).filter (lfB B)).length lc (((W.take i).filter (lfB B)).flatMap encNo) :: own 82 4 na W.length nc (W.flatMap encNo) :: own 82 4 pa B.length pc (B.flatMap encNo) :: KqB qb wb mb (offK w f B) m3 w L) (fun k => B.length - k) 0 sbq sbq (Ent.sep (.pure (by omega) enn)) ?_; intro k
     try dsimp only
     refine Hd.pure (fun hp1 => ?_)
     try dsimp only at hp1
     refine sr fun _ hK24 => ?_
     refine yv (y_lss rfl rfl) ?_; refine fk [(7, _), (8, _), (10, _), (11, _), (13, _), (14, _), (15, _), (16, _), (70, _), (71, _), (75, _), (76, _), (77, _)] hK24 ?_; refine Hd.seq fun _ hK25 => ?_
     refine Hd.cond rfl (fun hc4 => ?_) (fun hc4 => ?_)
     ·try simp only [hyA, hyB, hyC, ne_eq] at hc4
      have hk : k < B.length := by omega
      obtain ⟨z, hz⟩ : ∃ z, B[k]? = some z := ⟨_, List.getElem?_eq_getElem hk⟩
      have hin := inB_succ hz y
      refine Hd.skip <| Hd.toK hK25 ?_; refine Hd.seq fun _ hK26 => ?_
      refine Hd.block <| sr fun _ hK27 => ?_
      refine yv y_mv <| yv y_as <| fk [(7, _), (8, _), (10, _), (11, _), (13, _), (14, _), (15, _), (16, _), (17, _), (70, _), (71, _), (75, _), (76, _)] hK27 ?_; refine Hd.quiet mixed kq ?_; refine Hq.yv y_mv ?_; refine Hq.yv y_mv ?_; apply Hq.org 25 80 105 [(7, _), (8, _), (10, _), (11, _), (13, _), (14, _), (15, _), (70, _), (71, _), (75, _), (76, _)] rfl ⟨rfl, rfl, rfl, rfl, rfl, rfl, rfl, rfl, rfl, rfl, rfl, trivial⟩
      ·intro hg20_80
       try simp only [hyA, hyB, hyC, ne_eq] at hg20_80
       simp only [List.take]; refine Hq.ng rfl rfl rfl ?_; refine Hq.ng rfl rfl rfl ?_; refine Hq.ng rfl rfl rfl ?_; refine Hq.ng rfl rfl rfl ?_; refine Hq.ng rfl rfl rfl ?_; refine Hq.ng rfl rfl rfl ?_; refine Hq.ng rfl rfl rfl ?_; refine Hq.ng rfl rfl rfl ?_; refine Hq.ng rfl rfl rfl ?_; refine Hq.ng rfl rfl rfl ?_; refine Hq.ng rfl rfl rfl ?_; refine Hq.ng rfl rfl rfl ?_; refine Hq.ng rfl rfl rfl ?_; refine Hq.ng rfl rfl rfl ?_; refine Hq.ng rfl rfl rfl ?_; refine Hq.ng rfl rfl rfl ?_; refine Hq.ng rfl rfl rfl ?_; refine Hq.ng rfl rfl rfl ?_; refine Hq.ng rfl rfl rfl ?_; refine Hq.ng rfl rfl rfl ?_; refine Hq.ng rfl rfl rfl ?_; refine Hq.ng rfl rfl rfl ?_; refine Hq.ng rfl rfl rfl ?_; refine Hq.ng rfl rfl rfl ?_; refine Hq.yv (y_pickT rfl rfl) ?_; exact Hq.mend sbq
      ·intro hg20_80
       try simp only [hyA, hyB, hyC, ne_eq] at hg20_80
       simp only [List.take]; refine Hq.yg rfl rfl y_mv ?_; refine Hq.yg rfl rfl y_mv ?_; refine Hq.yg rfl rfl (y_idxR Tryz.underlying67 sz82 rfl rfl (by omega) (by exact RdS.own pkk)) ?_; refine Hq.yg rfl rfl (y_fR 0 3 Tryz.underlying82 sz3) ?_; refine Hq.yg rfl rfl (y_loadR1 ag3 rfl (RdS.own (ad := pa) (us := B.flatMap encNo) pkk) (flat_cells encNo 4 (fun _ => rfl) hz 0 _ rfl)) ?_; refine Hq.yg rfl rfl y_mv ?_; refine Hq.yg rfl rfl y_mv ?_; refine Hq.yg rfl rfl (y_idxR Tryz.underlying67 sz82 rfl rfl (by omega) (by exact RdS.own pkk)) ?_; refine Hq.yg rfl rfl (y_fR 0 3 Tryz.underlying82 sz3) ?_; refine Hq.yg rfl rfl (y_loadR1 ag3 rfl (RdS.own (ad := na) (us := W.flatMap encNo) pkk) (flat_cells encNo 4 (fun _ => rfl) hy 0 _ rfl)) ?_; refine Hq.yg rfl rfl (y_eql rfl rfl) ?_; refine Hq.yg rfl rfl y_mv ?_; apply Hq.andg 12 92 104 [(7, _), (8, _), (10, _), (11, _), (13, _), (14, _), (15, _), (70, _), (71, _), (75, _), (76, _), (80, _)] rfl ⟨rfl, rfl, rfl, rfl, rfl, rfl, rfl, rfl, rfl, rfl, rfl, rfl, trivial⟩
       ·intro hg20_92
        try simp only [hyA, hyB, hyC, ne_eq] at hg20_92
        simp only [List.take]; refine Hq.yg rfl rfl y_mv ?_; refine Hq.yg rfl rfl y_mv ?_; refine Hq.yg rfl rfl (y_idxR Tryz.underlying67 sz82 rfl rfl (by omega) (by exact RdS.own pkk)) ?_; refine Hq.yg rfl rfl (y_fR 1 3 Tryz.underlying82 sz3) ?_; refine Hq.yg rfl rfl (y_loadR1 ag3 rfl (RdS.own (ad := pa) (us := B.flatMap encNo) pkk) (flat_cells encNo 4 (fun _ => rfl) hz 1 _ rfl)) ?_; refine Hq.yg rfl rfl y_mv ?_; refine Hq.yg rfl rfl y_mv ?_; refine Hq.yg rfl rfl (y_idxR Tryz.underlying67 sz82 rfl rfl (by omega) (by exact RdS.own pkk)) ?_; refine Hq.yg rfl rfl (y_fR 1 3 Tryz.underlying82 sz3) ?_; refine Hq.yg rfl rfl (y_loadR1 ag3 rfl (RdS.own (ad := na) (us := W.flatMap encNo) pkk) (flat_cells encNo 4 (fun _ => rfl) hy 1 _ rfl)) ?_; refine Hq.yg rfl rfl (y_eql rfl rfl) ?_; refine Hq.yg rfl rfl (y_pickT rfl rfl) ?_; exact Hq.mend sbq
       ·intro hg20_92
        try simp only [hyA, hyB, hyC, ne_eq] at hg20_92
        simp only [List.take]; refine Hq.ng rfl rfl rfl ?_; refine Hq.ng rfl rfl rfl ?_; refine Hq.ng rfl rfl rfl ?_; refine Hq.ng rfl rfl rfl ?_; refine Hq.ng rfl rfl rfl ?_; refine Hq.ng rfl rfl rfl ?_; refine Hq.ng rfl rfl rfl ?_; refine Hq.ng rfl rfl rfl ?_; refine Hq.ng rfl rfl rfl ?_; refine Hq.ng rfl rfl rfl ?_; refine Hq.ng rfl rfl rfl ?_; refine Hq.yg rfl rfl (y_pickF rfl rfl) ?_; exact Hq.mend sbq
       simp only [List.drop]; refine Hq.yv (y_pickF rfl rfl) ?_; exact Hq.mend sbq
      simp only [List.drop]; refine Hq.yv y_as ?_; refine Hq.nil ?_; refine slots [(7, _), (8, _), (10, _), (11, _), (13, _), (14, _), (15, _), (16, _), (70, _), (71, _), (75, _), (76, _)] sbq ?_; refine Hd.inB <| Hd.toK hK26 ?_; refine Hd.region <| yv (y_addn rfl rfl (by simp only [InK]; omega)) ?_; refine yv y_mv <| Hd.nil <| slots [(7, _), (8, _), (10, _), (11, _), (13, _), (14, _), (15, _), (16, _), (70, _), (71, _), (75, _), (76, _)] sbq ?_; refine thenN <| Hd.again (k + 1) (by show B.length - (k + 1) < B.length - k; omega) (by (try dsimp only); rw [hin]; repeat (first | exact trivial | refine ⟨rfl, ?_⟩)) (fun q t => ?_); exact Ent.sep (.pure (show k + 1 ≤ B.length by omega) enn) q t
     ·try simp only [hyA, hyB, hyC, ne_eq] at hc4
      obtain rfl : k = B.length := by omega
      rw [List.take_of_length_le (Nat.le_refl _)]
      obtain ⟨nB, hnB⟩ : ∃ nB, inB B y = nB := ⟨_, rfl⟩
      rw [hnB]
      have hyf : y.2.2.1 = ((f (keyN y)).getD zKn).flags := by
       have hm := List.mem_of_getElem? hy
       rw [← hW] at hm
       obtain ⟨a, _, rfl⟩ := List.mem_map.1 hm
       rfl
      have hon : nB = true → bits .and .i64 y.2.2.1 8 = 0 := fun h => by
       rw [h] at hnB
       obtain ⟨z, hz, e⟩ := List.mem_map.1 (of_decide_eq_true hnB)
       rw [hyf, ← e]; exact due_on (hBs z hz)
      refine Hd.exit <| Hd.thenExit <| Hd.thenExit <| Hd.inBexit <| Hd.toK hK22 ?_; refine Hd.cutK (ι := Unit) [(7, _), (8, _), (10, _), (11, _), (14, _), (15, _), (16, _), (70, _), (71, _)] (fun _ => [(13, .int .i64 (((W.take (i + 1)).filter (inB B)).length : Nat))]) (fun _ => own 82 4 la ((W.take i).filter (lfB B)).length lc (((W.take i).filter (lfB B)).flatMap encNo) :: own 82 4 na W.length nc (W.flatMap encNo) :: own 82 4 pa B.length pc (B.flatMap encNo) :: KqB qb wb mb (offK w f B) m3 w L) ?_ ?_ ⟨rfl, rfl, rfl, rfl, rfl, rfl, rfl, rfl, rfl, trivial⟩
      ·refine sr fun _ hK28 => ?_
       refine yv y_mv <| fk [(7, _), (8, _), (10, _), (11, _), (13, _), (14, _), (15, _), (16, _), (70, _), (71, _), (107, _)] hK28 ?_; refine Hd.cond rfl (fun hc5 => ?_) (fun hc5 => ?_)
       ·try simp only [hyA, hyB, hyC, ne_eq] at hc5
        refine Hd.region <| yv y_mv <| yv (y_addn rfl rfl (by simp only [InK]; omega)) ?_; refine yv y_as <| Hd.nil <| slots [(7, _), (8, _), (10, _), (11, _), (13, _), (14, _), (15, _), (16, _), (70, _), (71, _)] sbq ?_; refine thenN ?_; exact Hd.meet () ⟨congrArg (fun z => some (Value.int .i64 z)) (by rw [hfm, if_pos (by rw [hnB]; exact hc5), List.length_append]; rfl), by repeat (first | exact trivial | refine ⟨rfl, ?_⟩)⟩ sq
       ·try simp only [hyA, hyB, hyC, ne_eq] at hc5
        refine Hd.skip <| thenN ?_; exact Hd.meet () ⟨congrArg (fun z => some (Value.int .i64 z)) (by rw [hfm, if_neg (by rw [hnB, hc5]; decide), List.append_nil]), by repeat (first | exact trivial | refine ⟨rfl, ?_⟩)⟩ sq
      ·intro _
       refine Hd.seq fun _ hK29 => ?_
       refine sr fun _ hK30 => ?_
       refine yv y_mv <| yv y_mv ?_; apply Hd.andg 8 111 119 [(7, _), (8, _), (10, _), (11, _), (13, _), (14, _), (15, _), (16, _), (70, _), (71, _)] rfl sbq
       ·intro hg24_111
        try simp only [hyA, hyB, hyC, ne_eq] at hg24_111
        simp only [List.take]; refine y2 y_mv <| y2 y_mv <| y2 (y_idxR Tryz.underlying67 sz82 rfl rfl (by omega) (by exact RdS.own pkk)) ?_; refine y2 (y_fR 2 3 Tryz.underlying82 sz3) ?_; refine y2 (y_loadR1 ag3 rfl (RdS.own (ad := na) (us := W.flatMap encNo) pkk) (flat_cells encNo 4 (fun _ => rfl) hy 2 _ rfl)) ?_; refine y2 (y_and rfl rfl) ?_; refine y2 (y_neq rfl rfl) ?_; refine yv (y_pickT rfl rfl) ?_; refine Hd.nil ?_; exact Hd.mq
       ·intro _
        simp only [List.take]; refine n1 <| n1 <| n1 <| n1 <| n1 <| n1 <| n1 <| yv (y_pickF rfl rfl) ?_; refine Hd.nil ?_; exact Hd.mq
       simp only [List.drop]; refine fk [(7, _), (8, _), (10, _), (11, _), (13, _), (14, _), (15, _), (16, _), (70, _), (71, _), (119, _)] hK30 ?_; refine Hd.cond rfl (fun hc6 => ?_) (fun hc6 => ?_)
       ·try simp only [hyA, hyB, hyC, ne_eq] at hc6
        exfalso; exact hc6.2 (hon hc6.1)
       ·try simp only [hyA, hyB, hyC, ne_eq] at hc6
        refine Hd.skip <| Hd.toK hK29 ?_; refine sr fun _ hK31 => ?_
        refine yv y_mv <| yv (y_not rfl) ?_; refine yv y_mv ?_; apply Hd.org 8 122 130 [(7, _), (8, _), (10, _), (11, _), (13, _), (14, _), (15, _), (70, _), (71, _)] rfl sbq
        ·intro _
         simp only [List.take]; refine n1 <| n1 <| n1 <| n1 <| n1 <| n1 <| n1 <| yv (y_pickT rfl rfl) ?_; refine Hd.nil ?_; exact Hd.mq
        ·intro hg26_122
         try simp only [hyA, hyB, hyC, ne_eq] at hg26_122
         simp only [List.take]; refine y2 y_mv <| y2 y_mv <| y2 (y_idxR Tryz.underlying67 sz82 rfl rfl (by omega) (by exact RdS.own pkk)) ?_; refine y2 (y_fR 2 3 Tryz.underlying82 sz3) ?_; refine y2 (y_loadR1 ag3 rfl (RdS.own (ad := na) (us := W.flatMap encNo) pkk) (flat_cells encNo 4 (fun _ => rfl) hy 2 _ rfl)) ?_; refine y2 (y_and rfl rfl) ?_; refine y2 (y_eql rfl rfl) ?_; refine yv (y_pickF rfl rfl) ?_; refine Hd.nil ?_; exact Hd.mq
        simp only [List.drop]; refine fk [(7, _), (8, _), (10, _), (11, _), (13, _), (14, _), (15, _), (70, _), (71, _), (130, _)] hK31 ?_; refine Hd.cond rfl (fun hc7 => ?_) (fun hc7 => ?_)
        ·try simp only [hyA, hyB, hyC, ne_eq] at hc7
         have hlf : lfB B y = true := by unfold lfB; rw [hnB]; simpa using hc7
         rw [if_pos hlf] at hfl; refine Hd.region <| yv y_mv <| yv y_mv <| yv y_mv <| yv (y_idxR Tryz.underlying67 sz82 rfl rfl (by omega) (by exact RdS.own pkk)) ?_; refine yv (y_loadRn (vs := encNo y) ag82 rfl (RdS.own (ad := na) (us := W.flatMap encNo) pkk) (flat_cells encNo 4 (fun _ => rfl) hy) sz82 (by simp)) ?_; refine Hd.bslice (vs := [(0, _)]) rfl (by exact bs10_136 ..) (fun b136 => ?_); refine Hd.append Tryz.underlying67 ty82 rfl rfl rfl pkk (by exact RdS.rd (Rd.pt pkk (fun j v e => by simpa using e)) rfl) (by simp [Value.oneCell']; done) (by simp only [maxLen]; omega) (by omega) (fun ad137 cap137 => ?_); refine yv y_as <| Hd.nil <| slots [(7, _), (8, _), (10, _), (11, _), (13, _), (14, _), (70, _), (71, _)] sbq ?_; refine Hd.inB <| Hd.toK hK19 ?_; refine Hd.region <| yv (y_addn rfl rfl (by simp only [InK]; omega)) ?_; refine yv y_mv ?_
         refine Hd.nil <| slots [(7, _), (8, _), (10, _), (11, _), (13, _), (14, _), (70, _), (71, _)] sbq ?_; refine thenN <| Hd.again (i + 1, ad137, cap137) (by show W.length - (i + 1) < W.length - i; omega) (by (try dsimp only); rw [hfl, List.length_append]; repeat (first | exact trivial | refine ⟨rfl, ?_⟩)) (fun q t => ?_); rw [hfl]; exact Ent.sep (.pure (show i + 1 ≤ W.length by omega) (.eq pkk (own_eq3 (by rw [List.length_append]; rfl) rfl (by rw [List.flatMap_append]; rfl)) enn)) q t
        ·try simp only [hyA, hyB, hyC, ne_eq] at hc7
         have hlf : ¬ lfB B y = true := by unfold lfB; rw [hnB]; simpa using hc7
         rw [if_neg hlf, List.append_nil] at hfl; refine Hd.skip <| Hd.inB <| Hd.toK hK19 ?_; refine Hd.region <| yv (y_addn rfl rfl (by simp only [InK]; omega)) ?_; refine yv y_mv <| Hd.nil <| slots [(7, _), (8, _), (10, _), (11, _), (13, _), (14, _), (70, _), (71, _)] sbq ?_; refine thenN <| Hd.again (i + 1, la, lc) (by show W.length - (i + 1) < W.length - i; omega) (by (try dsimp only); rw [hfl]; repeat (first | exact trivial | refine ⟨rfl, ?_⟩)) (fun q t => ?_); rw [hfl]; exact Ent.sep (.pure (show i + 1 ≤ W.length by omega) enn) q t
    ·try simp only [hyA, hyB, hyC, ne_eq] at hc3
     obtain rfl : i = W.length := by omega
     rw [List.take_of_length_le (Nat.le_refl _)]
     have hgo2 := (offK_all hg hBs hBn).1
     obtain ⟨V, hV⟩ : ∃ V, W.filter (lfB B) = V := ⟨_, rfl⟩
     have hVl : V.length ≤ W.length := by rw [← hV]; exact List.length_filter_le _ _
     rw [hml, hV]; refine Hd.exit <| Hd.thenExit <| Hd.thenExit <| Hd.inBexit <| Hd.toK hK15 ?_; refine sr fun _ hK32 => ?_
     refine yv y_mv <| yv y_mv ?_; apply Hd.andg 5 140 145 [(8, _), (14, _)] rfl sbq
     ·intro _
      simp only [List.take]; refine y2 y_mv <| y2 y_mv <| y2 (y_len Tryz.underlying67 rfl) ?_; refine y2 (y_eqlT rfl rfl) ?_; refine yv (y_pickT rfl rfl) ?_; refine Hd.nil ?_; exact Hd.mq
     ·intro _
      simp only [List.take]; refine n1 <| n1 <| n1 <| n1 <| yv (y_pickF rfl rfl) ?_; refine Hd.nil ?_; exact Hd.mq
     simp only [List.drop]; refine yv y_mv ?_; apply Hd.andg 5 146 151 [] rfl sbq
     ·intro hg29_146
      try simp only [hyA, hyB, hyC, ne_eq] at hg29_146
      simp only [List.take]; refine y2 y_mv <| Hd.unguard rfl rfl ?_; refine callE rfl fk34 (knotes_ct _ qb wb mb (offK w f B) m3 (by omega) w) sq ?_; rintro ⟨xa, xc, ks3⟩; dsimp only; refine Hd.pure fun hks3 => ?_
      obtain rfl := hks3.eq hw hgo2.ok
      have hVk : (allK (offK w f B) w).length = V.length := by rw [← hV, ← hle, List.length_map]
      rw [hle, hV, hVk]; refine y2 y_mv <| Hd.unguard rfl rfl ?_; refine callE rfl fk31 (same16_ct _ xa xc V ?hD (by omega) la lc V ?hE (by omega)) sq ?_
      case hD => exact RdS.own (ad := xa) (us := V.flatMap encNo) pkk
      case hE => exact RdS.own (ad := la) (us := V.flatMap encNo) pkk
      intro _; refine yv (y_pickT rfl rfl) ?_; refine Hd.nil ?_; exact Hd.mq
     ·intro _
      simp only [List.take]; refine n1 <| n1 <| n1 <| n1 <| yv (y_pickF rfl rfl) ?_; refine Hd.nil ?_; exact Hd.mq
     simp only [List.drop]; refine yv y_as <| fk [(6, _)] hK32 ?_; refine Hd.ret ?_; exact Hd.ret1 rfl () (by rfl) sq
end Kq
end Go.Proofs.YtbfddabjbkohdaaGreat
namespace Go.Proofs.YtbfddabjbkohdaaGreat
set_option maxHeartbeats 2000000
open Go.RX.Hd (yv y2 n1 fk sk sr tH callE heldK onlyH endH thenN slots)
set_option linter.unusedSimpArgs false
set_option linter.unusedVariables false
set_option linter.unnecessarySimpa false
open Go.RX Go.ChangeShapes Go.WideShapes Go.ChangeAt Go.RowKit
abbrev shO : Sh := .struct (.fld (.int .i64) (.fld (.int .i64) (.fld (.int .i64) (.fld (.int .u64) (.fld (.slice (.int .u8)) .nil)))))
def cvO (y : shO.T) : Wo.Ov := ⟨y.1, y.2.1, y.2.2.1, y.2.2.2.1, y.2.2.2.2.1.ad, y.2.2.2.2.1.cap, y.2.2.2.2.1.l.map u8of⟩
theorem enc_cvO (y : shO.T) : Wo.encO (cvO y) = shO.enc y := by
 show [_, _, _, _, Value.slice _ (y.2.2.2.2.1.l.map u8of).length _] = _
 rw [List.length_map]; rfl
theorem ok_cvO {W : World} {y : shO.T} (h : shO.ok W y) : Wo.OvOk [Old W] (cvO y) :=
 ⟨rd_u8 h.2.2.2.2.1, by show (List.map u8of _).length ≤ _; rw [List.length_map]; exact h.2.2.2.2.1.2.1, h.1, h.2.1, h.2.2.1, h.2.2.2.1⟩
theorem rd_ops {W : World} {x : (Sh.slice shO).T} (h : (Sh.slice shO).ok W x) : RdS [Old W] 5 x.ad (x.l.map cvO).length ((x.l.map cvO).flatMap Wo.encO) := by
 have e : (x.l.map cvO).flatMap Wo.encO = x.l.flatMap shO.enc := by rw [List.flatMap_map]; congr 1; funext y; exact enc_cvO y
 rw [e, List.length_map]; exact h.1
theorem ops_ok {W : World} {x : (Sh.slice shO).T} (h : (Sh.slice shO).ok W x) : ∀ o ∈ x.l.map cvO, Wo.OvOk [Old W] o := fun o ho => by
 obtain ⟨y, hy, rfl⟩ := List.mem_map.1 ho
 exact ok_cvO (h.2.2.2.2 y hy)
abbrev shNl : Sh := .fld (.int .i64) (.fld (.int .i64) (.fld (.int .i64) (.fld (.int .i64) .nil)))
abbrev shN : Sh := .struct shNl
def cvN (y : shN.T) : Kq.NoA := (y.1, y.2.1, y.2.2.1, y.2.2.2.1)
theorem rd_ns {W : World} {x : (Sh.slice shN).T} (h : (Sh.slice shN).ok W x) : RdS [Old W] 4 x.ad (x.l.map cvN).length ((x.l.map cvN).flatMap Kq.encNo) := by
 have e : (x.l.map cvN).flatMap Kq.encNo = x.l.flatMap shN.enc := by rw [List.flatMap_map]; congr 1
 rw [e, List.length_map]; exact h.1
theorem ns_ok {W : World} {x : (Sh.slice shN).T} (h : (Sh.slice shN).ok W x) : ∀ p ∈ x.l.map cvN, InK .i64 p.2.2.1 := fun o ho => by
 obtain ⟨y, hy, rfl⟩ := List.mem_map.1 ho
 exact (h.2.2.2.2 y hy).2.2.1
end Go.Proofs.YtbfddabjbkohdaaGreat
