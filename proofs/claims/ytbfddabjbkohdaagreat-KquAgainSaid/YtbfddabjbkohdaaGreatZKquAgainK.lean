/-
  The world and the document's, side by side: what comes in; Fresh; more. The world and the document's, side by side: wires that are made; Do. Kqueue's laws: KquAgain, plain. An entry of a map that is changed in place (m[k]++): keys are structs of two integers. No program is named here. Kqueue's laws: KquAgain, the walk. An argument that is an array of three, opened. No program is named here. Calls of the world, as the rows give them. The changes of kqueue's laws, as the rows give them.
-/
import Derived.Test.YtbfddabjbkohdaaGreatZKquAgainJ
namespace Go.Proofs.YtbfddabjbkohdaaGreat
set_option maxHeartbeats 2000000
open Go.RX.Hd (yv y2 n1 fk sk sr tH callE heldK onlyH endH thenN slots)
set_option linter.unusedSimpArgs false
set_option linter.unusedVariables false
set_option linter.unnecessarySimpa false
open Go.RX Fx
namespace Wo
set_option maxRecDepth 8000
abbrev encO (o : Ov) : List Value := [.int .i64 o.k, .int .i64 o.a, .int .i64 o.n, .int .u64 o.t, .slice o.ad o.d.length o.c]
structure OvOk (L : List SP) (o : Ov) : Prop where
 rd : RdS L 1 o.ad o.d.length (bsl o.d)
 c : o.d.length ≤ o.c
 k : InK .i64 o.k
 a : InK .i64 o.a
 n : InK .i64 o.n
 t : InK .u64 o.t
def gO (xs : List Ov) : Int := if 200 < xs.length then 1 else if ∀ o ∈ xs, o.d.length ≤ 300 then 0 else 1
theorem gO_ok {xs : List Ov} (h : ¬ 0 < gO xs) : xs.length ≤ 200 ∧ ∀ o ∈ xs, o.d.length ≤ 300 := by
 unfold gO at h
 split at h
 ·exact absurd (by decide) h
 ·split at h
  ·rename_i h1 h2; exact ⟨by omega, h2⟩
  ·exact absurd (by decide) h
theorem great11_ct (L : List SP) (ad : Option Addr) (c : Nat) (xs : List Ov) (hR : RdS L 5 ad xs.length (xs.flatMap encO)) : Ct Tryz.prog 14 #[.slice ad xs.length c] (L) (fun _ : Unit => .int .i64 (gO xs)) (fun _ : Unit => L) := by
 refine Ct.o1 Tryz.func14 ?_; intro E
 show Hd E 20 _ _ _ _
 refine sr fun _ hK1 => ?_
 refine yv y_as <| fk [(0, _)] hK1 ?_; refine Hd.seq fun _ hK2 => ?_
 refine sr fun _ hK3 => ?_
 refine yv y_mv <| yv (y_len Tryz.underlying22 rfl) ?_; refine yv (y_gtr rfl rfl) ?_; refine fk [(0, _), (6, _)] hK3 ?_; refine Hd.cond rfl (fun hc0 => ?_) (fun hc0 => ?_)
 ·try simp only [hyA, hyB, hyC, ne_eq] at hc0
  refine sr fun _ hK4 => ?_
  refine yv y_as <| fk [(2, _)] hK4 ?_; refine Hd.ret <| Hd.thenRet ?_; exact Hd.ret1 rfl () (by unfold gO; rw [if_pos (by omega)]; rfl) sq
 ·try simp only [hyA, hyB, hyC, ne_eq] at hc0
  have hx : xs.length ≤ 200 := by omega
  refine Hd.skip <| Hd.toK hK2 ?_; refine Hd.seq fun _ hK5 => ?_
  refine sr fun _ hK6 => ?_
  refine yv y_mv <| yv (y_len Tryz.underlying22 rfl) ?_; refine yv y_mv <| fk [(0, _), (8, _), (9, _)] hK6 ?_; refine Hd.block <| Hd.loopK (ι := Nat) [(0, _), (8, _)] (fun i => [(9, .int .i64 (i : Int))]) (fun i => pu (i ≤ xs.length ∧ ∀ o ∈ xs.take i, o.d.length ≤ 300) :: L) (fun i => xs.length - i) 0 sbq sbq (Ent.sep (.pure ⟨Nat.zero_le _, fun o ho => by simp at ho⟩ enn)) ?_; intro i
  try dsimp only
  refine Hd.pure (fun hp0 => ?_)
  try dsimp only at hp0
  refine sr fun _ hK7 => ?_
  refine yv (y_lss rfl rfl) ?_; refine fk [(0, _), (8, _), (9, _), (10, _)] hK7 ?_; refine Hd.seq fun _ hK8 => ?_
  refine Hd.cond rfl (fun hc1 => ?_) (fun hc1 => ?_)
  ·try simp only [hyA, hyB, hyC, ne_eq] at hc1
   have hi : i < xs.length := by omega
   obtain ⟨o, ho⟩ : ∃ o, xs[i]? = some o := ⟨_, List.getElem?_eq_getElem hi⟩
   refine Hd.skip <| Hd.toK hK8 ?_; refine Hd.seq fun _ hK9 => ?_
   refine Hd.block <| sr fun _ hK10 => ?_
   refine yv y_mv <| yv y_as <| fk [(0, _), (3, _), (8, _), (9, _)] hK10 ?_; refine sr fun _ hK11 => ?_
   refine yv y_mv <| yv y_mv <| yv (y_idxR Tryz.underlying22 sz33 rfl rfl (by omega) (by exact RdS.mono hR sq)) ?_; refine yv (y_fR 4 31 Tryz.underlying33 sz31) ?_; refine yv (y_loadR1 ag31 rfl (by exact RdS.mono hR sq) (by exact flat_cells encO 5 (fun _ => rfl) ho 4 _ rfl)) ?_; refine yv (y_len Tryz.underlying31 rfl) ?_; refine yv (y_gtr rfl rfl) ?_; refine fk [(0, _), (8, _), (9, _), (18, _)] hK11 ?_; refine Hd.cond rfl (fun hc2 => ?_) (fun hc2 => ?_)
   ·try simp only [hyA, hyB, hyC, ne_eq] at hc2
    refine sr fun _ hK12 => ?_
    refine yv y_as <| fk [(2, _)] hK12 ?_; refine Hd.ret <| Hd.inBret <| Hd.thenRet <| Hd.thenRet <| Hd.inBret <| Hd.thenRet ?_; exact Hd.ret1 rfl () (by unfold gO; rw [if_neg (by omega), if_neg (fun h => by have := h o (List.mem_of_getElem? ho); omega)]; rfl) sq
   ·try simp only [hyA, hyB, hyC, ne_eq] at hc2
    refine Hd.skip <| Hd.inB <| Hd.toK hK9 ?_; refine Hd.region <| yv (y_addn rfl rfl (by simp only [InK]; omega)) ?_; refine yv y_mv <| Hd.nil <| slots [(0, _), (8, _), (9, _)] sbq ?_; refine thenN ?_
    have hnew : ∀ q ∈ xs.take (i + 1), q.d.length ≤ 300 := by
     intro q hq; rw [List.take_add_one, ho] at hq
     rcases List.mem_append.1 hq with h | h
     ·exact hp0.2 q h
     ·obtain rfl : q = o := by simpa using h
      omega
    exact Hd.again (i + 1) (by omega) sbq (Ent.sep (.pure ⟨hi, hnew⟩ enn))
  ·try simp only [hyA, hyB, hyC, ne_eq] at hc1
   refine Hd.exit <| Hd.thenExit <| Hd.thenExit <| Hd.inBexit <| Hd.toK hK5 ?_; refine sr fun _ hK13 => ?_
   refine yv y_as <| fk [(2, _)] hK13 ?_; refine Hd.ret ?_; exact Hd.ret1 rfl () (by unfold gO; rw [if_neg (by omega), if_pos (by rw [List.take_of_length_le (by omega)] at hp0; exact hp0.2)]; rfl) sq
theorem Hd.wokW {E : World} {n : Nat} {ds : List Deferred} {st : List (Nat × Value)} {L L' : List SP} {K : Act → World → Prop} {wb : Nat} {w : WA} (p : Pick L (WorldP wb w) L') (h : WOk w → Hd E n ds st L K) : Hd E n ds st L K := fun a v f s => by
 refine h ?_ a v f s
 obtain ⟨h1, s1, i, x⟩ := sep.one p s.2.2.2
 obtain ⟨_, _, _, _, _, hq, _⟩ := x
 exact hq.1
abbrev BoP (pb wb rb : Nat) : SP := pt pb [.pointer (some ⟨wb, 0, none⟩), .pointer (some ⟨rb, 0, none⟩)] 41
theorem fresh_ct (L : List SP) : Ct Tryz.prog 16 #[] (L) (fun q_ : Nat × Nat × Nat => .pointer (some ⟨q_.1, 0, none⟩)) (fun q_ : Nat × Nat × Nat => BoP q_.1 q_.2.1 q_.2.2 :: WorldP q_.2.1 newA :: Rf.RwP q_.2.2 newA :: L) := by
 refine Ct.o0 Tryz.func16 ?_; intro E
 show Hd E 5 _ _ _ _
 refine sr fun _ hK1 => ?_
 refine yv y_as <| fk [] hK1 ?_; refine sr fun _ hK2 => ?_
 refine callE rfl fk49 (wnew_ct _) sq ?_; intro wb; refine callE rfl fk53 (Rf.rNew_ct _) sq ?_; intro rb; refine yv (y_build (vs := [(0, _), (1, _)]) rfl (by exact bd16_3 ..)) ?_; refine Hd.box rfl rfl (fun b4 => ?_); refine yv y_as <| fk [(0, _)] hK2 ?_; refine Hd.ret ?_; exact Hd.ret1 rfl (b4, wb, rb) rfl sq
theorem more_ct (L : List SP) (pb wb rb : Nat) (w : WA) (K : Nat) (hK : K ≤ 100000000) (hl : Lo K w) (o : Ov) (hk : o.k < 0 ∨ 8 < o.k) (ht : InK .u64 o.t) (hd : o.d.length ≤ 300) (hR : RdS L 1 o.ad o.d.length (bsl o.d)) (hc : o.d.length ≤ o.c) (ad : Option Addr) (c : Nat) (hR2 : RdS L 1 ad o.d.length (bsl o.d)) (hc2 : o.d.length ≤ c) : Ct Tryz.prog 69 #[.pointer (some ⟨pb, 0, none⟩), .agg (encO o).toArray, .slice ad o.d.length c] (BoP pb wb rb :: WorldP wb w :: Rf.RwP rb w :: L) (fun _ : Unit => .bool true) (fun _ : Unit => BoP pb wb rb :: WorldP wb (doA w o) :: Rf.RwP rb (doA w o) :: L) := by
 refine Ct.o3 Tryz.func69 ?_; intro E
 show Hd E 333 _ _ _ _
 simp only [InK] at ht
 have hnow := hl.now
 have hb2 := hl.bd (B := 2000000000) (by omega)
 have hb1 := hl.bd (B := 1000000000) (by omega)
 refine Hd.wokW (.there .here) (fun hw => ?_); refine sr fun _ hK1 => ?_
 refine Hd.box rfl rfl (fun b4 => ?_); refine yv y_as <| fk [(0, _), (2, _), (4, _)] hK1 ?_; refine Hd.seq fun _ hK2 => ?_
 refine sr fun _ hK3 => ?_
 refine yv (y_f 0 3 Tryz.underlying33 sz3) ?_; refine yv (y_l1 ag3 rfl) ?_; refine fk [(0, _), (2, _), (4, _), (33, _)] hK3 ?_; refine Hd.block <| sr fun _ hK4 => ?_
 refine yv (y_eql rfl rfl) ?_; refine yv y_as <| fk [(0, _), (2, _), (4, _), (33, _), (34, _)] hK4 ?_; refine Hd.cond rfl (fun hc0 => ?_) (fun hc0 => ?_)
 ·try simp only [hyA, hyB, hyC, ne_eq] at hc0
  refine Hd.seq fun _ hK5 => ?_
  refine Hd.drawsH ([BoP pb wb rb, pt b4 (encO o) 33]) (fun _ => true) mixed ?_; simp only [List.length, Nat.zero_add, Nat.reduceAdd]; refine tH 0 rfl y_mv ?_; refine tH 1 rfl y_np ?_; refine tH 2 rfl (y_f 0 38 Tryz.underlying41 sz38) ?_; refine tH 3 rfl (y_l1 ag38 rfl) ?_; refine tH 4 rfl (y_f 1 3 Tryz.underlying33 sz3) ?_; refine tH 5 rfl (y_l1 ag3 rfl) ?_; refine tH 6 rfl y_mv ?_; refine onlyH 7 rfl kq ?_; refine callE rfl fk52 (wput_ct _ wb w o.a ad o.d.length c o.d rfl ?hD (by omega) hc2) sq ?_
  case hD => exact RdS.mono hR2 sq
  intro _; refine Hd.nil <| thenN <| heldK (J := (fun _ => true)) (i := 7) sq ?_; refine tH 8 rfl y_mv ?_; refine tH 9 rfl y_ex ?_; refine tH 10 rfl y_ex ?_; refine tH 11 rfl y_as ?_; refine tH 12 rfl y_as ?_; refine endH kq ?_; refine sk [(0, _), (4, _), (7, _), (8, _)] hK5 ?_; refine Hd.seq fun _ hK6 => ?_
  refine Hd.drawsH ([BoP pb wb rb, pt b4 (encO o) 33]) (fun _ => true) mixed ?_; simp only [List.length, Nat.zero_add, Nat.reduceAdd]; refine tH 0 rfl y_mv ?_; refine tH 1 rfl y_np ?_; refine tH 2 rfl (y_f 1 39 Tryz.underlying41 sz39) ?_; refine tH 3 rfl (y_l1 ag39 rfl) ?_; refine tH 4 rfl (y_f 1 3 Tryz.underlying33 sz3) ?_; refine tH 5 rfl (y_l1 ag3 rfl) ?_; refine tH 6 rfl (y_f 4 31 Tryz.underlying33 sz31) ?_; refine tH 7 rfl (y_l1 ag31 rfl) ?_; refine onlyH 8 rfl kq ?_; refine callE rfl fk124 (Rf.rPut_ct _ rb w hw o.a o.ad o.d.length o.c o.d rfl ?hD (by omega) hc) sq ?_
  case hD => exact RdS.mono hR sq
  intro _; refine Hd.nil <| thenN <| heldK (J := (fun _ => true)) (i := 8) sq ?_; refine tH 9 rfl y_mv ?_; refine tH 10 rfl y_ex ?_; refine tH 11 rfl y_ex ?_; refine tH 12 rfl y_as ?_; refine tH 13 rfl y_as ?_; refine endH kq ?_; refine sk [(7, _), (8, _), (9, _), (10, _)] hK6 ?_; refine sr fun _ hK7 => ?_
  refine yv y_mv <| yv y_mv <| yv (y_eqlT rfl rfl) ?_; refine yv y_mv ?_; apply Hd.andg 4 62 66 [] rfl sbq
  ·intro _
   simp only [List.take]; refine y2 y_mv <| y2 y_mv <| y2 (y_eqlT rfl rfl) ?_; refine yv (y_pickT rfl rfl) ?_; refine Hd.nil ?_; exact Hd.mq
  ·intro _
   simp only [List.take]; refine n1 <| n1 <| n1 <| yv (y_pickF rfl rfl) ?_; refine Hd.nil ?_; exact Hd.mq
  simp only [List.drop]; refine yv y_as <| fk [(6, _)] hK7 ?_; refine Hd.ret <| Hd.inBret <| Hd.thenRet ?_; rw [do_9 hc0]; exact Hd.ret1 rfl () (by rfl) sq
 ·try simp only [hyA, hyB, hyC, ne_eq] at hc0
  refine sr fun _ hK8 => ?_
  refine yv (y_eql rfl rfl) ?_; refine yv y_as <| fk [(0, _), (4, _), (33, _), (67, _)] hK8 ?_; refine Hd.cond rfl (fun hc1 => ?_) (fun hc1 => ?_)
  ·try simp only [hyA, hyB, hyC, ne_eq] at hc1
   refine Hd.seq fun _ hK9 => ?_
   refine Hd.drawsH ([BoP pb wb rb, pt b4 (encO o) 33]) (fun _ => true) mixed ?_; simp only [List.length, Nat.zero_add, Nat.reduceAdd]; refine tH 0 rfl y_mv ?_; refine tH 1 rfl y_np ?_; refine tH 2 rfl (y_f 0 38 Tryz.underlying41 sz38) ?_; refine tH 3 rfl (y_l1 ag38 rfl) ?_; refine tH 4 rfl (y_f 1 3 Tryz.underlying33 sz3) ?_; refine tH 5 rfl (y_l1 ag3 rfl) ?_; refine tH 6 rfl (y_f 2 3 Tryz.underlying33 sz3) ?_; refine tH 7 rfl (y_l1 ag3 rfl) ?_; refine onlyH 8 rfl kq ?_; refine callE rfl fk125 (wtake_ct _ wb w o.a o.n) sq ?_; rintro ⟨ta, tc⟩; dsimp only; refine Hd.nil <| thenN <| heldK (J := (fun _ => true)) (i := 8) sq ?_; refine tH 9 rfl y_mv ?_; refine tH 10 rfl y_ex ?_; refine tH 11 rfl y_ex ?_; refine tH 12 rfl y_as ?_; refine tH 13 rfl y_as ?_; refine endH kq ?_; refine sk [(0, _), (4, _), (11, _), (12, _)] hK9 ?_; refine Hd.seq fun _ hK10 => ?_
   refine Hd.drawsH ([BoP pb wb rb, pt b4 (encO o) 33]) (fun _ => true) mixed ?_; simp only [List.length, Nat.zero_add, Nat.reduceAdd]; refine tH 0 rfl y_mv ?_; refine tH 1 rfl y_np ?_; refine tH 2 rfl (y_f 1 39 Tryz.underlying41 sz39) ?_; refine tH 3 rfl (y_l1 ag39 rfl) ?_; refine tH 4 rfl (y_f 1 3 Tryz.underlying33 sz3) ?_; refine tH 5 rfl (y_l1 ag3 rfl) ?_; refine tH 6 rfl (y_f 2 3 Tryz.underlying33 sz3) ?_; refine tH 7 rfl (y_l1 ag3 rfl) ?_; refine onlyH 8 rfl kq ?_; refine callE rfl fk126 (Rf.rTake_ct _ rb w o.a o.n) sq ?_; rintro ⟨ua, uc⟩; dsimp only; refine Hd.nil <| thenN <| heldK (J := (fun _ => true)) (i := 8) sq ?_; refine tH 9 rfl y_mv ?_; refine tH 10 rfl y_ex ?_; refine tH 11 rfl y_ex ?_; refine tH 12 rfl y_as ?_; refine tH 13 rfl y_as ?_; refine endH kq ?_; refine sk [(11, _), (12, _), (13, _), (14, _)] hK10 ?_; refine sr fun _ hK11 => ?_
   refine yv y_mv <| yv (y_strOf (l := _) kq Tryz.underlying9 rfl (by exact RdS.own pkk)) ?_; refine yv y_mv <| yv (y_strOf (l := _) kq Tryz.underlying9 rfl (by exact RdS.own pkk)) ?_; refine yv (y_eqlstr rfl rfl) ?_; refine yv y_mv ?_; apply Hd.andg 4 98 102 [] rfl sbq
   ·intro _
    simp only [List.take]; refine y2 y_mv <| y2 y_mv <| y2 (y_eqlT rfl rfl) ?_; refine yv (y_pickT rfl rfl) ?_; refine Hd.nil ?_; exact Hd.mq
   ·intro _
    simp only [List.take]; refine n1 <| n1 <| n1 <| yv (y_pickF rfl rfl) ?_; refine Hd.nil ?_; exact Hd.mq
   simp only [List.drop]; refine yv y_as <| fk [(6, _)] hK11 ?_; refine Hd.ret <| Hd.inBret <| Hd.thenRet ?_; rw [do_10 hc1]; exact Hd.ret1 rfl () (by rfl) sq
  ·try simp only [hyA, hyB, hyC, ne_eq] at hc1
   refine sr fun _ hK12 => ?_
   refine yv (y_eql rfl rfl) ?_; refine yv y_as <| fk [(0, _), (4, _), (33, _), (103, _)] hK12 ?_; refine Hd.cond rfl (fun hc2 => ?_) (fun hc2 => ?_)
   ·try simp only [hyA, hyB, hyC, ne_eq] at hc2
    refine Hd.seq fun _ hK13 => ?_
    refine Hd.drawsH ([BoP pb wb rb, pt b4 (encO o) 33]) (fun _ => true) mixed ?_; simp only [List.length, Nat.zero_add, Nat.reduceAdd]; refine tH 0 rfl y_mv ?_; refine tH 1 rfl y_np ?_; refine tH 2 rfl (y_f 0 38 Tryz.underlying41 sz38) ?_; refine tH 3 rfl (y_l1 ag38 rfl) ?_; refine tH 4 rfl (y_f 1 3 Tryz.underlying33 sz3) ?_; refine tH 5 rfl (y_l1 ag3 rfl) ?_; refine onlyH 6 rfl kq ?_; refine callE rfl fk127 (pshut_ct _ wb w o.a) sq ?_; intro _; refine Hd.nil <| thenN <| heldK (J := (fun _ => true)) (i := 6) sq ?_; refine tH 7 rfl y_as ?_; refine endH kq ?_; refine sk [(0, _), (4, _), (15, _)] hK13 ?_; refine Hd.seq fun _ hK14 => ?_
    refine Hd.drawsH ([BoP pb wb rb, pt b4 (encO o) 33]) (fun _ => true) mixed ?_; simp only [List.length, Nat.zero_add, Nat.reduceAdd]; refine tH 0 rfl y_mv ?_; refine tH 1 rfl y_mv ?_; refine tH 2 rfl y_np ?_; refine tH 3 rfl (y_f 1 39 Tryz.underlying41 sz39) ?_; refine tH 4 rfl (y_l1 ag39 rfl) ?_; refine tH 5 rfl (y_f 1 3 Tryz.underlying33 sz3) ?_; refine tH 6 rfl (y_l1 ag3 rfl) ?_; refine onlyH 7 rfl kq ?_; refine callE rfl fk128 (Rf.rPshut_ct _ rb w o.a) sq ?_; intro _; refine Hd.nil <| thenN <| heldK (J := (fun _ => true)) (i := 7) sq ?_; refine tH 8 rfl (y_eqlT rfl rfl) ?_; refine tH 9 rfl y_as ?_; refine endH kq ?_; refine sk [(6, _)] hK14 ?_; refine Hd.ret <| Hd.inBret <| Hd.thenRet ?_; rw [do_11 hc2]; exact Hd.ret1 rfl () (by rfl) sq
   ·try simp only [hyA, hyB, hyC, ne_eq] at hc2
    refine sr fun _ hK15 => ?_
    refine yv (y_eql rfl rfl) ?_; refine yv y_as <| fk [(0, _), (4, _), (33, _), (121, _)] hK15 ?_; refine Hd.cond rfl (fun hc3 => ?_) (fun hc3 => ?_)
    ·try simp only [hyA, hyB, hyC, ne_eq] at hc3
     refine Hd.seq fun _ hK16 => ?_
     refine Hd.drawsH ([BoP pb wb rb, pt b4 (encO o) 33]) (fun _ => true) mixed ?_; simp only [List.length, Nat.zero_add, Nat.reduceAdd]; refine tH 0 rfl y_mv ?_; refine tH 1 rfl y_np ?_; refine tH 2 rfl (y_f 0 38 Tryz.underlying41 sz38) ?_; refine tH 3 rfl (y_l1 ag38 rfl) ?_; refine tH 4 rfl (y_f 1 3 Tryz.underlying33 sz3) ?_; refine tH 5 rfl (y_l1 ag3 rfl) ?_; refine onlyH 6 rfl kq ?_; refine callE rfl fk129 (pclose_ct _ wb w o.a) sq ?_; intro _; refine Hd.nil <| thenN <| heldK (J := (fun _ => true)) (i := 6) sq ?_; refine tH 7 rfl y_as ?_; refine endH kq ?_; refine sk [(0, _), (4, _), (16, _)] hK16 ?_; refine Hd.seq fun _ hK17 => ?_
     refine Hd.drawsH ([BoP pb wb rb, pt b4 (encO o) 33]) (fun _ => true) mixed ?_; simp only [List.length, Nat.zero_add, Nat.reduceAdd]; refine tH 0 rfl y_mv ?_; refine tH 1 rfl y_mv ?_; refine tH 2 rfl y_np ?_; refine tH 3 rfl (y_f 1 39 Tryz.underlying41 sz39) ?_; refine tH 4 rfl (y_l1 ag39 rfl) ?_; refine tH 5 rfl (y_f 1 3 Tryz.underlying33 sz3) ?_; refine tH 6 rfl (y_l1 ag3 rfl) ?_; refine onlyH 7 rfl kq ?_; refine callE rfl fk130 (Rf.rPclose_ct _ rb w o.a) sq ?_; intro _; refine Hd.nil <| thenN <| heldK (J := (fun _ => true)) (i := 7) sq ?_; refine tH 8 rfl (y_eqlT rfl rfl) ?_; refine tH 9 rfl y_as ?_; refine endH kq ?_; refine sk [(6, _)] hK17 ?_; refine Hd.ret <| Hd.inBret <| Hd.thenRet ?_; rw [do_12 hc3]; exact Hd.ret1 rfl () (by rfl) sq
    ·try simp only [hyA, hyB, hyC, ne_eq] at hc3
     refine sr fun _ hK18 => ?_
     refine yv (y_eql rfl rfl) ?_; refine yv y_as <| fk [(0, _), (4, _), (33, _), (139, _)] hK18 ?_; refine Hd.cond rfl (fun hc4 => ?_) (fun hc4 => ?_)
     ·try simp only [hyA, hyB, hyC, ne_eq] at hc4
      refine Hd.seq fun _ hK19 => ?_
      refine Hd.drawsH ([BoP pb wb rb, pt b4 (encO o) 33]) (fun _ => true) mixed ?_; simp only [List.length, Nat.zero_add, Nat.reduceAdd]; refine tH 0 rfl y_mv ?_; refine tH 1 rfl y_np ?_; refine tH 2 rfl (y_f 0 38 Tryz.underlying41 sz38) ?_; refine tH 3 rfl (y_l1 ag38 rfl) ?_; refine tH 4 rfl (y_f 1 3 Tryz.underlying33 sz3) ?_; refine tH 5 rfl (y_l1 ag3 rfl) ?_; refine onlyH 6 rfl kq ?_; refine callE rfl fk131 (wreset_ct _ wb w o.a) sq ?_; intro _; refine Hd.nil <| thenN <| heldK (J := (fun _ => true)) (i := 6) sq ?_; refine tH 7 rfl y_as ?_; refine endH kq ?_; refine sk [(0, _), (4, _), (17, _)] hK19 ?_; refine Hd.seq fun _ hK20 => ?_
      refine Hd.drawsH ([BoP pb wb rb, pt b4 (encO o) 33]) (fun _ => true) mixed ?_; simp only [List.length, Nat.zero_add, Nat.reduceAdd]; refine tH 0 rfl y_mv ?_; refine tH 1 rfl y_mv ?_; refine tH 2 rfl y_np ?_; refine tH 3 rfl (y_f 1 39 Tryz.underlying41 sz39) ?_; refine tH 4 rfl (y_l1 ag39 rfl) ?_; refine tH 5 rfl (y_f 1 3 Tryz.underlying33 sz3) ?_; refine tH 6 rfl (y_l1 ag3 rfl) ?_; refine onlyH 7 rfl kq ?_; refine callE rfl fk132 (Rf.rReset_ct _ rb w o.a) sq ?_; intro _; refine Hd.nil <| thenN <| heldK (J := (fun _ => true)) (i := 7) sq ?_; refine tH 8 rfl (y_eqlT rfl rfl) ?_; refine tH 9 rfl y_as ?_; refine endH kq ?_; refine sk [(6, _)] hK20 ?_; refine Hd.ret <| Hd.inBret <| Hd.thenRet ?_; rw [do_13 hc4]; exact Hd.ret1 rfl () (by rfl) sq
     ·try simp only [hyA, hyB, hyC, ne_eq] at hc4
      refine sr fun _ hK21 => ?_
      refine yv (y_eql rfl rfl) ?_; refine yv y_as <| fk [(0, _), (4, _), (33, _), (157, _)] hK21 ?_; refine Hd.cond rfl (fun hc5 => ?_) (fun hc5 => ?_)
      ·try simp only [hyA, hyB, hyC, ne_eq] at hc5
       refine Hd.seq fun _ hK22 => ?_
       refine Hd.drawsH ([BoP pb wb rb, pt b4 (encO o) 33]) (fun _ => true) mixed ?_; simp only [List.length, Nat.zero_add, Nat.reduceAdd]; refine tH 0 rfl y_mv ?_; refine tH 1 rfl y_np ?_; refine tH 2 rfl (y_f 0 38 Tryz.underlying41 sz38) ?_; refine tH 3 rfl (y_l1 ag38 rfl) ?_; refine tH 4 rfl (y_f 1 3 Tryz.underlying33 sz3) ?_; refine tH 5 rfl (y_l1 ag3 rfl) ?_; refine tH 6 rfl (y_f 2 3 Tryz.underlying33 sz3) ?_; refine tH 7 rfl (y_l1 ag3 rfl) ?_; refine onlyH 8 rfl kq ?_; refine callE rfl fk133 (wconn_ct _ wb w o.a o.n) sq ?_; intro _; refine Hd.nil <| thenN <| heldK (J := (fun _ => true)) (i := 8) sq ?_; refine tH 9 rfl y_mv ?_; refine tH 10 rfl y_ex ?_; refine tH 11 rfl y_ex ?_; refine tH 12 rfl y_as ?_; refine tH 13 rfl y_as ?_; refine endH kq ?_; refine sk [(0, _), (4, _), (18, _), (19, _)] hK22 ?_; refine Hd.seq fun _ hK23 => ?_
       refine Hd.drawsH ([BoP pb wb rb, pt b4 (encO o) 33]) (fun _ => true) mixed ?_; simp only [List.length, Nat.zero_add, Nat.reduceAdd]; refine tH 0 rfl y_mv ?_; refine tH 1 rfl y_np ?_; refine tH 2 rfl (y_f 1 39 Tryz.underlying41 sz39) ?_; refine tH 3 rfl (y_l1 ag39 rfl) ?_; refine tH 4 rfl (y_f 1 3 Tryz.underlying33 sz3) ?_; refine tH 5 rfl (y_l1 ag3 rfl) ?_; refine tH 6 rfl (y_f 2 3 Tryz.underlying33 sz3) ?_; refine tH 7 rfl (y_l1 ag3 rfl) ?_; refine onlyH 8 rfl kq ?_; refine callE rfl fk134 (Rf.rConnect_ct _ rb w hw o.a o.n) sq ?_; intro _; refine Hd.nil <| thenN <| heldK (J := (fun _ => true)) (i := 8) sq ?_; refine tH 9 rfl y_mv ?_; refine tH 10 rfl y_ex ?_; refine tH 11 rfl y_ex ?_; refine tH 12 rfl y_as ?_; refine tH 13 rfl y_as ?_; refine endH kq ?_; refine sk [(18, _), (19, _), (20, _), (21, _)] hK23 ?_; refine sr fun _ hK24 => ?_
       refine yv y_mv <| yv y_mv <| yv (y_eqlT rfl rfl) ?_; refine yv y_mv ?_; apply Hd.andg 4 186 190 [] rfl sbq
       ·intro _
        simp only [List.take]; refine y2 y_mv <| y2 y_mv <| y2 (y_eqlT rfl rfl) ?_; refine yv (y_pickT rfl rfl) ?_; refine Hd.nil ?_; exact Hd.mq
       ·intro _
        simp only [List.take]; refine n1 <| n1 <| n1 <| yv (y_pickF rfl rfl) ?_; refine Hd.nil ?_; exact Hd.mq
       simp only [List.drop]; refine yv y_as <| fk [(6, _)] hK24 ?_; refine Hd.ret <| Hd.inBret <| Hd.thenRet ?_; rw [do_14 hc5]; exact Hd.ret1 rfl () (by rfl) sq
      ·try simp only [hyA, hyB, hyC, ne_eq] at hc5
       refine sr fun _ hK25 => ?_
       refine yv (y_eql rfl rfl) ?_; refine yv y_as <| fk [(0, _), (4, _), (33, _), (191, _)] hK25 ?_; refine Hd.cond rfl (fun hc6 => ?_) (fun hc6 => ?_)
       ·try simp only [hyA, hyB, hyC, ne_eq] at hc6
        refine Hd.seq fun _ hK26 => ?_
        refine Hd.drawsH ([BoP pb wb rb, pt b4 (encO o) 33]) (fun _ => true) mixed ?_; simp only [List.length, Nat.zero_add, Nat.reduceAdd]; refine tH 0 rfl y_mv ?_; refine tH 1 rfl y_np ?_; refine tH 2 rfl (y_f 0 38 Tryz.underlying41 sz38) ?_; refine tH 3 rfl (y_l1 ag38 rfl) ?_; refine tH 4 rfl (y_f 3 30 Tryz.underlying33 sz30) ?_; refine tH 5 rfl (y_l1 ag30 rfl) ?_; refine onlyH 6 rfl kq ?_; refine callE rfl fk135 (pass_ct _ wb w o.t ht hnow) sq ?_; intro _; refine Hd.nil <| thenN <| heldK (J := (fun _ => true)) (i := 6) sq ?_; refine endH kq ?_; refine sk [(0, _), (4, _)] hK26 ?_; refine Hd.drawsH ([BoP pb wb rb, pt b4 (encO o) 33]) (fun _ => true) mixed ?_; simp only [List.length, Nat.zero_add, Nat.reduceAdd]; refine tH 0 rfl y_mv ?_; refine tH 1 rfl y_np ?_; refine tH 2 rfl (y_f 1 39 Tryz.underlying41 sz39) ?_; refine tH 3 rfl (y_l1 ag39 rfl) ?_; refine tH 4 rfl (y_f 3 30 Tryz.underlying33 sz30) ?_
        refine tH 5 rfl (y_l1 ag30 rfl) ?_; refine onlyH 6 rfl kq ?_; refine callE rfl fk136 (Rf.rPass_ct _ rb w o.t ht hnow) sq ?_; intro _; refine Hd.nil <| thenN <| heldK (J := (fun _ => true)) (i := 6) sq ?_; refine endH kq ?_; refine slots [] sbq ?_; refine Hd.inB <| Hd.toK hK2 ?_; refine sr fun _ hK27 => ?_
        refine yv y_as <| fk [(6, _)] hK27 ?_; refine Hd.ret ?_; rw [do_15 hc6]; exact Hd.ret1 rfl () (by rfl) sq
       ·try simp only [hyA, hyB, hyC, ne_eq] at hc6
        refine sr fun _ hK28 => ?_
        refine yv (y_eql rfl rfl) ?_; refine yv y_as <| fk [(0, _), (4, _), (33, _), (207, _)] hK28 ?_; refine Hd.cond rfl (fun hc7 => ?_) (fun hc7 => ?_)
        ·try simp only [hyA, hyB, hyC, ne_eq] at hc7
         refine Hd.seq fun _ hK29 => ?_
         refine Hd.drawsH ([BoP pb wb rb, pt b4 (encO o) 33]) (fun _ => true) mixed ?_; simp only [List.length, Nat.zero_add, Nat.reduceAdd]; refine tH 0 rfl y_mv ?_; refine tH 1 rfl y_np ?_; refine tH 2 rfl (y_f 0 38 Tryz.underlying41 sz38) ?_; refine tH 3 rfl (y_l1 ag38 rfl) ?_; refine tH 4 rfl (y_f 1 3 Tryz.underlying33 sz3) ?_; refine tH 5 rfl (y_l1 ag3 rfl) ?_; refine tH 6 rfl (y_f 2 3 Tryz.underlying33 sz3) ?_; refine tH 7 rfl (y_l1 ag3 rfl) ?_; refine tH 8 rfl (y_gtr rfl rfl) ?_; refine onlyH 9 rfl kq ?_; refine callE rfl fk137 (whandle_ct _ wb w hb2 o.a (decide (o.n > 0))) sq ?_; intro _; refine Hd.nil <| thenN <| heldK (J := (fun _ => true)) (i := 9) sq ?_; refine tH 10 rfl y_as ?_; refine endH kq ?_; refine sk [(0, _), (4, _), (22, _)] hK29 ?_; refine Hd.seq fun _ hK30 => ?_
         refine Hd.drawsH ([BoP pb wb rb, pt b4 (encO o) 33]) (fun _ => true) mixed ?_; simp only [List.length, Nat.zero_add, Nat.reduceAdd]; refine tH 0 rfl y_mv ?_; refine tH 1 rfl y_mv ?_; refine tH 2 rfl y_np ?_; refine tH 3 rfl (y_f 1 39 Tryz.underlying41 sz39) ?_; refine tH 4 rfl (y_l1 ag39 rfl) ?_; refine tH 5 rfl (y_f 1 3 Tryz.underlying33 sz3) ?_; refine tH 6 rfl (y_l1 ag3 rfl) ?_; refine tH 7 rfl (y_f 2 3 Tryz.underlying33 sz3) ?_; refine tH 8 rfl (y_l1 ag3 rfl) ?_; refine tH 9 rfl (y_gtr rfl rfl) ?_; refine onlyH 10 rfl kq ?_; refine callE rfl fk138 (Rf.rHandle_ct _ rb w hw hb2 o.a (decide (o.n > 0))) sq ?_; intro _; refine Hd.nil <| thenN <| heldK (J := (fun _ => true)) (i := 10) sq ?_; refine tH 11 rfl (y_eqlT rfl rfl) ?_; refine tH 12 rfl y_as ?_; refine endH kq ?_; refine sk [(6, _)] hK30 ?_; refine Hd.ret <| Hd.inBret <| Hd.thenRet ?_; rw [do_16 hc7]
         exact Hd.ret1 rfl () (by rfl) sq
        ·try simp only [hyA, hyB, hyC, ne_eq] at hc7
         refine sr fun _ hK31 => ?_
         refine yv (y_eql rfl rfl) ?_; refine yv y_as <| fk [(0, _), (4, _), (33, _), (231, _)] hK31 ?_; refine Hd.cond rfl (fun hc8 => ?_) (fun hc8 => ?_)
         ·try simp only [hyA, hyB, hyC, ne_eq] at hc8
          refine Hd.seq fun _ hK32 => ?_
          refine Hd.drawsH ([BoP pb wb rb, pt b4 (encO o) 33]) (fun _ => true) mixed ?_; simp only [List.length, Nat.zero_add, Nat.reduceAdd]; refine tH 0 rfl y_mv ?_; refine tH 1 rfl y_np ?_; refine tH 2 rfl (y_f 0 38 Tryz.underlying41 sz38) ?_; refine tH 3 rfl (y_l1 ag38 rfl) ?_; refine tH 4 rfl (y_f 1 3 Tryz.underlying33 sz3) ?_; refine tH 5 rfl (y_l1 ag3 rfl) ?_; refine onlyH 6 rfl kq ?_; refine callE rfl fk139 (wraise_ct _ wb w hb1 o.a) sq ?_; intro _; refine Hd.nil <| thenN <| heldK (J := (fun _ => true)) (i := 6) sq ?_; refine tH 7 rfl y_as ?_; refine endH kq ?_; refine sk [(0, _), (4, _), (23, _)] hK32 ?_; refine Hd.seq fun _ hK33 => ?_
          refine Hd.drawsH ([BoP pb wb rb, pt b4 (encO o) 33]) (fun _ => true) mixed ?_; simp only [List.length, Nat.zero_add, Nat.reduceAdd]; refine tH 0 rfl y_mv ?_; refine tH 1 rfl y_mv ?_; refine tH 2 rfl y_np ?_; refine tH 3 rfl (y_f 1 39 Tryz.underlying41 sz39) ?_; refine tH 4 rfl (y_l1 ag39 rfl) ?_; refine tH 5 rfl (y_f 1 3 Tryz.underlying33 sz3) ?_; refine tH 6 rfl (y_l1 ag3 rfl) ?_; refine onlyH 7 rfl kq ?_; refine callE rfl fk140 (Rf.rRaise_ct _ rb w hw hb1 o.a) sq ?_; intro _; refine Hd.nil <| thenN <| heldK (J := (fun _ => true)) (i := 7) sq ?_; refine tH 8 rfl (y_eqlT rfl rfl) ?_; refine tH 9 rfl y_as ?_; refine endH kq ?_; refine sk [(6, _)] hK33 ?_; refine Hd.ret <| Hd.inBret <| Hd.thenRet ?_; rw [do_17 hc8]; exact Hd.ret1 rfl () (by rfl) sq
         ·try simp only [hyA, hyB, hyC, ne_eq] at hc8
          refine sr fun _ hK34 => ?_
          refine yv (y_eql rfl rfl) ?_; refine yv y_as <| fk [(0, _), (4, _), (33, _), (249, _)] hK34 ?_; refine Hd.cond rfl (fun hc9 => ?_) (fun hc9 => ?_)
          ·try simp only [hyA, hyB, hyC, ne_eq] at hc9
           have hgl : (sigR w).1.length ≤ 32 := by have := cntF_le w.ct 0; rw [hw.ctl] at this; exact this
           refine sr fun _ hK35 => ?_
           refine yv y_mv <| yv y_np <| yv (y_f 0 38 Tryz.underlying41 sz38) ?_; refine yv (y_l1 ag38 rfl) ?_; refine callE rfl fk141 (wsignals_ct _ wb w hb2) sq ?_; rintro ⟨sa, sc⟩; dsimp only; refine yv y_as <| fk [(0, _), (24, _)] hK35 ?_; refine sr fun _ hK36 => ?_
           refine yv y_mv <| yv y_np <| yv (y_f 1 39 Tryz.underlying41 sz39) ?_; refine yv (y_l1 ag39 rfl) ?_; refine callE rfl fk142 (Rf.rSignals_ct _ rb w hw hb2) sq ?_; rintro ⟨va, vc⟩; dsimp only; refine yv y_as <| fk [(24, _), (25, _)] hK36 ?_; refine Hd.seq fun _ hK37 => ?_
           refine sr fun _ hK38 => ?_
           refine yv y_mv <| yv (y_len Tryz.underlying238 rfl) ?_; refine yv y_mv <| yv (y_len Tryz.underlying238 rfl) ?_; refine yv (y_neq rfl rfl) ?_; refine fk [(24, _), (25, _), (265, _)] hK38 ?_; refine Hd.cond rfl (fun hc10 => ?_) (fun hc10 => ?_)
           ·try simp only [hyA, hyB, hyC, ne_eq] at hc10
            exact absurd trivial hc10
           ·try simp only [hyA, hyB, hyC, ne_eq] at hc10
            refine Hd.skip <| Hd.toK hK37 ?_; refine sr fun _ hK39 => ?_
            refine yv y_mv <| yv (y_len Tryz.underlying238 rfl) ?_; refine yv y_mv <| fk [(24, _), (25, _), (267, _), (268, _)] hK39 ?_; refine Hd.block <| Hd.loopK (ι := Nat) [(24, _), (25, _), (267, _)] (fun i => [(268, .int .i64 (i : Int))]) (fun i => pu (i ≤ (sigR w).1.length) :: own 241 2 va (sigR w).1.length vc ((sigR w).1.flatMap encCn) :: own 241 2 sa (sigR w).1.length sc ((sigR w).1.flatMap encCn) :: BoP pb wb rb :: WorldP wb (sigR w).2 :: Rf.RwP rb (sigR w).2 :: L) (fun i => (sigR w).1.length - i) 0 sbq sbq (Ent.sep (.pure (by omega) enn)) ?_; intro i
            try dsimp only
            refine Hd.pure (fun hp0 => ?_)
            try dsimp only at hp0
            refine sr fun _ hK40 => ?_
            refine yv (y_lss rfl rfl) ?_; refine fk [(24, _), (25, _), (267, _), (268, _), (269, _)] hK40 ?_; refine Hd.seq fun _ hK41 => ?_
            refine Hd.cond rfl (fun hc11 => ?_) (fun hc11 => ?_)
            ·try simp only [hyA, hyB, hyC, ne_eq] at hc11
             have hi : i < (sigR w).1.length := by omega
             obtain ⟨q, hq⟩ : ∃ q, (sigR w).1[i]? = some q := ⟨_, List.getElem?_eq_getElem hi⟩
             refine Hd.skip <| Hd.toK hK41 ?_; refine Hd.seq fun _ hK42 => ?_
             refine Hd.block <| sr fun _ hK43 => ?_
             refine yv y_mv <| yv y_as <| fk [(24, _), (25, _), (26, _), (267, _), (268, _)] hK43 ?_; refine Hd.seq fun _ hK44 => ?_
             refine Hd.quiet mixed kq ?_; refine Hq.yv y_mv ?_; refine Hq.yv y_mv ?_; refine Hq.yv (y_idxR Tryz.underlying238 sz241 rfl rfl (by omega) (by exact RdS.own pkk)) ?_; refine Hq.yv (y_loadRn (vs := encCn q) ag241 rfl (RdS.own (ad := sa) (us := (sigR w).1.flatMap encCn) pkk) (flat_cells encCn 2 (fun _ => rfl) hq) sz241 (by simp)) ?_; refine Hq.yv y_mv ?_; refine Hq.yv y_mv ?_; refine Hq.yv (y_idxR Tryz.underlying238 sz241 rfl rfl (by omega) (by exact RdS.own pkk)) ?_; refine Hq.yv (y_loadRn (vs := encCn q) ag241 rfl (RdS.own (ad := va) (us := (sigR w).1.flatMap encCn) pkk) (flat_cells encCn 2 (fun _ => rfl) hq) sz241 (by simp)) ?_; refine Hq.yv (y_neq_agg rfl rfl eqt241 rfl ⟨rfl, rfl⟩) ?_; refine Hq.nil ?_; refine sk [(24, _), (25, _), (267, _), (268, _), (279, _)] hK44 ?_; refine Hd.cond rfl (fun hc12 => ?_) (fun hc12 => ?_)
             ·try simp only [hyA, hyB, hyC, ne_eq] at hc12
              simp [allEq, eqv] at hc12
             ·try simp only [hyA, hyB, hyC, ne_eq] at hc12
              refine Hd.skip <| Hd.inB <| Hd.toK hK42 ?_; refine Hd.region <| yv (y_addn rfl rfl (by simp only [InK]; omega)) ?_; refine yv y_mv <| Hd.nil <| slots [(24, _), (25, _), (267, _), (268, _)] sbq ?_; refine thenN ?_; exact Hd.again (i + 1) (by omega) sbq (Ent.sep (.pure (by omega) enn))
            ·try simp only [hyA, hyB, hyC, ne_eq] at hc11
             refine Hd.exit <| Hd.thenExit <| Hd.thenExit <| Hd.inBexit <| Hd.inB <| Hd.toK hK2 ?_; refine sr fun _ hK45 => ?_
             refine yv y_as <| fk [(6, _)] hK45 ?_; refine Hd.ret ?_; rw [do_18 hc9]; exact Hd.ret1 rfl () rfl sq
          ·try simp only [hyA, hyB, hyC, ne_eq] at hc9
           refine sr fun _ hK46 => ?_
           refine yv (y_eql rfl rfl) ?_; refine yv y_as <| fk [(0, _), (4, _), (33, _), (281, _)] hK46 ?_; refine Hd.cond rfl (fun hc13 => ?_) (fun hc13 => ?_)
           ·try simp only [hyA, hyB, hyC, ne_eq] at hc13
            refine Hd.seq fun _ hK47 => ?_
            refine Hd.drawsH ([BoP pb wb rb, pt b4 (encO o) 33]) (fun _ => true) mixed ?_; simp only [List.length, Nat.zero_add, Nat.reduceAdd]; refine tH 0 rfl y_mv ?_; refine tH 1 rfl y_np ?_; refine tH 2 rfl (y_f 0 38 Tryz.underlying41 sz38) ?_; refine tH 3 rfl (y_l1 ag38 rfl) ?_; refine tH 4 rfl (y_f 1 3 Tryz.underlying33 sz3) ?_; refine tH 5 rfl (y_l1 ag3 rfl) ?_; refine tH 6 rfl (y_f 2 3 Tryz.underlying33 sz3) ?_; refine tH 7 rfl (y_l1 ag3 rfl) ?_; refine onlyH 8 rfl kq ?_; refine callE rfl fk143 (wnotice_ct _ wb w hb2 o.a o.n) sq ?_; intro _; refine Hd.nil <| thenN <| heldK (J := (fun _ => true)) (i := 8) sq ?_; refine tH 9 rfl y_as ?_; refine endH kq ?_; refine sk [(0, _), (4, _), (27, _)] hK47 ?_; refine Hd.seq fun _ hK48 => ?_
            refine Hd.drawsH ([BoP pb wb rb, pt b4 (encO o) 33]) (fun _ => true) mixed ?_; simp only [List.length, Nat.zero_add, Nat.reduceAdd]; refine tH 0 rfl y_mv ?_; refine tH 1 rfl y_mv ?_; refine tH 2 rfl y_np ?_; refine tH 3 rfl (y_f 1 39 Tryz.underlying41 sz39) ?_; refine tH 4 rfl (y_l1 ag39 rfl) ?_; refine tH 5 rfl (y_f 1 3 Tryz.underlying33 sz3) ?_; refine tH 6 rfl (y_l1 ag3 rfl) ?_; refine tH 7 rfl (y_f 2 3 Tryz.underlying33 sz3) ?_; refine tH 8 rfl (y_l1 ag3 rfl) ?_; refine onlyH 9 rfl kq ?_; refine callE rfl fk144 (Rf.rNotice_ct _ rb w hw hb2 o.a o.n) sq ?_; intro _; refine Hd.nil <| thenN <| heldK (J := (fun _ => true)) (i := 9) sq ?_; refine tH 10 rfl (y_eqlT rfl rfl) ?_; refine tH 11 rfl y_as ?_; refine endH kq ?_; refine sk [(6, _)] hK48 ?_; refine Hd.ret <| Hd.inBret <| Hd.thenRet ?_; rw [do_19 hc13]; exact Hd.ret1 rfl () (by rfl) sq
           ·try simp only [hyA, hyB, hyC, ne_eq] at hc13
            refine sr fun _ hK49 => ?_
            refine yv (y_eql rfl rfl) ?_; refine yv y_as <| fk [(0, _), (4, _), (303, _)] hK49 ?_; refine Hd.cond rfl (fun hc14 => ?_) (fun hc14 => ?_)
            ·try simp only [hyA, hyB, hyC, ne_eq] at hc14
             refine Hd.seq fun _ hK50 => ?_
             refine Hd.quiet mixed kq ?_; refine Hq.yv y_mv ?_; refine Hq.yv y_np ?_; refine Hq.yv (y_f 0 38 Tryz.underlying41 sz38) ?_; refine Hq.yv (y_l1 ag38 rfl) ?_; refine Hq.yv (y_f 1 3 Tryz.underlying33 sz3) ?_; refine Hq.yv (y_l1 ag3 rfl) ?_; refine Hq.call rfl fk71 ((wwire_ct _ wb w o.a).swap sq sq) ?_; refine Hq.yv y_mv ?_; refine Hq.yv y_ex ?_; refine Hq.yv y_ex ?_; refine Hq.yv y_as ?_; refine Hq.yv y_as ?_; refine Hq.nil ?_; refine sk [(0, _), (4, _), (28, _), (29, _)] hK50 ?_; refine Hd.seq fun _ hK51 => ?_
             refine Hd.quiet mixed kq ?_; refine Hq.yv y_mv ?_; refine Hq.yv y_np ?_; refine Hq.yv (y_f 1 39 Tryz.underlying41 sz39) ?_; refine Hq.yv (y_l1 ag39 rfl) ?_; refine Hq.yv (y_f 1 3 Tryz.underlying33 sz3) ?_; refine Hq.yv (y_l1 ag3 rfl) ?_; refine Hq.call rfl fk79 ((Rf.rWire_ct _ rb w hw o.a).swap sq sq) ?_; refine Hq.yv y_mv ?_; refine Hq.yv y_ex ?_; refine Hq.yv y_ex ?_; refine Hq.yv y_as ?_; refine Hq.yv y_as ?_; refine Hq.nil ?_; refine sk [(28, _), (29, _), (30, _), (31, _)] hK51 ?_; refine sr fun _ hK52 => ?_
             refine yv y_mv <| yv y_mv <| yv (y_eqlT rfl rfl) ?_; refine yv y_mv ?_; apply Hd.andg 4 328 332 [] rfl sbq
             ·intro _
              simp only [List.take]; refine y2 y_mv <| y2 y_mv <| y2 (y_eqlT rfl rfl) ?_; refine yv (y_pickT rfl rfl) ?_; refine Hd.nil ?_; exact Hd.mq
             ·intro _
              simp only [List.take]; refine n1 <| n1 <| n1 <| yv (y_pickF rfl rfl) ?_; refine Hd.nil ?_; exact Hd.mq
             simp only [List.drop]; refine yv y_as <| fk [(6, _)] hK52 ?_; refine Hd.ret <| Hd.inBret <| Hd.thenRet ?_; rw [do_oth (by omega)]; exact Hd.ret1 rfl () (by rfl) sq
            ·try simp only [hyA, hyB, hyC, ne_eq] at hc14
             refine Hd.skip <| Hd.inB <| Hd.toK hK2 ?_; refine sr fun _ hK53 => ?_
             refine yv y_as <| fk [(6, _)] hK53 ?_; refine Hd.ret ?_; rw [do_oth (by omega)]; exact Hd.ret1 rfl () rfl sq
end Wo
end Go.Proofs.YtbfddabjbkohdaaGreat
namespace Go.Proofs.YtbfddabjbkohdaaGreat
set_option maxHeartbeats 2000000
open Go.RX.Hd (yv y2 n1 fk sk sr tH callE heldK onlyH endH thenN slots)
set_option linter.unusedSimpArgs false
set_option linter.unusedVariables false
set_option linter.unnecessarySimpa false
open Go.RX Fx
namespace Wo
set_option maxRecDepth 8000
open Rf (badK mkErr mkLst mk_bad mk_no mk_yes)
def mkA (w : WA) (k n : Int) : Int := if badK k n then 0 else mkI w (mkKE k) 0
def mkB (w : WA) (k n : Int) : Int := if badK k n then 0 else if k ≤ 1 then mkI w 2 1 else mkN w 1
theorem bad_of {k n : Int} (hk : k ≠ 3) : badK k n ↔ (n < 1 ∨ 65536 < n) := by unfold badK; omega
theorem wmk0_ct (L : List SP) (wb : Nat) (w : WA) (k n : Int) (hk : k = 0) : Ct Tryz.prog 54 #[.pointer (some ⟨wb, 0, none⟩), .int .i64 n] (WorldP wb w :: L) (fun _ : Unit => .tuple #[.int .i64 (mkA w k n), .int .i64 (mkB w k n), .int .i64 (mkErr w k n)]) (fun _ => WorldP wb (makeR w k n) :: L) := by
 subst hk
 by_cases h : badK 0 n
 ·obtain ⟨e1, _, e3⟩ := mk_bad (w := w) h
  rw [show mkA w 0 n = 0 from if_pos h, show mkB w 0 n = 0 from if_pos h, e1, e3]; exact pipe_bad L wb w n ((bad_of (by decide)).1 h)
 ·rw [show mkA w 0 n = mkI w 2 0 from if_neg h, show mkB w 0 n = mkI w 2 1 from if_neg h, show mkErr w 0 n = mkE w 2 from if_neg h, show makeR w 0 n = mkW w 2 (pipeW n.toNat) from if_neg h]
  rw [bad_of (by decide)] at h
  obtain ⟨m, rfl⟩ : ∃ m : Nat, n = (m : Int) := ⟨n.toNat, by omega⟩
  exact pipe_mk L wb w m (by omega) (by omega)
theorem wmk1_ct (L : List SP) (wb : Nat) (w : WA) (k n : Int) (hk : k = 1) : Ct Tryz.prog 55 #[.pointer (some ⟨wb, 0, none⟩), .int .i64 n] (WorldP wb w :: L) (fun _ : Unit => .tuple #[.int .i64 (mkA w k n), .int .i64 (mkB w k n), .int .i64 (mkErr w k n)]) (fun _ => WorldP wb (makeR w k n) :: L) := by
 subst hk
 by_cases h : badK 1 n
 ·obtain ⟨e1, _, e3⟩ := mk_bad (w := w) h
  rw [show mkA w 1 n = 0 from if_pos h, show mkB w 1 n = 0 from if_pos h, e1, e3]; exact pairbad_ct L wb w n ((bad_of (by decide)).1 h)
 ·rw [show mkA w 1 n = mkI w 2 0 from if_neg h, show mkB w 1 n = mkI w 2 1 from if_neg h, show mkErr w 1 n = mkE w 2 from if_neg h, show makeR w 1 n = mkW w 2 (halfW n.toNat 2) from if_neg h]
  rw [bad_of (by decide)] at h
  obtain ⟨m, rfl⟩ : ∃ m : Nat, n = (m : Int) := ⟨n.toNat, by omega⟩
  exact pair_ct L wb w m (by omega) (by omega)
theorem wmk2_ct (L : List SP) (wb : Nat) (w : WA) (k n : Int) (hk : k = 2) : Ct Tryz.prog 50 #[.pointer (some ⟨wb, 0, none⟩), .int .i64 n] (WorldP wb w :: L) (fun _ : Unit => .tuple #[.int .i64 (mkA w k n), .int .i64 (mkB w k n), .int .i64 (mkErr w k n)]) (fun _ => WorldP wb (makeR w k n) :: L) := by
 subst hk
 by_cases h : badK 2 n
 ·obtain ⟨e1, _, e3⟩ := mk_bad (w := w) h
  rw [show mkA w 2 n = 0 from if_pos h, show mkB w 2 n = 0 from if_pos h, e1, e3]; exact outer_bad L wb w n ((bad_of (by decide)).1 h)
 ·rw [show mkA w 2 n = mkI w 1 0 from if_neg h, show mkB w 2 n = mkN w 1 from if_neg h, show mkErr w 2 n = mkE w 1 from if_neg h, show makeR w 2 n = mkW w 1 (connW n.toNat) from if_neg h]
  rw [bad_of (by decide)] at h
  obtain ⟨m, rfl⟩ : ∃ m : Nat, n = (m : Int) := ⟨n.toNat, by omega⟩
  exact outer_mk L wb w m (by omega) (by omega)
theorem wmk3_ct (L : List SP) (wb : Nat) (w : WA) (k n : Int) (hk : k = 3) : Ct Tryz.prog 56 #[.pointer (some ⟨wb, 0, none⟩), .int .i64 n] (WorldP wb w :: L) (fun _ : Unit => .tuple #[.int .i64 (mkA w k n), .int .i64 (mkB w k n), .int .i64 (mkErr w k n)]) (fun _ => WorldP wb (makeR w k n) :: L) := by
 subst hk
 by_cases h : badK 3 n
 ·obtain ⟨e1, _, e3⟩ := mk_bad (w := w) h
  rw [show mkA w 3 n = 0 from if_pos h, show mkB w 3 n = 0 from if_pos h, e1, e3]; exact listen_bad L wb w n (by unfold badK at h; omega)
 ·rw [show mkA w 3 n = mkI w 1 0 from if_neg h, show mkB w 3 n = mkN w 1 from if_neg h, show mkErr w 3 n = mkE w 1 from if_neg h, show makeR w 3 n = mkW w 1 (listW n.toNat) from if_neg h]
  unfold badK at h
  obtain ⟨m, rfl⟩ : ∃ m : Nat, n = (m : Int) := ⟨n.toNat, by omega⟩
  exact listen_mk L wb w m (by omega) (by omega)
structure MadeOk (a b e wire : Int) (l : List Nat) : Prop where
 no : e ≠ 0 → a = 0 ∧ b = 0
 yes : e = 0 → ∃ f t, l = f :: t ∧ a = ((f : Nat) : Int) ∧ ((t = [] ∧ b = wire) ∨ ∃ g, t = [g] ∧ b = ((g : Nat) : Int))
theorem made_ok (w : WA) {k : Int} (hk : 0 ≤ k ∧ k ≤ 3) (n : Int) : MadeOk (mkA w k n) (mkB w k n) (mkErr w k n) (((makeR w k n).ws.length : Nat) - 1) (mkLst w k n) := by
 by_cases h : badK k n
 ·obtain ⟨e1, e2, e3⟩ := mk_bad (w := w) h
  exact ⟨fun _ => ⟨if_pos h, if_pos h⟩, fun e => by rw [e1] at e; exact absurd e (by decide)⟩
 have hA : mkA w k n = mkI w (mkKE k) 0 := if_neg h
 have hB : mkB w k n = if k ≤ 1 then mkI w 2 1 else mkN w 1 := if_neg h
 cases ho : mkOk w (mkKE k) with
 | false =>
  obtain ⟨e1, e2, e3⟩ := mk_no (w := w) h ho
  have hF : mkF w (mkKE k) = [] := by unfold mkF; rw [ho]; rfl
  refine ⟨fun _ => ⟨by rw [hA]; unfold mkI; rw [hF]; rfl, ?_⟩, fun e => by rw [e1] at e; exact absurd e (by decide)⟩; rw [hB]
  by_cases h1 : k ≤ 1
  ·rw [if_pos h1]
   have : mkKE k = 2 := if_pos (by omega)
   rw [this] at hF; unfold mkI; rw [hF]; rfl
  ·rw [if_neg h1]
   have : mkKE k = 1 := if_neg (by omega)
   rw [this] at ho; unfold mkN mkE; rw [ho]; rfl
 | true =>
  obtain ⟨e1, e2, e3⟩ := mk_yes (w := w) h ho
  have hF : mkF w (mkKE k) = (frees w.at).take (mkKE k) := by unfold mkF; rw [ho]; rfl
  have hl : ((frees w.at).take (mkKE k)).length = mkKE k := by unfold mkOk at ho; simp only [Bool.and_eq_true, decide_eq_true_eq] at ho; omega
  refine ⟨fun e => absurd e1 e, fun _ => ?_⟩; rw [e2, hA, hB]; unfold mkI; rw [hF]
  by_cases h1 : k ≤ 1
  ·have h2 : mkKE k = 2 := if_pos (by omega)
   rw [h2] at hl hF ⊢; rw [if_pos h1, hF]
   obtain ⟨f, g, hfg⟩ : ∃ f g, (frees w.at).take 2 = [f, g] := by
    match hm : (frees w.at).take 2, hl with
    | [f, g], _ => exact ⟨f, g, rfl⟩
   rw [hfg]; exact ⟨f, [g], rfl, rfl, .inr ⟨g, rfl, rfl⟩⟩
  ·have h2 : mkKE k = 1 := if_neg (by omega)
   rw [h2] at hl ho ⊢; rw [if_neg h1]
   obtain ⟨f, hf⟩ : ∃ f, (frees w.at).take 1 = [f] := by
    match hm : (frees w.at).take 1, hl with
    | [f], _ => exact ⟨f, rfl⟩
   rw [hf]; refine ⟨f, [], rfl, rfl, .inl ⟨rfl, ?_⟩⟩
   have he : mkE w 1 = 0 := by unfold mkE; rw [ho]; rfl
   rw [show mkN w 1 = (w.ws.length : Int) from if_pos he]
   have : makeR w k n = mkW w 1 (mkKW k n) := by
    rw [← h2]; exact if_neg h
   rw [this, mkW_len he]; omega
theorem made_ct (L : List SP) (a b e wire : Int) (l : List Nat) (ad : Option Addr) (c : Nat) (hR : RdS L 1 ad l.length (nats l)) (h : MadeOk a b e wire l) : Ct Tryz.prog 58 #[.int .i64 a, .int .i64 b, .int .i64 e, .slice ad l.length c, .int .i64 wire, .int .i64 e] (L) (fun _ : Unit => .bool true) (fun _ : Unit => L) := by
 refine Ct.o6 Tryz.func58 ?_; intro E
 show Hd E 55 _ _ _ _
 refine sr fun _ hK1 => ?_
 refine yv y_as <| fk [(0, _), (1, _), (2, _), (3, _), (4, _), (5, _)] hK1 ?_; refine Hd.seq fun _ hK2 => ?_
 refine sr fun _ hK3 => ?_
 refine yv y_mv <| yv (y_neq rfl rfl) ?_; refine yv y_mv ?_; apply Hd.org 3 15 18 [(0, _), (1, _), (2, _), (3, _), (4, _), (5, _)] rfl sbq
 ·intro _
  simp only [List.take]; refine n1 <| n1 <| yv (y_pickT rfl rfl) ?_; refine Hd.nil ?_; exact Hd.mq
 ·intro _
  simp only [List.take]; refine y2 y_mv <| y2 (y_neq rfl rfl) ?_; refine yv (y_pickF rfl rfl) ?_; refine Hd.nil ?_; exact Hd.mq
 simp only [List.drop]; refine fk [(0, _), (1, _), (2, _), (3, _), (4, _), (5, _), (18, _)] hK3 ?_; refine Hd.cond rfl (fun hc0 => ?_) (fun hc0 => ?_)
 ·try simp only [hyA, hyB, hyC, ne_eq] at hc0
  refine sr fun _ hK4 => ?_
  refine yv y_mv <| yv y_mv <| yv (y_eqlT rfl rfl) ?_; refine yv y_mv ?_; apply Hd.andg 3 22 25 [(1, _)] rfl sbq
  ·intro _
   simp only [List.take]; refine y2 y_mv <| y2 (y_eql rfl rfl) ?_; refine yv (y_pickT rfl rfl) ?_; refine Hd.nil ?_; exact Hd.mq
  ·intro _
   simp only [List.take]; refine n1 <| n1 <| yv (y_pickF rfl rfl) ?_; refine Hd.nil ?_; exact Hd.mq
  simp only [List.drop]; refine yv y_mv ?_; apply Hd.andg 3 26 29 [] rfl sbq
  ·intro _
   simp only [List.take]; refine y2 y_mv <| y2 (y_eql rfl rfl) ?_; refine yv (y_pickT rfl rfl) ?_; refine Hd.nil ?_; exact Hd.mq
  ·intro _
   simp only [List.take]; refine n1 <| n1 <| yv (y_pickF rfl rfl) ?_; refine Hd.nil ?_; exact Hd.mq
  simp only [List.drop]; refine yv y_as <| fk [(12, _)] hK4 ?_; refine Hd.ret <| Hd.thenRet ?_
  obtain ⟨rfl, rfl⟩ := h.no (by omega)
  exact Hd.ret1 rfl () rfl sq
 ·try simp only [hyA, hyB, hyC, ne_eq] at hc0
  obtain ⟨f, t, rfl, rfl, ht⟩ := h.yes (by omega)
  have hln : 0 < (f :: t).length := Nat.succ_pos _
  refine Hd.skip <| Hd.toK hK2 ?_; refine Hd.seq fun _ hK5 => ?_
  refine sr fun _ hK6 => ?_
  refine yv y_mv <| yv (y_len Tryz.underlying44 rfl) ?_; refine yv (y_eql rfl rfl) ?_; refine fk [(0, _), (1, _), (3, _), (4, _), (32, _)] hK6 ?_; refine Hd.cond rfl (fun hc1 => ?_) (fun hc1 => ?_)
  ·try simp only [hyA, hyB, hyC, ne_eq] at hc1
   obtain ⟨g, rfl, rfl⟩ : ∃ g, t = [g] ∧ b = ((g : Nat) : Int) := by
    rcases ht with ⟨rfl, _⟩ | h1
    ·simp at hc1
    ·exact h1
   refine sr fun _ hK7 => ?_
   refine yv y_mv <| yv y_mv <| yv (y_idxR Tryz.underlying44 sz3 rfl rfl (by exact (show (0 : Nat) < _ by omega)) (by exact hR)) ?_; refine yv (y_loadR1 ag3 rfl (by exact hR) (by rfl)) ?_; refine yv (y_eqlT rfl rfl) ?_; refine yv y_mv ?_; apply Hd.andg 6 38 44 [] rfl sbq
   ·intro hg4_38
    try simp only [hyA, hyB, hyC, ne_eq] at hg4_38
    simp only [List.take]; refine y2 y_mv <| y2 y_mv <| y2 (y_idxR Tryz.underlying44 sz3 rfl rfl (by exact (show (1 : Nat) < _ by omega)) (by exact hR)) ?_; refine y2 (y_loadR1 ag3 rfl (by exact hR) (by rfl)) ?_; refine y2 (y_eqlT rfl rfl) ?_; refine yv (y_pickT rfl rfl) ?_; refine Hd.nil ?_; exact Hd.mq
   ·intro _
    simp only [List.take]; refine n1 <| n1 <| n1 <| n1 <| n1 <| yv (y_pickF rfl rfl) ?_; refine Hd.nil ?_; exact Hd.mq
   simp only [List.drop]; refine yv y_as <| fk [(12, _)] hK7 ?_; refine Hd.ret <| Hd.thenRet ?_; exact Hd.ret1 rfl () (by rfl) sq
  ·try simp only [hyA, hyB, hyC, ne_eq] at hc1
   obtain ⟨rfl, rfl⟩ : t = [] ∧ b = wire := by
    rcases ht with h1 | ⟨g, rfl, _⟩
    ·exact h1
    ·exact absurd rfl hc1
   refine Hd.skip <| Hd.toK hK5 ?_; refine sr fun _ hK8 => ?_
   refine yv y_mv <| yv y_mv <| yv (y_idxR Tryz.underlying44 sz3 rfl rfl (by exact (show (0 : Nat) < _ by omega)) (by exact hR)) ?_; refine yv (y_loadR1 ag3 rfl (by exact hR) (by rfl)) ?_; refine yv (y_eqlT rfl rfl) ?_; refine yv y_mv ?_; apply Hd.andg 4 50 54 [] rfl sbq
   ·intro _
    simp only [List.take]; refine y2 y_mv <| y2 y_mv <| y2 (y_eqlT rfl rfl) ?_; refine yv (y_pickT rfl rfl) ?_; refine Hd.nil ?_; exact Hd.mq
   ·intro _
    simp only [List.take]; refine n1 <| n1 <| n1 <| yv (y_pickF rfl rfl) ?_; refine Hd.nil ?_; exact Hd.mq
   simp only [List.drop]; refine yv y_as <| fk [(12, _)] hK8 ?_; refine Hd.ret ?_; exact Hd.ret1 rfl () (by rfl) sq
theorem do_ct (L : List SP) (pb wb rb : Nat) (w : WA) (K : Nat) (hK : K ≤ 100000000) (hl : Lo K w) (o : Ov) (ht : InK .u64 o.t) (hd : o.d.length ≤ 300) (hR : RdS L 1 o.ad o.d.length (bsl o.d)) (hc : o.d.length ≤ o.c) : Ct Tryz.prog 17 #[.pointer (some ⟨pb, 0, none⟩), .agg (encO o).toArray] (BoP pb wb rb :: WorldP wb w :: Rf.RwP rb w :: L) (fun _ : Unit => .bool true) (fun _ : Unit => BoP pb wb rb :: WorldP wb (doA w o) :: Rf.RwP rb (doA w o) :: L) := by
 refine Ct.o2 Tryz.func17 ?_; intro E
 show Hd E 289 _ _ _ _
 have ht0 := ht
 simp only [InK] at ht
 have hnow := hl.now
 refine Hd.wokW (.there .here) (fun hw => ?_); refine sr fun _ hK1 => ?_
 refine Hd.box rfl rfl (fun b3 => ?_); refine yv y_as <| fk [(0, _), (3, _)] hK1 ?_; refine sr fun _ hK2 => ?_
 refine Hd.bslice (vs := []) rfl (by exact bs17_31 ..) (fun b31 => ?_); refine Hd.ownNil 5 1 (some ⟨b31, 0, none⟩) ?_; refine yv (y_f 4 31 Tryz.underlying33 sz31) ?_; refine yv (y_l1 ag31 rfl) ?_; refine Hd.append Tryz.underlying31 ty5 rfl rfl rfl pkk (by exact RdS.mono hR sq) (by simp [Value.oneCell']; done) (by simp only [maxLen]; omega) (by omega) (fun ad34 cap34 => ?_); refine yv y_as <| Hd.nil ?_; rw [Nat.zero_add, List.nil_append]; refine sk [(0, _), (3, _), (5, _)] hK2 ?_; refine Hd.seq fun _ hK3 => ?_
 refine Hd.ownCap (ad := ad34) (us := bsl o.d) pkk (fun hcap => ?_); refine Hd.region <| yv y_as <| fk [(0, _), (3, _), (5, _)] hK3 ?_; refine Hd.cutK (ι := Unit) [(5, _)] (fun _ => [(6, .bool true)]) (fun _ => own 5 1 ad34 o.d.length cap34 (bsl o.d) :: BoP pb wb rb :: WorldP wb (doA w o) :: Rf.RwP rb (doA w o) :: L) ?_ ?_ ⟨rfl, trivial⟩
 ·refine sr fun _ hK4 => ?_
  refine yv (y_f 0 3 Tryz.underlying33 sz3) ?_; refine yv (y_l1 ag3 rfl) ?_; refine fk [(0, _), (3, _), (5, _), (36, _)] hK4 ?_; refine Hd.block <| Hd.seq fun _ hK5 => ?_
  refine sr fun _ hK6 => ?_
  refine yv (y_eql rfl rfl) ?_; refine yv y_as <| fk [(0, _), (3, _), (5, _), (36, _), (41, _)] hK6 ?_; refine Hd.cond rfl (fun hc0 => ?_) (fun hc0 => ?_)
  ·try simp only [hyA, hyB, hyC, ne_eq] at hc0
   rw [decide_eq_true hc0]; refine Hd.skip <| Hd.toK hK5 ?_; refine Hd.condT rfl ?_; refine sr fun _ hK7 => ?_
   refine yv y_as <| yv y_as <| fk [(0, _), (3, _), (5, _)] hK7 ?_; refine sr fun _ hK8 => ?_
   refine yv y_as <| fk [(0, _), (3, _), (5, _)] hK8 ?_; refine Hd.seq fun _ hK9 => ?_
   refine sr fun _ hK10 => ?_
   refine yv (y_f 0 3 Tryz.underlying33 sz3) ?_; refine yv (y_l1 ag3 rfl) ?_; refine fk [(0, _), (3, _), (5, _), (47, _)] hK10 ?_; refine Hd.block <| sr fun _ hK11 => ?_
   refine yv (y_eql rfl rfl) ?_; refine yv y_as <| fk [(0, _), (3, _), (5, _), (47, _), (59, _)] hK11 ?_; refine Hd.cond rfl (fun hc4 => ?_) (fun hc4 => ?_)
   ·try simp only [hyA, hyB, hyC, ne_eq] at hc4
    refine Hd.drawsH ([BoP pb wb rb, pt b3 (encO o) 33]) (fun _ => true) mixed ?_; simp only [List.length, Nat.zero_add, Nat.reduceAdd]; refine tH 0 rfl y_mv ?_; refine tH 1 rfl y_np ?_; refine tH 2 rfl (y_f 0 38 Tryz.underlying41 sz38) ?_; refine tH 3 rfl (y_l1 ag38 rfl) ?_; refine tH 4 rfl (y_f 2 3 Tryz.underlying33 sz3) ?_; refine tH 5 rfl (y_l1 ag3 rfl) ?_; refine onlyH 6 rfl kq ?_; refine callE rfl fk54 (wmk0_ct _ wb w o.k o.n (by omega)) sq ?_; intro _; refine Hd.nil <| thenN <| heldK (J := (fun _ => true)) (i := 6) sq ?_; refine tH 7 rfl y_mv ?_; refine tH 8 rfl y_ex ?_; refine tH 9 rfl y_ex ?_; refine tH 10 rfl y_ex ?_; refine tH 11 rfl y_as ?_; refine tH 12 rfl y_as ?_; refine tH 13 rfl y_as ?_; refine endH kq ?_; refine slots [(0, _), (3, _), (5, _), (7, _), (8, _), (9, _)] sbq ?_; refine Hd.inB <| Hd.toK hK9 ?_; refine Hd.seq fun _ hK12 => ?_
    refine Hd.drawsH ([BoP pb wb rb, pt b3 (encO o) 33]) (fun _ => true) mixed ?_; simp only [List.length, Nat.zero_add, Nat.reduceAdd]; refine tH 0 rfl y_mv ?_; refine tH 1 rfl y_np ?_; refine tH 2 rfl (y_f 1 39 Tryz.underlying41 sz39) ?_; refine tH 3 rfl (y_l1 ag39 rfl) ?_; refine tH 4 rfl (y_f 0 3 Tryz.underlying33 sz3) ?_; refine tH 5 rfl (y_l1 ag3 rfl) ?_; refine tH 6 rfl (y_f 2 3 Tryz.underlying33 sz3) ?_; refine tH 7 rfl (y_l1 ag3 rfl) ?_; refine onlyH 8 rfl kq ?_; refine callE rfl fk57 (Rf.rMake_ct _ rb w hw o.k o.n (by omega)) sq ?_; rintro ⟨ma, mc⟩; dsimp only; refine Hd.nil <| thenN <| heldK (J := (fun _ => true)) (i := 8) sq ?_; refine tH 9 rfl y_mv ?_; refine tH 10 rfl y_ex ?_; refine tH 11 rfl y_ex ?_; refine tH 12 rfl y_as ?_; refine tH 13 rfl y_as ?_; refine endH kq ?_; refine sk [(0, _), (5, _), (7, _), (8, _), (9, _), (10, _), (11, _)] hK12 ?_; refine Hd.wokW (wb := wb) (w := makeR w o.k o.n) pkk (fun hw2 => ?_)
    refine Rf.Hd.rw (b := rb) (w := makeR w o.k o.n) pkk (fun i hi => ?_)
    have hrl := Rf.rows_n hi
    have hlen := hw2.len
    refine Hd.region <| yv y_mv <| yv y_mv <| yv y_mv <| yv y_mv <| yv y_mv <| yv y_np <| yv (y_f 1 39 Tryz.underlying41 sz39) ?_; refine yv (y_l1 ag39 rfl) ?_; refine yv y_np <| yv (y_f 0 129 Tryz.underlying133 sz129) ?_; refine yv (y_l1 ag129 rfl) ?_; refine yv (y_len Tryz.underlying129 rfl) ?_; refine yv (y_to (v' := .int .i64 (((makeR w o.k o.n).ws.length : Nat) - 1)) (y_subn rfl rfl (by simp only [InK]; omega)) (by (congr 1; omega))) ?_; refine yv y_mv <| callE rfl fk58 (made_ct _ _ _ _ _ _ ma mc ?hD (made_ok w (k := o.k) (by omega) o.n)) sq ?_
    case hD => exact RdS.own pkk
    intro _; refine yv y_as <| Hd.nil <| slots [(5, _), (6, _)] sbq ?_; refine Hd.inB <| thenN ?_; rw [do_mk ⟨by omega, by omega⟩]; exact Hd.meet () sbq (Ent.sep (.pick pkk (.pick pkk (.pick pkk (.ex i (.pure hi enn))))))
   ·try simp only [hyA, hyB, hyC, ne_eq] at hc4
    exact absurd hc0 hc4
  ·try simp only [hyA, hyB, hyC, ne_eq] at hc0
   refine sr fun _ hK13 => ?_
   refine yv (y_eql rfl rfl) ?_; refine yv y_as <| fk [(0, _), (3, _), (5, _), (36, _), (41, _)] hK13 ?_; refine Hd.cond rfl (fun hc1 => ?_) (fun hc1 => ?_)
   ·try simp only [hyA, hyB, hyC, ne_eq] at hc1
    rw [decide_eq_true hc1]; refine Hd.skip <| Hd.toK hK5 ?_; refine Hd.condT rfl ?_; refine sr fun _ hK14 => ?_
    refine yv y_as <| yv y_as <| fk [(0, _), (3, _), (5, _)] hK14 ?_; refine sr fun _ hK15 => ?_
    refine yv y_as <| fk [(0, _), (3, _), (5, _)] hK15 ?_; refine Hd.seq fun _ hK16 => ?_
    refine sr fun _ hK17 => ?_
    refine yv (y_f 0 3 Tryz.underlying33 sz3) ?_; refine yv (y_l1 ag3 rfl) ?_; refine fk [(0, _), (3, _), (5, _), (47, _)] hK17 ?_; refine Hd.block <| sr fun _ hK18 => ?_
    refine yv (y_eql rfl rfl) ?_; refine yv y_as <| fk [(0, _), (3, _), (5, _), (47, _), (59, _)] hK18 ?_; refine Hd.cond rfl (fun hc4 => ?_) (fun hc4 => ?_)
    ·try simp only [hyA, hyB, hyC, ne_eq] at hc4
     exact absurd (hc4.symm.trans hc1) (by decide)
    ·try simp only [hyA, hyB, hyC, ne_eq] at hc4
     refine sr fun _ hK19 => ?_
     refine yv (y_eql rfl rfl) ?_; refine yv y_as <| fk [(0, _), (3, _), (5, _), (47, _), (72, _)] hK19 ?_; refine Hd.cond rfl (fun hc5 => ?_) (fun hc5 => ?_)
     ·try simp only [hyA, hyB, hyC, ne_eq] at hc5
      refine Hd.drawsH ([BoP pb wb rb, pt b3 (encO o) 33]) (fun _ => true) mixed ?_; simp only [List.length, Nat.zero_add, Nat.reduceAdd]; refine tH 0 rfl y_mv ?_; refine tH 1 rfl y_np ?_; refine tH 2 rfl (y_f 0 38 Tryz.underlying41 sz38) ?_; refine tH 3 rfl (y_l1 ag38 rfl) ?_; refine tH 4 rfl (y_f 2 3 Tryz.underlying33 sz3) ?_; refine tH 5 rfl (y_l1 ag3 rfl) ?_; refine onlyH 6 rfl kq ?_; refine callE rfl fk55 (wmk1_ct _ wb w o.k o.n (by omega)) sq ?_; intro _; refine Hd.nil <| thenN <| heldK (J := (fun _ => true)) (i := 6) sq ?_; refine tH 7 rfl y_mv ?_; refine tH 8 rfl y_ex ?_; refine tH 9 rfl y_ex ?_; refine tH 10 rfl y_ex ?_; refine tH 11 rfl y_as ?_; refine tH 12 rfl y_as ?_; refine tH 13 rfl y_as ?_; refine endH kq ?_; refine slots [(0, _), (3, _), (5, _), (7, _), (8, _), (9, _)] sbq ?_; refine Hd.inB <| Hd.toK hK16 ?_; refine Hd.seq fun _ hK20 => ?_
      refine Hd.drawsH ([BoP pb wb rb, pt b3 (encO o) 33]) (fun _ => true) mixed ?_; simp only [List.length, Nat.zero_add, Nat.reduceAdd]; refine tH 0 rfl y_mv ?_; refine tH 1 rfl y_np ?_; refine tH 2 rfl (y_f 1 39 Tryz.underlying41 sz39) ?_; refine tH 3 rfl (y_l1 ag39 rfl) ?_; refine tH 4 rfl (y_f 0 3 Tryz.underlying33 sz3) ?_; refine tH 5 rfl (y_l1 ag3 rfl) ?_; refine tH 6 rfl (y_f 2 3 Tryz.underlying33 sz3) ?_; refine tH 7 rfl (y_l1 ag3 rfl) ?_; refine onlyH 8 rfl kq ?_; refine callE rfl fk57 (Rf.rMake_ct _ rb w hw o.k o.n (by omega)) sq ?_; rintro ⟨ma, mc⟩; dsimp only; refine Hd.nil <| thenN <| heldK (J := (fun _ => true)) (i := 8) sq ?_; refine tH 9 rfl y_mv ?_; refine tH 10 rfl y_ex ?_; refine tH 11 rfl y_ex ?_; refine tH 12 rfl y_as ?_; refine tH 13 rfl y_as ?_; refine endH kq ?_; refine sk [(0, _), (5, _), (7, _), (8, _), (9, _), (10, _), (11, _)] hK20 ?_; refine Hd.wokW (wb := wb) (w := makeR w o.k o.n) pkk (fun hw2 => ?_)
      refine Rf.Hd.rw (b := rb) (w := makeR w o.k o.n) pkk (fun i hi => ?_)
      have hrl := Rf.rows_n hi
      have hlen := hw2.len
      refine Hd.region <| yv y_mv <| yv y_mv <| yv y_mv <| yv y_mv <| yv y_mv <| yv y_np <| yv (y_f 1 39 Tryz.underlying41 sz39) ?_; refine yv (y_l1 ag39 rfl) ?_; refine yv y_np <| yv (y_f 0 129 Tryz.underlying133 sz129) ?_; refine yv (y_l1 ag129 rfl) ?_; refine yv (y_len Tryz.underlying129 rfl) ?_; refine yv (y_to (v' := .int .i64 (((makeR w o.k o.n).ws.length : Nat) - 1)) (y_subn rfl rfl (by simp only [InK]; omega)) (by (congr 1; omega))) ?_; refine yv y_mv <| callE rfl fk58 (made_ct _ _ _ _ _ _ ma mc ?hD (made_ok w (k := o.k) (by omega) o.n)) sq ?_
      case hD => exact RdS.own pkk
      intro _; refine yv y_as <| Hd.nil <| slots [(5, _), (6, _)] sbq ?_; refine Hd.inB <| thenN ?_; rw [do_mk ⟨by omega, by omega⟩]; exact Hd.meet () sbq (Ent.sep (.pick pkk (.pick pkk (.pick pkk (.ex i (.pure hi enn))))))
     ·try simp only [hyA, hyB, hyC, ne_eq] at hc5
      exact absurd hc1 hc5
   ·try simp only [hyA, hyB, hyC, ne_eq] at hc1
    refine sr fun _ hK21 => ?_
    refine yv (y_eql rfl rfl) ?_; refine yv y_as <| fk [(0, _), (3, _), (5, _), (36, _), (41, _)] hK21 ?_; refine Hd.cond rfl (fun hc2 => ?_) (fun hc2 => ?_)
    ·try simp only [hyA, hyB, hyC, ne_eq] at hc2
     rw [decide_eq_true hc2]; refine Hd.skip <| Hd.toK hK5 ?_; refine Hd.condT rfl ?_; refine sr fun _ hK22 => ?_
     refine yv y_as <| yv y_as <| fk [(0, _), (3, _), (5, _)] hK22 ?_; refine sr fun _ hK23 => ?_
     refine yv y_as <| fk [(0, _), (3, _), (5, _)] hK23 ?_; refine Hd.seq fun _ hK24 => ?_
     refine sr fun _ hK25 => ?_
     refine yv (y_f 0 3 Tryz.underlying33 sz3) ?_; refine yv (y_l1 ag3 rfl) ?_; refine fk [(0, _), (3, _), (5, _), (47, _)] hK25 ?_; refine Hd.block <| sr fun _ hK26 => ?_
     refine yv (y_eql rfl rfl) ?_; refine yv y_as <| fk [(0, _), (3, _), (5, _), (47, _), (59, _)] hK26 ?_; refine Hd.cond rfl (fun hc4 => ?_) (fun hc4 => ?_)
     ·try simp only [hyA, hyB, hyC, ne_eq] at hc4
      exact absurd (hc4.symm.trans hc2) (by decide)
     ·try simp only [hyA, hyB, hyC, ne_eq] at hc4
      refine sr fun _ hK27 => ?_
      refine yv (y_eql rfl rfl) ?_; refine yv y_as <| fk [(0, _), (3, _), (5, _), (47, _), (72, _)] hK27 ?_; refine Hd.cond rfl (fun hc5 => ?_) (fun hc5 => ?_)
      ·try simp only [hyA, hyB, hyC, ne_eq] at hc5
       exact absurd (hc5.symm.trans hc2) (by decide)
      ·try simp only [hyA, hyB, hyC, ne_eq] at hc5
       refine sr fun _ hK28 => ?_
       refine yv (y_eql rfl rfl) ?_; refine yv y_as <| fk [(0, _), (3, _), (5, _), (85, _)] hK28 ?_; refine Hd.cond rfl (fun hc6 => ?_) (fun hc6 => ?_)
       ·try simp only [hyA, hyB, hyC, ne_eq] at hc6
        refine Hd.drawsH ([BoP pb wb rb, pt b3 (encO o) 33]) (fun _ => true) mixed ?_; simp only [List.length, Nat.zero_add, Nat.reduceAdd]; refine tH 0 rfl y_mv ?_; refine tH 1 rfl y_np ?_; refine tH 2 rfl (y_f 0 38 Tryz.underlying41 sz38) ?_; refine tH 3 rfl (y_l1 ag38 rfl) ?_; refine tH 4 rfl (y_f 2 3 Tryz.underlying33 sz3) ?_; refine tH 5 rfl (y_l1 ag3 rfl) ?_; refine onlyH 6 rfl kq ?_; refine callE rfl fk50 (wmk2_ct _ wb w o.k o.n (by omega)) sq ?_; intro _; refine Hd.nil <| thenN <| heldK (J := (fun _ => true)) (i := 6) sq ?_; refine tH 7 rfl y_mv ?_; refine tH 8 rfl y_ex ?_; refine tH 9 rfl y_ex ?_; refine tH 10 rfl y_ex ?_; refine tH 11 rfl y_as ?_; refine tH 12 rfl y_as ?_; refine tH 13 rfl y_as ?_; refine endH kq ?_; refine slots [(0, _), (3, _), (5, _), (7, _), (8, _), (9, _)] sbq ?_; refine Hd.inB <| Hd.toK hK24 ?_; refine Hd.seq fun _ hK29 => ?_
        refine Hd.drawsH ([BoP pb wb rb, pt b3 (encO o) 33]) (fun _ => true) mixed ?_; simp only [List.length, Nat.zero_add, Nat.reduceAdd]; refine tH 0 rfl y_mv ?_; refine tH 1 rfl y_np ?_; refine tH 2 rfl (y_f 1 39 Tryz.underlying41 sz39) ?_; refine tH 3 rfl (y_l1 ag39 rfl) ?_; refine tH 4 rfl (y_f 0 3 Tryz.underlying33 sz3) ?_; refine tH 5 rfl (y_l1 ag3 rfl) ?_; refine tH 6 rfl (y_f 2 3 Tryz.underlying33 sz3) ?_; refine tH 7 rfl (y_l1 ag3 rfl) ?_; refine onlyH 8 rfl kq ?_; refine callE rfl fk57 (Rf.rMake_ct _ rb w hw o.k o.n (by omega)) sq ?_; rintro ⟨ma, mc⟩; dsimp only; refine Hd.nil <| thenN <| heldK (J := (fun _ => true)) (i := 8) sq ?_; refine tH 9 rfl y_mv ?_; refine tH 10 rfl y_ex ?_; refine tH 11 rfl y_ex ?_; refine tH 12 rfl y_as ?_; refine tH 13 rfl y_as ?_; refine endH kq ?_; refine sk [(0, _), (5, _), (7, _), (8, _), (9, _), (10, _), (11, _)] hK29 ?_; refine Hd.wokW (wb := wb) (w := makeR w o.k o.n) pkk (fun hw2 => ?_)
        refine Rf.Hd.rw (b := rb) (w := makeR w o.k o.n) pkk (fun i hi => ?_)
        have hrl := Rf.rows_n hi
        have hlen := hw2.len
        refine Hd.region <| yv y_mv <| yv y_mv <| yv y_mv <| yv y_mv <| yv y_mv <| yv y_np <| yv (y_f 1 39 Tryz.underlying41 sz39) ?_; refine yv (y_l1 ag39 rfl) ?_; refine yv y_np <| yv (y_f 0 129 Tryz.underlying133 sz129) ?_; refine yv (y_l1 ag129 rfl) ?_; refine yv (y_len Tryz.underlying129 rfl) ?_; refine yv (y_to (v' := .int .i64 (((makeR w o.k o.n).ws.length : Nat) - 1)) (y_subn rfl rfl (by simp only [InK]; omega)) (by (congr 1; omega))) ?_; refine yv y_mv <| callE rfl fk58 (made_ct _ _ _ _ _ _ ma mc ?hD (made_ok w (k := o.k) (by omega) o.n)) sq ?_
        case hD => exact RdS.own pkk
        intro _; refine yv y_as <| Hd.nil <| slots [(5, _), (6, _)] sbq ?_; refine Hd.inB <| thenN ?_; rw [do_mk ⟨by omega, by omega⟩]; exact Hd.meet () sbq (Ent.sep (.pick pkk (.pick pkk (.pick pkk (.ex i (.pure hi enn))))))
       ·try simp only [hyA, hyB, hyC, ne_eq] at hc6
        exact absurd hc2 hc6
    ·try simp only [hyA, hyB, hyC, ne_eq] at hc2
     refine Hd.region <| yv (y_eql rfl rfl) ?_; refine yv y_as <| fk [(0, _), (3, _), (5, _), (36, _), (41, _)] hK5 ?_; refine Hd.cond rfl (fun hc3 => ?_) (fun hc3 => ?_)
     ·try simp only [hyA, hyB, hyC, ne_eq] at hc3
      refine sr fun _ hK30 => ?_
      refine yv y_as <| yv y_as <| fk [(0, _), (3, _), (5, _)] hK30 ?_; refine sr fun _ hK31 => ?_
      refine yv y_as <| fk [(0, _), (3, _), (5, _)] hK31 ?_; refine Hd.seq fun _ hK32 => ?_
      refine sr fun _ hK33 => ?_
      refine yv (y_f 0 3 Tryz.underlying33 sz3) ?_; refine yv (y_l1 ag3 rfl) ?_; refine fk [(0, _), (3, _), (5, _), (47, _)] hK33 ?_; refine Hd.block <| sr fun _ hK34 => ?_
      refine yv (y_eql rfl rfl) ?_; refine yv y_as <| fk [(0, _), (3, _), (5, _), (47, _), (59, _)] hK34 ?_; refine Hd.cond rfl (fun hc4 => ?_) (fun hc4 => ?_)
      ·try simp only [hyA, hyB, hyC, ne_eq] at hc4
       exact absurd (hc4.symm.trans hc3) (by decide)
      ·try simp only [hyA, hyB, hyC, ne_eq] at hc4
       refine sr fun _ hK35 => ?_
       refine yv (y_eql rfl rfl) ?_; refine yv y_as <| fk [(0, _), (3, _), (5, _), (47, _), (72, _)] hK35 ?_; refine Hd.cond rfl (fun hc5 => ?_) (fun hc5 => ?_)
       ·try simp only [hyA, hyB, hyC, ne_eq] at hc5
        exact absurd (hc5.symm.trans hc3) (by decide)
       ·try simp only [hyA, hyB, hyC, ne_eq] at hc5
        refine sr fun _ hK36 => ?_
        refine yv (y_eql rfl rfl) ?_; refine yv y_as <| fk [(0, _), (3, _), (5, _), (85, _)] hK36 ?_; refine Hd.cond rfl (fun hc6 => ?_) (fun hc6 => ?_)
        ·try simp only [hyA, hyB, hyC, ne_eq] at hc6
         exact absurd (hc6.symm.trans hc3) (by decide)
        ·try simp only [hyA, hyB, hyC, ne_eq] at hc6
         refine Hd.drawsH ([BoP pb wb rb, pt b3 (encO o) 33]) (fun _ => true) mixed ?_; simp only [List.length, Nat.zero_add, Nat.reduceAdd]; refine tH 0 rfl y_mv ?_; refine tH 1 rfl y_np ?_; refine tH 2 rfl (y_f 0 38 Tryz.underlying41 sz38) ?_; refine tH 3 rfl (y_l1 ag38 rfl) ?_; refine tH 4 rfl (y_f 2 3 Tryz.underlying33 sz3) ?_; refine tH 5 rfl (y_l1 ag3 rfl) ?_; refine onlyH 6 rfl kq ?_; refine callE rfl fk56 (wmk3_ct _ wb w o.k o.n (by omega)) sq ?_; intro _; refine Hd.nil <| thenN <| heldK (J := (fun _ => true)) (i := 6) sq ?_; refine tH 7 rfl y_mv ?_; refine tH 8 rfl y_ex ?_; refine tH 9 rfl y_ex ?_; refine tH 10 rfl y_ex ?_; refine tH 11 rfl y_as ?_; refine tH 12 rfl y_as ?_; refine tH 13 rfl y_as ?_; refine endH kq ?_; refine slots [(0, _), (3, _), (5, _), (7, _), (8, _), (9, _)] sbq ?_; refine Hd.inB <| Hd.toK hK32 ?_; refine Hd.seq fun _ hK37 => ?_
         refine Hd.drawsH ([BoP pb wb rb, pt b3 (encO o) 33]) (fun _ => true) mixed ?_; simp only [List.length, Nat.zero_add, Nat.reduceAdd]; refine tH 0 rfl y_mv ?_; refine tH 1 rfl y_np ?_; refine tH 2 rfl (y_f 1 39 Tryz.underlying41 sz39) ?_; refine tH 3 rfl (y_l1 ag39 rfl) ?_; refine tH 4 rfl (y_f 0 3 Tryz.underlying33 sz3) ?_; refine tH 5 rfl (y_l1 ag3 rfl) ?_; refine tH 6 rfl (y_f 2 3 Tryz.underlying33 sz3) ?_; refine tH 7 rfl (y_l1 ag3 rfl) ?_; refine onlyH 8 rfl kq ?_; refine callE rfl fk57 (Rf.rMake_ct _ rb w hw o.k o.n (by omega)) sq ?_; rintro ⟨ma, mc⟩; dsimp only; refine Hd.nil <| thenN <| heldK (J := (fun _ => true)) (i := 8) sq ?_; refine tH 9 rfl y_mv ?_; refine tH 10 rfl y_ex ?_; refine tH 11 rfl y_ex ?_; refine tH 12 rfl y_as ?_; refine tH 13 rfl y_as ?_; refine endH kq ?_; refine sk [(0, _), (5, _), (7, _), (8, _), (9, _), (10, _), (11, _)] hK37 ?_; refine Hd.wokW (wb := wb) (w := makeR w o.k o.n) pkk (fun hw2 => ?_)
         refine Rf.Hd.rw (b := rb) (w := makeR w o.k o.n) pkk (fun i hi => ?_)
         have hrl := Rf.rows_n hi
         have hlen := hw2.len
         refine Hd.region <| yv y_mv <| yv y_mv <| yv y_mv <| yv y_mv <| yv y_mv <| yv y_np <| yv (y_f 1 39 Tryz.underlying41 sz39) ?_; refine yv (y_l1 ag39 rfl) ?_; refine yv y_np <| yv (y_f 0 129 Tryz.underlying133 sz129) ?_; refine yv (y_l1 ag129 rfl) ?_; refine yv (y_len Tryz.underlying129 rfl) ?_; refine yv (y_to (v' := .int .i64 (((makeR w o.k o.n).ws.length : Nat) - 1)) (y_subn rfl rfl (by simp only [InK]; omega)) (by (congr 1; omega))) ?_; refine yv y_mv <| callE rfl fk58 (made_ct _ _ _ _ _ _ ma mc ?hD (made_ok w (k := o.k) (by omega) o.n)) sq ?_
         case hD => exact RdS.own pkk
         intro _; refine yv y_as <| Hd.nil <| slots [(5, _), (6, _)] sbq ?_; refine Hd.inB <| thenN ?_; rw [do_mk ⟨by omega, by omega⟩]; exact Hd.meet () sbq (Ent.sep (.pick pkk (.pick pkk (.pick pkk (.ex i (.pure hi enn))))))
     ·try simp only [hyA, hyB, hyC, ne_eq] at hc3
      refine sr fun _ hK38 => ?_
      refine yv (y_eql rfl rfl) ?_; refine yv y_as <| fk [(0, _), (3, _), (5, _), (36, _), (125, _)] hK38 ?_; refine Hd.cond rfl (fun hc7 => ?_) (fun hc7 => ?_)
      ·try simp only [hyA, hyB, hyC, ne_eq] at hc7
       refine Hd.seq fun _ hK39 => ?_
       refine Hd.drawsH ([BoP pb wb rb, pt b3 (encO o) 33]) (fun _ => true) mixed ?_; simp only [List.length, Nat.zero_add, Nat.reduceAdd]; refine tH 0 rfl y_mv ?_; refine tH 1 rfl y_np ?_; refine tH 2 rfl (y_f 0 38 Tryz.underlying41 sz38) ?_; refine tH 3 rfl (y_l1 ag38 rfl) ?_; refine tH 4 rfl (y_f 1 3 Tryz.underlying33 sz3) ?_; refine tH 5 rfl (y_l1 ag3 rfl) ?_; refine onlyH 6 rfl kq ?_; refine callE rfl fk59 (waccept_ct _ wb w o.a) sq ?_; intro _; refine Hd.nil <| thenN <| heldK (J := (fun _ => true)) (i := 6) sq ?_; refine tH 7 rfl y_mv ?_; refine tH 8 rfl y_ex ?_; refine tH 9 rfl y_ex ?_; refine tH 10 rfl y_ex ?_; refine tH 11 rfl y_as ?_; refine tH 12 rfl y_as ?_; refine tH 13 rfl y_as ?_; refine endH kq ?_; refine sk [(0, _), (3, _), (5, _), (12, _), (13, _), (14, _)] hK39 ?_; refine Hd.seq fun _ hK40 => ?_
       refine Hd.drawsH ([BoP pb wb rb, pt b3 (encO o) 33]) (fun _ => true) mixed ?_; simp only [List.length, Nat.zero_add, Nat.reduceAdd]; refine tH 0 rfl y_mv ?_; refine tH 1 rfl y_np ?_; refine tH 2 rfl (y_f 1 39 Tryz.underlying41 sz39) ?_; refine tH 3 rfl (y_l1 ag39 rfl) ?_; refine tH 4 rfl (y_f 1 3 Tryz.underlying33 sz3) ?_; refine tH 5 rfl (y_l1 ag3 rfl) ?_; refine onlyH 6 rfl kq ?_; refine callE rfl fk60 (Rf.rAccept_ct _ rb w hw o.a) sq ?_; intro _; refine Hd.nil <| thenN <| heldK (J := (fun _ => true)) (i := 6) sq ?_; refine tH 7 rfl y_mv ?_; refine tH 8 rfl y_ex ?_; refine tH 9 rfl y_ex ?_; refine tH 10 rfl y_ex ?_; refine tH 11 rfl y_as ?_; refine tH 12 rfl y_as ?_; refine tH 13 rfl y_as ?_; refine endH kq ?_; refine sk [(5, _), (12, _), (13, _), (14, _), (15, _), (16, _), (17, _)] hK40 ?_; refine Hd.region <| yv y_mv <| yv y_mv <| yv (y_eqlT rfl rfl) ?_
       refine yv y_mv ?_; apply Hd.andg 4 152 156 [(5, _), (14, _), (17, _)] rfl sbq
       ·intro _
        simp only [List.take]; refine y2 y_mv <| y2 y_mv <| y2 (y_eqlT rfl rfl) ?_; refine yv (y_pickT rfl rfl) ?_; refine Hd.nil ?_; exact Hd.mq
       ·intro _
        simp only [List.take]; refine n1 <| n1 <| n1 <| yv (y_pickF rfl rfl) ?_; refine Hd.nil ?_; exact Hd.mq
       simp only [List.drop]; refine yv y_mv ?_; apply Hd.andg 4 157 161 [(5, _)] rfl sbq
       ·intro _
        simp only [List.take]; refine y2 y_mv <| y2 y_mv <| y2 (y_eqlT rfl rfl) ?_; refine yv (y_pickT rfl rfl) ?_; refine Hd.nil ?_; exact Hd.mq
       ·intro _
        simp only [List.take]; refine n1 <| n1 <| n1 <| yv (y_pickF rfl rfl) ?_; refine Hd.nil ?_; exact Hd.mq
       simp only [List.drop]; refine yv y_as <| Hd.nil <| slots [(5, _), (6, _)] sbq ?_; refine Hd.inB <| thenN ?_; rw [do_4 hc7]; exact Hd.meet () (by (repeat (first | exact trivial | refine ⟨rfl, ?_⟩)); done) sq
      ·try simp only [hyA, hyB, hyC, ne_eq] at hc7
       refine sr fun _ hK41 => ?_
       refine yv (y_eql rfl rfl) ?_; refine yv y_as <| fk [(0, _), (3, _), (5, _), (36, _), (162, _)] hK41 ?_; refine Hd.cond rfl (fun hc8 => ?_) (fun hc8 => ?_)
       ·try simp only [hyA, hyB, hyC, ne_eq] at hc8
        refine Hd.seq fun _ hK42 => ?_
        refine Hd.drawsH ([BoP pb wb rb, pt b3 (encO o) 33]) (fun _ => true) mixed ?_; simp only [List.length, Nat.zero_add, Nat.reduceAdd]; refine tH 0 rfl y_mv ?_; refine tH 1 rfl y_np ?_; refine tH 2 rfl (y_f 0 38 Tryz.underlying41 sz38) ?_; refine tH 3 rfl (y_l1 ag38 rfl) ?_; refine tH 4 rfl (y_f 1 3 Tryz.underlying33 sz3) ?_; refine tH 5 rfl (y_l1 ag3 rfl) ?_; refine tH 6 rfl (y_f 2 3 Tryz.underlying33 sz3) ?_; refine tH 7 rfl (y_l1 ag3 rfl) ?_; refine onlyH 8 rfl kq ?_; refine callE rfl fk61 (wread_ct _ wb w o.a o.n) sq ?_; rintro ⟨ta, tc⟩; dsimp only; refine Hd.nil <| thenN <| heldK (J := (fun _ => true)) (i := 8) sq ?_; refine tH 9 rfl y_mv ?_; refine tH 10 rfl y_ex ?_; refine tH 11 rfl y_ex ?_; refine tH 12 rfl y_ex ?_; refine tH 13 rfl y_as ?_; refine tH 14 rfl y_as ?_; refine tH 15 rfl y_as ?_; refine endH kq ?_; refine sk [(0, _), (3, _), (5, _), (18, _), (19, _), (20, _)] hK42 ?_
        refine Hd.seq fun _ hK43 => ?_
        refine Hd.drawsH ([BoP pb wb rb, pt b3 (encO o) 33]) (fun _ => true) mixed ?_; simp only [List.length, Nat.zero_add, Nat.reduceAdd]; refine tH 0 rfl y_mv ?_; refine tH 1 rfl y_np ?_; refine tH 2 rfl (y_f 1 39 Tryz.underlying41 sz39) ?_; refine tH 3 rfl (y_l1 ag39 rfl) ?_; refine tH 4 rfl (y_f 1 3 Tryz.underlying33 sz3) ?_; refine tH 5 rfl (y_l1 ag3 rfl) ?_; refine tH 6 rfl (y_f 2 3 Tryz.underlying33 sz3) ?_; refine tH 7 rfl (y_l1 ag3 rfl) ?_; refine onlyH 8 rfl kq ?_; refine callE rfl fk62 (Rf.rRead_ct _ rb w hw o.a o.n) sq ?_; rintro ⟨ua, uc⟩; dsimp only; refine Hd.nil <| thenN <| heldK (J := (fun _ => true)) (i := 8) sq ?_; refine tH 9 rfl y_mv ?_; refine tH 10 rfl y_ex ?_; refine tH 11 rfl y_ex ?_; refine tH 12 rfl y_ex ?_; refine tH 13 rfl y_as ?_; refine tH 14 rfl y_as ?_; refine tH 15 rfl y_as ?_; refine endH kq ?_; refine sk [(5, _), (18, _), (19, _), (20, _), (21, _), (22, _), (23, _)] hK43 ?_
        refine Hd.region <| yv y_mv <| yv (y_strOf (l := _) kq Tryz.underlying9 rfl (by exact RdS.own pkk)) ?_; refine yv y_mv <| yv (y_strOf (l := _) kq Tryz.underlying9 rfl (by exact RdS.own pkk)) ?_; refine yv (y_eqlstr rfl rfl) ?_; refine yv y_mv ?_; apply Hd.andg 4 195 199 [(5, _), (20, _), (23, _)] rfl sbq
        ·intro _
         simp only [List.take]; refine y2 y_mv <| y2 y_mv <| y2 (y_eqlb Tryz.underlying4 rfl rfl) ?_; refine yv (y_pickT rfl rfl) ?_; refine Hd.nil ?_; exact Hd.mq
        ·intro _
         simp only [List.take]; refine n1 <| n1 <| n1 <| yv (y_pickF rfl rfl) ?_; refine Hd.nil ?_; exact Hd.mq
        simp only [List.drop]; refine yv y_mv ?_; apply Hd.andg 4 200 204 [(5, _)] rfl sbq
        ·intro _
         simp only [List.take]; refine y2 y_mv <| y2 y_mv <| y2 (y_eqlT rfl rfl) ?_; refine yv (y_pickT rfl rfl) ?_; refine Hd.nil ?_; exact Hd.mq
        ·intro _
         simp only [List.take]; refine n1 <| n1 <| n1 <| yv (y_pickF rfl rfl) ?_; refine Hd.nil ?_; exact Hd.mq
        simp only [List.drop]; refine yv y_as <| Hd.nil <| slots [(5, _), (6, _)] sbq ?_; refine Hd.inB <| thenN ?_; rw [do_5 hc8]; exact Hd.meet () (by simp; repeat (first | exact trivial | refine ⟨rfl, ?_⟩)) sq
       ·try simp only [hyA, hyB, hyC, ne_eq] at hc8
        refine sr fun _ hK44 => ?_
        refine yv (y_eql rfl rfl) ?_; refine yv y_as <| fk [(0, _), (3, _), (5, _), (36, _), (205, _)] hK44 ?_; refine Hd.cond rfl (fun hc9 => ?_) (fun hc9 => ?_)
        ·try simp only [hyA, hyB, hyC, ne_eq] at hc9
         refine Hd.seq fun _ hK45 => ?_
         refine Hd.drawsH ([BoP pb wb rb, pt b3 (encO o) 33]) (fun _ => true) mixed ?_; simp only [List.length, Nat.zero_add, Nat.reduceAdd]; refine tH 0 rfl y_mv ?_; refine tH 1 rfl y_np ?_; refine tH 2 rfl (y_f 0 38 Tryz.underlying41 sz38) ?_; refine tH 3 rfl (y_l1 ag38 rfl) ?_; refine tH 4 rfl (y_f 1 3 Tryz.underlying33 sz3) ?_; refine tH 5 rfl (y_l1 ag3 rfl) ?_; refine tH 6 rfl y_mv ?_; refine onlyH 7 rfl kq ?_; refine callE rfl fk63 (wwrite_ct _ wb w o.a ad34 o.d.length cap34 o.d rfl ?hD (by omega) hcap) sq ?_
         case hD => exact RdS.own pkk
         intro _; refine Hd.nil <| thenN <| heldK (J := (fun _ => true)) (i := 7) sq ?_; refine tH 8 rfl y_mv ?_; refine tH 9 rfl y_ex ?_; refine tH 10 rfl y_ex ?_; refine tH 11 rfl y_as ?_; refine tH 12 rfl y_as ?_; refine endH kq ?_; refine sk [(0, _), (3, _), (5, _), (24, _), (25, _)] hK45 ?_; refine Hd.seq fun _ hK46 => ?_
         refine Hd.drawsH ([BoP pb wb rb, pt b3 (encO o) 33]) (fun _ => true) mixed ?_; simp only [List.length, Nat.zero_add, Nat.reduceAdd]; refine tH 0 rfl y_mv ?_; refine tH 1 rfl y_np ?_; refine tH 2 rfl (y_f 1 39 Tryz.underlying41 sz39) ?_; refine tH 3 rfl (y_l1 ag39 rfl) ?_; refine tH 4 rfl (y_f 1 3 Tryz.underlying33 sz3) ?_; refine tH 5 rfl (y_l1 ag3 rfl) ?_; refine tH 6 rfl (y_f 4 31 Tryz.underlying33 sz31) ?_; refine tH 7 rfl (y_l1 ag31 rfl) ?_; refine onlyH 8 rfl kq ?_; refine callE rfl fk64 (Rf.rWrite_ct _ rb w hw o.a o.ad o.d.length o.c o.d rfl ?hD (by omega) hc) sq ?_
         case hD => exact RdS.mono hR sq
         intro _; refine Hd.nil <| thenN <| heldK (J := (fun _ => true)) (i := 8) sq ?_; refine tH 9 rfl y_mv ?_; refine tH 10 rfl y_ex ?_; refine tH 11 rfl y_ex ?_; refine tH 12 rfl y_as ?_; refine tH 13 rfl y_as ?_; refine endH kq ?_; refine sk [(5, _), (24, _), (25, _), (26, _), (27, _)] hK46 ?_; refine Hd.region <| yv y_mv <| yv y_mv <| yv (y_eqlT rfl rfl) ?_; refine yv y_mv ?_; apply Hd.andg 4 233 237 [(5, _)] rfl sbq
         ·intro _
          simp only [List.take]; refine y2 y_mv <| y2 y_mv <| y2 (y_eqlT rfl rfl) ?_; refine yv (y_pickT rfl rfl) ?_; refine Hd.nil ?_; exact Hd.mq
         ·intro _
          simp only [List.take]; refine n1 <| n1 <| n1 <| yv (y_pickF rfl rfl) ?_; refine Hd.nil ?_; exact Hd.mq
         simp only [List.drop]; refine yv y_as <| Hd.nil <| slots [(5, _), (6, _)] sbq ?_; refine Hd.inB <| thenN ?_; rw [do_6 hc9]; exact Hd.meet () (by (repeat (first | exact trivial | refine ⟨rfl, ?_⟩)); done) sq
        ·try simp only [hyA, hyB, hyC, ne_eq] at hc9
         refine sr fun _ hK47 => ?_
         refine yv (y_eql rfl rfl) ?_; refine yv y_as <| fk [(0, _), (3, _), (5, _), (36, _), (238, _)] hK47 ?_; refine Hd.cond rfl (fun hc10 => ?_) (fun hc10 => ?_)
         ·try simp only [hyA, hyB, hyC, ne_eq] at hc10
          refine Hd.seq fun _ hK48 => ?_
          refine Hd.drawsH ([BoP pb wb rb, pt b3 (encO o) 33]) (fun _ => true) mixed ?_; simp only [List.length, Nat.zero_add, Nat.reduceAdd]; refine tH 0 rfl y_mv ?_; refine tH 1 rfl y_np ?_; refine tH 2 rfl (y_f 0 38 Tryz.underlying41 sz38) ?_; refine tH 3 rfl (y_l1 ag38 rfl) ?_; refine tH 4 rfl (y_f 1 3 Tryz.underlying33 sz3) ?_; refine tH 5 rfl (y_l1 ag3 rfl) ?_; refine onlyH 6 rfl kq ?_; refine callE rfl fk65 (wshut_ct _ wb w o.a) sq ?_; intro _; refine Hd.nil <| thenN <| heldK (J := (fun _ => true)) (i := 6) sq ?_; refine tH 7 rfl y_as ?_; refine endH kq ?_; refine sk [(0, _), (3, _), (5, _), (28, _)] hK48 ?_; refine Hd.drawsH ([BoP pb wb rb, pt b3 (encO o) 33]) (fun _ => true) mixed ?_; simp only [List.length, Nat.zero_add, Nat.reduceAdd]; refine tH 0 rfl y_mv ?_; refine tH 1 rfl y_mv ?_; refine tH 2 rfl y_np ?_; refine tH 3 rfl (y_f 1 39 Tryz.underlying41 sz39) ?_; refine tH 4 rfl (y_l1 ag39 rfl) ?_
          refine tH 5 rfl (y_f 1 3 Tryz.underlying33 sz3) ?_; refine tH 6 rfl (y_l1 ag3 rfl) ?_; refine onlyH 7 rfl kq ?_; refine callE rfl fk66 (Rf.rShut_ct _ rb w hw o.a) sq ?_; intro _; refine Hd.nil <| thenN <| heldK (J := (fun _ => true)) (i := 7) sq ?_; refine tH 8 rfl (y_eqlT rfl rfl) ?_; refine tH 9 rfl y_as ?_; refine endH kq ?_; refine slots [(5, _), (6, _)] sbq ?_; refine Hd.inB <| thenN ?_; rw [do_7 hc10]; exact Hd.meet () (by (repeat (first | exact trivial | refine ⟨rfl, ?_⟩)); done) sq
         ·try simp only [hyA, hyB, hyC, ne_eq] at hc10
          refine sr fun _ hK49 => ?_
          refine yv (y_eql rfl rfl) ?_; refine yv y_as <| fk [(0, _), (3, _), (5, _), (256, _)] hK49 ?_; refine Hd.cond rfl (fun hc11 => ?_) (fun hc11 => ?_)
          ·try simp only [hyA, hyB, hyC, ne_eq] at hc11
           refine Hd.seq fun _ hK50 => ?_
           refine Hd.drawsH ([BoP pb wb rb, pt b3 (encO o) 33]) (fun _ => true) mixed ?_; simp only [List.length, Nat.zero_add, Nat.reduceAdd]; refine tH 0 rfl y_mv ?_; refine tH 1 rfl y_np ?_; refine tH 2 rfl (y_f 0 38 Tryz.underlying41 sz38) ?_; refine tH 3 rfl (y_l1 ag38 rfl) ?_; refine tH 4 rfl (y_f 1 3 Tryz.underlying33 sz3) ?_; refine tH 5 rfl (y_l1 ag3 rfl) ?_; refine onlyH 6 rfl kq ?_; refine callE rfl fk67 (wclose_ct _ wb w o.a) sq ?_; intro _; refine Hd.nil <| thenN <| heldK (J := (fun _ => true)) (i := 6) sq ?_; refine tH 7 rfl y_as ?_; refine endH kq ?_; refine sk [(0, _), (3, _), (5, _), (29, _)] hK50 ?_; refine Hd.drawsH ([BoP pb wb rb, pt b3 (encO o) 33]) (fun _ => true) mixed ?_; simp only [List.length, Nat.zero_add, Nat.reduceAdd]; refine tH 0 rfl y_mv ?_; refine tH 1 rfl y_mv ?_; refine tH 2 rfl y_np ?_; refine tH 3 rfl (y_f 1 39 Tryz.underlying41 sz39) ?_; refine tH 4 rfl (y_l1 ag39 rfl) ?_
           refine tH 5 rfl (y_f 1 3 Tryz.underlying33 sz3) ?_; refine tH 6 rfl (y_l1 ag3 rfl) ?_; refine onlyH 7 rfl kq ?_; refine callE rfl fk68 (Rf.rClose_ct _ rb w hw o.a) sq ?_; intro _; refine Hd.nil <| thenN <| heldK (J := (fun _ => true)) (i := 7) sq ?_; refine tH 8 rfl (y_eqlT rfl rfl) ?_; refine tH 9 rfl y_as ?_; refine endH kq ?_; refine slots [(5, _), (6, _)] sbq ?_; refine Hd.inB <| thenN ?_; rw [do_8 hc11]; exact Hd.meet () (by (repeat (first | exact trivial | refine ⟨rfl, ?_⟩)); done) sq
          ·try simp only [hyA, hyB, hyC, ne_eq] at hc11
           refine Hd.region <| yv y_mv <| yv (y_loadn (us := [_, _, _, _, _]) ag33 rfl (Rd.pt pkk (by exact fun j v e => by rw [Nat.zero_add]; exact e)) (by exact sz33)) ?_; refine yv y_mv <| callE rfl fk69 (more_ct _ pb wb rb w K hK hl o (by omega) ht0 hd ?hD hc ad34 cap34 ?hD2 hcap) sq ?_
           case hD => exact RdS.mono hR sq
           case hD2 => exact RdS.own pkk
           intro _; refine yv y_as <| Hd.nil <| slots [(5, _), (6, _)] sbq ?_; refine Hd.inB <| thenN ?_; exact Hd.meet () sbq sq
 ·intro _
  refine Hd.seq fun _ hK51 => ?_
  refine sr fun _ hK52 => ?_
  refine yv y_mv <| yv (y_len Tryz.underlying31 rfl) ?_; refine yv y_mv <| fk [(5, _), (6, _), (275, _), (276, _)] hK52 ?_; refine Hd.block <| Hd.loopK (ι := Nat × List Value) [(5, _), (6, _), (275, _)] (fun q_ => [(276, .int .i64 (q_.1 : Int))]) (fun q_ => pu (q_.1 ≤ o.d.length ∧ q_.2.length = o.d.length ∧ ∀ v ∈ q_.2, ∃ x, v = .int .u8 x) :: own 5 1 ad34 o.d.length cap34 q_.2 :: BoP pb wb rb :: WorldP wb (doA w o) :: Rf.RwP rb (doA w o) :: L) (fun q_ => o.d.length - q_.1) (0, bsl o.d) sbq sbq (Ent.sep (.pure ⟨Nat.zero_le _, by simp [bsl], fun v hv => by obtain ⟨b, _, rfl⟩ := List.mem_map.1 hv; exact ⟨_, rfl⟩⟩ enn)) ?_; rintro ⟨i, us⟩
  try dsimp only
  refine Hd.pure (fun hp0 => ?_)
  try dsimp only at hp0
  refine sr fun _ hK53 => ?_
  refine yv (y_lss rfl rfl) ?_; refine fk [(5, _), (6, _), (275, _), (276, _), (277, _)] hK53 ?_; refine Hd.seq fun _ hK54 => ?_
  refine Hd.cond rfl (fun hc12 => ?_) (fun hc12 => ?_)
  ·try simp only [hyA, hyB, hyC, ne_eq] at hc12
   have hi : i < o.d.length := by omega
   have hiu : i < us.length := by omega
   obtain ⟨x, hx⟩ := hp0.2.2 us[i] (List.getElem_mem hiu)
   have hg : us[i * 1]? = some (.int .u8 x) := by rw [Nat.mul_one, List.getElem?_eq_getElem hiu, hx]
   refine Hd.skip <| Hd.toK hK54 ?_; refine Hd.seq fun _ hK55 => ?_
   refine Hd.block <| sr fun _ hK56 => ?_
   refine yv y_mv <| yv y_as <| fk [(5, _), (6, _), (30, _), (275, _), (276, _)] hK56 ?_; refine Hd.region <| yv y_mv <| yv y_mv <| yv y_mv <| yv y_mv <| yv (y_idxR Tryz.underlying31 sz5 rfl rfl (by omega) (by exact RdS.own pkk)) ?_; refine yv (y_loadR1 ag5 rfl (by exact RdS.own pkk) (by exact hg)) ?_; refine yv (y_add rfl rfl) ?_; refine yv (y_idxR Tryz.underlying31 sz5 rfl rfl (by omega) (by exact RdS.own pkk)) ?_; refine Hd.storeO1 sz5 rfl rfl rfl pkk (by omega) ?_
   try simp only [List.set_cons_zero, List.set_cons_succ]
   refine Hd.nil <| slots [(5, _), (6, _), (275, _), (276, _)] sbq ?_; refine Hd.inB <| Hd.toK hK55 ?_; refine Hd.region <| yv (y_addn rfl rfl (by simp only [InK]; omega)) ?_; refine yv y_mv <| Hd.nil <| slots [(5, _), (6, _), (275, _), (276, _)] sbq ?_; refine thenN ?_
   have hnew : ∀ v ∈ us.set (i * 1) (.int .u8 (IntKind.u8.wrap (x + 1))), ∃ x, v = .int .u8 x := fun v hv => (List.mem_or_eq_of_mem_set hv).elim (fun h => hp0.2.2 v h) (fun h => ⟨_, h⟩)
   exact Hd.again (i + 1, us.set (i * 1) (.int .u8 (IntKind.u8.wrap (x + 1)))) (by omega) sbq (Ent.sep (.pure ⟨hi, by rw [List.length_set]; exact hp0.2.1, hnew⟩ enn))
  ·try simp only [hyA, hyB, hyC, ne_eq] at hc12
   refine Hd.exit <| Hd.thenExit <| Hd.thenExit <| Hd.inBexit <| Hd.toK hK51 ?_; refine sr fun _ hK57 => ?_
   refine yv y_mv <| yv y_as <| fk [(4, _)] hK57 ?_; refine Hd.ret ?_; exact Hd.ret1 rfl () (by rfl) sq
end Wo
end Go.Proofs.YtbfddabjbkohdaaGreat
namespace Go.Proofs.YtbfddabjbkohdaaGreat
set_option maxHeartbeats 2000000
open Go.RX.Hd (yv y2 n1 fk sk sr tH callE heldK onlyH endH thenN slots)
set_option linter.unusedSimpArgs false
set_option linter.unusedVariables false
set_option linter.unnecessarySimpa false
open Go.RX Fx
namespace Kq
open Wo
set_option maxRecDepth 8000
structure AgI (f0 f : Ky → Option KnA) (w : WA) (r : Nat) : Prop where
 gd : GdK f w
 ks : ∀ a, a ∈ (dueK f w).map keyN ↔ a ∈ (dueK f0 w).map keyN ∧ (0 < r → onceF f0 a = false)
 fl : ∀ a, (f a).isSome = true → ((f a).getD zKn).flags = ((f0 a).getD zKn).flags
theorem AgI.once {f0 f : Ky → Option KnA} {w : WA} {r : Nat} (h : AgI f0 f w r) {a : Ky} (ha : (f a).isSome = true) : onceF f a = onceF f0 a := by unfold onceF oneF clrF; rw [h.fl a ha]
theorem due_some {f : Ky → Option KnA} {w : WA} {y : NoA} (h : y ∈ dueK f w) : (f (keyN y)).isSome = true := isK_some (dueK_mem h).1
theorem AgI.init {f : Ky → Option KnA} {w : WA} (hg : GdK f w) : AgI f f w 0 := ⟨hg, fun a => ⟨fun h => ⟨h, fun h => absurd h (Nat.lt_irrefl 0)⟩, fun h => h.1⟩, fun _ _ => rfl⟩
theorem AgI.step {f0 f : Ky → Option KnA} {w : WA} {r : Nat} (h : AgI f0 f w r) {T : List NoA} (hs : ∀ y ∈ T, y ∈ dueK f w) (hn : (T.map keyN).Nodup) (hk : ∀ y ∈ dueK f w, y ∈ T) : AgI f0 (offK w f T) w (r + 1) := by
 obtain ⟨g', hat, _, hno, hdu⟩ := offK_all h.gd hs hn
 refine ⟨g', fun a => ?_, fun a ha => ?_⟩
 ·rw [hdu]
  have hT : ∀ y ∈ dueK f w, (!(decide (keyN y ∈ T.map keyN) && onceF f (keyN y))) = !(onceF f0 (keyN y)) := fun y hy => by
   rw [decide_eq_true (List.mem_map_of_mem (hk y hy)), Bool.true_and, h.once (due_some hy)]
  rw [List.filter_congr hT]
  constructor
  ·intro hm
   obtain ⟨y, hy, rfl⟩ := List.mem_map.1 hm
   obtain ⟨hy, ho⟩ := List.mem_filter.1 hy
   exact ⟨((h.ks _).1 (List.mem_map_of_mem hy)).1, fun _ => by simpa using ho⟩
  ·rintro ⟨hm, ho⟩
   have ho' := ho (Nat.succ_pos r)
   obtain ⟨y, hy, e⟩ := List.mem_map.1 ((h.ks a).2 ⟨hm, fun _ => ho'⟩)
   exact List.mem_map.2 ⟨y, List.mem_filter.2 ⟨hy, by rw [e, ho']; rfl⟩, e⟩
 ·have e := hno a ha
  have e2 : ((offK w f T a).getD zKn).flags = ((f a).getD zKn).flags := congrArg (fun p : NoA => p.2.2.1) e
  rw [e2]; refine h.fl a ?_
  by_cases hm : a ∈ T.map keyN
  ·obtain ⟨y, hy, rfl⟩ := List.mem_map.1 hm
   exact due_some (hs y hy)
  ·rw [hat, if_neg hm] at ha; exact ha
def mnK (D : List NoA) (f0 : Ky → Option KnA) (r : Nat) (a : Ky) : Option Nat := if a ∈ D.map keyN ∧ 0 < r then some (if onceF f0 a = true then 1 else r) else none
def mnI (D : List NoA) (f0 : Ky → Option KnA) (r : Nat) (T : List NoA) (i : Nat) (a : Ky) : Option Nat := if a ∈ (T.take i).map keyN then some (r + 1) else mnK D f0 r a
def mnV (g : Ky → Option Nat) : Int × Int → Option Value := fun a => (g a).map fun n => .int .i64 (n : Int)
theorem mnK_zero (D : List NoA) (f0 : Ky → Option KnA) : mnV (mnK D f0 0) = fun _ => none := by funext a; unfold mnV mnK; rw [if_neg (fun h => absurd h.2 (Nat.lt_irrefl 0))]; rfl
theorem mnI_zero (D : List NoA) (f0 : Ky → Option KnA) (r : Nat) (T : List NoA) : mnI D f0 r T 0 = mnK D f0 r := by funext a; unfold mnI; rw [if_neg (by simp)]
theorem key_new {T : List NoA} (hn : (T.map keyN).Nodup) {i : Nat} {y : NoA} (hy : T[i]? = some y) : keyN y ∉ (T.take i).map keyN := by
 have e : T.map keyN = (T.take i).map keyN ++ (T.drop i).map keyN := by rw [← List.map_append, List.take_append_drop]
 have hd : T.drop i = y :: T.drop (i + 1) := by
  obtain ⟨hi, rfl⟩ := List.getElem?_eq_some_iff.1 hy
  exact List.drop_eq_getElem_cons hi
 rw [e, hd, List.map_cons, List.nodup_append] at hn; exact fun h => hn.2.2 _ h _ List.mem_cons_self rfl
theorem mnI_at {f0 f : Ky → Option KnA} {w : WA} {r : Nat} (h : AgI f0 f w r) {T : List NoA} (hs : ∀ y ∈ T, y ∈ dueK f w) (hn : (T.map keyN).Nodup) {i : Nat} {y : NoA} (hy : T[i]? = some y) : (mnV (mnI (dueK f0 w) f0 r T i) (keyN y)).getD (.int .i64 0) = .int .i64 (r : Int) := by
 have hk := (h.ks _).1 (List.mem_map_of_mem (hs y (List.mem_of_getElem? hy)))
 unfold mnV mnI mnK; rw [if_neg (key_new hn hy)]
 by_cases hr : 0 < r
 ·rw [if_pos ⟨hk.1, hr⟩, hk.2 hr]; rfl
 ·obtain rfl : r = 0 := by omega
  rw [if_neg (fun h => hr h.2)]; rfl
theorem mnI_succ {f0 : Ky → Option KnA} {D : List NoA} {r : Nat} {T : List NoA} {i : Nat} {y : NoA} (hy : T[i]? = some y) (u : Value) : (fun c => if c = keyN y then some (Value.int .i64 ((r + 1 : Nat) : Int)) else (if c = keyN y then some u else mnV (mnI D f0 r T i) c)) = mnV (mnI D f0 r T (i + 1)) := by
 funext c
 unfold mnV mnI; rw [List.take_add_one, hy, Option.toList_some, List.map_append]
 by_cases hc : c = keyN y
 ·rw [if_pos hc, if_pos (by rw [hc]; exact List.mem_append.2 (.inr List.mem_cons_self))]; rfl
 ·rw [if_neg hc, if_neg hc]
  have : (c ∈ (T.take i).map keyN ++ [y].map keyN) ↔ c ∈ (T.take i).map keyN := by
   rw [List.mem_append]; exact ⟨fun h => h.elim id (fun h => absurd (List.mem_singleton.1 h) hc), .inl⟩
  simp only [this]
theorem mnI_all {f0 f : Ky → Option KnA} {w : WA} {r : Nat} (h : AgI f0 f w r) {T : List NoA} (hs : ∀ y ∈ T, y ∈ dueK f w) (hk : ∀ y ∈ dueK f w, y ∈ T) : mnI (dueK f0 w) f0 r T T.length = mnK (dueK f0 w) f0 (r + 1) := by
 funext a
 unfold mnI mnK; rw [List.take_of_length_le (Nat.le_refl _)]
 by_cases ha : a ∈ T.map keyN
 ·rw [if_pos ha]
  have hd : a ∈ (dueK f w).map keyN := by
   obtain ⟨y, hy, rfl⟩ := List.mem_map.1 ha
   exact List.mem_map_of_mem (hs y hy)
  have hk2 := (h.ks a).1 hd
  rw [if_pos ⟨hk2.1, Nat.succ_pos r⟩]
  by_cases hr : 0 < r
  ·rw [hk2.2 hr]; rfl
  ·obtain rfl : r = 0 := by omega
   split <;> rfl
 ·rw [if_neg ha]
  by_cases h0 : a ∈ (dueK f0 w).map keyN
  ·have hnd : ¬ (0 < r → onceF f0 a = false) := fun h1 => by
    obtain ⟨y, hy, e⟩ := List.mem_map.1 ((h.ks a).2 ⟨h0, h1⟩)
    exact ha (e ▸ List.mem_map_of_mem (hk y hy))
   have hr : 0 < r := Nat.pos_of_ne_zero fun e => hnd (fun h1 => absurd h1 (by omega))
   have ho : onceF f0 a = true := by
    cases h1 : onceF f0 a with
    | true => rfl
    | false => exact absurd (fun _ => h1) hnd
   rw [if_pos (show a ∈ (dueK f0 w).map keyN ∧ 0 < r from ⟨h0, hr⟩), if_pos (show a ∈ (dueK f0 w).map keyN ∧ 0 < r + 1 from ⟨h0, Nat.succ_pos r⟩), ho]; rfl
  ·rw [if_neg (fun h1 => h0 h1.1), if_neg (fun h1 => h0 h1.1)]
theorem AgI.due {f0 f : Ky → Option KnA} {w : WA} {r : Nat} (h : AgI f0 f w r) {y : NoA} (hy : y ∈ dueK f w) : (onceF f0 (keyN y) = true → r = 0) ∧ bits .and .i64 ((f0 (keyN y)).getD zKn).flags 8 = 0 := by
 have hk := (h.ks _).1 (List.mem_map_of_mem hy)
 refine ⟨fun ho => ?_, ?_⟩
 ·by_cases hr : 0 < r
  ·rw [hk.2 hr] at ho; cases ho
  ·omega
 ·have h2 := (dueK_mem hy).2.1
  rw [← h.fl _ (due_some hy)]
  by_cases h8 : bits .and .i64 ((f (keyN y)).getD zKn).flags 8 = 0
  ·exact h8
  ·unfold toldK at h2
   rw [if_pos h8] at h2; cases h2
def flM (f0 : Ky → Option KnA) (W : List NoA) (a : Ky) : Option Value := if a ∈ W.map keyN then some (.int .i64 ((f0 a).getD zKn).flags) else none
theorem flM_nil (f0 : Ky → Option KnA) : flM f0 [] = fun _ => none := by funext a; unfold flM; rw [if_neg (by simp)]
theorem flM_succ {f0 : Ky → Option KnA} {W : List NoA} {i : Nat} {y : NoA} (hy : W[i]? = some y) (hf : y.2.2.1 = ((f0 (keyN y)).getD zKn).flags) : (fun c => if c = keyN y then some (Value.int .i64 y.2.2.1) else flM f0 (W.take i) c) = flM f0 (W.take (i + 1)) := by
 funext c
 unfold flM; rw [List.take_add_one, hy, Option.toList_some, List.map_append]
 by_cases hc : c = keyN y
 ·rw [if_pos hc, if_pos (by rw [hc]; exact List.mem_append.2 (.inr List.mem_cons_self)), hf, hc]
 ·rw [if_neg hc]
  have : (c ∈ (W.take i).map keyN ++ [y].map keyN) ↔ c ∈ (W.take i).map keyN := by
   rw [List.mem_append]; exact ⟨fun h => h.elim id (fun h => absurd (List.mem_singleton.1 h) hc), .inl⟩
  simp only [this]
theorem flM_get {f0 : Ky → Option KnA} {w : WA} (hw : WOk w) (hg : GdK f0 w) {W : List NoA} (hW : (allK f0 w).map (noK f0) = W) (a : Ky) : (flM f0 W a).getD (.int .i64 0) = .int .i64 ((f0 a).getD zKn).flags := by
 unfold flM
 by_cases h : a ∈ W.map keyN
 ·rw [if_pos h]; rfl
 ·rw [if_neg h]
  cases hf : f0 a with
  | none => rfl
  | some x =>
   refine absurd (List.mem_map.2 ⟨noK f0 a, ?_, rfl⟩) h; rw [← hW]; exact List.mem_map_of_mem ((mem_allK hw hg.ok).2 (hg.lv a x hf))
theorem onceF_eq (f0 : Ky → Option KnA) (a : Ky) : onceF f0 a = (decide (bits .and .i64 ((f0 a).getD zKn).flags 32 ≠ 0) || (decide (bits .and .i64 ((f0 a).getD zKn).flags 16 ≠ 0) && decide (a.2 ≠ 3))) := rfl
theorem swpK_perm {α : Type} (xs : List α) (i k : Nat) : (Sh.swp xs i k).Perm xs := by
 unfold Sh.swp
 split
 ·rename_i a b ha hb
  obtain ⟨h1, rfl⟩ := List.getElem?_eq_some_iff.1 ha
  obtain ⟨h2, rfl⟩ := List.getElem?_eq_some_iff.1 hb
  exact List.set_set_perm h1 h2
 ·exact List.Perm.refl _
theorem shufK_perm {α : Type} (ord : List Int) (xs : List α) : ∀ i, (Sh.shufTo ord xs i).Perm xs
 | 0 => List.Perm.refl _
 | i + 1 => by
  show (if ord = [] then Sh.shufTo ord xs i else Sh.swp (Sh.shufTo ord xs i) i (Sh.place ord xs.length i)).Perm xs
  split
  ·exact shufK_perm ord xs i
  ·exact (swpK_perm _ _ _).trans (shufK_perm ord xs i)
theorem polK_mem {f : Ky → Option KnA} {w : WA} {ord : List Int} : (∀ y ∈ polK f w 300 ord, y ∈ dueK f w) ∧ ((polK f w 300 ord).map keyN).Nodup ∧ ∀ y ∈ dueK f w, y ∈ polK f w 300 ord := by
 have hdl := dueK_len f w
 have hp : (polK f w 300 ord).Perm (dueK f w) := by
  unfold polK; rw [List.take_of_length_le (l := Sh.shufTo ord (dueK f w) _) (i := (300 : Int).toNat) (by rw [Sh.shuf_len]; exact Nat.le_trans hdl (by decide))]; exact shufK_perm _ _ _
 exact ⟨fun y hy => hp.mem_iff.1 hy, (hp.map keyN).nodup_iff.2 (dueK_nd f w), fun y hy => hp.mem_iff.2 hy⟩
end Kq
end Go.Proofs.YtbfddabjbkohdaaGreat
namespace Go.RX
set_option linter.unusedSimpArgs false
set_option linter.unusedVariables false
set_option linter.unnecessarySimpa false
open Go.MapKept
section
variable {E : World} {n : Nat} {ds : List Deferred} {st st' : List (Nat × Value)} {L L' L'' M M' : List SP} {r : Option Nat} {P : Program} {Q : Exit → Act → World → Prop} {ops : Array Oper} {rest : List Oper}
variable {d : Nat} {ty t t2 : TypeId} {pos : String} {af : Array Edge} {g : Option (Nat × Bool)} {x y z : Operand} {v u : Value} {k : IntKind} {p q : Bool}
def mpV (b : Nat) (k : IntKind) (a : Int × Int) (zs v : Value) : SP := fun h => ∃ f m, mpP b k f m h ∧ (f a).getD zs = v
theorem mpV_of {b m : Nat} {f : Int × Int → Option Value} {a : Int × Int} {zs v : Value} (e : (f a).getD zs = v) : ∀ h, mpP b k f m h → mpV b k a zs v h := fun _ x => ⟨f, m, x, e⟩
theorem y_lookupV {b : Nat} {a : Int × Int} {zs : Value} (hT : MapTP P t k zs) (hx : evo st x = some (.map (some b))) (hy : evo st y = some (kyP k a)) (p : Pick L (mpV b k a zs v) L') :
  Yv E n ds st L P ⟨some d, .lookup t x y false, ty, pos, af, g⟩ v := fun ac w fr s => by
 obtain ⟨h1, h2, hd, s1, s2, ⟨f, m, hx', e⟩, hr⟩ := p.sep s.2.2.2
 have s' : Sat E (mpP b k f m :: L') w := ⟨s.1, s.2.1, s.2.2.1, ⟨h1, h2, hd, s1, s2, hx', hr⟩⟩
 simp only [execOp, fr.ev hx, fr.ev hy, Sem.run_bind, run_lookupP hT s' .here false]; rw [e]
 rfl
structure meP (b : Nat) (k : IntKind) (f : Int × Int → Option Value) (m : Nat) (a : Int × Int) (bo : Nat) (h : PH) : Prop where
 at_ : ∃ (l : List KVP) (clock : Nat), h (b, none) = some (.obj (.map (l.map (entP k)).toArray clock)) ∧ (l.map (·.1)).Nodup ∧ l.length = m ∧ (∀ a, f a = getKVP l a) ∧ ((l.map (·.2.2)).Nodup ∧ ∀ e ∈ l, e.2.2 < clock) ∧ ∃ (j : Nat) (u : Value), l[j]? = some (a, u, bo)
theorem meP.mp {b m bo : Nat} {f : Int × Int → Option Value} {a : Int × Int} {h : PH} (x : meP b k f m a bo h) : mpP b k f m h := by
 obtain ⟨l, c, h1, h2, h3, h4, h5, _⟩ := x.at_
 exact ⟨l, c, h1, h2, h3, h4, h5⟩
theorem mpV_me {b m bo : Nat} (f : Int × Int → Option Value) {a c : Int × Int} {zs v : Value} (e : (f a).getD zs = v) : ∀ h, meP b k f m c bo h → mpV b k a zs v h := fun _ x => ⟨f, m, x.mp, e⟩
theorem Sat.me_at {f : Int × Int → Option Value} {b m bo : Nat} {a : Int × Int} {w : World} (s : Sat E L w) (p : Pick L (RX.meP b k f m a bo) L') : ∃ (l : List KVP) (clock : Nat), w.heap[b]? = some (.map (l.map (entP k)).toArray clock) ∧ (l.map (·.1)).Nodup ∧ l.length = m ∧ (∀ a, f a = getKVP l a) ∧ ((l.map (·.2.2)).Nodup ∧ ∀ e ∈ l, e.2.2 < clock) ∧ ∃ (j : Nat) (u : Value), l[j]? = some (a, u, bo) := by
 obtain ⟨h1, s1, ⟨l, c, hb, r⟩⟩ := sep.one p s.2.2.2
 exact ⟨l, c, (hpo_obj (s1 _ _ hb)).1, r⟩
theorem Sat.putMe {f f' : Int × Int → Option Value} {b m m' bo : Nat} {a : Int × Int} {w w' : World} {l' : List KVP} {c' : Nat} (s : Sat E L w) (p : Pick L (RX.mpP b k f m) L') (hos : (w'.os, w'.drawn) = (w.os, w.drawn)) (ht : w'.tape = w.tape) (ho : w'.output = w.output)
  (hk : ∀ x, x ≠ b → w'.heap[x]? = w.heap[x]?) (hb : w'.heap[b]? = some (.map (l'.map (entP k)).toArray c')) (hn : (l'.map (·.1)).Nodup) (hm : l'.length = m') (hf : ∀ a, f' a = getKVP l' a) (hB : (l'.map (·.2.2)).Nodup ∧ ∀ e ∈ l', e.2.2 < c') (hj : ∃ (j : Nat) (u : Value), l'[j]? = some (a, u, bo)) : Sat E (RX.meP b k f' m' a bo :: L') w' := by
 obtain ⟨l, c, hb0, _⟩ := s.mp_atP p
 refine ⟨os_drawn hos s.1, ht.trans s.2.1, ho.trans s.2.2.1, sep_upd (p.sep s.2.2.2) fun h1 x s1 => ⟨fun z hz => ?_, ⟨l', c', ?_, hn, hm, hf, hB, hj⟩⟩⟩
 ·obtain ⟨zb, zi⟩ := z
  by_cases hzb : zb = b
  ·subst hzb
   obtain ⟨l0, c0, hx, _⟩ := x.at_
   cases zi with
   | none => rw [hx] at hz; cases hz
   | some i =>
    show hpo w'.heap[zb]? _ = hpo w.heap[zb]? _
    rw [hb, hb0]; rfl
  ·show hpo _ _ = hpo _ _
   rw [hk zb hzb]
 ·obtain ⟨l0, c0, hx, _⟩ := x.at_
  show (if (h1 (b, none)).isSome then RX.hp w' (b, none) else none) = _
  rw [hx]
  show hpo w'.heap[b]? none = _
  rw [hb]; rfl
theorem Hd.mapEntryP {f : Int × Int → Option Value} {b m : Nat} {a : Int × Int} {zs : Value} (hT : MapTP P t k zs) (hx : evo st x = some (.map (some b))) (hy : evo st y = some (kyP k a)) (p : Pick L (mpP b k f m) L')
  (K : ∀ bo : Nat, Hd E n ds ((d, .tuple #[(f a).getD zs, .int .i64 (bo : Int)]) :: st) (meP b k (fun c => if c = a then some ((f a).getD zs) else f c) (if (f a).isSome then m else m + 1) a bo :: L') (LW r P ops Q rest)) (hd : d < n := by decide) :
  Hd E n ds st L (LW r P ops Q (⟨some d, .mapEntry t x y, ty, pos, af, none⟩ :: rest)) :=
 Hd.op rfl (by simp) fun ac w fr s => by
  obtain ⟨kt, vt, i, h1, h2, h3, h4⟩ := hT.ex
  obtain ⟨l, c, hb, hn, hm, hf, hbn, hbl⟩ := s.mp_atP p
  have hck := run_checkKeyP (P := P) (w := w) (a := a) h2 false 9998
  have hfk := run_findKeyP (P := P) (w := w) h2 l a 0
  have hg := fi_getP l a 0
  rw [← hf] at hg
  have hsb : Instr.sameBits 10000 (kyP k a) (kyP k a) = true := by simp [Instr.sameBits]
  cases hfi : fiP l a 0 with
  | none =>
   rw [hfi] at hg hfk; simp only [Option.map_none] at hg
   have hno := fi_noneP hfi
   refine ⟨.tuple #[(f a).getD zs, .int .i64 (c : Int)], { w with heap := w.heap.setIfInBounds b (.map ((l ++ [(a, zs, c)]).map (entP k)).toArray (c + 1)) }, ?_, K c _ _ (fr.put hd _) ?_⟩
   ·have e : ((l.map (entP k)).toArray.push { key := kyP k a, val := zs, born := c }) = ((l ++ [(a, zs, c)]).map (entP k)).toArray := by apply Array.ext'; simp [entP]
    have hz : (zeroValue vt).run P w = .ok zs w := by simp [zeroValue, typeInfo, h3, h4]
    simp only [execOp, fr.ev hx, fr.ev hy, Instr.mapEntry, Sem.run_bind, run_underlying h1, Result.andThen_ok, MapKept.run_getObj_map hb, hck, hfk, hz, MapKept.run_setObj_map _ hb, e, Sem.run_pure, ← hg, Option.getD_none]
    rfl
   ·refine Sat.putMe s p rfl rfl rfl (fun x hx => set_heap_ne hx) (set_heap hb) ?_ ?_ (fun b' => ?_) ?_ ⟨l.length, zs, by simp⟩
    ·rw [List.map_append, List.nodup_append]
     refine ⟨hn, by simp, fun x hx y hy => ?_⟩
     obtain ⟨e, he, rfl⟩ := List.mem_map.1 hx
     simp at hy; subst hy; exact hno e he
    ·rw [← hg]; simp [hm]
    ·rw [getKV_appP l a b' zs c hno, ← hf b']
     show (if b' = a then some ((f a).getD zs) else f b') = _
     rw [← hg, Option.getD_none]
    ·refine ⟨?_, fun e he => ?_⟩
     ·rw [List.map_append, List.nodup_append]
      refine ⟨hbn, by simp, fun x hx y hy => ?_⟩
      obtain ⟨e, he, rfl⟩ := List.mem_map.1 hx
      simp at hy; subst hy; exact Nat.ne_of_lt (hbl e he)
     ·rcases List.mem_append.1 he with he | he
      ·exact Nat.lt_succ_of_lt (hbl e he)
      ·obtain rfl : e = (a, zs, c) := by simpa using he
       exact Nat.lt_succ_self c
  | some jv =>
   obtain ⟨j, u⟩ := jv
   rw [hfi] at hg hfk; simp only [Option.map_some] at hg
   obtain ⟨bo, _, hj⟩ := fi_atP l a 0 j u hfi
   rw [Nat.sub_zero] at hj
   have hjl := (List.getElem?_eq_some_iff.1 hj).1
   have hj' : l[j] = (a, u, bo) := by have h := hj; rw [List.getElem?_eq_getElem hjl] at h; simpa using h
   refine ⟨.tuple #[(f a).getD zs, .int .i64 (bo : Int)], { w with heap := w.heap.setIfInBounds b (.map (l.map (entP k)).toArray c) }, ?_, K bo _ _ (fr.put hd _) ?_⟩
   ·have e0 : (((l.map (entP k)).toArray[j]?).map (·.key)).getD (kyP k a) = kyP k a := by simp [hj, entP]
    have e1 : (((l.map (entP k)).toArray[j]?).map (fun x => (x.born : Int))).getD 0 = (bo : Int) := by simp [hj, entP]
    have e : (l.map (entP k)).toArray.modify j (fun e => { e with key := kyP k a }) = (l.map (entP k)).toArray := by
     apply Array.ext'; rw [Array.toList_modify]; apply List.ext_getElem?; intro q; simp only [List.getElem?_modify, List.getElem?_map]
     by_cases hq : j = q
     ·subst hq; simp [hjl, entP, hj']
     ·simp [hq]
    simp only [execOp, fr.ev hx, fr.ev hy, Instr.mapEntry, Sem.run_bind, run_underlying h1, Result.andThen_ok, MapKept.run_getObj_map hb, hck, hfk, Instr.keyThatStays, e0, hsb, if_true, Sem.run_pure, MapKept.run_setObj_map _ hb, e, e1, ← hg, Option.getD_some]
    rfl
   ·refine Sat.putMe s p rfl rfl rfl (fun x hx => set_heap_ne hx) (set_heap hb) hn (by rw [← hg]; simp [hm]) (fun b' => ?_) ⟨hbn, hbl⟩ ⟨j, u, hj⟩
    by_cases hb' : b' = a
    ·subst hb'; rw [if_pos rfl, ← hf, ← hg]; rfl
    ·rw [if_neg hb', hf]
theorem Hd.entryStoreP {f : Int × Int → Option Value} {b m bo : Nat} {a : Int × Int} (hx : evo st x = some (.map (some b))) (hy : evo st y = some (.int .i64 (bo : Int))) (hz : evo st z = some v) (p : Pick L (meP b k f m a bo) L')
  (K : Hd E n ds st (mpP b k (fun c => if c = a then some v else f c) m :: L') (LW r P ops Q rest)) :
  Hd E n ds st L (LW r P ops Q (⟨none, .entryStore t x y z, ty, pos, af, none⟩ :: rest)) :=
 Hd.opu rfl (by simp) fun ac w fr s => by
  obtain ⟨l, c, hb, hn, hm, hf, ⟨hbn, hbl⟩, j, u, hj⟩ := s.me_at p
  have hjl := (List.getElem?_eq_some_iff.1 hj).1
  have hj' : l[j] = (a, u, bo) := by have h := hj; rw [List.getElem?_eq_getElem hjl] at h; simpa using h
  have hfd : (l.map (entP k)).toArray.findIdx? (fun e => (e.born : Int) == (bo : Int)) = some j := by
   rw [List.findIdx?_toArray, List.findIdx?_eq_some_iff_getElem]; refine ⟨by simpa using hjl, by simp [entP, hj'], fun i hi => ?_⟩
   have hil : i < l.length := Nat.lt_trans hi hjl
   simp only [List.getElem_map, entP]; intro h
   have h' : ((l[i].2.2 : Nat) : Int) = (bo : Int) := by simpa using h
   have h1 : l[i].2.2 = bo := Int.ofNat.inj h'
   have h2 : (l.map (·.2.2))[i]'(by simpa using hil) = (l.map (·.2.2))[j]'(by simpa using hjl) := by simp [h1, hj']
   exact Nat.ne_of_lt hi ((List.getElem_inj hbn).1 h2)
  refine ⟨{ w with heap := w.heap.setIfInBounds b (.map ((l.set j (a, v, bo)).map (entP k)).toArray c) }, ?_, K _ _ fr ?_⟩
  ·have e : (l.map (entP k)).toArray.modify j (fun e => { e with val := v }) = ((l.set j (a, v, bo)).map (entP k)).toArray := by
    apply Array.ext'; rw [Array.toList_modify]; apply List.ext_getElem?; intro q; simp only [List.getElem?_modify, List.getElem?_map, List.getElem?_set]
    by_cases hq : j = q
    ·subst hq; simp [hjl, entP, hj']
    ·simp [hq]
   simp only [execOp, fr.ev hx, fr.ev hy, fr.ev hz, Instr.entryStore, Sem.run_bind, Result.andThen_ok, MapKept.run_getObj_map hb, asInt, asIntOf, Sem.run_pure, hfd, MapKept.run_setObj_map _ hb, e]
  ·have s' : Sat E (mpP b k f m :: L') w := by
    obtain ⟨h1, h2, hd, s1, s2, hx', hr⟩ := p.sep s.2.2.2
    exact ⟨s.1, s.2.1, s.2.2.1, ⟨h1, h2, hd, s1, s2, hx'.mp, hr⟩⟩
   refine Sat.putMpP s' .here rfl rfl rfl (fun x hx => set_heap_ne hx) (set_heap hb) ?_ (by simp [hm]) (fun b' => ?_) ?_
   ·rw [List.map_set]
    have : ((l.map (·.1)).set j a) = l.map (·.1) := by
     apply List.ext_getElem?; intro q; rw [List.getElem?_set]
     by_cases hq : j = q
     ·subst hq; simp [hjl, hj']
     ·rw [if_neg hq]
    rw [this]; exact hn
   ·rw [modify_getP l j a u v bo hj hn, hf]
   ·refine ⟨?_, fun e he => ?_⟩
    ·rw [List.map_set]
     have : ((l.map (·.2.2)).set j bo) = l.map (·.2.2) := by
      apply List.ext_getElem?; intro q; rw [List.getElem?_set]
      by_cases hq : j = q
      ·subst hq; simp [hjl, hj']
      ·rw [if_neg hq]
     rw [this]; exact hbn
    ·rcases List.mem_or_eq_of_mem_set he with he | rfl
     ·exact hbl e he
     ·exact hbl (a, u, bo) (List.mem_of_getElem? hj)
end
end Go.RX
namespace Go.Proofs.YtbfddabjbkohdaaGreat
set_option maxHeartbeats 2000000
open Go.RX.Hd (yv y2 n1 fk sk sr tH callE heldK onlyH endH thenN slots)
set_option linter.unusedSimpArgs false
set_option linter.unusedVariables false
set_option linter.unnecessarySimpa false
open Go.RX Fx
namespace Kq
open Wo
set_option maxRecDepth 8000
abbrev oCs (q : Nat → Option Addr) (kc : Nat → Nat) (ord : Nat → List Int) : List Value := [.slice (q 0) (ord 0).length (kc 0), .slice (q 1) (ord 1).length (kc 1), .slice (q 2) (ord 2).length (kc 2)]
theorem oCs_at (q : Nat → Option Addr) (kc : Nat → Nat) (ord : Nat → List Int) : ∀ i, i < 3 → (oCs q kc ord)[i]? = some (.slice (q i) (ord i).length (kc i))
 | 0, _ => rfl
 | 1, _ => rfl
 | 2, _ => rfl
 | i + 3, h => absurd h (by omega)
theorem mem_getP : ∀ {l : List KVP} {e : KVP}, (l.map (·.1)).Nodup → e ∈ l → getKVP l e.1 = some e.2.1
 | [], _, _, h => by cases h
 | b :: r, e, hn, h => by
  rw [List.map_cons, List.nodup_cons] at hn; unfold getKVP; rw [List.find?_cons]
  by_cases hb : b.1 = e.1
  ·have : (b.1 == e.1) = true := by simpa using hb
   rw [this]
   rcases List.mem_cons.1 h with rfl | h
   ·rfl
   ·exact absurd (hb ▸ List.mem_map_of_mem h) hn.1
  ·have : (b.1 == e.1) = false := by simpa using hb
   rw [this]
   rcases List.mem_cons.1 h with rfl | h
   ·exact absurd rfl hb
   ·exact mem_getP hn.2 h
theorem mn_val {D : List NoA} {f : Ky → Option KnA} {m c : Nat} {l : List KVP} (h : MpIP (mnV (mnK D f 3)) m l c) {e : KVP} (he : e ∈ l) : e.2.1 = .int .i64 (if onceF f e.1 = true then 1 else 3) := by
 have h1 := h.get e.1
 rw [mem_getP h.keys he] at h1; unfold mnV mnK at h1
 split at h1
 ·rename_i h2
  cases ho : onceF f e.1 with
  | true => rw [ho] at h1; exact (Option.some.inj h1).symm
  | false => rw [ho] at h1; exact (Option.some.inj h1).symm
 ·cases h1
theorem again16_ct (L : List SP) (a1 : Option Addr) (c1 : Nat) (fs : List Ov) (hF : RdS L 5 a1 fs.length (fs.flatMap encO)) (hFo : ∀ o ∈ fs, OvOk L o) (a2 : Option Addr) (c2 : Nat) (xs : List NoA) (hX : RdS L 4 a2 xs.length (xs.flatMap encNo)) (hXo : ∀ p ∈ xs, InK .i64 p.2.2.1) (oq : Nat → Option Addr) (okc : Nat → Nat) (ord : Nat → List Int) (hO : ∀ i, i < 3 → RdS L 1 (oq i) (ord i).length (vi (ord i))) : Ct Tryz.prog 8 #[.slice a1 fs.length c1, .slice a2 xs.length c2, .agg (oCs oq okc ord).toArray] (L) (fun _ : Unit => .bool true) (fun _ : Unit => L) := by
 refine Ct.o3 Tryz.func8 ?_; intro E
 show Hd E 207 _ _ _ _
 refine sr fun _ hK1 => ?_
 refine Hd.box rfl rfl (fun b5 => ?_); refine yv y_as <| fk [(0, _), (1, _), (5, _)] hK1 ?_; refine sr fun _ hK2 => ?_
 refine callE rfl fk27 (alive16_ct _) sq ?_; intro _; refine yv y_as <| fk [(0, _), (1, _), (5, _), (7, _)] hK2 ?_; refine Hd.seq fun _ hK3 => ?_
 refine sr fun _ hK4 => ?_
 refine yv y_mv <| callE rfl fk14 (great11_ct _ a1 c1 fs ?hD) sq ?_
 case hD => exact RdS.mono hF sq
 intro _; refine yv (y_gtr rfl rfl) ?_; refine yv y_mv ?_; apply Hd.org 4 31 35 [(0, _), (1, _), (5, _), (7, _)] rfl sbq
 ·intro _
  simp only [List.take]; refine n1 <| n1 <| n1 <| yv (y_pickT rfl rfl) ?_; refine Hd.nil ?_; exact Hd.mq
 ·intro _
  simp only [List.take]; refine y2 y_mv <| y2 (y_len Tryz.underlying22 rfl) ?_; refine y2 (y_gtr rfl rfl) ?_; refine yv (y_pickF rfl rfl) ?_; refine Hd.nil ?_; exact Hd.mq
 simp only [List.drop]; refine yv y_mv ?_; apply Hd.org 4 36 40 [(0, _), (1, _), (5, _), (7, _)] rfl sbq
 ·intro _
  simp only [List.take]; refine n1 <| n1 <| n1 <| yv (y_pickT rfl rfl) ?_; refine Hd.nil ?_; exact Hd.mq
 ·intro _
  simp only [List.take]; refine y2 y_mv <| y2 (y_len Tryz.underlying67 rfl) ?_; refine y2 (y_gtr rfl rfl) ?_; refine yv (y_pickF rfl rfl) ?_; refine Hd.nil ?_; exact Hd.mq
 simp only [List.drop]; refine yv y_mv ?_; apply Hd.org 3 41 44 [(0, _), (1, _), (5, _), (7, _)] rfl sbq
 ·intro _
  simp only [List.take]; refine n1 <| n1 <| yv (y_pickT rfl rfl) ?_; refine Hd.nil ?_; exact Hd.mq
 ·intro _
  simp only [List.take]; refine y2 y_mv <| y2 (y_not rfl) ?_; refine yv (y_pickF rfl rfl) ?_; refine Hd.nil ?_; exact Hd.mq
 simp only [List.drop]; refine fk [(0, _), (1, _), (5, _), (7, _), (44, _)] hK4 ?_; refine Hd.cond rfl (fun hc0 => ?_) (fun hc0 => ?_)
 ·try simp only [hyA, hyB, hyC, ne_eq] at hc0
  refine sr fun _ hK5 => ?_
  refine yv y_mv <| yv y_as <| fk [(6, _)] hK5 ?_; refine Hd.ret <| Hd.thenRet ?_; exact Hd.ret1 rfl () rfl sq
 ·try simp only [hyA, hyB, hyC, ne_eq] at hc0
  have hb1 : ¬ 0 < gO fs ∧ fs.length ≤ 60 ∧ xs.length ≤ 40 := by simp at hc0; omega
  have hgo := gO_ok hb1.1
  refine Hd.skip <| Hd.toK hK3 ?_; refine Hd.seq fun _ hK6 => ?_
  refine sr fun _ hK7 => ?_
  refine yv y_mv <| fk [(0, _), (1, _), (5, _), (7, _), (46, _)] hK7 ?_; refine Hd.block <| Hd.loopK (ι := Nat) [(0, _), (1, _), (5, _), (7, _)] (fun i => [(46, .int .i64 (i : Int))]) (fun i => pu (i ≤ 3 ∧ ∀ j, j < i → (ord j).length ≤ 60) :: pt b5 (oCs oq okc ord) 75 :: L) (fun i => 3 - i) 0 sbq sbq (Ent.sep (.pure ⟨Nat.zero_le _, fun j h => absurd h (Nat.not_lt_zero j)⟩ enn)) ?_; intro i
  try dsimp only
  refine Hd.pure (fun hp0 => ?_)
  try dsimp only at hp0
  refine sr fun _ hK8 => ?_
  refine yv (y_lss rfl rfl) ?_; refine fk [(0, _), (1, _), (5, _), (7, _), (46, _), (47, _)] hK8 ?_; refine Hd.seq fun _ hK9 => ?_
  refine Hd.cond rfl (fun hc1 => ?_) (fun hc1 => ?_)
  ·try simp only [hyA, hyB, hyC, ne_eq] at hc1
   have hi : i < 3 := by omega
   refine Hd.skip <| Hd.toK hK9 ?_; refine Hd.seq fun _ hK10 => ?_
   refine Hd.block <| sr fun _ hK11 => ?_
   refine yv y_mv <| yv y_as <| fk [(0, _), (1, _), (5, _), (7, _), (8, _), (46, _)] hK11 ?_; refine sr fun _ hK12 => ?_
   refine yv y_mv <| yv (y_idxA Tryz.underlying75 sz44 rfl rfl (by omega)) ?_; refine yv (y_load1 ag44 rfl (Rd.pt1 pkk (by rw [Nat.zero_add, Nat.mul_one]; exact oCs_at oq okc ord i hi))) ?_; refine yv (y_len Tryz.underlying44 rfl) ?_; refine yv (y_gtr rfl rfl) ?_; refine fk [(0, _), (1, _), (5, _), (7, _), (46, _), (53, _)] hK12 ?_; refine Hd.cond rfl (fun hc2 => ?_) (fun hc2 => ?_)
   ·try simp only [hyA, hyB, hyC, ne_eq] at hc2
    refine sr fun _ hK13 => ?_
    refine yv y_mv <| yv y_as <| fk [(6, _)] hK13 ?_; refine Hd.ret <| Hd.inBret <| Hd.thenRet <| Hd.thenRet <| Hd.inBret <| Hd.thenRet ?_; exact Hd.ret1 rfl () (by rfl) sq
   ·try simp only [hyA, hyB, hyC, ne_eq] at hc2
    have hl : ∀ j, j < i + 1 → (ord j).length ≤ 60 := fun j hj => by
     by_cases e : j = i
     ·subst e; omega
     ·exact hp0.2 j (by omega)
    refine Hd.skip <| Hd.inB <| Hd.toK hK10 ?_; refine Hd.region <| yv (y_addn rfl rfl (by simp only [InK]; omega)) ?_; refine yv y_mv <| Hd.nil <| slots [(0, _), (1, _), (5, _), (7, _), (46, _)] sbq ?_; refine thenN ?_; exact Hd.again (i + 1) (by omega) sbq (Ent.sep (.pure ⟨hi, hl⟩ enn))
  ·try simp only [hyA, hyB, hyC, ne_eq] at hc1
   obtain rfl : i = 3 := by omega
   have hol := hp0.2
   refine Hd.exit <| Hd.thenExit <| Hd.thenExit <| Hd.inBexit <| Hd.toK hK6 ?_; refine sr fun _ hK14 => ?_
   refine callE rfl fk16 (fresh_ct _) sq ?_; rintro ⟨pb, wb, rb⟩; dsimp only; refine yv y_as <| fk [(0, _), (1, _), (5, _), (7, _), (9, _)] hK14 ?_; refine Hd.seq fun _ hK15 => ?_
   refine sr fun _ hK16 => ?_
   refine yv y_mv <| yv (y_len Tryz.underlying22 rfl) ?_; refine yv y_mv <| fk [(0, _), (1, _), (5, _), (7, _), (9, _), (58, _), (59, _)] hK16 ?_; refine Hd.block <| Hd.loopK (ι := Nat) [(0, _), (1, _), (5, _), (7, _), (9, _), (58, _)] (fun i => [(59, .int .i64 (i : Int))]) (fun i => pu (i ≤ fs.length ∧ Lo (100 * i) (runA newA (fs.take i))) :: BoP pb wb rb :: WorldP wb (runA newA (fs.take i)) :: Rf.RwP rb (runA newA (fs.take i)) :: pt b5 (oCs oq okc ord) 75 :: L) (fun i => fs.length - i) 0 sbq sbq (Ent.sep (.pure ⟨Nat.zero_le _, newA_lo⟩ enn)) ?_; intro i
   try dsimp only
   refine Hd.pure (fun hp1 => ?_)
   try dsimp only at hp1
   refine sr fun _ hK17 => ?_
   refine yv (y_lss rfl rfl) ?_; refine fk [(0, _), (1, _), (5, _), (7, _), (9, _), (58, _), (59, _), (60, _)] hK17 ?_; refine Hd.seq fun _ hK18 => ?_
   refine Hd.cond rfl (fun hc3 => ?_) (fun hc3 => ?_)
   ·try simp only [hyA, hyB, hyC, ne_eq] at hc3
    have hi : i < fs.length := by omega
    obtain ⟨o, ho⟩ : ∃ o, fs[i]? = some o := ⟨_, List.getElem?_eq_getElem hi⟩
    have hoo := hFo o (List.mem_of_getElem? ho)
    have hod := hgo.2 o (List.mem_of_getElem? ho)
    have hrs : runA newA (fs.take (i + 1)) = doA (runA newA (fs.take i)) o := by rw [List.take_add_one, ho]; exact runA_snoc _ _ _
    refine Hd.wokW (.there .here) (fun hw => ?_)
    have hst := (do_stp hw o (by have := hoo.t; simp only [InK] at this; omega) (100 * i) (by omega) hp1.2).1
    rw [← hrs] at hst; refine Hd.skip <| Hd.toK hK18 ?_; refine Hd.seq fun _ hK19 => ?_
    refine Hd.block <| sr fun _ hK20 => ?_
    refine yv y_mv <| yv y_as <| fk [(0, _), (1, _), (5, _), (7, _), (9, _), (10, _), (58, _), (59, _)] hK20 ?_; refine sr fun _ hK21 => ?_
    refine yv y_mv <| yv y_mv <| yv y_mv <| yv (y_idxR Tryz.underlying22 sz33 rfl rfl hi (RdS.mono hF sq)) ?_; refine yv (y_loadRn (vs := encO o) ag33 rfl (RdS.mono hF sq) (flat_cells encO 5 (fun _ => rfl) ho) sz33 (by simp)) ?_; refine callE rfl fk17 (do_ct _ pb wb rb _ (100 * i) (by omega) hp1.2 o hoo.t hod ?hD hoo.c) sq ?_
    case hD => exact RdS.mono hoo.rd sq
    intro _; rw [← hrs]; refine yv (y_not rfl) ?_; refine fk [(0, _), (1, _), (5, _), (7, _), (9, _), (58, _), (59, _), (68, _)] hK21 ?_; refine Hd.condF rfl ?_; refine Hd.skip <| Hd.inB <| Hd.toK hK19 ?_; refine Hd.region <| yv (y_addn rfl rfl (by simp only [InK]; omega)) ?_; refine yv y_mv <| Hd.nil <| slots [(0, _), (1, _), (5, _), (7, _), (9, _), (58, _), (59, _)] sbq ?_; refine thenN ?_; exact Hd.again (i + 1) (by omega) sbq (Ent.sep (.pure ⟨hi, hst⟩ enn))
   ·try simp only [hyA, hyB, hyC, ne_eq] at hc3
    obtain rfl : i = fs.length := by omega
    rw [List.take_of_length_le (Nat.le_refl _)]
    obtain ⟨w, hrw⟩ : ∃ w, runA newA fs = w := ⟨_, rfl⟩
    rw [hrw]; refine Hd.wokW (.there .here) (fun hw => ?_); refine Hd.exit <| Hd.thenExit <| Hd.thenExit <| Hd.inBexit <| Hd.toK hK15 ?_; refine sr fun _ hK22 => ?_
    refine yv y_mv <| yv y_np <| yv (y_f 0 38 Tryz.underlying41 sz38) ?_; refine yv (y_l1 ag38 rfl) ?_; refine callE rfl fk32 (knew_ct _ wb) sq ?_; rintro ⟨qb, mb⟩; dsimp only; refine yv y_mv <| yv (y_to (v' := .pointer (some ⟨qb, 0, none⟩)) y_ex (by rfl)) ?_; refine yv (y_to (v' := .int .i64 0) y_ex (by rfl)) ?_; refine yv y_as <| yv y_as <| fk [(1, _), (5, _), (7, _), (11, _), (12, _)] hK22 ?_; refine Hd.seq fun _ hK23 => ?_
    refine sr fun _ hK24 => ?_
    refine yv y_mv <| yv (y_neq rfl rfl) ?_; refine fk [(1, _), (5, _), (7, _), (11, _), (79, _)] hK24 ?_; refine Hd.cond rfl (fun hc5 => ?_) (fun hc5 => ?_)
    ·try simp only [hyA, hyB, hyC, ne_eq] at hc5
     exfalso; simp at hc5
    ·try simp only [hyA, hyB, hyC, ne_eq] at hc5
     refine Hd.skip <| Hd.toK hK23 ?_; refine sr fun _ hK25 => ?_
     refine yv y_mv <| yv y_mv <| callE rfl fk33 (kchs_ct _ qb wb mb k0 0 w a2 c2 xs ?hD (by omega)) sq ?_
     case hD => exact RdS.mono hX sq
     rintro ⟨ra, rc, m⟩; dsimp only; refine Hd.pure fun hm => ?_
     have hg : GdK (chsK k0 w xs).2 w := chs_gd (k0_gd w) xs hXo
     obtain ⟨f, hf⟩ : ∃ f, (chsK k0 w xs).2 = f := ⟨_, rfl⟩
     rw [hf] at hg; rw [hf]; refine fk [(5, _), (7, _), (11, _)] hK25 ?_; refine sr fun _ hK26 => ?_
     refine Hd.makeMapP .i64 (fun b83 => ?_); refine yv y_as <| fk [(5, _), (7, _), (11, _), (13, _)] hK26 ?_; refine Hd.seq fun _ hK27 => ?_
     refine sr fun _ hK28 => ?_
     refine yv y_mv <| callE rfl fk34 (knotes_ct _ qb wb mb f m (by omega) w) sq ?_; rintro ⟨na, nc, ks⟩; dsimp only; refine Hd.pure fun hks => ?_
     obtain rfl := hks.eq hw hg.ok
     have hal := allK_len f w
     obtain ⟨W, hW⟩ : ∃ W, (allK f w).map (noK f) = W := ⟨_, rfl⟩
     have hWl : (allK f w).length = W.length := by rw [← hW, List.length_map]
     rw [hW, hWl]; rw [hWl] at hal; refine yv (y_len Tryz.underlying67 rfl) ?_; refine yv y_mv <| fk [(5, _), (7, _), (11, _), (13, _), (85, _), (86, _), (87, _)] hK28 ?_; refine Hd.block <| Hd.loopK (ι := Nat × Nat) [(5, _), (7, _), (11, _), (13, _), (85, _), (86, _)] (fun q_ => [(87, .int .i64 (q_.1 : Int))]) (fun q_ => pu (q_.1 ≤ W.length) :: mpP b83 .i64 (flM f (W.take q_.1)) q_.2 :: own 82 4 na W.length nc (W.flatMap encNo) :: KqB qb wb mb f m w (pt b5 (oCs oq okc ord) 75 :: L)) (fun q_ => W.length - q_.1) (0, 0) sbq sbq (by rw [List.take_zero, flM_nil]; exact Ent.sep (.pure (Nat.zero_le _) enn)) ?_; rintro ⟨i, mw⟩
     try dsimp only
     refine Hd.pure (fun hp2 => ?_)
     try dsimp only at hp2
     refine sr fun _ hK29 => ?_
     refine yv (y_lss rfl rfl) ?_; refine fk [(5, _), (7, _), (11, _), (13, _), (85, _), (86, _), (87, _), (88, _)] hK29 ?_; refine Hd.seq fun _ hK30 => ?_
     refine Hd.cond rfl (fun hc6 => ?_) (fun hc6 => ?_)
     ·try simp only [hyA, hyB, hyC, ne_eq] at hc6
      have hi : i < W.length := by omega
      obtain ⟨y, hy⟩ : ∃ y, W[i]? = some y := ⟨_, List.getElem?_eq_getElem hi⟩
      have hyf : y.2.2.1 = ((f (keyN y)).getD zKn).flags := by
       have hm := List.mem_of_getElem? hy
       rw [← hW] at hm
       obtain ⟨a, _, rfl⟩ := List.mem_map.1 hm
       rfl
      have hfl := flM_succ hy hyf
      refine Hd.skip <| Hd.toK hK30 ?_; refine Hd.seq fun _ hK31 => ?_
      refine Hd.block <| sr fun _ hK32 => ?_
      refine yv (y_idxR Tryz.underlying67 sz82 rfl rfl (by omega) (by exact RdS.own pkk)) ?_; refine yv (y_loadRn (vs := encNo y) ag82 rfl (RdS.own (ad := na) (us := W.flatMap encNo) pkk) (flat_cells encNo 4 (fun _ => rfl) hy) sz82 (by simp)) ?_; refine Hd.alloc zr82 (fun b15 => ?_); refine Hd.storeA (us := encNo y) sz82 rfl rfl rfl (encNo_one _) pkk (by exact rfl) ?_; refine fk [(5, _), (7, _), (11, _), (13, _), (15, _), (85, _), (86, _), (87, _)] hK32 ?_; refine Hd.region <| yv y_mv <| yv (y_f 0 3 Tryz.underlying82 sz3) ?_; refine yv (y_l1 ag3 rfl) ?_; refine yv (y_f 1 3 Tryz.underlying82 sz3) ?_; refine yv (y_l1 ag3 rfl) ?_; refine yv (y_build (vs := [(0, _), (1, _)]) rfl (by exact bd8_96 ..)) ?_; refine yv (y_f 2 3 Tryz.underlying82 sz3) ?_; refine yv (y_l1 ag3 rfl) ?_; refine Hd.mapUpdateK mapt79 rfl rfl rfl pkk ?_; refine Hd.nil <| slots [(5, _), (7, _), (11, _), (13, _), (85, _), (86, _), (87, _)] sbq ?_
      refine Hd.inB <| Hd.toK hK31 ?_; refine Hd.region <| yv (y_addn rfl rfl (by simp only [InK]; omega)) ?_; refine yv y_mv <| Hd.nil <| slots [(5, _), (7, _), (11, _), (13, _), (85, _), (86, _), (87, _)] sbq ?_; refine thenN <| Hd.again (i + 1, if (flM f (W.take i) (keyN y)).isSome then mw else mw + 1) (by show W.length - (i + 1) < W.length - i; omega) sbq (fun q t => ?_); exact Ent.sep (.pure (show i + 1 ≤ W.length by omega) (.eq pkk (congrArg (fun g => mpP b83 .i64 g _) hfl) enn)) q t
     ·try simp only [hyA, hyB, hyC, ne_eq] at hc6
      obtain rfl : i = W.length := by omega
      rw [List.take_of_length_le (Nat.le_refl _)]
      have hget := flM_get hw hg hW
      obtain ⟨FM, hFM⟩ : ∃ FM, flM f W = FM := ⟨_, rfl⟩
      rw [hFM] at hget; rw [hFM]; refine Hd.exit <| Hd.thenExit <| Hd.thenExit <| Hd.inBexit <| Hd.toK hK27 ?_; refine sr fun _ hK33 => ?_
      refine Hd.makeMapP .i64 (fun b100 => ?_); refine yv y_as <| fk [(5, _), (7, _), (11, _), (13, _), (16, _)] hK33 ?_; refine Hd.seq fun _ hK34 => ?_
      refine sr fun _ hK35 => ?_
      refine yv y_as <| fk [(5, _), (7, _), (11, _), (13, _), (16, _), (17, _)] hK35 ?_; refine Hd.block <| Hd.loopK (ι := Nat × (Ky → Option KnA) × Nat × Nat) [(5, _), (7, _), (11, _), (13, _), (16, _)] (fun q_ => [(17, .int .i64 (q_.1 : Int))]) (fun q_ => pu (q_.1 ≤ 3 ∧ AgI f q_.2.1 w q_.1 ∧ q_.2.2.1 ≤ 40 + 288 * q_.1) :: mpP b100 .i64 (mnV (mnK (dueK f w) f q_.1)) q_.2.2.2 :: mpP b83 .i64 FM mw :: KqB qb wb mb q_.2.1 q_.2.2.1 w (pt b5 (oCs oq okc ord) 75 :: L)) (fun q_ => 3 - q_.1) (0, f, m, 0) sbq sbq (by rw [mnK_zero]; exact Ent.sep (.pure ⟨Nat.zero_le _, AgI.init hg, (show m ≤ 40 + 288 * 0 by omega)⟩ enn)) ?_; rintro ⟨r, g, m3, mn⟩
      try dsimp only
      refine Hd.pure (fun hp3 => ?_)
      try dsimp only at hp3
      refine Hd.seq fun _ hK36 => ?_
      refine sr fun _ hK37 => ?_
      refine yv y_mv <| yv (y_lss rfl rfl) ?_; refine fk [(5, _), (7, _), (11, _), (13, _), (16, _), (17, _), (102, _)] hK37 ?_; refine Hd.cond rfl (fun hc7 => ?_) (fun hc7 => ?_)
      ·try simp only [hyA, hyB, hyC, ne_eq] at hc7
       have hr : r < 3 := by omega
       have hI := hp3.2.1
       have hm3 := hp3.2.2
       have holr := hol r hr
       have hdl := dueK_len g w
       refine Hd.skip <| Hd.toK hK36 ?_; refine Hd.seq fun _ hK38 => ?_
       refine Hd.block <| sr fun _ hK39 => ?_
       refine yv y_mv <| yv y_mv <| yv (y_idxA Tryz.underlying75 sz44 rfl rfl (by omega)) ?_; refine yv (y_load1 ag44 rfl (Rd.pt1 pkk (by rw [Nat.zero_add, Nat.mul_one]; exact oCs_at oq okc ord r hr))) ?_; refine callE rfl fk30 (kpoll_ct _ qb wb mb g m3 (by omega) hI.gd.ok w 300 (by decide) (oq r) (okc r) (ord r) ?hD (by omega)) sq ?_
       case hD => exact RdS.mono (hO r hr) sq
       rintro ⟨pa, pc, m5⟩; dsimp only; refine Hd.pure fun hm5 => ?_
       have hT3 := polK_mem (f := g) (w := w) (ord := ord r)
       have hTl : (polK g w 300 (ord r)).length ≤ 288 := by rw [polK_len]; exact Nat.le_trans (Nat.min_le_right _ _) hdl
       obtain ⟨T, hT⟩ : ∃ T, polK g w 300 (ord r) = T := ⟨_, rfl⟩
       rw [hT] at hT3 hm5 hTl; rw [hT]
       obtain ⟨hTs, hTn, hTk⟩ := hT3
       have hI2 := hI.step hTs hTn hTk
       obtain ⟨g', hg'⟩ : ∃ g', offK w g T = g' := ⟨_, rfl⟩
       rw [hg'] at hI2; rw [hg']; refine yv y_mv <| yv (y_to (v' := .slice pa T.length pc) y_ex (by rfl)) ?_; refine yv (y_to (v' := .int .i64 0) y_ex (by rfl)) ?_; refine yv y_as <| yv y_as <| fk [(5, _), (7, _), (11, _), (13, _), (16, _), (17, _), (18, _), (19, _)] hK39 ?_; refine Hd.seq fun _ hK40 => ?_
       refine sr fun _ hK41 => ?_
       refine yv y_mv <| yv (y_neq rfl rfl) ?_; refine fk [(5, _), (7, _), (11, _), (13, _), (16, _), (17, _), (18, _), (114, _)] hK41 ?_; refine Hd.cond rfl (fun hc8 => ?_) (fun hc8 => ?_)
       ·try simp only [hyA, hyB, hyC, ne_eq] at hc8
        exfalso; simp at hc8
       ·try simp only [hyA, hyB, hyC, ne_eq] at hc8
        refine Hd.skip <| Hd.toK hK40 ?_; refine sr fun _ hK42 => ?_
        refine yv y_mv <| yv (y_len Tryz.underlying67 rfl) ?_; refine yv y_mv <| fk [(5, _), (7, _), (11, _), (13, _), (16, _), (17, _), (115, _), (116, _), (117, _)] hK42 ?_; refine Hd.block <| Hd.loopK (ι := Nat × Nat) [(5, _), (7, _), (11, _), (13, _), (16, _), (17, _), (115, _), (116, _)] (fun q_ => [(117, .int .i64 (q_.1 : Int))]) (fun q_ => pu (q_.1 ≤ T.length) :: own 82 4 pa T.length pc (T.flatMap encNo) :: mpP b100 .i64 (mnV (mnI (dueK f w) f r T q_.1)) q_.2 :: mpP b83 .i64 FM mw :: KqB qb wb mb g' m5 w (pt b5 (oCs oq okc ord) 75 :: L)) (fun q_ => T.length - q_.1) (0, mn) sbq sbq (by rw [mnI_zero]; exact Ent.sep (.pure (Nat.zero_le _) enn)) ?_; rintro ⟨i, mn2⟩
        try dsimp only
        refine Hd.pure (fun hp4 => ?_)
        try dsimp only at hp4
        refine sr fun _ hK43 => ?_
        refine yv (y_lss rfl rfl) ?_; refine fk [(5, _), (7, _), (11, _), (13, _), (16, _), (17, _), (115, _), (116, _), (117, _), (118, _)] hK43 ?_; refine Hd.seq fun _ hK44 => ?_
        refine Hd.cond rfl (fun hc9 => ?_) (fun hc9 => ?_)
        ·try simp only [hyA, hyB, hyC, ne_eq] at hc9
         have hi : i < T.length := by omega
         obtain ⟨y, hy⟩ : ∃ y, T[i]? = some y := ⟨_, List.getElem?_eq_getElem hi⟩
         have hyd := hTs y (List.mem_of_getElem? hy)
         obtain ⟨hon, h8⟩ := hI.due hyd
         have hmv := mnI_at hI hTs hTn hy
         obtain ⟨G, hG⟩ : ∃ G, mnV (mnI (dueK f w) f r T i) = G := ⟨_, rfl⟩
         rw [hG] at hmv; rw [hG]
         have hfg := hget (keyN y)
         have hmv2 : ((fun c => if c = keyN y then some ((G (keyN y)).getD (.int .i64 0)) else G c) (keyN y)).getD (.int .i64 0) = .int .i64 (r : Int) := by dsimp only; rw [if_pos rfl]; exact hmv
         have hms : (fun c => if c = keyN y then some (Value.int .i64 ((r : Int) + 1)) else (if c = keyN y then some ((G (keyN y)).getD (.int .i64 0)) else G c)) = mnV (mnI (dueK f w) f r T (i + 1)) := by
          have h := mnI_succ (f0 := f) (D := dueK f w) (r := r) hy ((G (keyN y)).getD (.int .i64 0))
          rw [hG] at h; exact h
         refine Hd.skip <| Hd.toK hK44 ?_; refine Hd.seq fun _ hK45 => ?_
         refine Hd.block <| sr fun _ hK46 => ?_
         refine yv (y_idxR Tryz.underlying67 sz82 rfl rfl (by omega) (by exact RdS.own pkk)) ?_; refine yv (y_loadRn (vs := encNo y) ag82 rfl (RdS.own (ad := pa) (us := T.flatMap encNo) pkk) (flat_cells encNo 4 (fun _ => rfl) hy) sz82 (by simp)) ?_; refine Hd.alloc zr82 (fun b21 => ?_); refine Hd.storeA (us := encNo y) sz82 rfl rfl rfl (encNo_one _) pkk (by exact rfl) ?_; refine fk [(5, _), (7, _), (11, _), (13, _), (16, _), (17, _), (21, _), (115, _), (116, _), (117, _)] hK46 ?_; refine sr fun _ hK47 => ?_
         refine yv (y_f 0 3 Tryz.underlying82 sz3) ?_; refine yv (y_l1 ag3 rfl) ?_; refine yv (y_f 1 3 Tryz.underlying82 sz3) ?_; refine yv (y_l1 ag3 rfl) ?_; refine yv (y_build (vs := [(0, _), (1, _)]) rfl (by exact bd8_125 ..)) ?_; refine Hd.alloc zr84 (fun b22 => ?_); refine Hd.storeA (us := [.int .i64 y.1, .int .i64 y.2.1]) sz84 rfl rfl rfl (by simp [Value.oneCell']) pkk (by exact rfl) ?_; refine fk [(5, _), (7, _), (11, _), (13, _), (16, _), (17, _), (21, _), (22, _), (115, _), (116, _), (117, _)] hK47 ?_; refine Hd.seq fun _ hK48 => ?_
         refine Hd.drawsH ([mpV b100 .i64 (keyN y) (.int .i64 0) (.int .i64 (r : Int)), pt b22 [.int .i64 y.1, .int .i64 y.2.1] 84]) (fun j => !([6].contains j)) mixed ?_; simp only [List.length, Nat.zero_add, Nat.reduceAdd]; refine Hd.takeH 0 rfl kq kq kq kq y_mv fq (by exact Ent.sep (.imp pkk (mpV_of hmv) enn)) ?_; refine Hd.takeH 1 rfl kq kq kq kq (y_loadn (us := [_, _]) ag84 rfl (Rd.pt pkk (by (first | (intro j v e; rcases j with _|_|_|_|_|_|_|_|_|_|_|_|j <;> first | exact e | exact absurd e (by simp))))) (by exact sz84)) fq (by exact Ent.sep (.imp pkk (mpV_of hmv) enn)) ?_; refine Hd.takeH 2 rfl kq kq kq kq (y_lookupV (a := keyN y) mapt79 rfl rfl pkk) fq (by exact Ent.sep (.imp pkk (mpV_of hmv) enn)) ?_; refine Hd.takeH 3 rfl kq kq kq kq (y_addn rfl rfl (by simp only [InK]; omega)) fq (by exact Ent.sep (.imp pkk (mpV_of hmv) enn)) ?_; refine onlyH 4 rfl kq ?_; refine Hd.mapEntryP (a := keyN y) mapt79 rfl rfl pkk (fun bo => ?_)
         refine Hd.nil <| thenN <| heldK (J := (fun j => !([6].contains j))) (i := 4) (Ent.sep (.imp pkk (mpV_me (fun c => if c = keyN y then some ((G (keyN y)).getD (.int .i64 0)) else G c) hmv2) enn)) ?_; refine Hd.takeH 5 rfl kq kq kq kq y_ex fq (by exact Ent.sep (.imp pkk (mpV_me (fun c => if c = keyN y then some ((G (keyN y)).getD (.int .i64 0)) else G c) hmv2) enn)) ?_; refine onlyH 6 rfl kq ?_; refine Hd.entryStoreP rfl (by rfl) rfl pkk ?_; refine Hd.nil <| thenN <| Hd.heldN (J := (fun j => !([6].contains j))) (i := 6) rfl ?_; refine endH kq ?_; refine sk [(5, _), (7, _), (11, _), (13, _), (16, _), (17, _), (21, _), (22, _), (115, _), (116, _), (117, _)] hK48 ?_; refine sr fun _ hK49 => ?_
         refine yv y_mv <| yv (y_loadn (us := [_, _]) ag84 rfl (Rd.pt pkk (by (first | (intro j v e; rcases j with _|_|_|_|_|_|_|_|_|_|_|_|j <;> first | exact e | exact absurd e (by simp))))) (by exact sz84)) ?_; refine yv (y_to (v' := .int .i64 ((f (keyN y)).getD zKn).flags) (y_lookupK mapt79 rfl rfl pkk) (by exact hfg)) ?_; refine yv (y_and rfl rfl) ?_; refine yv (y_neq rfl rfl) ?_; refine yv y_mv ?_; apply Hd.org 11 137 148 [(5, _), (7, _), (11, _), (13, _), (16, _), (17, _), (22, _), (115, _), (116, _), (117, _)] rfl sbq
         ·intro _
          simp only [List.take]; refine n1 <| n1 <| n1 <| n1 <| n1 <| n1 <| n1 <| n1 <| n1 <| n1 <| yv (y_pickT rfl rfl) ?_; refine Hd.nil ?_; exact Hd.mq
         ·intro hg39_137
          try simp only [hyA, hyB, hyC, ne_eq] at hg39_137
          simp only [List.take]; refine y2 y_mv <| y2 (y_loadn (us := [_, _]) ag84 rfl (Rd.pt pkk (by (first | (intro j v e; rcases j with _|_|_|_|_|_|_|_|_|_|_|_|j <;> first | exact e | exact absurd e (by simp))))) (by exact sz84)) ?_; refine y2 (y_to (v' := .int .i64 ((f (keyN y)).getD zKn).flags) (y_lookupK mapt79 rfl rfl pkk) (by exact hfg)) ?_; refine y2 (y_and rfl rfl) ?_; refine y2 (y_neq rfl rfl) ?_; refine y2 y_mv ?_; apply Hd.andg 4 143 147 [(5, _), (7, _), (11, _), (13, _), (16, _), (17, _), (22, _), (115, _), (116, _), (117, _), (137, _)] rfl sbq
          ·intro _
           simp only [List.take]; refine y2 (y_f 1 3 Tryz.underlying82 sz3) ?_; refine y2 (y_l1 ag3 rfl) ?_; refine y2 (y_neq rfl rfl) ?_; refine y2 (y_pickT rfl rfl) ?_; refine Hd.nil ?_; exact Hd.mq
          ·intro _
           simp only [List.take]; refine n1 <| n1 <| n1 <| y2 (y_pickF rfl rfl) ?_; refine Hd.nil ?_; exact Hd.mq
          simp only [List.drop]; refine yv (y_pickF rfl rfl) ?_; refine Hd.nil ?_; exact Hd.mq
         simp only [List.drop]; refine yv y_as <| fk [(5, _), (7, _), (11, _), (13, _), (16, _), (17, _), (22, _), (23, _), (115, _), (116, _), (117, _)] hK49 ?_; refine sr fun _ hK50 => ?_
         refine yv y_mv <| yv (y_loadn (us := [_, _]) ag84 rfl (Rd.pt pkk (by (first | (intro j v e; rcases j with _|_|_|_|_|_|_|_|_|_|_|_|j <;> first | exact e | exact absurd e (by simp))))) (by exact sz84)) ?_; refine yv (y_to (v' := .int .i64 ((f (keyN y)).getD zKn).flags) (y_lookupK mapt79 rfl rfl pkk) (by exact hfg)) ?_; refine yv (y_and rfl rfl) ?_; refine yv (y_neq rfl rfl) ?_; refine yv y_mv ?_; apply Hd.org 8 154 162 [(5, _), (7, _), (11, _), (13, _), (16, _), (17, _), (22, _), (23, _), (115, _), (116, _), (117, _)] rfl sbq
         ·intro _
          simp only [List.take]; refine n1 <| n1 <| n1 <| n1 <| n1 <| n1 <| n1 <| yv (y_pickT rfl rfl) ?_; refine Hd.nil ?_; exact Hd.mq
         ·intro hg40_154
          try simp only [hyA, hyB, hyC, ne_eq] at hg40_154
          simp only [List.take]; refine y2 y_mv <| y2 y_mv ?_; apply Hd.andg 5 156 161 [(5, _), (7, _), (11, _), (13, _), (16, _), (17, _), (22, _), (23, _), (115, _), (116, _), (117, _), (154, _)] rfl sbq
          ·intro hg40_156
           try simp only [hyA, hyB, hyC, ne_eq] at hg40_156
           simp only [List.take]; refine y2 y_mv <| y2 (y_loadn (us := [_, _]) ag84 rfl (Rd.pt pkk (by (first | (intro j v e; rcases j with _|_|_|_|_|_|_|_|_|_|_|_|j <;> first | exact e | exact absurd e (by simp))))) (by exact sz84)) ?_; refine y2 (y_to (v' := .int .i64 ((r : Int) + 1)) (y_lookupK mapt79 rfl rfl pkk) (by (rw [if_pos rfl]; rfl))) ?_; refine y2 (y_gtr rfl rfl) ?_; refine y2 (y_pickT rfl rfl) ?_; refine Hd.nil ?_; exact Hd.mq
          ·intro _
           simp only [List.take]; refine n1 <| n1 <| n1 <| n1 <| y2 (y_pickF rfl rfl) ?_; refine Hd.nil ?_; exact Hd.mq
          simp only [List.drop]; refine yv (y_pickF rfl rfl) ?_; refine Hd.nil ?_; exact Hd.mq
         simp only [List.drop]; refine yv y_mv ?_; apply Hd.org 11 163 174 [(5, _), (7, _), (11, _), (13, _), (16, _), (17, _), (115, _), (116, _), (117, _)] rfl sbq
         ·intro _
          simp only [List.take]; refine n1 <| n1 <| n1 <| n1 <| n1 <| n1 <| n1 <| n1 <| n1 <| n1 <| yv (y_pickT rfl rfl) ?_; refine Hd.nil ?_; exact Hd.mq
         ·intro hg40_163
          try simp only [hyA, hyB, hyC, ne_eq] at hg40_163
          simp only [List.take]; refine y2 y_mv <| y2 (y_not rfl) ?_; refine y2 y_mv ?_; apply Hd.andg 7 166 173 [(5, _), (7, _), (11, _), (13, _), (16, _), (17, _), (115, _), (116, _), (117, _), (163, _)] rfl sbq
          ·intro hg40_166
           try simp only [hyA, hyB, hyC, ne_eq] at hg40_166
           simp only [List.take]; refine y2 y_mv <| y2 (y_loadn (us := [_, _]) ag84 rfl (Rd.pt pkk (by (first | (intro j v e; rcases j with _|_|_|_|_|_|_|_|_|_|_|_|j <;> first | exact e | exact absurd e (by simp))))) (by exact sz84)) ?_; refine y2 (y_to (v' := .int .i64 ((r : Int) + 1)) (y_lookupK mapt79 rfl rfl pkk) (by (rw [if_pos rfl]; rfl))) ?_; refine y2 y_mv <| y2 (y_addn rfl rfl (by simp only [InK]; omega)) ?_; refine y2 (y_neq rfl rfl) ?_; refine y2 (y_pickT rfl rfl) ?_; refine Hd.nil ?_; exact Hd.mq
          ·intro _
           simp only [List.take]; refine n1 <| n1 <| n1 <| n1 <| n1 <| n1 <| y2 (y_pickF rfl rfl) ?_; refine Hd.nil ?_; exact Hd.mq
          simp only [List.drop]; refine yv (y_pickF rfl rfl) ?_; refine Hd.nil ?_; exact Hd.mq
         simp only [List.drop]; refine fk [(5, _), (7, _), (11, _), (13, _), (16, _), (17, _), (115, _), (116, _), (117, _), (174, _)] hK50 ?_; refine Hd.cond rfl (fun hc10 => ?_) (fun hc10 => ?_)
         ·try simp only [hyA, hyB, hyC, ne_eq] at hc10
          exfalso; rw [onceF_eq] at hon; simp only [Bool.or_eq_true, Bool.and_eq_true, decide_eq_true_eq] at hon
          rcases hc10 with (h | ⟨h, h'⟩) | ⟨_, h⟩
          ·exact h h8
          ·have := hon h; omega
          ·exact h trivial
         ·try simp only [hyA, hyB, hyC, ne_eq] at hc10
          refine Hd.skip <| Hd.inB <| Hd.toK hK45 ?_; refine Hd.region <| yv (y_addn rfl rfl (by simp only [InK]; omega)) ?_; refine yv y_mv <| Hd.nil <| slots [(5, _), (7, _), (11, _), (13, _), (16, _), (17, _), (115, _), (116, _), (117, _)] sbq ?_; refine thenN <| Hd.again (i + 1, if (G (keyN y)).isSome then mn2 else mn2 + 1) (by show T.length - (i + 1) < T.length - i; omega) sbq (fun q t => ?_); exact Ent.sep (.pure (show i + 1 ≤ T.length by omega) (.pick pkk (.eq pkk (congrArg (fun g => mpP b100 .i64 g _) hms) enn))) q t
        ·try simp only [hyA, hyB, hyC, ne_eq] at hc9
         obtain rfl : i = T.length := by omega
         rw [mnI_all hI hTs hTk]; refine Hd.exit <| Hd.thenExit <| Hd.thenExit <| Hd.inBexit <| Hd.inB <| Hd.toK hK38 ?_; refine Hd.region <| yv y_mv <| yv (y_addn rfl rfl (by simp only [InK]; omega)) ?_; refine yv y_as <| Hd.nil <| slots [(5, _), (7, _), (11, _), (13, _), (16, _), (17, _)] sbq ?_; refine thenN <| Hd.again (r + 1, g', m5, mn2) (by show 3 - (r + 1) < 3 - r; omega) sbq (fun q t => ?_); exact Ent.sep (.pure ⟨hr, hI2, (show m5 ≤ 40 + 288 * (r + 1) by omega)⟩ enn) q t
      ·try simp only [hyA, hyB, hyC, ne_eq] at hc7
       obtain rfl : r = 3 := by omega
       refine Hd.mpOutP (b := b100) pkk (fun ml mc hM => ?_); refine Hd.exit <| Hd.thenExit <| Hd.thenExit <| Hd.inBexit <| Hd.toK hK34 ?_; refine Hd.seq fun _ hK51 => ?_
       refine sr fun _ hK52 => ?_
       refine yv y_mv <| Hd.rangeMapP Tryz.underlying79 rfl pkk (fun it => ?_); refine fk [(7, _), (13, _), (177, _)] hK52 ?_; refine Hd.block <| Hd.loopK (ι := List KVP) [(7, _), (13, _)] (fun es => [(177, .pointer (some ⟨it, 0, none⟩))]) (fun es => pu (EsIP ml es) :: io it b100 mc (es.map (·.2.2)) :: moP b100 .i64 ml mc :: mpP b83 .i64 FM mw :: L) (fun es => ml.length + 1 - es.length) ([]) sbq sbq (by simp only [List.map_nil]; exact Ent.sep (.pure (EsIP.nil ml) enn)) ?_; intro es
       try dsimp only
       refine Hd.pure (fun hp5 => ?_)
       try dsimp only at hp5
       refine sr fun _ hK53 => ?_
       refine Hd.nextMapP (seen := es.map (·.2.2)) rfl pkk pkk hM.lt (fun o ho => ?_); refine yv (y_extOP (k := .i64) o rfl) ?_; refine fk [(7, _), (13, _), (177, _), (179, _)] hK53 ?_; refine Hd.seq fun _ hK54 => ?_
       refine Hd.cond rfl (fun hc11 => ?_) (fun hc11 => ?_)
       ·try simp only [hyA, hyB, hyC, ne_eq] at hc11
        obtain ⟨e, rfl⟩ : ∃ e, o = some e := Option.isSome_iff_exists.1 hc11
        have hE2 := hp5.step ho.1 ho.2
        have hlen := es_len hM hE2
        rw [List.length_append, List.length_singleton, ← hM.len] at hlen
        have hml := hM.len
        have hval := mn_val hM ho.1
        have hfe := hget e.1
        simp only [seenOP]; refine Hd.skip <| Hd.toK hK54 ?_; refine Hd.block <| sr fun _ hK55 => ?_
        refine yv (y_entryP (k := .i64) (e := e) (seen := es.map (·.2.2)) rfl pkk pkk ho.1 hM.nd) ?_; refine yv y_ex <| yv (y_to (v' := .int .i64 (if onceF f e.1 = true then 1 else 3)) y_ex (by exact hval)) ?_; refine Hd.alloc zr84 (fun b24 => ?_); refine Hd.storeA (us := [.int .i64 e.1.1, .int .i64 e.1.2]) sz84 rfl rfl rfl (by simp [Value.oneCell']) pkk (by exact rfl) ?_; refine yv y_as <| fk [(7, _), (13, _), (24, _), (25, _), (177, _)] hK55 ?_; refine sr fun _ hK56 => ?_
        refine yv y_mv <| yv (y_loadn (us := [_, _]) ag84 rfl (Rd.pt pkk (by (first | (intro j v e; rcases j with _|_|_|_|_|_|_|_|_|_|_|_|j <;> first | exact e | exact absurd e (by simp))))) (by exact sz84)) ?_; refine yv (y_to (v' := .int .i64 ((f e.1).getD zKn).flags) (y_lookupK mapt79 rfl rfl pkk) (by exact hfe)) ?_; refine yv (y_and rfl rfl) ?_; refine yv (y_neq rfl rfl) ?_; refine yv y_mv ?_; apply Hd.org 11 188 199 [(7, _), (13, _), (25, _), (177, _)] rfl sbq
        ·intro _
         simp only [List.take]; refine n1 <| n1 <| n1 <| n1 <| n1 <| n1 <| n1 <| n1 <| n1 <| n1 <| yv (y_pickT rfl rfl) ?_; refine Hd.nil ?_; exact Hd.mq
        ·intro hg46_188
         try simp only [hyA, hyB, hyC, ne_eq] at hg46_188
         simp only [List.take]; refine y2 y_mv <| y2 (y_loadn (us := [_, _]) ag84 rfl (Rd.pt pkk (by (first | (intro j v e; rcases j with _|_|_|_|_|_|_|_|_|_|_|_|j <;> first | exact e | exact absurd e (by simp))))) (by exact sz84)) ?_; refine y2 (y_to (v' := .int .i64 ((f e.1).getD zKn).flags) (y_lookupK mapt79 rfl rfl pkk) (by exact hfe)) ?_; refine y2 (y_and rfl rfl) ?_; refine y2 (y_neq rfl rfl) ?_; refine y2 y_mv ?_; apply Hd.andg 4 194 198 [(7, _), (13, _), (25, _), (177, _), (188, _)] rfl sbq
         ·intro _
          simp only [List.take]; refine y2 (y_f 1 3 Tryz.underlying84 sz3) ?_; refine y2 (y_l1 ag3 rfl) ?_; refine y2 (y_neq rfl rfl) ?_; refine y2 (y_pickT rfl rfl) ?_; refine Hd.nil ?_; exact Hd.mq
         ·intro _
          simp only [List.take]; refine n1 <| n1 <| n1 <| y2 (y_pickF rfl rfl) ?_; refine Hd.nil ?_; exact Hd.mq
         simp only [List.drop]; refine yv (y_pickF rfl rfl) ?_; refine Hd.nil ?_; exact Hd.mq
        simp only [List.drop]; refine yv y_as <| fk [(7, _), (13, _), (25, _), (26, _), (177, _)] hK56 ?_; refine sr fun _ hK57 => ?_
        refine yv y_mv <| yv (y_not rfl) ?_; refine yv y_mv ?_; apply Hd.andg 3 202 205 [(7, _), (13, _), (177, _)] rfl sbq
        ·intro _
         simp only [List.take]; refine y2 y_mv <| y2 (y_neq rfl rfl) ?_; refine yv (y_pickT rfl rfl) ?_; refine Hd.nil ?_; exact Hd.mq
        ·intro _
         simp only [List.take]; refine n1 <| n1 <| yv (y_pickF rfl rfl) ?_; refine Hd.nil ?_; exact Hd.mq
        simp only [List.drop]; refine fk [(7, _), (13, _), (177, _), (205, _)] hK57 ?_; refine Hd.cond rfl (fun hc12 => ?_) (fun hc12 => ?_)
        ·try simp only [hyA, hyB, hyC, ne_eq] at hc12
         exfalso; rw [onceF_eq] at hc12; refine hc12.2 (if_neg ?_); simp only [Bool.or_eq_true, Bool.and_eq_true, decide_eq_true_eq]; rintro (h | ⟨h, h'⟩)
         ·exact h hc12.1.1
         ·exact hc12.1.2.elim h h'
        ·try simp only [hyA, hyB, hyC, ne_eq] at hc12
         refine Hd.skip <| Hd.inB <| thenN <| Hd.again (es ++ [e]) (by show ml.length + 1 - (es ++ [e]).length < ml.length + 1 - es.length; simp only [List.length_append, List.length_singleton]; omega) sbq (fun q t => ?_); simp only [List.map_append, List.map_singleton]; exact Ent.sep (.pure hE2 enn) q t
       ·try simp only [hyA, hyB, hyC, ne_eq] at hc11
        obtain rfl : o = none := by cases o with | none => rfl | some e => simp at hc11
        simp only [seenOP]; refine Hd.exit <| Hd.thenExit <| Hd.thenExit <| Hd.inBexit <| Hd.toK hK51 ?_; refine sr fun _ hK58 => ?_
        refine yv y_mv <| yv y_as <| fk [(6, _)] hK58 ?_; refine Hd.ret ?_; exact Hd.ret1 rfl () (by rfl) sq
end Kq
end Go.Proofs.YtbfddabjbkohdaaGreat
namespace Go.RX
set_option linter.unusedSimpArgs false
set_option linter.unusedVariables false
set_option linter.unnecessarySimpa false
section
variable {H : Type} {enc : TypeId × Value → H} {P : Program} {W : World} {held : Bool}
theorem open_arr3 {s : Sh} {t e : TypeId} {r : Reach} {b0 : Nat} {v : Value} {d : DataW H} {p : List MemPlace} (hu : P.underlying t = some (.array 3 e)) (hf : s.fits P e = true) (hc : P.cellsOf e = 1) (hc3 : P.cellsOf t = 3)
  (hv : Value.okWide P W r b0 t v) (h : DataW.Trod enc P W 0 (fun _ => true) held t v d p) :
  ∃ x : Nat → s.T, v = .agg (s.enc (x 0) ++ s.enc (x 1) ++ s.enc (x 2)).toArray ∧ ∀ i, i < 3 → s.ok W (x i) := by
 obtain ⟨fuel, h⟩ := h
 unfold Value.okWide at hv; rw [hu] at hv
 obtain ⟨cs, rfl, hsz, _⟩ := hv
 simp only [Value.cells] at h
 cases fuel with
 | zero => simp [DataW.trod] at h
 | succ fuel =>
  unfold DataW.trod at h; rw [hu] at h; dsimp only at h
  split at h
  ·rename_i hl
   obtain ⟨xs, hx, _⟩ := Option.map_eq_some_iff.1 h
   rw [show List.range 3 = [0, 1, 2] from rfl] at hx; simp only [List.mapM_cons, List.mapM_nil, bind, Option.bind_eq_some_iff] at hx
   obtain ⟨y0, h0, ys, ⟨y1, h1, zs, ⟨y2, h2, us, _, _⟩, _⟩, _⟩ := hx
   obtain ⟨a, b, c, hcs⟩ : ∃ a b c, cs.toList = [a, b, c] := by
    rw [hc3] at hl
    match hq : cs.toList, hl with
    | [a, b, c], _ => exact ⟨a, b, c, rfl⟩
   rw [hcs, hc] at h0 h1 h2
   obtain ⟨x0, e0, o0⟩ := (open_all s).1 e fuel [a] _ hf h0
   obtain ⟨x1, e1, o1⟩ := (open_all s).1 e fuel [b] _ hf h1
   obtain ⟨x2, e2, o2⟩ := (open_all s).1 e fuel [c] _ hf h2
   refine ⟨fun i => if i = 0 then x0 else if i = 1 then x1 else x2, ?_, fun i hi => ?_⟩
   ·refine congrArg Value.agg (Array.ext' ?_)
    rw [hcs]
    show [a, b, c] = s.enc x0 ++ s.enc x1 ++ s.enc x2
    rw [← e0, ← e1, ← e2]; rfl
   ·rcases i with _ | _ | _ | i
    ·exact o0
    ·exact o1
    ·exact o2
    ·omega
  ·cases h
end
end Go.RX
namespace Go.Proofs.YtbfddabjbkohdaaGreat
set_option maxHeartbeats 2000000
open Go.RX.Hd (yv y2 n1 fk sk sr tH callE heldK onlyH endH thenN slots)
set_option linter.unusedSimpArgs false
set_option linter.unusedVariables false
set_option linter.unnecessarySimpa false
open Go.RX Go.ChangeShapes Go.WideShapes Go.ChangeAt Go.RowKit
abbrev shO : Sh := .struct (.fld (.int .i64) (.fld (.int .i64) (.fld (.int .i64) (.fld (.int .u64) (.fld (.slice (.int .u8)) .nil)))))
def cvO (y : shO.T) : Wo.Ov := ⟨y.1, y.2.1, y.2.2.1, y.2.2.2.1, y.2.2.2.2.1.ad, y.2.2.2.2.1.cap, y.2.2.2.2.1.l.map u8of⟩
theorem enc_cvO (y : shO.T) : Wo.encO (cvO y) = shO.enc y := by
 show [_, _, _, _, Value.slice _ (y.2.2.2.2.1.l.map u8of).length _] = _
 rw [List.length_map]; rfl
theorem ok_cvO {W : World} {y : shO.T} (h : shO.ok W y) : Wo.OvOk [Old W] (cvO y) :=
 ⟨rd_u8 h.2.2.2.2.1, by show (List.map u8of _).length ≤ _; rw [List.length_map]; exact h.2.2.2.2.1.2.1, h.1, h.2.1, h.2.2.1, h.2.2.2.1⟩
theorem rd_ops {W : World} {x : (Sh.slice shO).T} (h : (Sh.slice shO).ok W x) : RdS [Old W] 5 x.ad (x.l.map cvO).length ((x.l.map cvO).flatMap Wo.encO) := by
 have e : (x.l.map cvO).flatMap Wo.encO = x.l.flatMap shO.enc := by rw [List.flatMap_map]; congr 1; funext y; exact enc_cvO y
 rw [e, List.length_map]; exact h.1
theorem ops_ok {W : World} {x : (Sh.slice shO).T} (h : (Sh.slice shO).ok W x) : ∀ o ∈ x.l.map cvO, Wo.OvOk [Old W] o := fun o ho => by
 obtain ⟨y, hy, rfl⟩ := List.mem_map.1 ho
 exact ok_cvO (h.2.2.2.2 y hy)
abbrev shNl : Sh := .fld (.int .i64) (.fld (.int .i64) (.fld (.int .i64) (.fld (.int .i64) .nil)))
abbrev shN : Sh := .struct shNl
def cvN (y : shN.T) : Kq.NoA := (y.1, y.2.1, y.2.2.1, y.2.2.2.1)
theorem rd_ns {W : World} {x : (Sh.slice shN).T} (h : (Sh.slice shN).ok W x) : RdS [Old W] 4 x.ad (x.l.map cvN).length ((x.l.map cvN).flatMap Kq.encNo) := by
 have e : (x.l.map cvN).flatMap Kq.encNo = x.l.flatMap shN.enc := by rw [List.flatMap_map]; congr 1
 rw [e, List.length_map]; exact h.1
theorem ns_ok {W : World} {x : (Sh.slice shN).T} (h : (Sh.slice shN).ok W x) : ∀ p ∈ x.l.map cvN, InK .i64 p.2.2.1 := fun o ho => by
 obtain ⟨y, hy, rfl⟩ := List.mem_map.1 ho
 exact (h.2.2.2.2 y hy).2.2.1
end Go.Proofs.YtbfddabjbkohdaaGreat
