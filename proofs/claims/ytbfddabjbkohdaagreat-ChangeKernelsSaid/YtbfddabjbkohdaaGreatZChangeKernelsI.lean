/-
  The world and the document's, side by side: what comes in; Fresh; more.
-/
import Derived.Test.YtbfddabjbkohdaaGreatZChangeKernelsH
set_option linter.unusedSimpArgs false
set_option linter.unusedVariables false
set_option linter.unnecessarySimpa false
set_option maxRecDepth 8000
set_option maxHeartbeats 2000000
open Go.RX.Hd (yv y2 n1 fk sk sr tH callE heldK qo qk qn qt qz qv endH thenN slots)
namespace Go.Proofs.YtbfddabjbkohdaaGreat
open Go.RX Fx
namespace Wo
abbrev encO (o : Ov) : List Value := [.int .i64 o.k, .int .i64 o.a, .int .i64 o.n, .int .u64 o.t, .slice o.ad o.d.length o.c]
structure OvOk (L : List SP) (o : Ov) : Prop where
 rd : RdS L 1 o.ad o.d.length (bsl o.d)
 c : o.d.length ≤ o.c
 k : InK .i64 o.k
 a : InK .i64 o.a
 n : InK .i64 o.n
 t : InK .u64 o.t
def gO (xs : List Ov) : Int := if 200 < xs.length then 1 else if ∀ o ∈ xs, o.d.length ≤ 300 then 0 else 1
theorem gO_ok {xs : List Ov} (h : ¬ 0 < gO xs) : xs.length ≤ 200 ∧ ∀ o ∈ xs, o.d.length ≤ 300 := by
 unfold gO at h
 split at h
 ·exact absurd (by decide) h
 ·split at h
  ·rename_i h1 h2; exact ⟨by omega, h2⟩
  ·exact absurd (by decide) h
theorem great11_ct (L : List SP) (ad : Option Addr) (c : Nat) (xs : List Ov) (hR : RdS L 5 ad xs.length (xs.flatMap encO)) : Ct Tryz.prog 14 #[.slice ad xs.length c] (L) (fun _ : Unit => .int .i64 (gO xs)) (fun _ : Unit => L) := by
 refine Ct.o1 Tryz.func14 ?_; intro E
 show Hd E 20 _ _ _ _
 refine sr fun _ K1 => ?_
 refine yv y_as <| fk [(0,_)] K1 ?_; refine Hd.seq fun _ K2 => ?_
 refine sr fun _ K3 => ?_
 refine yv y_mv <| yv (y_len Tryz.underlying22 rfl) ?_; refine yv (y_gtr rfl rfl) ?_; refine fk [(0,_),(6,_)] K3 ?_; refine qz ?_ ?_ <;> intro hc0 <;> try simp only [hyZ] at hc0
 ·refine sr fun _ K4 => ?_
  refine yv y_as <| fk [(2,_)] K4 ?_; refine Hd.ret <| Hd.thenRet ?_; exact Hd.ret1 rfl () (by unfold gO; rw [if_pos (by omega)]; rfl) sq
 have hx : xs.length ≤ 200 := by omega
 refine qv K2 <| Hd.seq fun _ K5 => ?_
 refine sr fun _ K6 => ?_
 refine yv y_mv <| yv (y_len Tryz.underlying22 rfl) ?_; refine yv y_mv <| fk [(0,_),(8,_),(9,_)] K6 ?_; refine Hd.block <| Hd.loopK (ι := Nat) [(0,_),(8,_)] (fun i => [(9, .int .i64 (i : Int))]) (fun i => pu (i ≤ xs.length ∧ ∀ o ∈ xs.take i, o.d.length ≤ 300) :: L) (fun i => xs.length - i) 0 sbq sbq (Ent.sep (.pure ⟨Nat.zero_le _, fun o ho => by simp at ho⟩ enn)) ?_; intro i
 try dsimp only
 refine Hd.pure (fun hp0 => ?_)
 try dsimp only at hp0
 refine sr fun _ K7 => ?_
 refine yv (y_lss rfl rfl) ?_; refine fk [(0,_),(8,_),(9,_),(10,_)] K7 ?_; refine Hd.seq fun _ K8 => ?_
 refine qz ?_ ?_ <;> intro hc1 <;> try simp only [hyZ] at hc1
 ·have hi : i < xs.length := by omega
  obtain ⟨o, ho⟩ : ∃ o, xs[i]? = some o := ⟨_, List.getElem?_eq_getElem hi⟩
  refine qv K8 <| Hd.seq fun _ K9 => ?_
  refine Hd.block <| sr fun _ K10 => ?_
  refine yv y_mv <| yv y_as <| fk [(0,_),(3,_),(8,_),(9,_)] K10 ?_; refine sr fun _ K11 => ?_
  refine yv y_mv <| yv y_mv <| yv (y_idxR Tryz.underlying22 sz33 rfl rfl (by omega) (by exact RdS.mono hR sq)) ?_; refine yv (y_fR 4 31 Tryz.underlying33 sz31) ?_; refine yv (y_loadR1 ag31 rfl (by exact RdS.mono hR sq) (by exact flat_cells encO 5 (fun _ => rfl) ho 4 _ rfl)) ?_; refine yv (y_len Tryz.underlying31 rfl) ?_; refine yv (y_gtr rfl rfl) ?_; refine fk [(0,_),(8,_),(9,_),(18,_)] K11 ?_; refine qz ?_ ?_ <;> intro hc2 <;> try simp only [hyZ] at hc2
  ·refine sr fun _ K12 => ?_
   refine yv y_as <| fk [(2,_)] K12 ?_; refine Hd.ret <| Hd.inBret <| Hd.thenRet <| Hd.thenRet <| Hd.inBret <| Hd.thenRet ?_; exact Hd.ret1 rfl () (by unfold gO; rw [if_neg (by omega), if_neg (fun h => by have := h o (List.mem_of_getElem? ho); omega)]; rfl) sq
  refine Hd.skip <| Hd.inB <| Hd.toK K9 ?_; refine Hd.region <| yv (y_addn rfl rfl (by simp only [InK]; omega)) ?_; refine yv y_mv <| Hd.nil <| slots [(0,_),(8,_),(9,_)] sbq ?_; refine thenN ?_
  have hnew : ∀ q ∈ xs.take (i + 1), q.d.length ≤ 300 := by
   intro q hq; rw [List.take_add_one, ho] at hq
   rcases List.mem_append.1 hq with h | h
   ·exact hp0.2 q h
   ·obtain rfl : q = o := by simpa using h
    omega
  exact Hd.again (i + 1) (by omega) sbq (Ent.sep (.pure ⟨hi, hnew⟩ enn))
 refine Hd.exit <| Hd.thenExit <| Hd.thenExit <| Hd.inBexit <| Hd.toK K5 ?_; refine sr fun _ K13 => ?_
 refine yv y_as <| fk [(2,_)] K13 ?_; refine Hd.ret ?_; exact Hd.ret1 rfl () (by unfold gO; rw [if_neg (by omega), if_pos (by rw [List.take_of_length_le (by omega)] at hp0; exact hp0.2)]; rfl) sq
theorem Hd.wokW {E : World} {n : Nat} {ds : List Deferred} {st : List (Nat × Value)} {L L' : List SP} {K : Act → World → Prop} {wb : Nat} {w : WA} (p : Pick L (WorldP wb w) L') (h : WOk w → Hd E n ds st L K) : Hd E n ds st L K := fun a v f s => by
 refine h ?_ a v f s
 obtain ⟨h1, s1, i, x⟩ := sep.one p s.2.2.2
 obtain ⟨_, _, _, _, _, hq, _⟩ := x
 exact hq.1
abbrev BoP (pb wb rb : Nat) : SP := pt pb [.pointer (some ⟨wb, 0, none⟩), .pointer (some ⟨rb, 0, none⟩)] 41
theorem fresh_ct (L : List SP) : Ct Tryz.prog 16 #[] (L) (fun q_ : Nat × Nat × Nat => .pointer (some ⟨q_.1, 0, none⟩)) (fun q_ : Nat × Nat × Nat => BoP q_.1 q_.2.1 q_.2.2 :: WorldP q_.2.1 newA :: Rf.RwP q_.2.2 newA :: L) := by
 refine Ct.o0 Tryz.func16 ?_; intro E
 show Hd E 5 _ _ _ _
 refine sr fun _ K1 => ?_
 refine yv y_as <| fk [] K1 ?_; refine sr fun _ K2 => ?_
 refine callE rfl fk49 (wnew_ct _) sq ?_; intro wb; refine callE rfl fk53 (Rf.rNew_ct _) sq ?_; intro rb; refine yv (y_build (vs := [(0,_),(1,_)]) rfl (by exact bd16_3 ..)) ?_; refine Hd.box rfl rfl (fun b4 => ?_); refine yv y_as <| fk [(0,_)] K2 ?_; refine Hd.ret ?_; exact Hd.ret1 rfl (b4, wb, rb) rfl sq
theorem more_ct (L : List SP) (pb wb rb : Nat) (w : WA) (K : Nat) (hK : K ≤ 100000000) (hl : Lo K w) (o : Ov) (hk : o.k < 0 ∨ 8 < o.k) (ht : InK .u64 o.t) (hd : o.d.length ≤ 300) (hR : RdS L 1 o.ad o.d.length (bsl o.d)) (hc : o.d.length ≤ o.c) (ad : Option Addr) (c : Nat) (hR2 : RdS L 1 ad o.d.length (bsl o.d)) (hc2 : o.d.length ≤ c) : Ct Tryz.prog 69 #[.pointer (some ⟨pb, 0, none⟩), .agg (encO o).toArray, .slice ad o.d.length c] (BoP pb wb rb :: WorldP wb w :: Rf.RwP rb w :: L) (fun _ : Unit => .bool true) (fun _ : Unit => BoP pb wb rb :: WorldP wb (doA w o) :: Rf.RwP rb (doA w o) :: L) := by
 refine Ct.o3 Tryz.func69 ?_; intro E
 show Hd E 333 _ _ _ _
 simp only [InK] at ht
 have hnow := hl.now
 have hb2 := hl.bd (B := 2000000000) (by omega)
 have hb1 := hl.bd (B := 1000000000) (by omega)
 refine Hd.wokW (.there .here) (fun hw => ?_); refine sr fun _ K1 => ?_
 refine Hd.box rfl rfl (fun b4 => ?_); refine yv y_as <| fk [(0,_),(2,_),(4,_)] K1 ?_; refine Hd.seq fun _ K2 => ?_
 refine sr fun _ K3 => ?_
 refine yv (y_f 0 3 Tryz.underlying33 sz3) <| yv (y_l1 ag3 rfl) <| fk [(0,_),(2,_),(4,_),(33,_)] K3 ?_; refine Hd.block <| sr fun _ K4 => ?_
 refine yv (y_eql rfl rfl) ?_; refine yv y_as <| fk [(0,_),(2,_),(4,_),(33,_),(34,_)] K4 ?_; refine qz ?_ ?_ <;> intro hc0 <;> try simp only [hyZ] at hc0
 ·refine Hd.seq fun _ K5 => ?_
  refine Hd.drawsH ([BoP pb wb rb, pt b4 (encO o) 33]) (fun _ => true) mixed ?_; simp only [List.length, Nat.zero_add, Nat.reduceAdd]; refine tH 0 rfl y_mv <| tH 1 rfl y_np <| tH 2 rfl (y_f 0 38 Tryz.underlying41 sz38) <| tH 3 rfl (y_l1 ag38 rfl) <| tH 4 rfl (y_f 1 3 Tryz.underlying33 sz3) <| tH 5 rfl (y_l1 ag3 rfl) <| tH 6 rfl y_mv <| qo 7 ?_; refine callE rfl fk52 (wput_ct _ wb w o.a ad o.d.length c o.d rfl ?hD (by omega) hc2) sq ?_
  case hD => exact RdS.mono hR2 sq
  intro _; refine qk <| tH 8 rfl y_mv <| tH 9 rfl y_ex <| tH 10 rfl y_ex <| tH 11 rfl y_as <| tH 12 rfl y_as <| endH kq ?_; refine sk [(0,_),(4,_),(7,_),(8,_)] K5 ?_; refine Hd.seq fun _ K6 => ?_
  refine Hd.drawsH ([BoP pb wb rb, pt b4 (encO o) 33]) (fun _ => true) mixed ?_; simp only [List.length, Nat.zero_add, Nat.reduceAdd]; refine tH 0 rfl y_mv <| tH 1 rfl y_np <| tH 2 rfl (y_f 1 39 Tryz.underlying41 sz39) <| tH 3 rfl (y_l1 ag39 rfl) <| tH 4 rfl (y_f 1 3 Tryz.underlying33 sz3) <| tH 5 rfl (y_l1 ag3 rfl) <| tH 6 rfl (y_f 4 31 Tryz.underlying33 sz31) <| tH 7 rfl (y_l1 ag31 rfl) <| qo 8 ?_; refine callE rfl fk124 (Rf.rPut_ct _ rb w hw o.a o.ad o.d.length o.c o.d rfl ?hD (by omega) hc) sq ?_
  case hD => exact RdS.mono hR sq
  intro _; refine qk <| tH 9 rfl y_mv <| tH 10 rfl y_ex <| tH 11 rfl y_ex <| tH 12 rfl y_as <| tH 13 rfl y_as <| endH kq ?_; refine sk [(7,_),(8,_),(9,_),(10,_)] K6 ?_; refine sr fun _ K7 => ?_
  refine yv y_mv <| yv y_mv <| yv (y_eqlT rfl rfl) ?_; refine yv y_mv ?_; apply Hd.andg 4 62 66 [] rfl sbq
  ·intro hg5_62
   try simp only [hyZ] at hg5_62
   simp only [List.take]; refine y2 y_mv <| y2 y_mv <| y2 (y_eqlT rfl rfl) ?_; refine yv (y_pickT rfl rfl) ?_; exact Hd.mn
  ·intro hg5_62
   try simp only [hyZ] at hg5_62
   simp only [List.take]; refine n1 <| n1 <| n1 <| yv (y_pickF rfl rfl) ?_; exact Hd.mn
  simp only [List.drop]; refine yv y_as <| fk [(6,_)] K7 ?_; refine Hd.ret <| Hd.inBret <| Hd.thenRet ?_; rw [do_9 hc0]; exact Hd.ret1 rfl () (by rfl) sq
 refine sr fun _ K8 => ?_
 refine yv (y_eql rfl rfl) ?_; refine yv y_as <| fk [(0,_),(4,_),(33,_),(67,_)] K8 ?_; refine qz ?_ ?_ <;> intro hc1 <;> try simp only [hyZ] at hc1
 ·refine Hd.seq fun _ K9 => ?_
  refine Hd.drawsH ([BoP pb wb rb, pt b4 (encO o) 33]) (fun _ => true) mixed ?_; simp only [List.length, Nat.zero_add, Nat.reduceAdd]; refine tH 0 rfl y_mv <| tH 1 rfl y_np <| tH 2 rfl (y_f 0 38 Tryz.underlying41 sz38) <| tH 3 rfl (y_l1 ag38 rfl) <| tH 4 rfl (y_f 1 3 Tryz.underlying33 sz3) <| tH 5 rfl (y_l1 ag3 rfl) <| tH 6 rfl (y_f 2 3 Tryz.underlying33 sz3) <| tH 7 rfl (y_l1 ag3 rfl) <| qo 8 ?_; refine callE rfl fk125 (wtake_ct _ wb w o.a o.n) sq ?_; rintro ⟨ta, tc⟩; dsimp only; refine qk <| tH 9 rfl y_mv <| tH 10 rfl y_ex <| tH 11 rfl y_ex <| tH 12 rfl y_as <| tH 13 rfl y_as <| endH kq ?_; refine sk [(0,_),(4,_),(11,_),(12,_)] K9 ?_; refine Hd.seq fun _ K10 => ?_
  refine Hd.drawsH ([BoP pb wb rb, pt b4 (encO o) 33]) (fun _ => true) mixed ?_; simp only [List.length, Nat.zero_add, Nat.reduceAdd]; refine tH 0 rfl y_mv <| tH 1 rfl y_np <| tH 2 rfl (y_f 1 39 Tryz.underlying41 sz39) <| tH 3 rfl (y_l1 ag39 rfl) <| tH 4 rfl (y_f 1 3 Tryz.underlying33 sz3) <| tH 5 rfl (y_l1 ag3 rfl) <| tH 6 rfl (y_f 2 3 Tryz.underlying33 sz3) <| tH 7 rfl (y_l1 ag3 rfl) <| qo 8 ?_; refine callE rfl fk126 (Rf.rTake_ct _ rb w o.a o.n) sq ?_; rintro ⟨ua, uc⟩; dsimp only; refine qk <| tH 9 rfl y_mv <| tH 10 rfl y_ex <| tH 11 rfl y_ex <| tH 12 rfl y_as <| tH 13 rfl y_as <| endH kq ?_; refine sk [(11,_),(12,_),(13,_),(14,_)] K10 ?_; refine sr fun _ K11 => ?_
  refine yv y_mv <| yv (y_strOf (l := _) kq Tryz.underlying9 rfl (by exact RdS.own pkk)) ?_; refine yv y_mv <| yv (y_strOf (l := _) kq Tryz.underlying9 rfl (by exact RdS.own pkk)) ?_; refine yv (y_eqlstr rfl rfl) ?_; refine yv y_mv ?_; apply Hd.andg 4 98 102 [] rfl sbq
  ·intro hg9_98
   try simp only [hyZ] at hg9_98
   simp only [List.take]; refine y2 y_mv <| y2 y_mv <| y2 (y_eqlT rfl rfl) ?_; refine yv (y_pickT rfl rfl) ?_; exact Hd.mn
  ·intro hg9_98
   try simp only [hyZ] at hg9_98
   simp only [List.take]; refine n1 <| n1 <| n1 <| yv (y_pickF rfl rfl) ?_; exact Hd.mn
  simp only [List.drop]; refine yv y_as <| fk [(6,_)] K11 ?_; refine Hd.ret <| Hd.inBret <| Hd.thenRet ?_; rw [do_10 hc1]; exact Hd.ret1 rfl () (by rfl) sq
 refine sr fun _ K12 => ?_
 refine yv (y_eql rfl rfl) ?_; refine yv y_as <| fk [(0,_),(4,_),(33,_),(103,_)] K12 ?_; refine qz ?_ ?_ <;> intro hc2 <;> try simp only [hyZ] at hc2
 ·refine Hd.seq fun _ K13 => ?_
  refine Hd.drawsH ([BoP pb wb rb, pt b4 (encO o) 33]) (fun _ => true) mixed ?_; simp only [List.length, Nat.zero_add, Nat.reduceAdd]; refine tH 0 rfl y_mv <| tH 1 rfl y_np <| tH 2 rfl (y_f 0 38 Tryz.underlying41 sz38) <| tH 3 rfl (y_l1 ag38 rfl) <| tH 4 rfl (y_f 1 3 Tryz.underlying33 sz3) <| tH 5 rfl (y_l1 ag3 rfl) <| qo 6 ?_; refine callE rfl fk127 (pshut_ct _ wb w o.a) sq ?_; intro _; refine qk <| tH 7 rfl y_as <| endH kq ?_; refine sk [(0,_),(4,_),(15,_)] K13 ?_; refine Hd.seq fun _ K14 => ?_
  refine Hd.drawsH ([BoP pb wb rb, pt b4 (encO o) 33]) (fun _ => true) mixed ?_; simp only [List.length, Nat.zero_add, Nat.reduceAdd]; refine tH 0 rfl y_mv <| tH 1 rfl y_mv <| tH 2 rfl y_np <| tH 3 rfl (y_f 1 39 Tryz.underlying41 sz39) <| tH 4 rfl (y_l1 ag39 rfl) <| tH 5 rfl (y_f 1 3 Tryz.underlying33 sz3) <| tH 6 rfl (y_l1 ag3 rfl) <| qo 7 ?_; refine callE rfl fk128 (Rf.rPshut_ct _ rb w o.a) sq ?_; intro _; refine qk <| tH 8 rfl (y_eqlT rfl rfl) ?_; refine tH 9 rfl y_as <| endH kq ?_; refine sk [(6,_)] K14 ?_; refine Hd.ret <| Hd.inBret <| Hd.thenRet ?_; rw [do_11 hc2]; exact Hd.ret1 rfl () (by rfl) sq
 refine sr fun _ K15 => ?_
 refine yv (y_eql rfl rfl) ?_; refine yv y_as <| fk [(0,_),(4,_),(33,_),(121,_)] K15 ?_; refine qz ?_ ?_ <;> intro hc3 <;> try simp only [hyZ] at hc3
 ·refine Hd.seq fun _ K16 => ?_
  refine Hd.drawsH ([BoP pb wb rb, pt b4 (encO o) 33]) (fun _ => true) mixed ?_; simp only [List.length, Nat.zero_add, Nat.reduceAdd]; refine tH 0 rfl y_mv <| tH 1 rfl y_np <| tH 2 rfl (y_f 0 38 Tryz.underlying41 sz38) <| tH 3 rfl (y_l1 ag38 rfl) <| tH 4 rfl (y_f 1 3 Tryz.underlying33 sz3) <| tH 5 rfl (y_l1 ag3 rfl) <| qo 6 ?_; refine callE rfl fk129 (pclose_ct _ wb w o.a) sq ?_; intro _; refine qk <| tH 7 rfl y_as <| endH kq ?_; refine sk [(0,_),(4,_),(16,_)] K16 ?_; refine Hd.seq fun _ K17 => ?_
  refine Hd.drawsH ([BoP pb wb rb, pt b4 (encO o) 33]) (fun _ => true) mixed ?_; simp only [List.length, Nat.zero_add, Nat.reduceAdd]; refine tH 0 rfl y_mv <| tH 1 rfl y_mv <| tH 2 rfl y_np <| tH 3 rfl (y_f 1 39 Tryz.underlying41 sz39) <| tH 4 rfl (y_l1 ag39 rfl) <| tH 5 rfl (y_f 1 3 Tryz.underlying33 sz3) <| tH 6 rfl (y_l1 ag3 rfl) <| qo 7 ?_; refine callE rfl fk130 (Rf.rPclose_ct _ rb w o.a) sq ?_; intro _; refine qk <| tH 8 rfl (y_eqlT rfl rfl) ?_; refine tH 9 rfl y_as <| endH kq ?_; refine sk [(6,_)] K17 ?_; refine Hd.ret <| Hd.inBret <| Hd.thenRet ?_; rw [do_12 hc3]; exact Hd.ret1 rfl () (by rfl) sq
 refine sr fun _ K18 => ?_
 refine yv (y_eql rfl rfl) ?_; refine yv y_as <| fk [(0,_),(4,_),(33,_),(139,_)] K18 ?_; refine qz ?_ ?_ <;> intro hc4 <;> try simp only [hyZ] at hc4
 ·refine Hd.seq fun _ K19 => ?_
  refine Hd.drawsH ([BoP pb wb rb, pt b4 (encO o) 33]) (fun _ => true) mixed ?_; simp only [List.length, Nat.zero_add, Nat.reduceAdd]; refine tH 0 rfl y_mv <| tH 1 rfl y_np <| tH 2 rfl (y_f 0 38 Tryz.underlying41 sz38) <| tH 3 rfl (y_l1 ag38 rfl) <| tH 4 rfl (y_f 1 3 Tryz.underlying33 sz3) <| tH 5 rfl (y_l1 ag3 rfl) <| qo 6 ?_; refine callE rfl fk131 (wreset_ct _ wb w o.a) sq ?_; intro _; refine qk <| tH 7 rfl y_as <| endH kq ?_; refine sk [(0,_),(4,_),(17,_)] K19 ?_; refine Hd.seq fun _ K20 => ?_
  refine Hd.drawsH ([BoP pb wb rb, pt b4 (encO o) 33]) (fun _ => true) mixed ?_; simp only [List.length, Nat.zero_add, Nat.reduceAdd]; refine tH 0 rfl y_mv <| tH 1 rfl y_mv <| tH 2 rfl y_np <| tH 3 rfl (y_f 1 39 Tryz.underlying41 sz39) <| tH 4 rfl (y_l1 ag39 rfl) <| tH 5 rfl (y_f 1 3 Tryz.underlying33 sz3) <| tH 6 rfl (y_l1 ag3 rfl) <| qo 7 ?_; refine callE rfl fk132 (Rf.rReset_ct _ rb w o.a) sq ?_; intro _; refine qk <| tH 8 rfl (y_eqlT rfl rfl) ?_; refine tH 9 rfl y_as <| endH kq ?_; refine sk [(6,_)] K20 ?_; refine Hd.ret <| Hd.inBret <| Hd.thenRet ?_; rw [do_13 hc4]; exact Hd.ret1 rfl () (by rfl) sq
 refine sr fun _ K21 => ?_
 refine yv (y_eql rfl rfl) ?_; refine yv y_as <| fk [(0,_),(4,_),(33,_),(157,_)] K21 ?_; refine qz ?_ ?_ <;> intro hc5 <;> try simp only [hyZ] at hc5
 ·refine Hd.seq fun _ K22 => ?_
  refine Hd.drawsH ([BoP pb wb rb, pt b4 (encO o) 33]) (fun _ => true) mixed ?_; simp only [List.length, Nat.zero_add, Nat.reduceAdd]; refine tH 0 rfl y_mv <| tH 1 rfl y_np <| tH 2 rfl (y_f 0 38 Tryz.underlying41 sz38) <| tH 3 rfl (y_l1 ag38 rfl) <| tH 4 rfl (y_f 1 3 Tryz.underlying33 sz3) <| tH 5 rfl (y_l1 ag3 rfl) <| tH 6 rfl (y_f 2 3 Tryz.underlying33 sz3) <| tH 7 rfl (y_l1 ag3 rfl) <| qo 8 ?_; refine callE rfl fk133 (wconn_ct _ wb w o.a o.n) sq ?_; intro _; refine qk <| tH 9 rfl y_mv <| tH 10 rfl y_ex <| tH 11 rfl y_ex <| tH 12 rfl y_as <| tH 13 rfl y_as <| endH kq ?_; refine sk [(0,_),(4,_),(18,_),(19,_)] K22 ?_; refine Hd.seq fun _ K23 => ?_
  refine Hd.drawsH ([BoP pb wb rb, pt b4 (encO o) 33]) (fun _ => true) mixed ?_; simp only [List.length, Nat.zero_add, Nat.reduceAdd]; refine tH 0 rfl y_mv <| tH 1 rfl y_np <| tH 2 rfl (y_f 1 39 Tryz.underlying41 sz39) <| tH 3 rfl (y_l1 ag39 rfl) <| tH 4 rfl (y_f 1 3 Tryz.underlying33 sz3) <| tH 5 rfl (y_l1 ag3 rfl) <| tH 6 rfl (y_f 2 3 Tryz.underlying33 sz3) <| tH 7 rfl (y_l1 ag3 rfl) <| qo 8 ?_; refine callE rfl fk134 (Rf.rConnect_ct _ rb w hw o.a o.n) sq ?_; intro _; refine qk <| tH 9 rfl y_mv <| tH 10 rfl y_ex <| tH 11 rfl y_ex <| tH 12 rfl y_as <| tH 13 rfl y_as <| endH kq ?_; refine sk [(18,_),(19,_),(20,_),(21,_)] K23 ?_; refine sr fun _ K24 => ?_
  refine yv y_mv <| yv y_mv <| yv (y_eqlT rfl rfl) ?_; refine yv y_mv ?_; apply Hd.andg 4 186 190 [] rfl sbq
  ·intro hg22_186
   try simp only [hyZ] at hg22_186
   simp only [List.take]; refine y2 y_mv <| y2 y_mv <| y2 (y_eqlT rfl rfl) ?_; refine yv (y_pickT rfl rfl) ?_; exact Hd.mn
  ·intro hg22_186
   try simp only [hyZ] at hg22_186
   simp only [List.take]; refine n1 <| n1 <| n1 <| yv (y_pickF rfl rfl) ?_; exact Hd.mn
  simp only [List.drop]; refine yv y_as <| fk [(6,_)] K24 ?_; refine Hd.ret <| Hd.inBret <| Hd.thenRet ?_; rw [do_14 hc5]; exact Hd.ret1 rfl () (by rfl) sq
 refine sr fun _ K25 => ?_
 refine yv (y_eql rfl rfl) ?_; refine yv y_as <| fk [(0,_),(4,_),(33,_),(191,_)] K25 ?_; refine qz ?_ ?_ <;> intro hc6 <;> try simp only [hyZ] at hc6
 ·refine Hd.seq fun _ K26 => ?_
  refine Hd.drawsH ([BoP pb wb rb, pt b4 (encO o) 33]) (fun _ => true) mixed ?_; simp only [List.length, Nat.zero_add, Nat.reduceAdd]; refine tH 0 rfl y_mv <| tH 1 rfl y_np <| tH 2 rfl (y_f 0 38 Tryz.underlying41 sz38) <| tH 3 rfl (y_l1 ag38 rfl) <| tH 4 rfl (y_f 3 30 Tryz.underlying33 sz30) <| tH 5 rfl (y_l1 ag30 rfl) <| qo 6 ?_; refine callE rfl fk135 (pass_ct _ wb w o.t ht hnow) sq ?_; intro _; refine qk <| endH kq ?_; refine sk [(0,_),(4,_)] K26 ?_; refine Hd.drawsH ([BoP pb wb rb, pt b4 (encO o) 33]) (fun _ => true) mixed ?_; simp only [List.length, Nat.zero_add, Nat.reduceAdd]; refine tH 0 rfl y_mv <| tH 1 rfl y_np <| tH 2 rfl (y_f 1 39 Tryz.underlying41 sz39) <| tH 3 rfl (y_l1 ag39 rfl) <| tH 4 rfl (y_f 3 30 Tryz.underlying33 sz30) <| tH 5 rfl (y_l1 ag30 rfl) <| qo 6 ?_; refine callE rfl fk136 (Rf.rPass_ct _ rb w o.t ht hnow) sq ?_
  intro _; refine qk <| endH kq ?_; refine slots [] sbq ?_; refine Hd.inB <| Hd.toK K2 ?_; refine sr fun _ K27 => ?_
  refine yv y_as <| fk [(6,_)] K27 ?_; refine Hd.ret ?_; rw [do_15 hc6]; exact Hd.ret1 rfl () (by rfl) sq
 refine sr fun _ K28 => ?_
 refine yv (y_eql rfl rfl) ?_; refine yv y_as <| fk [(0,_),(4,_),(33,_),(207,_)] K28 ?_; refine qz ?_ ?_ <;> intro hc7 <;> try simp only [hyZ] at hc7
 ·refine Hd.seq fun _ K29 => ?_
  refine Hd.drawsH ([BoP pb wb rb, pt b4 (encO o) 33]) (fun _ => true) mixed ?_; simp only [List.length, Nat.zero_add, Nat.reduceAdd]; refine tH 0 rfl y_mv <| tH 1 rfl y_np <| tH 2 rfl (y_f 0 38 Tryz.underlying41 sz38) <| tH 3 rfl (y_l1 ag38 rfl) <| tH 4 rfl (y_f 1 3 Tryz.underlying33 sz3) <| tH 5 rfl (y_l1 ag3 rfl) <| tH 6 rfl (y_f 2 3 Tryz.underlying33 sz3) <| tH 7 rfl (y_l1 ag3 rfl) <| tH 8 rfl (y_gtr rfl rfl) ?_; refine qo 9 ?_; refine callE rfl fk137 (whandle_ct _ wb w hb2 o.a (decide (o.n > 0))) sq ?_; intro _; refine qk <| tH 10 rfl y_as <| endH kq ?_; refine sk [(0,_),(4,_),(22,_)] K29 ?_; refine Hd.seq fun _ K30 => ?_
  refine Hd.drawsH ([BoP pb wb rb, pt b4 (encO o) 33]) (fun _ => true) mixed ?_; simp only [List.length, Nat.zero_add, Nat.reduceAdd]; refine tH 0 rfl y_mv <| tH 1 rfl y_mv <| tH 2 rfl y_np <| tH 3 rfl (y_f 1 39 Tryz.underlying41 sz39) <| tH 4 rfl (y_l1 ag39 rfl) <| tH 5 rfl (y_f 1 3 Tryz.underlying33 sz3) <| tH 6 rfl (y_l1 ag3 rfl) <| tH 7 rfl (y_f 2 3 Tryz.underlying33 sz3) <| tH 8 rfl (y_l1 ag3 rfl) <| tH 9 rfl (y_gtr rfl rfl) ?_; refine qo 10 ?_; refine callE rfl fk138 (Rf.rHandle_ct _ rb w hw hb2 o.a (decide (o.n > 0))) sq ?_; intro _; refine qk <| tH 11 rfl (y_eqlT rfl rfl) ?_; refine tH 12 rfl y_as <| endH kq ?_; refine sk [(6,_)] K30 ?_; refine Hd.ret <| Hd.inBret <| Hd.thenRet ?_; rw [do_16 hc7]; exact Hd.ret1 rfl () (by rfl) sq
 refine sr fun _ K31 => ?_
 refine yv (y_eql rfl rfl) ?_; refine yv y_as <| fk [(0,_),(4,_),(33,_),(231,_)] K31 ?_; refine qz ?_ ?_ <;> intro hc8 <;> try simp only [hyZ] at hc8
 ·refine Hd.seq fun _ K32 => ?_
  refine Hd.drawsH ([BoP pb wb rb, pt b4 (encO o) 33]) (fun _ => true) mixed ?_; simp only [List.length, Nat.zero_add, Nat.reduceAdd]; refine tH 0 rfl y_mv <| tH 1 rfl y_np <| tH 2 rfl (y_f 0 38 Tryz.underlying41 sz38) <| tH 3 rfl (y_l1 ag38 rfl) <| tH 4 rfl (y_f 1 3 Tryz.underlying33 sz3) <| tH 5 rfl (y_l1 ag3 rfl) <| qo 6 ?_; refine callE rfl fk139 (wraise_ct _ wb w hb1 o.a) sq ?_; intro _; refine qk <| tH 7 rfl y_as <| endH kq ?_; refine sk [(0,_),(4,_),(23,_)] K32 ?_; refine Hd.seq fun _ K33 => ?_
  refine Hd.drawsH ([BoP pb wb rb, pt b4 (encO o) 33]) (fun _ => true) mixed ?_; simp only [List.length, Nat.zero_add, Nat.reduceAdd]; refine tH 0 rfl y_mv <| tH 1 rfl y_mv <| tH 2 rfl y_np <| tH 3 rfl (y_f 1 39 Tryz.underlying41 sz39) <| tH 4 rfl (y_l1 ag39 rfl) <| tH 5 rfl (y_f 1 3 Tryz.underlying33 sz3) <| tH 6 rfl (y_l1 ag3 rfl) <| qo 7 ?_; refine callE rfl fk140 (Rf.rRaise_ct _ rb w hw hb1 o.a) sq ?_; intro _; refine qk <| tH 8 rfl (y_eqlT rfl rfl) ?_; refine tH 9 rfl y_as <| endH kq ?_; refine sk [(6,_)] K33 ?_; refine Hd.ret <| Hd.inBret <| Hd.thenRet ?_; rw [do_17 hc8]; exact Hd.ret1 rfl () (by rfl) sq
 refine sr fun _ K34 => ?_
 refine yv (y_eql rfl rfl) ?_; refine yv y_as <| fk [(0,_),(4,_),(33,_),(249,_)] K34 ?_; refine qz ?_ ?_ <;> intro hc9 <;> try simp only [hyZ] at hc9
 ·have hgl : (sigR w).1.length ≤ 32 := by have := cntF_le w.ct 0; rw [hw.ctl] at this; exact this
  refine sr fun _ K35 => ?_
  refine yv y_mv <| yv y_np <| yv (y_f 0 38 Tryz.underlying41 sz38) <| yv (y_l1 ag38 rfl) <| callE rfl fk141 (wsignals_ct _ wb w hb2) sq ?_; rintro ⟨sa, sc⟩; dsimp only; refine yv y_as <| fk [(0,_),(24,_)] K35 ?_; refine sr fun _ K36 => ?_
  refine yv y_mv <| yv y_np <| yv (y_f 1 39 Tryz.underlying41 sz39) <| yv (y_l1 ag39 rfl) <| callE rfl fk142 (Rf.rSignals_ct _ rb w hw hb2) sq ?_; rintro ⟨va, vc⟩; dsimp only; refine yv y_as <| fk [(24,_),(25,_)] K36 ?_; refine Hd.seq fun _ K37 => ?_
  refine sr fun _ K38 => ?_
  refine yv y_mv <| yv (y_len Tryz.underlying238 rfl) ?_; refine yv y_mv <| yv (y_len Tryz.underlying238 rfl) ?_; refine yv (y_neq rfl rfl) ?_; refine fk [(24,_),(25,_),(265,_)] K38 ?_; refine qz ?_ ?_ <;> intro hc10 <;> try simp only [hyZ] at hc10
  ·exact absurd trivial hc10
  refine qv K37 <| sr fun _ K39 => ?_
  refine yv y_mv <| yv (y_len Tryz.underlying238 rfl) ?_; refine yv y_mv <| fk [(24,_),(25,_),(267,_),(268,_)] K39 ?_; refine Hd.block <| Hd.loopK (ι := Nat) [(24,_),(25,_),(267,_)] (fun i => [(268, .int .i64 (i : Int))]) (fun i => pu (i ≤ (sigR w).1.length) :: own 241 2 va (sigR w).1.length vc ((sigR w).1.flatMap encCn) :: own 241 2 sa (sigR w).1.length sc ((sigR w).1.flatMap encCn) :: BoP pb wb rb :: WorldP wb (sigR w).2 :: Rf.RwP rb (sigR w).2 :: L) (fun i => (sigR w).1.length - i) 0 sbq sbq (Ent.sep (.pure (by omega) enn)) ?_; intro i
  try dsimp only
  refine Hd.pure (fun hp0 => ?_)
  try dsimp only at hp0
  refine sr fun _ K40 => ?_
  refine yv (y_lss rfl rfl) ?_; refine fk [(24,_),(25,_),(267,_),(268,_),(269,_)] K40 ?_; refine Hd.seq fun _ K41 => ?_
  refine qz ?_ ?_ <;> intro hc11 <;> try simp only [hyZ] at hc11
  ·have hi : i < (sigR w).1.length := by omega
   obtain ⟨q, hq⟩ : ∃ q, (sigR w).1[i]? = some q := ⟨_, List.getElem?_eq_getElem hi⟩
   refine qv K41 <| Hd.seq fun _ K42 => ?_
   refine Hd.block <| sr fun _ K43 => ?_
   refine yv y_mv <| yv y_as <| fk [(24,_),(25,_),(26,_),(267,_),(268,_)] K43 ?_; refine Hd.seq fun _ K44 => ?_
   refine Hd.quiet mixed kq ?_; refine Hq.yv y_mv ?_; refine Hq.yv y_mv ?_; refine Hq.yv (y_idxR Tryz.underlying238 sz241 rfl rfl (by omega) (by exact RdS.own pkk)) ?_; refine Hq.yv (y_loadRn (vs := encCn q) ag241 rfl (RdS.own (ad := sa) (us := (sigR w).1.flatMap encCn) pkk) (flat_cells encCn 2 (fun _ => rfl) hq) sz241 (by simp)) ?_; refine Hq.yv y_mv ?_; refine Hq.yv y_mv ?_; refine Hq.yv (y_idxR Tryz.underlying238 sz241 rfl rfl (by omega) (by exact RdS.own pkk)) ?_; refine Hq.yv (y_loadRn (vs := encCn q) ag241 rfl (RdS.own (ad := va) (us := (sigR w).1.flatMap encCn) pkk) (flat_cells encCn 2 (fun _ => rfl) hq) sz241 (by simp)) ?_; refine Hq.yv (y_neq_agg rfl rfl eqt241 rfl ⟨rfl, rfl⟩) ?_; refine Hq.nil ?_; refine sk [(24,_),(25,_),(267,_),(268,_),(279,_)] K44 ?_; refine qz ?_ ?_ <;> intro hc12 <;> try simp only [hyZ] at hc12
   ·simp [allEq, eqv] at hc12
   refine Hd.skip <| Hd.inB <| Hd.toK K42 ?_; refine Hd.region <| yv (y_addn rfl rfl (by simp only [InK]; omega)) ?_; refine yv y_mv <| Hd.nil <| slots [(24,_),(25,_),(267,_),(268,_)] sbq ?_; refine thenN ?_; exact Hd.again (i + 1) (by omega) sbq (Ent.sep (.pure (by omega) enn))
  refine Hd.exit <| Hd.thenExit <| Hd.thenExit <| Hd.inBexit <| Hd.inB <| Hd.toK K2 ?_; refine sr fun _ K45 => ?_
  refine yv y_as <| fk [(6,_)] K45 ?_; refine Hd.ret ?_; rw [do_18 hc9]; exact Hd.ret1 rfl () rfl sq
 refine sr fun _ K46 => ?_
 refine yv (y_eql rfl rfl) ?_; refine yv y_as <| fk [(0,_),(4,_),(33,_),(281,_)] K46 ?_; refine qz ?_ ?_ <;> intro hc13 <;> try simp only [hyZ] at hc13
 ·refine Hd.seq fun _ K47 => ?_
  refine Hd.drawsH ([BoP pb wb rb, pt b4 (encO o) 33]) (fun _ => true) mixed ?_; simp only [List.length, Nat.zero_add, Nat.reduceAdd]; refine tH 0 rfl y_mv <| tH 1 rfl y_np <| tH 2 rfl (y_f 0 38 Tryz.underlying41 sz38) <| tH 3 rfl (y_l1 ag38 rfl) <| tH 4 rfl (y_f 1 3 Tryz.underlying33 sz3) <| tH 5 rfl (y_l1 ag3 rfl) <| tH 6 rfl (y_f 2 3 Tryz.underlying33 sz3) <| tH 7 rfl (y_l1 ag3 rfl) <| qo 8 ?_; refine callE rfl fk143 (wnotice_ct _ wb w hb2 o.a o.n) sq ?_; intro _; refine qk <| tH 9 rfl y_as <| endH kq ?_; refine sk [(0,_),(4,_),(27,_)] K47 ?_; refine Hd.seq fun _ K48 => ?_
  refine Hd.drawsH ([BoP pb wb rb, pt b4 (encO o) 33]) (fun _ => true) mixed ?_; simp only [List.length, Nat.zero_add, Nat.reduceAdd]; refine tH 0 rfl y_mv <| tH 1 rfl y_mv <| tH 2 rfl y_np <| tH 3 rfl (y_f 1 39 Tryz.underlying41 sz39) <| tH 4 rfl (y_l1 ag39 rfl) <| tH 5 rfl (y_f 1 3 Tryz.underlying33 sz3) <| tH 6 rfl (y_l1 ag3 rfl) <| tH 7 rfl (y_f 2 3 Tryz.underlying33 sz3) <| tH 8 rfl (y_l1 ag3 rfl) <| qo 9 ?_; refine callE rfl fk144 (Rf.rNotice_ct _ rb w hw hb2 o.a o.n) sq ?_; intro _; refine qk <| tH 10 rfl (y_eqlT rfl rfl) ?_; refine tH 11 rfl y_as <| endH kq ?_; refine sk [(6,_)] K48 ?_; refine Hd.ret <| Hd.inBret <| Hd.thenRet ?_; rw [do_19 hc13]; exact Hd.ret1 rfl () (by rfl) sq
 refine sr fun _ K49 => ?_
 refine yv (y_eql rfl rfl) ?_; refine yv y_as <| fk [(0,_),(4,_),(303,_)] K49 ?_; refine qz ?_ ?_ <;> intro hc14 <;> try simp only [hyZ] at hc14
 ·refine Hd.seq fun _ K50 => ?_
  refine Hd.quiet mixed kq ?_; refine Hq.yv y_mv ?_; refine Hq.yv y_np ?_; refine Hq.yv (y_f 0 38 Tryz.underlying41 sz38) ?_; refine Hq.yv (y_l1 ag38 rfl) ?_; refine Hq.yv (y_f 1 3 Tryz.underlying33 sz3) ?_; refine Hq.yv (y_l1 ag3 rfl) ?_; refine Hq.call rfl fk71 ((wwire_ct _ wb w o.a).swap sq sq) ?_; refine Hq.yv y_mv ?_; refine Hq.yv y_ex ?_; refine Hq.yv y_ex ?_; refine Hq.yv y_as ?_; refine Hq.yv y_as ?_; refine Hq.nil ?_; refine sk [(0,_),(4,_),(28,_),(29,_)] K50 ?_; refine Hd.seq fun _ K51 => ?_
  refine Hd.quiet mixed kq ?_; refine Hq.yv y_mv ?_; refine Hq.yv y_np ?_; refine Hq.yv (y_f 1 39 Tryz.underlying41 sz39) ?_; refine Hq.yv (y_l1 ag39 rfl) ?_; refine Hq.yv (y_f 1 3 Tryz.underlying33 sz3) ?_; refine Hq.yv (y_l1 ag3 rfl) ?_; refine Hq.call rfl fk79 ((Rf.rWire_ct _ rb w hw o.a).swap sq sq) ?_; refine Hq.yv y_mv ?_; refine Hq.yv y_ex ?_; refine Hq.yv y_ex ?_; refine Hq.yv y_as ?_; refine Hq.yv y_as ?_; refine Hq.nil ?_; refine sk [(28,_),(29,_),(30,_),(31,_)] K51 ?_; refine sr fun _ K52 => ?_
  refine yv y_mv <| yv y_mv <| yv (y_eqlT rfl rfl) ?_; refine yv y_mv ?_; apply Hd.andg 4 328 332 [] rfl sbq
  ·intro hg49_328
   try simp only [hyZ] at hg49_328
   simp only [List.take]; refine y2 y_mv <| y2 y_mv <| y2 (y_eqlT rfl rfl) ?_; refine yv (y_pickT rfl rfl) ?_; exact Hd.mn
  ·intro hg49_328
   try simp only [hyZ] at hg49_328
   simp only [List.take]; refine n1 <| n1 <| n1 <| yv (y_pickF rfl rfl) ?_; exact Hd.mn
  simp only [List.drop]; refine yv y_as <| fk [(6,_)] K52 ?_; refine Hd.ret <| Hd.inBret <| Hd.thenRet ?_; rw [do_oth (by omega)]; exact Hd.ret1 rfl () (by rfl) sq
 refine Hd.skip <| Hd.inB <| Hd.toK K2 ?_; refine sr fun _ K53 => ?_
 refine yv y_as <| fk [(6,_)] K53 ?_; refine Hd.ret ?_; rw [do_oth (by omega)]; exact Hd.ret1 rfl () rfl sq
end Wo
end Go.Proofs.YtbfddabjbkohdaaGreat
namespace Go.Proofs.YtbfddabjbkohdaaGreat
open Go.RX Fx
namespace Wo
open Rf (badK mkErr mkLst mk_bad mk_no mk_yes)
def mkA (w : WA) (k n : Int) : Int := if badK k n then 0 else mkI w (mkKE k) 0
def mkB (w : WA) (k n : Int) : Int := if badK k n then 0 else if k ≤ 1 then mkI w 2 1 else mkN w 1
theorem bad_of {k n : Int} (hk : k ≠ 3) : badK k n ↔ (n < 1 ∨ 65536 < n) := by unfold badK; omega
theorem wmk0_ct (L : List SP) (wb : Nat) (w : WA) (k n : Int) (hk : k = 0) : Ct Tryz.prog 54 #[.pointer (some ⟨wb, 0, none⟩), .int .i64 n] (WorldP wb w :: L) (fun _ : Unit => .tuple #[.int .i64 (mkA w k n), .int .i64 (mkB w k n), .int .i64 (mkErr w k n)]) (fun _ => WorldP wb (makeR w k n) :: L) := by
 subst hk
 by_cases h : badK 0 n
 ·obtain ⟨e1, _, e3⟩ := mk_bad (w := w) h
  rw [show mkA w 0 n = 0 from if_pos h, show mkB w 0 n = 0 from if_pos h, e1, e3]; exact pipe_bad L wb w n ((bad_of (by decide)).1 h)
 ·rw [show mkA w 0 n = mkI w 2 0 from if_neg h, show mkB w 0 n = mkI w 2 1 from if_neg h, show mkErr w 0 n = mkE w 2 from if_neg h, show makeR w 0 n = mkW w 2 (pipeW n.toNat) from if_neg h]
  rw [bad_of (by decide)] at h
  obtain ⟨m, rfl⟩ : ∃ m : Nat, n = (m : Int) := ⟨n.toNat, by omega⟩
  exact pipe_mk L wb w m (by omega) (by omega)
theorem wmk1_ct (L : List SP) (wb : Nat) (w : WA) (k n : Int) (hk : k = 1) : Ct Tryz.prog 55 #[.pointer (some ⟨wb, 0, none⟩), .int .i64 n] (WorldP wb w :: L) (fun _ : Unit => .tuple #[.int .i64 (mkA w k n), .int .i64 (mkB w k n), .int .i64 (mkErr w k n)]) (fun _ => WorldP wb (makeR w k n) :: L) := by
 subst hk
 by_cases h : badK 1 n
 ·obtain ⟨e1, _, e3⟩ := mk_bad (w := w) h
  rw [show mkA w 1 n = 0 from if_pos h, show mkB w 1 n = 0 from if_pos h, e1, e3]; exact pairbad_ct L wb w n ((bad_of (by decide)).1 h)
 ·rw [show mkA w 1 n = mkI w 2 0 from if_neg h, show mkB w 1 n = mkI w 2 1 from if_neg h, show mkErr w 1 n = mkE w 2 from if_neg h, show makeR w 1 n = mkW w 2 (halfW n.toNat 2) from if_neg h]
  rw [bad_of (by decide)] at h
  obtain ⟨m, rfl⟩ : ∃ m : Nat, n = (m : Int) := ⟨n.toNat, by omega⟩
  exact pair_ct L wb w m (by omega) (by omega)
theorem wmk2_ct (L : List SP) (wb : Nat) (w : WA) (k n : Int) (hk : k = 2) : Ct Tryz.prog 50 #[.pointer (some ⟨wb, 0, none⟩), .int .i64 n] (WorldP wb w :: L) (fun _ : Unit => .tuple #[.int .i64 (mkA w k n), .int .i64 (mkB w k n), .int .i64 (mkErr w k n)]) (fun _ => WorldP wb (makeR w k n) :: L) := by
 subst hk
 by_cases h : badK 2 n
 ·obtain ⟨e1, _, e3⟩ := mk_bad (w := w) h
  rw [show mkA w 2 n = 0 from if_pos h, show mkB w 2 n = 0 from if_pos h, e1, e3]; exact outer_bad L wb w n ((bad_of (by decide)).1 h)
 ·rw [show mkA w 2 n = mkI w 1 0 from if_neg h, show mkB w 2 n = mkN w 1 from if_neg h, show mkErr w 2 n = mkE w 1 from if_neg h, show makeR w 2 n = mkW w 1 (connW n.toNat) from if_neg h]
  rw [bad_of (by decide)] at h
  obtain ⟨m, rfl⟩ : ∃ m : Nat, n = (m : Int) := ⟨n.toNat, by omega⟩
  exact outer_mk L wb w m (by omega) (by omega)
theorem wmk3_ct (L : List SP) (wb : Nat) (w : WA) (k n : Int) (hk : k = 3) : Ct Tryz.prog 56 #[.pointer (some ⟨wb, 0, none⟩), .int .i64 n] (WorldP wb w :: L) (fun _ : Unit => .tuple #[.int .i64 (mkA w k n), .int .i64 (mkB w k n), .int .i64 (mkErr w k n)]) (fun _ => WorldP wb (makeR w k n) :: L) := by
 subst hk
 by_cases h : badK 3 n
 ·obtain ⟨e1, _, e3⟩ := mk_bad (w := w) h
  rw [show mkA w 3 n = 0 from if_pos h, show mkB w 3 n = 0 from if_pos h, e1, e3]; exact listen_bad L wb w n (by unfold badK at h; omega)
 ·rw [show mkA w 3 n = mkI w 1 0 from if_neg h, show mkB w 3 n = mkN w 1 from if_neg h, show mkErr w 3 n = mkE w 1 from if_neg h, show makeR w 3 n = mkW w 1 (listW n.toNat) from if_neg h]
  unfold badK at h
  obtain ⟨m, rfl⟩ : ∃ m : Nat, n = (m : Int) := ⟨n.toNat, by omega⟩
  exact listen_mk L wb w m (by omega) (by omega)
structure MadeOk (a b e wire : Int) (l : List Nat) : Prop where
 no : e ≠ 0 → a = 0 ∧ b = 0
 yes : e = 0 → ∃ f t, l = f :: t ∧ a = ((f : Nat) : Int) ∧ ((t = [] ∧ b = wire) ∨ ∃ g, t = [g] ∧ b = ((g : Nat) : Int))
theorem made_ok (w : WA) {k : Int} (hk : 0 ≤ k ∧ k ≤ 3) (n : Int) : MadeOk (mkA w k n) (mkB w k n) (mkErr w k n) (((makeR w k n).ws.length : Nat) - 1) (mkLst w k n) := by
 by_cases h : badK k n
 ·obtain ⟨e1, e2, e3⟩ := mk_bad (w := w) h
  exact ⟨fun _ => ⟨if_pos h, if_pos h⟩, fun e => by rw [e1] at e; exact absurd e (by decide)⟩
 have hA : mkA w k n = mkI w (mkKE k) 0 := if_neg h
 have hB : mkB w k n = if k ≤ 1 then mkI w 2 1 else mkN w 1 := if_neg h
 cases ho : mkOk w (mkKE k) with
 | false =>
  obtain ⟨e1, e2, e3⟩ := mk_no (w := w) h ho
  have hF : mkF w (mkKE k) = [] := by unfold mkF; rw [ho]; rfl
  refine ⟨fun _ => ⟨by rw [hA]; unfold mkI; rw [hF]; rfl, ?_⟩, fun e => by rw [e1] at e; exact absurd e (by decide)⟩; rw [hB]
  by_cases h1 : k ≤ 1
  ·rw [if_pos h1]
   have : mkKE k = 2 := if_pos (by omega)
   rw [this] at hF; unfold mkI; rw [hF]; rfl
  ·rw [if_neg h1]
   have : mkKE k = 1 := if_neg (by omega)
   rw [this] at ho; unfold mkN mkE; rw [ho]; rfl
 | true =>
  obtain ⟨e1, e2, e3⟩ := mk_yes (w := w) h ho
  have hF : mkF w (mkKE k) = (frees w.at).take (mkKE k) := by unfold mkF; rw [ho]; rfl
  have hl : ((frees w.at).take (mkKE k)).length = mkKE k := by unfold mkOk at ho; simp only [Bool.and_eq_true, decide_eq_true_eq] at ho; omega
  refine ⟨fun e => absurd e1 e, fun _ => ?_⟩; rw [e2, hA, hB]; unfold mkI; rw [hF]
  by_cases h1 : k ≤ 1
  ·have h2 : mkKE k = 2 := if_pos (by omega)
   rw [h2] at hl hF ⊢; rw [if_pos h1, hF]
   obtain ⟨f, g, hfg⟩ : ∃ f g, (frees w.at).take 2 = [f, g] := by
    match hm : (frees w.at).take 2, hl with
    | [f, g], _ => exact ⟨f, g, rfl⟩
   rw [hfg]; exact ⟨f, [g], rfl, rfl, .inr ⟨g, rfl, rfl⟩⟩
  ·have h2 : mkKE k = 1 := if_neg (by omega)
   rw [h2] at hl ho ⊢; rw [if_neg h1]
   obtain ⟨f, hf⟩ : ∃ f, (frees w.at).take 1 = [f] := by
    match hm : (frees w.at).take 1, hl with
    | [f], _ => exact ⟨f, rfl⟩
   rw [hf]; refine ⟨f, [], rfl, rfl, .inl ⟨rfl, ?_⟩⟩
   have he : mkE w 1 = 0 := by unfold mkE; rw [ho]; rfl
   rw [show mkN w 1 = (w.ws.length : Int) from if_pos he]
   have : makeR w k n = mkW w 1 (mkKW k n) := by
    rw [← h2]; exact if_neg h
   rw [this, mkW_len he]; omega
theorem made_ct (L : List SP) (a b e wire : Int) (l : List Nat) (ad : Option Addr) (c : Nat) (hR : RdS L 1 ad l.length (nats l)) (h : MadeOk a b e wire l) : Ct Tryz.prog 58 #[.int .i64 a, .int .i64 b, .int .i64 e, .slice ad l.length c, .int .i64 wire, .int .i64 e] (L) (fun _ : Unit => .bool true) (fun _ : Unit => L) := by
 refine Ct.o6 Tryz.func58 ?_; intro E
 show Hd E 55 _ _ _ _
 refine sr fun _ K1 => ?_
 refine yv y_as <| fk [(0,_),(1,_),(2,_),(3,_),(4,_),(5,_)] K1 ?_; refine Hd.seq fun _ K2 => ?_
 refine sr fun _ K3 => ?_
 refine yv y_mv <| yv (y_neq rfl rfl) ?_; refine yv y_mv ?_; apply Hd.org 3 15 18 [(0,_),(1,_),(2,_),(3,_),(4,_),(5,_)] rfl sbq
 ·intro hg1_15
  try simp only [hyZ] at hg1_15
  simp only [List.take]; refine n1 <| n1 <| yv (y_pickT rfl rfl) ?_; exact Hd.mn
 ·intro hg1_15
  try simp only [hyZ] at hg1_15
  simp only [List.take]; refine y2 y_mv <| y2 (y_neq rfl rfl) ?_; refine yv (y_pickF rfl rfl) ?_; exact Hd.mn
 simp only [List.drop]; refine fk [(0,_),(1,_),(2,_),(3,_),(4,_),(5,_),(18,_)] K3 ?_; refine qz ?_ ?_ <;> intro hc0 <;> try simp only [hyZ] at hc0
 ·refine sr fun _ K4 => ?_
  refine yv y_mv <| yv y_mv <| yv (y_eqlT rfl rfl) ?_; refine yv y_mv ?_; apply Hd.andg 3 22 25 [(1,_)] rfl sbq
  ·intro hg2_22
   try simp only [hyZ] at hg2_22
   simp only [List.take]; refine y2 y_mv <| y2 (y_eql rfl rfl) ?_; refine yv (y_pickT rfl rfl) ?_; exact Hd.mn
  ·intro hg2_22
   try simp only [hyZ] at hg2_22
   simp only [List.take]; refine n1 <| n1 <| yv (y_pickF rfl rfl) ?_; exact Hd.mn
  simp only [List.drop]; refine yv y_mv ?_; apply Hd.andg 3 26 29 [] rfl sbq
  ·intro hg2_26
   try simp only [hyZ] at hg2_26
   simp only [List.take]; refine y2 y_mv <| y2 (y_eql rfl rfl) ?_; refine yv (y_pickT rfl rfl) ?_; exact Hd.mn
  ·intro hg2_26
   try simp only [hyZ] at hg2_26
   simp only [List.take]; refine n1 <| n1 <| yv (y_pickF rfl rfl) ?_; exact Hd.mn
  simp only [List.drop]; refine yv y_as <| fk [(12,_)] K4 ?_; refine Hd.ret <| Hd.thenRet ?_
  obtain ⟨rfl, rfl⟩ := h.no (by omega)
  exact Hd.ret1 rfl () rfl sq
 obtain ⟨f, t, rfl, rfl, ht⟩ := h.yes (by omega)
 have hln : 0 < (f :: t).length := Nat.succ_pos _
 refine qv K2 <| Hd.seq fun _ K5 => ?_
 refine sr fun _ K6 => ?_
 refine yv y_mv <| yv (y_len Tryz.underlying44 rfl) ?_; refine yv (y_eql rfl rfl) ?_; refine fk [(0,_),(1,_),(3,_),(4,_),(32,_)] K6 ?_; refine qz ?_ ?_ <;> intro hc1 <;> try simp only [hyZ] at hc1
 ·obtain ⟨g, rfl, rfl⟩ : ∃ g, t = [g] ∧ b = ((g : Nat) : Int) := by
   rcases ht with ⟨rfl, _⟩ | h1
   ·simp at hc1
   ·exact h1
  refine sr fun _ K7 => ?_
  refine yv y_mv <| yv y_mv <| yv (y_idxR Tryz.underlying44 sz3 rfl rfl (by exact (show (0 : Nat) < _ by omega)) (by exact hR)) ?_; refine yv (y_loadR1 ag3 rfl (by exact hR) (by rfl)) ?_; refine yv (y_eqlT rfl rfl) ?_; refine yv y_mv ?_; apply Hd.andg 6 38 44 [] rfl sbq
  ·intro hg4_38
   try simp only [hyZ] at hg4_38
   simp only [List.take]; refine y2 y_mv <| y2 y_mv <| y2 (y_idxR Tryz.underlying44 sz3 rfl rfl (by exact (show (1 : Nat) < _ by omega)) (by exact hR)) ?_; refine y2 (y_loadR1 ag3 rfl (by exact hR) (by rfl)) ?_; refine y2 (y_eqlT rfl rfl) ?_; refine yv (y_pickT rfl rfl) ?_; exact Hd.mn
  ·intro hg4_38
   try simp only [hyZ] at hg4_38
   simp only [List.take]; refine n1 <| n1 <| n1 <| n1 <| n1 <| yv (y_pickF rfl rfl) ?_; exact Hd.mn
  simp only [List.drop]; refine yv y_as <| fk [(12,_)] K7 ?_; refine Hd.ret <| Hd.thenRet ?_; exact Hd.ret1 rfl () (by rfl) sq
 obtain ⟨rfl, rfl⟩ : t = [] ∧ b = wire := by
  rcases ht with h1 | ⟨g, rfl, _⟩
  ·exact h1
  ·exact absurd rfl hc1
 refine qv K5 <| sr fun _ K8 => ?_
 refine yv y_mv <| yv y_mv <| yv (y_idxR Tryz.underlying44 sz3 rfl rfl (by exact (show (0 : Nat) < _ by omega)) (by exact hR)) ?_; refine yv (y_loadR1 ag3 rfl (by exact hR) (by rfl)) ?_; refine yv (y_eqlT rfl rfl) ?_; refine yv y_mv ?_; apply Hd.andg 4 50 54 [] rfl sbq
 ·intro hg5_50
  try simp only [hyZ] at hg5_50
  simp only [List.take]; refine y2 y_mv <| y2 y_mv <| y2 (y_eqlT rfl rfl) ?_; refine yv (y_pickT rfl rfl) ?_; exact Hd.mn
 ·intro hg5_50
  try simp only [hyZ] at hg5_50
  simp only [List.take]; refine n1 <| n1 <| n1 <| yv (y_pickF rfl rfl) ?_; exact Hd.mn
 simp only [List.drop]; refine yv y_as <| fk [(12,_)] K8 ?_; refine Hd.ret ?_; exact Hd.ret1 rfl () (by rfl) sq
theorem do_ct (L : List SP) (pb wb rb : Nat) (w : WA) (K : Nat) (hK : K ≤ 100000000) (hl : Lo K w) (o : Ov) (ht : InK .u64 o.t) (hd : o.d.length ≤ 300) (hR : RdS L 1 o.ad o.d.length (bsl o.d)) (hc : o.d.length ≤ o.c) : Ct Tryz.prog 17 #[.pointer (some ⟨pb, 0, none⟩), .agg (encO o).toArray] (BoP pb wb rb :: WorldP wb w :: Rf.RwP rb w :: L) (fun _ : Unit => .bool true) (fun _ : Unit => BoP pb wb rb :: WorldP wb (doA w o) :: Rf.RwP rb (doA w o) :: L) := by
 refine Ct.o2 Tryz.func17 ?_; intro E
 show Hd E 289 _ _ _ _
 have ht0 := ht
 simp only [InK] at ht
 have hnow := hl.now
 refine Hd.wokW (.there .here) (fun hw => ?_); refine sr fun _ K1 => ?_
 refine Hd.box rfl rfl (fun b3 => ?_); refine yv y_as <| fk [(0,_),(3,_)] K1 ?_; refine sr fun _ K2 => ?_
 refine Hd.bslice (vs := []) rfl (by exact bs17_31 ..) (fun b31 => ?_); refine Hd.ownNil 5 1 (some ⟨b31, 0, none⟩) ?_; refine yv (y_f 4 31 Tryz.underlying33 sz31) <| yv (y_l1 ag31 rfl) <| Hd.append Tryz.underlying31 ty5 rfl rfl rfl pkk (by exact RdS.mono hR sq) (by simp [Value.oneCell']; done) (by simp only [maxLen]; omega) (by omega) (fun ad34 cap34 => ?_); refine yv y_as <| Hd.nil ?_; rw [Nat.zero_add, List.nil_append]; refine sk [(0,_),(3,_),(5,_)] K2 ?_; refine Hd.seq fun _ K3 => ?_
 refine Hd.ownCap (ad := ad34) (us := bsl o.d) pkk (fun hcap => ?_); refine Hd.region <| yv y_as <| fk [(0,_),(3,_),(5,_)] K3 ?_; refine Hd.cutK (ι := Unit) [(5,_)] (fun _ => [(6, .bool true)]) (fun _ => own 5 1 ad34 o.d.length cap34 (bsl o.d) :: BoP pb wb rb :: WorldP wb (doA w o) :: Rf.RwP rb (doA w o) :: L) ?_ ?_ ⟨rfl, trivial⟩
 ·refine sr fun _ K4 => ?_
  refine yv (y_f 0 3 Tryz.underlying33 sz3) <| yv (y_l1 ag3 rfl) <| fk [(0,_),(3,_),(5,_),(36,_)] K4 ?_; refine Hd.block <| Hd.seq fun _ K5 => ?_
  refine sr fun _ K6 => ?_
  refine yv (y_eql rfl rfl) ?_; refine yv y_as <| fk [(0,_),(3,_),(5,_),(36,_),(41,_)] K6 ?_; refine qz ?_ ?_ <;> intro hc0 <;> try simp only [hyZ] at hc0
  ·rw [decide_eq_true hc0]
   refine qv K5 <| Hd.condT rfl ?_; refine sr fun _ K7 => ?_
   refine yv y_as <| yv y_as <| fk [(0,_),(3,_),(5,_)] K7 ?_; refine sr fun _ K8 => ?_
   refine yv y_as <| fk [(0,_),(3,_),(5,_)] K8 ?_; refine Hd.seq fun _ K9 => ?_
   refine sr fun _ K10 => ?_
   refine yv (y_f 0 3 Tryz.underlying33 sz3) <| yv (y_l1 ag3 rfl) <| fk [(0,_),(3,_),(5,_),(47,_)] K10 ?_; refine Hd.block <| sr fun _ K11 => ?_
   refine yv (y_eql rfl rfl) ?_; refine yv y_as <| fk [(0,_),(3,_),(5,_),(47,_),(59,_)] K11 ?_; refine qz ?_ ?_ <;> intro hc4 <;> try simp only [hyZ] at hc4
   ·refine Hd.drawsH ([BoP pb wb rb, pt b3 (encO o) 33]) (fun _ => true) mixed ?_
    simp only [List.length, Nat.zero_add, Nat.reduceAdd]; refine tH 0 rfl y_mv <| tH 1 rfl y_np <| tH 2 rfl (y_f 0 38 Tryz.underlying41 sz38) <| tH 3 rfl (y_l1 ag38 rfl) <| tH 4 rfl (y_f 2 3 Tryz.underlying33 sz3) <| tH 5 rfl (y_l1 ag3 rfl) <| qo 6 ?_; refine callE rfl fk54 (wmk0_ct _ wb w o.k o.n (by omega)) sq ?_; intro _; refine qk <| tH 7 rfl y_mv <| tH 8 rfl y_ex <| tH 9 rfl y_ex <| tH 10 rfl y_ex <| tH 11 rfl y_as <| tH 12 rfl y_as <| tH 13 rfl y_as <| endH kq ?_; refine slots [(0,_),(3,_),(5,_),(7,_),(8,_),(9,_)] sbq ?_; refine Hd.inB <| Hd.toK K9 ?_; refine Hd.seq fun _ K12 => ?_
    refine Hd.drawsH ([BoP pb wb rb, pt b3 (encO o) 33]) (fun _ => true) mixed ?_; simp only [List.length, Nat.zero_add, Nat.reduceAdd]; refine tH 0 rfl y_mv <| tH 1 rfl y_np <| tH 2 rfl (y_f 1 39 Tryz.underlying41 sz39) <| tH 3 rfl (y_l1 ag39 rfl) <| tH 4 rfl (y_f 0 3 Tryz.underlying33 sz3) <| tH 5 rfl (y_l1 ag3 rfl) <| tH 6 rfl (y_f 2 3 Tryz.underlying33 sz3) <| tH 7 rfl (y_l1 ag3 rfl) <| qo 8 ?_; refine callE rfl fk57 (Rf.rMake_ct _ rb w hw o.k o.n (by omega)) sq ?_; rintro ⟨ma, mc⟩; dsimp only; refine qk <| tH 9 rfl y_mv <| tH 10 rfl y_ex <| tH 11 rfl y_ex <| tH 12 rfl y_as <| tH 13 rfl y_as <| endH kq ?_; refine sk [(0,_),(5,_),(7,_),(8,_),(9,_),(10,_),(11,_)] K12 ?_; refine Hd.wokW (wb := wb) (w := makeR w o.k o.n) pkk (fun hw2 => ?_); refine Rf.Hd.rw (b := rb) (w := makeR w o.k o.n) pkk (fun i hi => ?_)
    have hrl := Rf.rows_n hi
    have hlen := hw2.len
    refine Hd.region <| yv y_mv <| yv y_mv <| yv y_mv <| yv y_mv <| yv y_mv <| yv y_np <| yv (y_f 1 39 Tryz.underlying41 sz39) <| yv (y_l1 ag39 rfl) <| yv y_np <| yv (y_f 0 129 Tryz.underlying133 sz129) <| yv (y_l1 ag129 rfl) <| yv (y_len Tryz.underlying129 rfl) ?_; refine yv (y_to (v' := .int .i64 (((makeR w o.k o.n).ws.length : Nat) - 1)) (y_subn rfl rfl (by simp only [InK]; omega)) (by (congr 1; omega))) ?_; refine yv y_mv <| callE rfl fk58 (made_ct _ _ _ _ _ _ ma mc ?hD (made_ok w (k := o.k) (by omega) o.n)) sq ?_
    case hD => exact RdS.own pkk
    intro _; refine yv y_as <| Hd.nil <| slots [(5,_),(6,_)] sbq ?_; refine Hd.inB <| thenN ?_; rw [do_mk ⟨by omega, by omega⟩]; exact Hd.meet () sbq (Ent.sep (.pick pkk (.pick pkk (.pick pkk (.ex i (.pure hi enn))))))
   exact absurd hc0 hc4
  refine sr fun _ K13 => ?_
  refine yv (y_eql rfl rfl) ?_; refine yv y_as <| fk [(0,_),(3,_),(5,_),(36,_),(41,_)] K13 ?_; refine qz ?_ ?_ <;> intro hc1 <;> try simp only [hyZ] at hc1
  ·rw [decide_eq_true hc1]
   refine qv K5 <| Hd.condT rfl ?_; refine sr fun _ K14 => ?_
   refine yv y_as <| yv y_as <| fk [(0,_),(3,_),(5,_)] K14 ?_; refine sr fun _ K15 => ?_
   refine yv y_as <| fk [(0,_),(3,_),(5,_)] K15 ?_; refine Hd.seq fun _ K16 => ?_
   refine sr fun _ K17 => ?_
   refine yv (y_f 0 3 Tryz.underlying33 sz3) <| yv (y_l1 ag3 rfl) <| fk [(0,_),(3,_),(5,_),(47,_)] K17 ?_; refine Hd.block <| sr fun _ K18 => ?_
   refine yv (y_eql rfl rfl) ?_; refine yv y_as <| fk [(0,_),(3,_),(5,_),(47,_),(59,_)] K18 ?_; refine qz ?_ ?_ <;> intro hc4 <;> try simp only [hyZ] at hc4
   ·exact absurd (hc4.symm.trans hc1) (by decide)
   refine sr fun _ K19 => ?_
   refine yv (y_eql rfl rfl) ?_; refine yv y_as <| fk [(0,_),(3,_),(5,_),(47,_),(72,_)] K19 ?_; refine qz ?_ ?_ <;> intro hc5 <;> try simp only [hyZ] at hc5
   ·refine Hd.drawsH ([BoP pb wb rb, pt b3 (encO o) 33]) (fun _ => true) mixed ?_
    simp only [List.length, Nat.zero_add, Nat.reduceAdd]; refine tH 0 rfl y_mv <| tH 1 rfl y_np <| tH 2 rfl (y_f 0 38 Tryz.underlying41 sz38) <| tH 3 rfl (y_l1 ag38 rfl) <| tH 4 rfl (y_f 2 3 Tryz.underlying33 sz3) <| tH 5 rfl (y_l1 ag3 rfl) <| qo 6 ?_; refine callE rfl fk55 (wmk1_ct _ wb w o.k o.n (by omega)) sq ?_; intro _; refine qk <| tH 7 rfl y_mv <| tH 8 rfl y_ex <| tH 9 rfl y_ex <| tH 10 rfl y_ex <| tH 11 rfl y_as <| tH 12 rfl y_as <| tH 13 rfl y_as <| endH kq ?_; refine slots [(0,_),(3,_),(5,_),(7,_),(8,_),(9,_)] sbq ?_; refine Hd.inB <| Hd.toK K16 ?_; refine Hd.seq fun _ K20 => ?_
    refine Hd.drawsH ([BoP pb wb rb, pt b3 (encO o) 33]) (fun _ => true) mixed ?_; simp only [List.length, Nat.zero_add, Nat.reduceAdd]; refine tH 0 rfl y_mv <| tH 1 rfl y_np <| tH 2 rfl (y_f 1 39 Tryz.underlying41 sz39) <| tH 3 rfl (y_l1 ag39 rfl) <| tH 4 rfl (y_f 0 3 Tryz.underlying33 sz3) <| tH 5 rfl (y_l1 ag3 rfl) <| tH 6 rfl (y_f 2 3 Tryz.underlying33 sz3) <| tH 7 rfl (y_l1 ag3 rfl) <| qo 8 ?_; refine callE rfl fk57 (Rf.rMake_ct _ rb w hw o.k o.n (by omega)) sq ?_; rintro ⟨ma, mc⟩; dsimp only; refine qk <| tH 9 rfl y_mv <| tH 10 rfl y_ex <| tH 11 rfl y_ex <| tH 12 rfl y_as <| tH 13 rfl y_as <| endH kq ?_; refine sk [(0,_),(5,_),(7,_),(8,_),(9,_),(10,_),(11,_)] K20 ?_; refine Hd.wokW (wb := wb) (w := makeR w o.k o.n) pkk (fun hw2 => ?_); refine Rf.Hd.rw (b := rb) (w := makeR w o.k o.n) pkk (fun i hi => ?_)
    have hrl := Rf.rows_n hi
    have hlen := hw2.len
    refine Hd.region <| yv y_mv <| yv y_mv <| yv y_mv <| yv y_mv <| yv y_mv <| yv y_np <| yv (y_f 1 39 Tryz.underlying41 sz39) <| yv (y_l1 ag39 rfl) <| yv y_np <| yv (y_f 0 129 Tryz.underlying133 sz129) <| yv (y_l1 ag129 rfl) <| yv (y_len Tryz.underlying129 rfl) ?_; refine yv (y_to (v' := .int .i64 (((makeR w o.k o.n).ws.length : Nat) - 1)) (y_subn rfl rfl (by simp only [InK]; omega)) (by (congr 1; omega))) ?_; refine yv y_mv <| callE rfl fk58 (made_ct _ _ _ _ _ _ ma mc ?hD (made_ok w (k := o.k) (by omega) o.n)) sq ?_
    case hD => exact RdS.own pkk
    intro _; refine yv y_as <| Hd.nil <| slots [(5,_),(6,_)] sbq ?_; refine Hd.inB <| thenN ?_; rw [do_mk ⟨by omega, by omega⟩]; exact Hd.meet () sbq (Ent.sep (.pick pkk (.pick pkk (.pick pkk (.ex i (.pure hi enn))))))
   exact absurd hc1 hc5
  refine sr fun _ K21 => ?_
  refine yv (y_eql rfl rfl) ?_; refine yv y_as <| fk [(0,_),(3,_),(5,_),(36,_),(41,_)] K21 ?_; refine qz ?_ ?_ <;> intro hc2 <;> try simp only [hyZ] at hc2
  ·rw [decide_eq_true hc2]
   refine qv K5 <| Hd.condT rfl ?_; refine sr fun _ K22 => ?_
   refine yv y_as <| yv y_as <| fk [(0,_),(3,_),(5,_)] K22 ?_; refine sr fun _ K23 => ?_
   refine yv y_as <| fk [(0,_),(3,_),(5,_)] K23 ?_; refine Hd.seq fun _ K24 => ?_
   refine sr fun _ K25 => ?_
   refine yv (y_f 0 3 Tryz.underlying33 sz3) <| yv (y_l1 ag3 rfl) <| fk [(0,_),(3,_),(5,_),(47,_)] K25 ?_; refine Hd.block <| sr fun _ K26 => ?_
   refine yv (y_eql rfl rfl) ?_; refine yv y_as <| fk [(0,_),(3,_),(5,_),(47,_),(59,_)] K26 ?_; refine qz ?_ ?_ <;> intro hc4 <;> try simp only [hyZ] at hc4
   ·exact absurd (hc4.symm.trans hc2) (by decide)
   refine sr fun _ K27 => ?_
   refine yv (y_eql rfl rfl) ?_; refine yv y_as <| fk [(0,_),(3,_),(5,_),(47,_),(72,_)] K27 ?_; refine qz ?_ ?_ <;> intro hc5 <;> try simp only [hyZ] at hc5
   ·exact absurd (hc5.symm.trans hc2) (by decide)
   refine sr fun _ K28 => ?_
   refine yv (y_eql rfl rfl) ?_; refine yv y_as <| fk [(0,_),(3,_),(5,_),(85,_)] K28 ?_; refine qz ?_ ?_ <;> intro hc6 <;> try simp only [hyZ] at hc6
   ·refine Hd.drawsH ([BoP pb wb rb, pt b3 (encO o) 33]) (fun _ => true) mixed ?_
    simp only [List.length, Nat.zero_add, Nat.reduceAdd]; refine tH 0 rfl y_mv <| tH 1 rfl y_np <| tH 2 rfl (y_f 0 38 Tryz.underlying41 sz38) <| tH 3 rfl (y_l1 ag38 rfl) <| tH 4 rfl (y_f 2 3 Tryz.underlying33 sz3) <| tH 5 rfl (y_l1 ag3 rfl) <| qo 6 ?_; refine callE rfl fk50 (wmk2_ct _ wb w o.k o.n (by omega)) sq ?_; intro _; refine qk <| tH 7 rfl y_mv <| tH 8 rfl y_ex <| tH 9 rfl y_ex <| tH 10 rfl y_ex <| tH 11 rfl y_as <| tH 12 rfl y_as <| tH 13 rfl y_as <| endH kq ?_; refine slots [(0,_),(3,_),(5,_),(7,_),(8,_),(9,_)] sbq ?_; refine Hd.inB <| Hd.toK K24 ?_; refine Hd.seq fun _ K29 => ?_
    refine Hd.drawsH ([BoP pb wb rb, pt b3 (encO o) 33]) (fun _ => true) mixed ?_; simp only [List.length, Nat.zero_add, Nat.reduceAdd]; refine tH 0 rfl y_mv <| tH 1 rfl y_np <| tH 2 rfl (y_f 1 39 Tryz.underlying41 sz39) <| tH 3 rfl (y_l1 ag39 rfl) <| tH 4 rfl (y_f 0 3 Tryz.underlying33 sz3) <| tH 5 rfl (y_l1 ag3 rfl) <| tH 6 rfl (y_f 2 3 Tryz.underlying33 sz3) <| tH 7 rfl (y_l1 ag3 rfl) <| qo 8 ?_; refine callE rfl fk57 (Rf.rMake_ct _ rb w hw o.k o.n (by omega)) sq ?_; rintro ⟨ma, mc⟩; dsimp only; refine qk <| tH 9 rfl y_mv <| tH 10 rfl y_ex <| tH 11 rfl y_ex <| tH 12 rfl y_as <| tH 13 rfl y_as <| endH kq ?_; refine sk [(0,_),(5,_),(7,_),(8,_),(9,_),(10,_),(11,_)] K29 ?_; refine Hd.wokW (wb := wb) (w := makeR w o.k o.n) pkk (fun hw2 => ?_); refine Rf.Hd.rw (b := rb) (w := makeR w o.k o.n) pkk (fun i hi => ?_)
    have hrl := Rf.rows_n hi
    have hlen := hw2.len
    refine Hd.region <| yv y_mv <| yv y_mv <| yv y_mv <| yv y_mv <| yv y_mv <| yv y_np <| yv (y_f 1 39 Tryz.underlying41 sz39) <| yv (y_l1 ag39 rfl) <| yv y_np <| yv (y_f 0 129 Tryz.underlying133 sz129) <| yv (y_l1 ag129 rfl) <| yv (y_len Tryz.underlying129 rfl) ?_; refine yv (y_to (v' := .int .i64 (((makeR w o.k o.n).ws.length : Nat) - 1)) (y_subn rfl rfl (by simp only [InK]; omega)) (by (congr 1; omega))) ?_; refine yv y_mv <| callE rfl fk58 (made_ct _ _ _ _ _ _ ma mc ?hD (made_ok w (k := o.k) (by omega) o.n)) sq ?_
    case hD => exact RdS.own pkk
    intro _; refine yv y_as <| Hd.nil <| slots [(5,_),(6,_)] sbq ?_; refine Hd.inB <| thenN ?_; rw [do_mk ⟨by omega, by omega⟩]; exact Hd.meet () sbq (Ent.sep (.pick pkk (.pick pkk (.pick pkk (.ex i (.pure hi enn))))))
   exact absurd hc2 hc6
  refine Hd.region <| yv (y_eql rfl rfl) ?_; refine yv y_as <| fk [(0,_),(3,_),(5,_),(36,_),(41,_)] K5 ?_; refine qz ?_ ?_ <;> intro hc3 <;> try simp only [hyZ] at hc3
  ·refine sr fun _ K30 => ?_
   refine yv y_as <| yv y_as <| fk [(0,_),(3,_),(5,_)] K30 ?_; refine sr fun _ K31 => ?_
   refine yv y_as <| fk [(0,_),(3,_),(5,_)] K31 ?_; refine Hd.seq fun _ K32 => ?_
   refine sr fun _ K33 => ?_
   refine yv (y_f 0 3 Tryz.underlying33 sz3) <| yv (y_l1 ag3 rfl) <| fk [(0,_),(3,_),(5,_),(47,_)] K33 ?_; refine Hd.block <| sr fun _ K34 => ?_
   refine yv (y_eql rfl rfl) ?_; refine yv y_as <| fk [(0,_),(3,_),(5,_),(47,_),(59,_)] K34 ?_; refine qz ?_ ?_ <;> intro hc4 <;> try simp only [hyZ] at hc4
   ·exact absurd (hc4.symm.trans hc3) (by decide)
   refine sr fun _ K35 => ?_
   refine yv (y_eql rfl rfl) ?_; refine yv y_as <| fk [(0,_),(3,_),(5,_),(47,_),(72,_)] K35 ?_; refine qz ?_ ?_ <;> intro hc5 <;> try simp only [hyZ] at hc5
   ·exact absurd (hc5.symm.trans hc3) (by decide)
   refine sr fun _ K36 => ?_
   refine yv (y_eql rfl rfl) ?_; refine yv y_as <| fk [(0,_),(3,_),(5,_),(85,_)] K36 ?_; refine qz ?_ ?_ <;> intro hc6 <;> try simp only [hyZ] at hc6
   ·exact absurd (hc6.symm.trans hc3) (by decide)
   refine Hd.drawsH ([BoP pb wb rb, pt b3 (encO o) 33]) (fun _ => true) mixed ?_; simp only [List.length, Nat.zero_add, Nat.reduceAdd]; refine tH 0 rfl y_mv <| tH 1 rfl y_np <| tH 2 rfl (y_f 0 38 Tryz.underlying41 sz38) <| tH 3 rfl (y_l1 ag38 rfl) <| tH 4 rfl (y_f 2 3 Tryz.underlying33 sz3) <| tH 5 rfl (y_l1 ag3 rfl) <| qo 6 ?_; refine callE rfl fk56 (wmk3_ct _ wb w o.k o.n (by omega)) sq ?_; intro _; refine qk <| tH 7 rfl y_mv <| tH 8 rfl y_ex <| tH 9 rfl y_ex <| tH 10 rfl y_ex <| tH 11 rfl y_as <| tH 12 rfl y_as <| tH 13 rfl y_as <| endH kq ?_; refine slots [(0,_),(3,_),(5,_),(7,_),(8,_),(9,_)] sbq ?_; refine Hd.inB <| Hd.toK K32 ?_; refine Hd.seq fun _ K37 => ?_
   refine Hd.drawsH ([BoP pb wb rb, pt b3 (encO o) 33]) (fun _ => true) mixed ?_; simp only [List.length, Nat.zero_add, Nat.reduceAdd]; refine tH 0 rfl y_mv <| tH 1 rfl y_np <| tH 2 rfl (y_f 1 39 Tryz.underlying41 sz39) <| tH 3 rfl (y_l1 ag39 rfl) <| tH 4 rfl (y_f 0 3 Tryz.underlying33 sz3) <| tH 5 rfl (y_l1 ag3 rfl) <| tH 6 rfl (y_f 2 3 Tryz.underlying33 sz3) <| tH 7 rfl (y_l1 ag3 rfl) <| qo 8 ?_; refine callE rfl fk57 (Rf.rMake_ct _ rb w hw o.k o.n (by omega)) sq ?_; rintro ⟨ma, mc⟩; dsimp only; refine qk <| tH 9 rfl y_mv <| tH 10 rfl y_ex <| tH 11 rfl y_ex <| tH 12 rfl y_as <| tH 13 rfl y_as <| endH kq ?_; refine sk [(0,_),(5,_),(7,_),(8,_),(9,_),(10,_),(11,_)] K37 ?_; refine Hd.wokW (wb := wb) (w := makeR w o.k o.n) pkk (fun hw2 => ?_); refine Rf.Hd.rw (b := rb) (w := makeR w o.k o.n) pkk (fun i hi => ?_)
   have hrl := Rf.rows_n hi
   have hlen := hw2.len
   refine Hd.region <| yv y_mv <| yv y_mv <| yv y_mv <| yv y_mv <| yv y_mv <| yv y_np <| yv (y_f 1 39 Tryz.underlying41 sz39) <| yv (y_l1 ag39 rfl) <| yv y_np <| yv (y_f 0 129 Tryz.underlying133 sz129) <| yv (y_l1 ag129 rfl) <| yv (y_len Tryz.underlying129 rfl) ?_; refine yv (y_to (v' := .int .i64 (((makeR w o.k o.n).ws.length : Nat) - 1)) (y_subn rfl rfl (by simp only [InK]; omega)) (by (congr 1; omega))) ?_; refine yv y_mv <| callE rfl fk58 (made_ct _ _ _ _ _ _ ma mc ?hD (made_ok w (k := o.k) (by omega) o.n)) sq ?_
   case hD => exact RdS.own pkk
   intro _; refine yv y_as <| Hd.nil <| slots [(5,_),(6,_)] sbq ?_; refine Hd.inB <| thenN ?_; rw [do_mk ⟨by omega, by omega⟩]; exact Hd.meet () sbq (Ent.sep (.pick pkk (.pick pkk (.pick pkk (.ex i (.pure hi enn))))))
  refine sr fun _ K38 => ?_
  refine yv (y_eql rfl rfl) ?_; refine yv y_as <| fk [(0,_),(3,_),(5,_),(36,_),(125,_)] K38 ?_; refine qz ?_ ?_ <;> intro hc7 <;> try simp only [hyZ] at hc7
  ·refine Hd.seq fun _ K39 => ?_
   refine Hd.drawsH ([BoP pb wb rb, pt b3 (encO o) 33]) (fun _ => true) mixed ?_; simp only [List.length, Nat.zero_add, Nat.reduceAdd]; refine tH 0 rfl y_mv <| tH 1 rfl y_np <| tH 2 rfl (y_f 0 38 Tryz.underlying41 sz38) <| tH 3 rfl (y_l1 ag38 rfl) <| tH 4 rfl (y_f 1 3 Tryz.underlying33 sz3) <| tH 5 rfl (y_l1 ag3 rfl) <| qo 6 ?_; refine callE rfl fk59 (waccept_ct _ wb w o.a) sq ?_; intro _; refine qk <| tH 7 rfl y_mv <| tH 8 rfl y_ex <| tH 9 rfl y_ex <| tH 10 rfl y_ex <| tH 11 rfl y_as <| tH 12 rfl y_as <| tH 13 rfl y_as <| endH kq ?_; refine sk [(0,_),(3,_),(5,_),(12,_),(13,_),(14,_)] K39 ?_; refine Hd.seq fun _ K40 => ?_
   refine Hd.drawsH ([BoP pb wb rb, pt b3 (encO o) 33]) (fun _ => true) mixed ?_; simp only [List.length, Nat.zero_add, Nat.reduceAdd]; refine tH 0 rfl y_mv <| tH 1 rfl y_np <| tH 2 rfl (y_f 1 39 Tryz.underlying41 sz39) <| tH 3 rfl (y_l1 ag39 rfl) <| tH 4 rfl (y_f 1 3 Tryz.underlying33 sz3) <| tH 5 rfl (y_l1 ag3 rfl) <| qo 6 ?_; refine callE rfl fk60 (Rf.rAccept_ct _ rb w hw o.a) sq ?_; intro _; refine qk <| tH 7 rfl y_mv <| tH 8 rfl y_ex <| tH 9 rfl y_ex <| tH 10 rfl y_ex <| tH 11 rfl y_as <| tH 12 rfl y_as <| tH 13 rfl y_as <| endH kq ?_; refine sk [(5,_),(12,_),(13,_),(14,_),(15,_),(16,_),(17,_)] K40 ?_; refine Hd.region <| yv y_mv <| yv y_mv <| yv (y_eqlT rfl rfl) ?_; refine yv y_mv ?_; apply Hd.andg 4 152 156 [(5,_),(14,_),(17,_)] rfl sbq
   ·intro hg24_152
    try simp only [hyZ] at hg24_152
    simp only [List.take]; refine y2 y_mv <| y2 y_mv <| y2 (y_eqlT rfl rfl) ?_; refine yv (y_pickT rfl rfl) ?_; exact Hd.mn
   ·intro hg24_152
    try simp only [hyZ] at hg24_152
    simp only [List.take]; refine n1 <| n1 <| n1 <| yv (y_pickF rfl rfl) ?_; exact Hd.mn
   simp only [List.drop]; refine yv y_mv ?_; apply Hd.andg 4 157 161 [(5,_)] rfl sbq
   ·intro hg24_157
    try simp only [hyZ] at hg24_157
    simp only [List.take]; refine y2 y_mv <| y2 y_mv <| y2 (y_eqlT rfl rfl) ?_; refine yv (y_pickT rfl rfl) ?_; exact Hd.mn
   ·intro hg24_157
    try simp only [hyZ] at hg24_157
    simp only [List.take]; refine n1 <| n1 <| n1 <| yv (y_pickF rfl rfl) ?_; exact Hd.mn
   simp only [List.drop]; refine yv y_as <| Hd.nil <| slots [(5,_),(6,_)] sbq ?_; refine Hd.inB <| thenN ?_; rw [do_4 hc7]; exact Hd.meet () (by (repeat (first | exact trivial | refine ⟨rfl, ?_⟩)); done) sq
  refine sr fun _ K41 => ?_
  refine yv (y_eql rfl rfl) ?_; refine yv y_as <| fk [(0,_),(3,_),(5,_),(36,_),(162,_)] K41 ?_; refine qz ?_ ?_ <;> intro hc8 <;> try simp only [hyZ] at hc8
  ·refine Hd.seq fun _ K42 => ?_
   refine Hd.drawsH ([BoP pb wb rb, pt b3 (encO o) 33]) (fun _ => true) mixed ?_; simp only [List.length, Nat.zero_add, Nat.reduceAdd]; refine tH 0 rfl y_mv <| tH 1 rfl y_np <| tH 2 rfl (y_f 0 38 Tryz.underlying41 sz38) <| tH 3 rfl (y_l1 ag38 rfl) <| tH 4 rfl (y_f 1 3 Tryz.underlying33 sz3) <| tH 5 rfl (y_l1 ag3 rfl) <| tH 6 rfl (y_f 2 3 Tryz.underlying33 sz3) <| tH 7 rfl (y_l1 ag3 rfl) <| qo 8 ?_; refine callE rfl fk61 (wread_ct _ wb w o.a o.n) sq ?_; rintro ⟨ta, tc⟩; dsimp only; refine qk <| tH 9 rfl y_mv <| tH 10 rfl y_ex <| tH 11 rfl y_ex <| tH 12 rfl y_ex <| tH 13 rfl y_as <| tH 14 rfl y_as <| tH 15 rfl y_as <| endH kq ?_; refine sk [(0,_),(3,_),(5,_),(18,_),(19,_),(20,_)] K42 ?_; refine Hd.seq fun _ K43 => ?_
   refine Hd.drawsH ([BoP pb wb rb, pt b3 (encO o) 33]) (fun _ => true) mixed ?_; simp only [List.length, Nat.zero_add, Nat.reduceAdd]; refine tH 0 rfl y_mv <| tH 1 rfl y_np <| tH 2 rfl (y_f 1 39 Tryz.underlying41 sz39) <| tH 3 rfl (y_l1 ag39 rfl) <| tH 4 rfl (y_f 1 3 Tryz.underlying33 sz3) <| tH 5 rfl (y_l1 ag3 rfl) <| tH 6 rfl (y_f 2 3 Tryz.underlying33 sz3) <| tH 7 rfl (y_l1 ag3 rfl) <| qo 8 ?_; refine callE rfl fk62 (Rf.rRead_ct _ rb w hw o.a o.n) sq ?_; rintro ⟨ua, uc⟩; dsimp only; refine qk <| tH 9 rfl y_mv <| tH 10 rfl y_ex <| tH 11 rfl y_ex <| tH 12 rfl y_ex <| tH 13 rfl y_as <| tH 14 rfl y_as <| tH 15 rfl y_as <| endH kq ?_; refine sk [(5,_),(18,_),(19,_),(20,_),(21,_),(22,_),(23,_)] K43 ?_; refine Hd.region <| yv y_mv <| yv (y_strOf (l := _) kq Tryz.underlying9 rfl (by exact RdS.own pkk)) ?_
   refine yv y_mv <| yv (y_strOf (l := _) kq Tryz.underlying9 rfl (by exact RdS.own pkk)) ?_; refine yv (y_eqlstr rfl rfl) ?_; refine yv y_mv ?_; apply Hd.andg 4 195 199 [(5,_),(20,_),(23,_)] rfl sbq
   ·intro hg28_195
    try simp only [hyZ] at hg28_195
    simp only [List.take]; refine y2 y_mv <| y2 y_mv <| y2 (y_eqlb Tryz.underlying4 rfl rfl) ?_; refine yv (y_pickT rfl rfl) ?_; exact Hd.mn
   ·intro hg28_195
    try simp only [hyZ] at hg28_195
    simp only [List.take]; refine n1 <| n1 <| n1 <| yv (y_pickF rfl rfl) ?_; exact Hd.mn
   simp only [List.drop]; refine yv y_mv ?_; apply Hd.andg 4 200 204 [(5,_)] rfl sbq
   ·intro hg28_200
    try simp only [hyZ] at hg28_200
    simp only [List.take]; refine y2 y_mv <| y2 y_mv <| y2 (y_eqlT rfl rfl) ?_; refine yv (y_pickT rfl rfl) ?_; exact Hd.mn
   ·intro hg28_200
    try simp only [hyZ] at hg28_200
    simp only [List.take]; refine n1 <| n1 <| n1 <| yv (y_pickF rfl rfl) ?_; exact Hd.mn
   simp only [List.drop]; refine yv y_as <| Hd.nil <| slots [(5,_),(6,_)] sbq ?_; refine Hd.inB <| thenN ?_; rw [do_5 hc8]; exact Hd.meet () (by simp; repeat (first | exact trivial | refine ⟨rfl, ?_⟩)) sq
  refine sr fun _ K44 => ?_
  refine yv (y_eql rfl rfl) ?_; refine yv y_as <| fk [(0,_),(3,_),(5,_),(36,_),(205,_)] K44 ?_; refine qz ?_ ?_ <;> intro hc9 <;> try simp only [hyZ] at hc9
  ·refine Hd.seq fun _ K45 => ?_
   refine Hd.drawsH ([BoP pb wb rb, pt b3 (encO o) 33]) (fun _ => true) mixed ?_; simp only [List.length, Nat.zero_add, Nat.reduceAdd]; refine tH 0 rfl y_mv <| tH 1 rfl y_np <| tH 2 rfl (y_f 0 38 Tryz.underlying41 sz38) <| tH 3 rfl (y_l1 ag38 rfl) <| tH 4 rfl (y_f 1 3 Tryz.underlying33 sz3) <| tH 5 rfl (y_l1 ag3 rfl) <| tH 6 rfl y_mv <| qo 7 ?_; refine callE rfl fk63 (wwrite_ct _ wb w o.a ad34 o.d.length cap34 o.d rfl ?hD (by omega) hcap) sq ?_
   case hD => exact RdS.own pkk
   intro _; refine qk <| tH 8 rfl y_mv <| tH 9 rfl y_ex <| tH 10 rfl y_ex <| tH 11 rfl y_as <| tH 12 rfl y_as <| endH kq ?_; refine sk [(0,_),(3,_),(5,_),(24,_),(25,_)] K45 ?_; refine Hd.seq fun _ K46 => ?_
   refine Hd.drawsH ([BoP pb wb rb, pt b3 (encO o) 33]) (fun _ => true) mixed ?_; simp only [List.length, Nat.zero_add, Nat.reduceAdd]; refine tH 0 rfl y_mv <| tH 1 rfl y_np <| tH 2 rfl (y_f 1 39 Tryz.underlying41 sz39) <| tH 3 rfl (y_l1 ag39 rfl) <| tH 4 rfl (y_f 1 3 Tryz.underlying33 sz3) <| tH 5 rfl (y_l1 ag3 rfl) <| tH 6 rfl (y_f 4 31 Tryz.underlying33 sz31) <| tH 7 rfl (y_l1 ag31 rfl) <| qo 8 ?_; refine callE rfl fk64 (Rf.rWrite_ct _ rb w hw o.a o.ad o.d.length o.c o.d rfl ?hD (by omega) hc) sq ?_
   case hD => exact RdS.mono hR sq
   intro _; refine qk <| tH 9 rfl y_mv <| tH 10 rfl y_ex <| tH 11 rfl y_ex <| tH 12 rfl y_as <| tH 13 rfl y_as <| endH kq ?_; refine sk [(5,_),(24,_),(25,_),(26,_),(27,_)] K46 ?_; refine Hd.region <| yv y_mv <| yv y_mv <| yv (y_eqlT rfl rfl) ?_; refine yv y_mv ?_; apply Hd.andg 4 233 237 [(5,_)] rfl sbq
   ·intro hg32_233
    try simp only [hyZ] at hg32_233
    simp only [List.take]; refine y2 y_mv <| y2 y_mv <| y2 (y_eqlT rfl rfl) ?_; refine yv (y_pickT rfl rfl) ?_; exact Hd.mn
   ·intro hg32_233
    try simp only [hyZ] at hg32_233
    simp only [List.take]; refine n1 <| n1 <| n1 <| yv (y_pickF rfl rfl) ?_; exact Hd.mn
   simp only [List.drop]; refine yv y_as <| Hd.nil <| slots [(5,_),(6,_)] sbq ?_; refine Hd.inB <| thenN ?_; rw [do_6 hc9]; exact Hd.meet () (by (repeat (first | exact trivial | refine ⟨rfl, ?_⟩)); done) sq
  refine sr fun _ K47 => ?_
  refine yv (y_eql rfl rfl) ?_; refine yv y_as <| fk [(0,_),(3,_),(5,_),(36,_),(238,_)] K47 ?_; refine qz ?_ ?_ <;> intro hc10 <;> try simp only [hyZ] at hc10
  ·refine Hd.seq fun _ K48 => ?_
   refine Hd.drawsH ([BoP pb wb rb, pt b3 (encO o) 33]) (fun _ => true) mixed ?_; simp only [List.length, Nat.zero_add, Nat.reduceAdd]; refine tH 0 rfl y_mv <| tH 1 rfl y_np <| tH 2 rfl (y_f 0 38 Tryz.underlying41 sz38) <| tH 3 rfl (y_l1 ag38 rfl) <| tH 4 rfl (y_f 1 3 Tryz.underlying33 sz3) <| tH 5 rfl (y_l1 ag3 rfl) <| qo 6 ?_; refine callE rfl fk65 (wshut_ct _ wb w o.a) sq ?_; intro _; refine qk <| tH 7 rfl y_as <| endH kq ?_; refine sk [(0,_),(3,_),(5,_),(28,_)] K48 ?_; refine Hd.drawsH ([BoP pb wb rb, pt b3 (encO o) 33]) (fun _ => true) mixed ?_; simp only [List.length, Nat.zero_add, Nat.reduceAdd]; refine tH 0 rfl y_mv <| tH 1 rfl y_mv <| tH 2 rfl y_np <| tH 3 rfl (y_f 1 39 Tryz.underlying41 sz39) <| tH 4 rfl (y_l1 ag39 rfl) <| tH 5 rfl (y_f 1 3 Tryz.underlying33 sz3) <| tH 6 rfl (y_l1 ag3 rfl) ?_
   refine qo 7 ?_; refine callE rfl fk66 (Rf.rShut_ct _ rb w hw o.a) sq ?_; intro _; refine qk <| tH 8 rfl (y_eqlT rfl rfl) ?_; refine tH 9 rfl y_as <| endH kq ?_; refine slots [(5,_),(6,_)] sbq ?_; refine Hd.inB <| thenN ?_; rw [do_7 hc10]; exact Hd.meet () (by (repeat (first | exact trivial | refine ⟨rfl, ?_⟩)); done) sq
  refine sr fun _ K49 => ?_
  refine yv (y_eql rfl rfl) ?_; refine yv y_as <| fk [(0,_),(3,_),(5,_),(256,_)] K49 ?_; refine qz ?_ ?_ <;> intro hc11 <;> try simp only [hyZ] at hc11
  ·refine Hd.seq fun _ K50 => ?_
   refine Hd.drawsH ([BoP pb wb rb, pt b3 (encO o) 33]) (fun _ => true) mixed ?_; simp only [List.length, Nat.zero_add, Nat.reduceAdd]; refine tH 0 rfl y_mv <| tH 1 rfl y_np <| tH 2 rfl (y_f 0 38 Tryz.underlying41 sz38) <| tH 3 rfl (y_l1 ag38 rfl) <| tH 4 rfl (y_f 1 3 Tryz.underlying33 sz3) <| tH 5 rfl (y_l1 ag3 rfl) <| qo 6 ?_; refine callE rfl fk67 (wclose_ct _ wb w o.a) sq ?_; intro _; refine qk <| tH 7 rfl y_as <| endH kq ?_; refine sk [(0,_),(3,_),(5,_),(29,_)] K50 ?_; refine Hd.drawsH ([BoP pb wb rb, pt b3 (encO o) 33]) (fun _ => true) mixed ?_; simp only [List.length, Nat.zero_add, Nat.reduceAdd]; refine tH 0 rfl y_mv <| tH 1 rfl y_mv <| tH 2 rfl y_np <| tH 3 rfl (y_f 1 39 Tryz.underlying41 sz39) <| tH 4 rfl (y_l1 ag39 rfl) <| tH 5 rfl (y_f 1 3 Tryz.underlying33 sz3) <| tH 6 rfl (y_l1 ag3 rfl) ?_
   refine qo 7 ?_; refine callE rfl fk68 (Rf.rClose_ct _ rb w hw o.a) sq ?_; intro _; refine qk <| tH 8 rfl (y_eqlT rfl rfl) ?_; refine tH 9 rfl y_as <| endH kq ?_; refine slots [(5,_),(6,_)] sbq ?_; refine Hd.inB <| thenN ?_; rw [do_8 hc11]; exact Hd.meet () (by (repeat (first | exact trivial | refine ⟨rfl, ?_⟩)); done) sq
  refine Hd.region <| yv y_mv <| yv (y_loadn (us := [_, _, _, _, _]) ag33 rfl (Rd.pt pkk (by exact fun j v e => by rw [Nat.zero_add]; exact e)) (by exact sz33)) ?_; refine yv y_mv <| callE rfl fk69 (more_ct _ pb wb rb w K hK hl o (by omega) ht0 hd ?hD hc ad34 cap34 ?hD2 hcap) sq ?_
  case hD => exact RdS.mono hR sq
  case hD2 => exact RdS.own pkk
  intro _; refine yv y_as <| Hd.nil <| slots [(5,_),(6,_)] sbq ?_; refine Hd.inB <| thenN ?_; exact Hd.meet () sbq sq
 intro _; refine Hd.seq fun _ K51 => ?_
 refine sr fun _ K52 => ?_
 refine yv y_mv <| yv (y_len Tryz.underlying31 rfl) ?_; refine yv y_mv <| fk [(5,_),(6,_),(275,_),(276,_)] K52 ?_; refine Hd.block <| Hd.loopK (ι := Nat × List Value) [(5,_),(6,_),(275,_)] (fun q_ => [(276, .int .i64 (q_.1 : Int))]) (fun q_ => pu (q_.1 ≤ o.d.length ∧ q_.2.length = o.d.length ∧ ∀ v ∈ q_.2, ∃ x, v = .int .u8 x) :: own 5 1 ad34 o.d.length cap34 q_.2 :: BoP pb wb rb :: WorldP wb (doA w o) :: Rf.RwP rb (doA w o) :: L) (fun q_ => o.d.length - q_.1) (0, bsl o.d) sbq sbq (Ent.sep (.pure ⟨Nat.zero_le _, by simp [bsl], fun v hv => by obtain ⟨b, _, rfl⟩ := List.mem_map.1 hv; exact ⟨_, rfl⟩⟩ enn)) ?_; rintro ⟨i, us⟩
 try dsimp only
 refine Hd.pure (fun hp0 => ?_)
 try dsimp only at hp0
 refine sr fun _ K53 => ?_
 refine yv (y_lss rfl rfl) ?_; refine fk [(5,_),(6,_),(275,_),(276,_),(277,_)] K53 ?_; refine Hd.seq fun _ K54 => ?_
 refine qz ?_ ?_ <;> intro hc12 <;> try simp only [hyZ] at hc12
 ·have hi : i < o.d.length := by omega
  have hiu : i < us.length := by omega
  obtain ⟨x, hx⟩ := hp0.2.2 us[i] (List.getElem_mem hiu)
  have hg : us[i * 1]? = some (.int .u8 x) := by rw [Nat.mul_one, List.getElem?_eq_getElem hiu, hx]
  refine qv K54 <| Hd.seq fun _ K55 => ?_
  refine Hd.block <| sr fun _ K56 => ?_
  refine yv y_mv <| yv y_as <| fk [(5,_),(6,_),(30,_),(275,_),(276,_)] K56 ?_; refine Hd.region <| yv y_mv <| yv y_mv <| yv y_mv <| yv y_mv <| yv (y_idxR Tryz.underlying31 sz5 rfl rfl (by omega) (by exact RdS.own pkk)) ?_; refine yv (y_loadR1 ag5 rfl (by exact RdS.own pkk) (by exact hg)) ?_; refine yv (y_add rfl rfl) ?_; refine yv (y_idxR Tryz.underlying31 sz5 rfl rfl (by omega) (by exact RdS.own pkk)) ?_; refine Hd.storeO1 sz5 rfl rfl rfl pkk (by omega) ?_
  try simp only [hyS]
  refine Hd.nil <| slots [(5,_),(6,_),(275,_),(276,_)] sbq ?_; refine Hd.inB <| Hd.toK K55 ?_; refine Hd.region <| yv (y_addn rfl rfl (by simp only [InK]; omega)) ?_; refine yv y_mv <| Hd.nil <| slots [(5,_),(6,_),(275,_),(276,_)] sbq ?_; refine thenN ?_
  have hnew : ∀ v ∈ us.set (i * 1) (.int .u8 (IntKind.u8.wrap (x + 1))), ∃ x, v = .int .u8 x := fun v hv => (List.mem_or_eq_of_mem_set hv).elim (fun h => hp0.2.2 v h) (fun h => ⟨_, h⟩)
  exact Hd.again (i + 1, us.set (i * 1) (.int .u8 (IntKind.u8.wrap (x + 1)))) (by omega) sbq (Ent.sep (.pure ⟨hi, by rw [List.length_set]; exact hp0.2.1, hnew⟩ enn))
 refine Hd.exit <| Hd.thenExit <| Hd.thenExit <| Hd.inBexit <| Hd.toK K51 ?_; refine sr fun _ K57 => ?_
 refine yv y_mv <| yv y_as <| fk [(4,_)] K57 ?_; refine Hd.ret ?_; exact Hd.ret1 rfl () (by rfl) sq
end Wo
end Go.Proofs.YtbfddabjbkohdaaGreat
namespace Go.Proofs.YtbfddabjbkohdaaGreat
open Go.RX Go.ChangeShapes Go.WideShapes Go.ChangeAt Go.RowKit
abbrev shO : Sh := .struct (.fld (.int .i64) (.fld (.int .i64) (.fld (.int .i64) (.fld (.int .u64) (.fld (.slice (.int .u8)) .nil)))))
def cvO (y : shO.T) : Wo.Ov := ⟨y.1, y.2.1, y.2.2.1, y.2.2.2.1, y.2.2.2.2.1.ad, y.2.2.2.2.1.cap, y.2.2.2.2.1.l.map u8of⟩
theorem enc_cvO (y : shO.T) : Wo.encO (cvO y) = shO.enc y := by
 show [_, _, _, _, Value.slice _ (y.2.2.2.2.1.l.map u8of).length _] = _
 rw [List.length_map]; rfl
theorem ok_cvO {W : World} {y : shO.T} (h : shO.ok W y) : Wo.OvOk [Old W] (cvO y) :=
 ⟨rd_u8 h.2.2.2.2.1, by show (List.map u8of _).length ≤ _; rw [List.length_map]; exact h.2.2.2.2.1.2.1, h.1, h.2.1, h.2.2.1, h.2.2.2.1⟩
theorem rd_ops {W : World} {x : (Sh.slice shO).T} (h : (Sh.slice shO).ok W x) : RdS [Old W] 5 x.ad (x.l.map cvO).length ((x.l.map cvO).flatMap Wo.encO) := by
 have e : (x.l.map cvO).flatMap Wo.encO = x.l.flatMap shO.enc := by rw [List.flatMap_map]; congr 1; funext y; exact enc_cvO y
 rw [e, List.length_map]; exact h.1
theorem ops_ok {W : World} {x : (Sh.slice shO).T} (h : (Sh.slice shO).ok W x) : ∀ o ∈ x.l.map cvO, Wo.OvOk [Old W] o := fun o ho => by
 obtain ⟨y, hy, rfl⟩ := List.mem_map.1 ho
 exact ok_cvO (h.2.2.2.2 y hy)
end Go.Proofs.YtbfddabjbkohdaaGreat
namespace Go.Proofs.YtbfddabjbkohdaaGreat
open Go.RX Fx
namespace Cl
def hasB (a b : Int) : Bool := decide (bits .and .i64 a b ≠ 0)
def evs (r w e : Bool) : Int := (bif r then 1 else 0) + (bif w then 4 else 0) + (bif e then 32 else 0)
def opOf (old now : Int) : Int := if old = 0 then 1 else if now = 0 then 3 else 2
abbrev encC (c : Int × Int × Int) : List Value := [.int .i64 c.1, .int .i64 c.2.1, .int .i64 c.2.2]
abbrev NT := Int × Int × Int × Int
abbrev encN (x : NT) : List Value := [.int .i64 x.1, .int .i64 x.2.1, .int .i64 x.2.2.1, .int .i64 x.2.2.2]
def kflag (old now turned clear : Bool) : Int := if now && (!old || turned) then (if clear then 17 else 1) else if old && !now then 2 else 0
def sideOf (k : Nat) : Int := if k = 0 then 2 else 4
def kfl (o n : Int) (k : Nat) : Int := kflag (hasB o (sideOf k)) (hasB n (sideOf k)) (!(hasB o 32 == hasB n 32)) (hasB n 32)
def kside (f o n : Int) (k : Nat) : List NT := if kfl o n k = 0 then [] else [(f, (k : Int) + 1, kfl o n k, 0)]
def kqs (f o n : Int) : Nat → List NT
 | 0 => []
 | k + 1 => kqs f o n k ++ kside f o n k
theorem kside_le (f o n : Int) (k : Nat) : (kside f o n k).length ≤ 1 := by unfold kside; split <;> simp
theorem kqs_le (f o n : Int) : ∀ k : Nat, (kqs f o n k).length ≤ k
 | 0 => by simp [kqs]
 | k + 1 => by have := kqs_le f o n k; have := kside_le f o n k; simp only [kqs, List.length_append]; omega
theorem sideAt2 {k : Nat} (h : k < 2) : ((([.int .i64 2, .int .i64 1, .int .i64 4, .int .i64 2] : List Value).drop (k * 2)).take 2) = [.int .i64 (sideOf k), .int .i64 ((k : Int) + 1)] := by
 rcases k with _ | _ | k
 ·rfl
 ·rfl
 ·omega
theorem hasB_xor (o n : Int) : hasB (bits .xor .i64 o n) 32 = !(hasB o 32 == hasB n 32) := by
 unfold hasB; rw [hasBit _ 5 (by decide) 32 rfl, hasBit _ 5 (by decide) 32 rfl, hasBit _ 5 (by decide) 32 rfl, bv_xor]; simp only [BitVec.getLsbD_xor]
 cases (bv o).getLsbD 5 <;> cases (bv n).getLsbD 5 <;> rfl
theorem or16 : bits .or .i64 1 16 = 17 := by decide
theorem kq_ct (L : List SP) (f o n : Int) : Ct Tryz.prog 47 #[.agg #[.int .i64 f, .int .i64 o, .int .i64 n]] L
  (fun i : Option Addr × Nat => .slice i.1 (kqs f o n 2).length i.2) (fun i => own 82 4 i.1 (kqs f o n 2).length i.2 ((kqs f o n 2).flatMap encN) :: L) := by
 refine Ct.of (vs := [.agg #[.int .i64 f, .int .i64 o, .int .i64 n]]) Tryz.func47 rfl rfl [(0, .agg #[.int .i64 f, .int .i64 o, .int .i64 n])] ⟨rfl, trivial⟩ ?_; intro E
 show Hd E 69 _ _ _ _
 refine sr fun _ K1 => ?_
 refine Hd.box rfl rfl (fun b1 => ?_); refine yv y_as <| fk [(1,_)] K1 ?_; refine sr fun _ K2 => ?_
 refine yv y_as <| fk [(1,_),(3,_)] K2 ?_; refine Hd.seq fun _ K3 => ?_
 refine sr fun _ K4 => ?_
 refine yv (y_build (vs := [(0,_),(1,_)]) rfl (by exact bd47_9 ..)) ?_; refine yv (y_build (vs := [(0,_),(1,_)]) rfl (by exact bd47_10 ..)) ?_; refine yv (y_build (vs := [(0,_),(1,_)]) rfl (by exact bd47_11 ..)) ?_; refine yv y_mv <| fk [(1,_),(3,_),(11,_),(12,_)] K4 ?_; refine Hd.block <| Hd.loop (ι := Nat × Option Addr × Nat) (fun i => [(1, .pointer (some ⟨b1, 0, none⟩)), (3, .slice i.2.1 (kqs f o n i.1).length i.2.2), (11, .agg #[.int .i64 2, .int .i64 1, .int .i64 4, .int .i64 2]), (12, .int .i64 (i.1 : Int))])
  (fun i => pu (i.1 ≤ 2) :: own 82 4 i.2.1 (kqs f o n i.1).length i.2.2 ((kqs f o n i.1).flatMap encN) :: pt b1 [.int .i64 f, .int .i64 o, .int .i64 n] 113 :: L) (fun i => 2 - i.1) (0, none, 0) ⟨rfl, rfl, rfl, rfl, trivial⟩
  (Ent.sep (.pure (by simp) (.ownNil enn))) ?_
 rintro ⟨k, ad, cap⟩; dsimp only; refine Hd.pure (fun hk => ?_)
 have hk' : k ≤ 2 := hk
 have hl := kqs_le f o n k
 refine sr fun _ K5 => ?_
 refine yv (y_lss rfl rfl) ?_; refine fk [(1,_),(3,_),(11,_),(12,_),(13,_)] K5 ?_; refine Hd.seq fun _ K6 => ?_
 refine qz ?_ ?_ <;> intro hc0 <;> try simp only [hyZ] at hc0
 ·have hk2 : k < 2 := by omega
  refine qv K6 <| Hd.seq fun _ K7 => ?_
  refine Hd.block <| sr fun _ K8 => ?_
  refine yv (y_indexn Tryz.underlying204 ag202 sz202 rfl rfl (by omega) (by exact sideAt2 hk2)) ?_; refine Hd.alloc zr202 (fun b5 => ?_); refine Hd.store (us := [_, _]) sz202 rfl rfl rfl (by simp [Value.oneCell']) pkk (by simp) ?_
  try simp only [hyS]
  refine fk [(1,_),(3,_),(5,_),(11,_),(12,_)] K8 ?_; refine Hd.seq fun _ K9 => ?_
  refine Hd.quiet mixed kq ?_; refine Hq.yv (y_f 1 3 Tryz.underlying113 sz3) ?_; refine Hq.yv (y_l1 ag3 rfl) ?_; refine Hq.yv (y_idxA Tryz.underlying202 sz3 rfl rfl (by decide)) ?_; refine Hq.yv (y_l1 ag3 rfl) ?_; refine Hq.yv (y_and rfl rfl) ?_; refine Hq.yv (y_neq rfl rfl) ?_; refine Hq.yv (y_f 2 3 Tryz.underlying113 sz3) ?_; refine Hq.yv (y_l1 ag3 rfl) ?_; refine Hq.yv (y_idxA Tryz.underlying202 sz3 rfl rfl (by decide)) ?_; refine Hq.yv (y_l1 ag3 rfl) ?_; refine Hq.yv (y_and rfl rfl) ?_; refine Hq.yv (y_neq rfl rfl) ?_; refine Hq.yv y_as ?_; refine Hq.yv y_as ?_; refine Hq.nil ?_; refine sk [(1,_),(3,_),(5,_),(6,_),(7,_),(11,_),(12,_)] K9 ?_; refine sr fun _ K10 => ?_
  refine yv (y_f 0 3 Tryz.underlying113 sz3) <| yv (y_l1 ag3 rfl) <| yv (y_idxA Tryz.underlying202 sz3 rfl rfl (by decide)) ?_; refine yv (y_l1 ag3 rfl) <| yv (y_build (vs := [(0,_),(1,_)]) rfl (by exact bd47_31 ..)) ?_; refine Hd.alloc zr82 (fun b8 => ?_); refine Hd.store (us := [_, _, _, _]) sz82 rfl rfl rfl (by simp [Value.oneCell']) pkk (by simp) ?_
  try simp only [hyS]
  refine fk [(1,_),(3,_),(6,_),(7,_),(8,_),(11,_),(12,_)] K10 ?_; refine Hd.seq fun _ K11 => ?_
  refine Hd.block <| sr fun _ K12 => ?_
  refine yv y_mv <| yv y_mv ?_; apply Hd.andg 12 34 46 [(1,_),(3,_),(6,_),(7,_),(8,_),(11,_),(12,_)] rfl sbq
  ·intro hg7_34
   try simp only [hyZ] at hg7_34
   simp only [List.take]; refine y2 y_mv <| y2 (y_not rfl) <| y2 y_mv ?_; apply Hd.org 8 37 45 [(1,_),(3,_),(6,_),(7,_),(8,_),(11,_),(12,_),(34,_)] rfl sbq
   ·intro hg7_37
    try simp only [hyZ] at hg7_37
    simp only [List.take]; refine n1 <| n1 <| n1 <| n1 <| n1 <| n1 <| n1 <| y2 (y_pickT rfl rfl) ?_; exact Hd.mn
   ·intro hg7_37
    try simp only [hyZ] at hg7_37
    simp only [List.take]; refine y2 (y_f 1 3 Tryz.underlying113 sz3) <| y2 (y_l1 ag3 rfl) <| y2 (y_f 2 3 Tryz.underlying113 sz3) <| y2 (y_l1 ag3 rfl) <| y2 (y_xor rfl rfl) ?_; refine y2 (y_and rfl rfl) ?_; refine y2 (y_neq rfl rfl) ?_; refine y2 (y_pickF rfl rfl) ?_; exact Hd.mn
   simp only [List.drop]; refine yv (y_pickT rfl rfl) ?_; exact Hd.mn
  ·intro hg7_34
   try simp only [hyZ] at hg7_34
   simp only [List.take]; refine n1 <| n1 <| n1 <| n1 <| n1 <| n1 <| n1 <| n1 <| n1 <| n1 <| n1 <| yv (y_pickF rfl rfl) ?_; exact Hd.mn
  simp only [List.drop]; refine yv y_as <| fk [(1,_),(3,_),(6,_),(7,_),(8,_),(11,_),(12,_),(32,_)] K12 ?_; refine qz ?_ ?_ <;> intro hc1 <;> try simp only [hyZ] at hc1
  ·refine sr fun _ K13 => ?_
   refine yv (y_f 2 3 Tryz.underlying82 sz3) <| Hd.store1 sz3 rfl rfl rfl pkk (by simp; done) ?_
   try simp only [hyS]
   refine fk [(1,_),(3,_),(8,_),(11,_),(12,_)] K13 ?_; refine sr fun _ K14 => ?_
   refine yv (y_f 2 3 Tryz.underlying113 sz3) <| yv (y_l1 ag3 rfl) <| yv (y_and rfl rfl) ?_; refine yv (y_neq rfl rfl) ?_; refine fk [(1,_),(3,_),(8,_),(11,_),(12,_),(51,_)] K14 ?_; refine qz ?_ ?_ <;> intro hc2 <;> try simp only [hyZ] at hc2
   ·refine Hd.region ?_
    refine yv (y_f 2 3 Tryz.underlying82 sz3) <| yv (y_l1 ag3 rfl) <| yv (y_or rfl rfl) ?_; refine yv (y_f 2 3 Tryz.underlying82 sz3) <| Hd.store1 sz3 rfl rfl rfl pkk (by simp; done) ?_
    try simp only [hyS]
    refine Hd.nil <| slots [(1,_),(3,_),(8,_),(11,_),(12,_)] sbq ?_; refine Hd.inB <| Hd.toK K11 ?_; refine Hd.region <| yv y_mv <| yv (y_loadn (us := [_, _, _, _]) ag82 rfl (Rd.pt pkk (by (first | (intro j v e; rcases j with _|_|_|_|_|_|_|_|_|_|_|_|j <;> first | exact e | exact absurd e (by simp))))) (by exact sz82)) ?_; refine Hd.bslice (vs := [(0,_)]) rfl (by exact bs47_65 ..) (fun b65 => ?_); refine Hd.append Tryz.underlying67 ty82 rfl rfl rfl pkk (by exact RdS.rd (Rd.pt pkk (fun j v e => by simpa using e)) rfl) (by simp [Value.oneCell']; done) (by simp only [maxLen]; omega) (by omega) (fun ad66 cap66 => ?_); refine yv y_as <| Hd.nil <| slots [(1,_),(3,_),(11,_),(12,_)] sbq ?_; refine Hd.inB <| Hd.toK K7 ?_; refine Hd.region <| yv (y_addn rfl rfl (by simp only [InK]; omega)) ?_; refine yv y_mv <| Hd.nil <| slots [(1,_),(3,_),(11,_),(12,_)] sbq ?_
    refine thenN ?_
    have hfl : kfl o n k = 17 := by
     unfold kfl; rw [← hasB_xor]; simp_all [hasB, kflag]
    have e : kqs f o n (k + 1) = kqs f o n k ++ [(f, (k : Int) + 1, 17, 0)] := by simp only [kqs, kside, hfl]; rfl
    have e1 : (kqs f o n (k + 1)).length = (kqs f o n k).length + 1 := by rw [e]; simp
    refine Hd.again (k + 1, ad66, cap66) (by simp only; omega) ⟨rfl, by rw [e1]; rfl, rfl, rfl, trivial⟩ (Ent.sep (.pure (show k + 1 ≤ 2 by omega) (.eq pkk (own_eq e1.symm (by rw [e]; simp [or16])) enn)))
   refine Hd.skip <| Hd.inB <| Hd.toK K11 ?_; refine Hd.region <| yv y_mv <| yv (y_loadn (us := [_, _, _, _]) ag82 rfl (Rd.pt pkk (by (first | (intro j v e; rcases j with _|_|_|_|_|_|_|_|_|_|_|_|j <;> first | exact e | exact absurd e (by simp))))) (by exact sz82)) ?_; refine Hd.bslice (vs := [(0,_)]) rfl (by exact bs47_65 ..) (fun b65 => ?_); refine Hd.append Tryz.underlying67 ty82 rfl rfl rfl pkk (by exact RdS.rd (Rd.pt pkk (fun j v e => by simpa using e)) rfl) (by simp [Value.oneCell']; done) (by simp only [maxLen]; omega) (by omega) (fun ad66 cap66 => ?_); refine yv y_as <| Hd.nil <| slots [(1,_),(3,_),(11,_),(12,_)] sbq ?_; refine Hd.inB <| Hd.toK K7 ?_; refine Hd.region <| yv (y_addn rfl rfl (by simp only [InK]; omega)) ?_; refine yv y_mv <| Hd.nil <| slots [(1,_),(3,_),(11,_),(12,_)] sbq ?_; refine thenN ?_
   have hfl : kfl o n k = 1 := by
    unfold kfl; rw [← hasB_xor]; simp_all [hasB, kflag]
   have e : kqs f o n (k + 1) = kqs f o n k ++ [(f, (k : Int) + 1, 1, 0)] := by simp only [kqs, kside, hfl]; rfl
   have e1 : (kqs f o n (k + 1)).length = (kqs f o n k).length + 1 := by rw [e]; simp
   refine Hd.again (k + 1, ad66, cap66) (by simp only; omega) ⟨rfl, by rw [e1]; rfl, rfl, rfl, trivial⟩ (Ent.sep (.pure (show k + 1 ≤ 2 by omega) (.eq pkk (own_eq e1.symm (by rw [e]; simp [or16])) enn)))
  refine sr fun _ K15 => ?_
  refine yv y_mv <| yv y_mv ?_; apply Hd.andg 3 58 61 [(1,_),(3,_),(8,_),(11,_),(12,_)] rfl sbq
  ·intro hg11_58
   try simp only [hyZ] at hg11_58
   simp only [List.take]; refine y2 y_mv <| y2 (y_not rfl) <| yv (y_pickT rfl rfl) ?_; exact Hd.mn
  ·intro hg11_58
   try simp only [hyZ] at hg11_58
   simp only [List.take]; refine n1 <| n1 <| yv (y_pickF rfl rfl) ?_; exact Hd.mn
  simp only [List.drop]; refine yv y_as <| fk [(1,_),(3,_),(8,_),(11,_),(12,_),(56,_)] K15 ?_; refine qz ?_ ?_ <;> intro hc3 <;> try simp only [hyZ] at hc3
  ·refine Hd.region ?_
   refine yv (y_f 2 3 Tryz.underlying82 sz3) <| Hd.store1 sz3 rfl rfl rfl pkk (by simp; done) ?_
   try simp only [hyS]
   refine Hd.nil <| slots [(1,_),(3,_),(8,_),(11,_),(12,_)] sbq ?_; refine Hd.inB <| Hd.toK K11 ?_; refine Hd.region <| yv y_mv <| yv (y_loadn (us := [_, _, _, _]) ag82 rfl (Rd.pt pkk (by (first | (intro j v e; rcases j with _|_|_|_|_|_|_|_|_|_|_|_|j <;> first | exact e | exact absurd e (by simp))))) (by exact sz82)) ?_; refine Hd.bslice (vs := [(0,_)]) rfl (by exact bs47_65 ..) (fun b65 => ?_); refine Hd.append Tryz.underlying67 ty82 rfl rfl rfl pkk (by exact RdS.rd (Rd.pt pkk (fun j v e => by simpa using e)) rfl) (by simp [Value.oneCell']; done) (by simp only [maxLen]; omega) (by omega) (fun ad66 cap66 => ?_); refine yv y_as <| Hd.nil <| slots [(1,_),(3,_),(11,_),(12,_)] sbq ?_; refine Hd.inB <| Hd.toK K7 ?_; refine Hd.region <| yv (y_addn rfl rfl (by simp only [InK]; omega)) ?_; refine yv y_mv <| Hd.nil <| slots [(1,_),(3,_),(11,_),(12,_)] sbq ?_
   refine thenN ?_
   have hfl : kfl o n k = 2 := by
    unfold kfl; rw [← hasB_xor]; simp_all [hasB, kflag]
   have e : kqs f o n (k + 1) = kqs f o n k ++ [(f, (k : Int) + 1, 2, 0)] := by simp only [kqs, kside, hfl]; rfl
   have e1 : (kqs f o n (k + 1)).length = (kqs f o n k).length + 1 := by rw [e]; simp
   refine Hd.again (k + 1, ad66, cap66) (by simp only; omega) ⟨rfl, by rw [e1]; rfl, rfl, rfl, trivial⟩ (Ent.sep (.pure (show k + 1 ≤ 2 by omega) (.eq pkk (own_eq e1.symm (by rw [e]; simp [or16])) enn)))
  refine Hd.exit <| Hd.inBexit' rfl ?_; refine Hd.thenExit <| Hd.inBexit <| Hd.toK K7 ?_; refine Hd.region <| yv (y_addn rfl rfl (by simp only [InK]; omega)) ?_; refine yv y_mv <| Hd.nil <| slots [(1,_),(3,_),(11,_),(12,_)] sbq ?_; refine thenN ?_
  have hfl : kfl o n k = 0 := by
   unfold kfl; rw [← hasB_xor]
   by_cases h1 : bits .and .i64 n (sideOf k) = 0 <;> by_cases h2 : bits .and .i64 o (sideOf k) = 0 <;> simp_all [hasB, kflag]
  have e : kqs f o n (k + 1) = kqs f o n k := by simp only [kqs, kside, hfl]; simp
  refine Hd.again (k + 1, ad, cap) (by simp only; omega) ⟨rfl, by simp only [e]; rfl, rfl, rfl, trivial⟩ (Ent.sep (.pure (show k + 1 ≤ 2 by omega) (.eq pkk (own_eq (by rw [e]) (by rw [e])) enn)))
 refine Hd.exit <| Hd.thenExit <| Hd.thenExit <| Hd.inBexit <| Hd.toK K3 ?_; refine sr fun _ K16 => ?_
 refine yv y_mv <| yv y_as <| fk [(2,_)] K16 ?_; refine Hd.ret ?_
 obtain rfl : k = 2 := by omega
 exact Hd.ret1 rfl (ad, cap) rfl sq
def bitOf (k : Nat) : Int := if k = 0 then 2 else if k = 1 then 4 else 32
def outOf (k : Nat) : Int := if k = 0 then 1 else if k = 1 then 4 else 32
theorem arrAt3 {k : Nat} (h : k < 3) : ((([.int .i64 2, .int .i64 1, .int .i64 4, .int .i64 4, .int .i64 32, .int .i64 32] : List Value).drop (k * 2)).take 2) = [.int .i64 (bitOf k), .int .i64 (outOf k)] := by
 rcases k with _ | _ | _ | k
 ·rfl
 ·rfl
 ·rfl
 ·omega
def evk (n : Int) : Nat → Int
 | 0 => 0
 | k + 1 => bif hasB n (bitOf k) then bits .or .i64 (evk n k) (outOf k) else evk n k
theorem evk_3 (n : Int) : evk n 3 = evs (hasB n 2) (hasB n 4) (hasB n 32) := by
 have e : evk n 3 = bif hasB n 32 then bits .or .i64 (bif hasB n 4 then bits .or .i64 (bif hasB n 2 then bits .or .i64 0 1 else 0) 4 else (bif hasB n 2 then bits .or .i64 0 1 else 0)) 32
  else (bif hasB n 4 then bits .or .i64 (bif hasB n 2 then bits .or .i64 0 1 else 0) 4 else (bif hasB n 2 then bits .or .i64 0 1 else 0)) := rfl
 rw [e]
 generalize hasB n 2 = a, hasB n 4 = b, hasB n 32 = c
 cases a <;> cases b <;> cases c <;> decide
theorem epoll_ct (L : List SP) (f o n : Int) : Ct Tryz.prog 46 #[.agg #[.int .i64 f, .int .i64 o, .int .i64 n]] L
  (fun _ : Unit => .tuple #[.int .i64 (opOf o n), .int .i64 (evs (hasB n 2) (hasB n 4) (hasB n 32))]) (fun _ => L) := by
 refine Ct.of (vs := [.agg #[.int .i64 f, .int .i64 o, .int .i64 n]]) Tryz.func46 rfl rfl [(0, .agg #[.int .i64 f, .int .i64 o, .int .i64 n])] ⟨rfl, trivial⟩ ?_; intro E
 show Hd E 35 _ _ _ _
 refine sr fun _ K1 => ?_
 refine Hd.box rfl rfl (fun b1 => ?_); refine yv y_as <| yv y_as <| fk [(1,_),(3,_)] K1 ?_; refine Hd.seq fun _ K2 => ?_
 refine sr fun _ K3 => ?_
 refine yv (y_build (vs := [(0,_),(1,_)]) rfl (by exact bd46_6 ..)) ?_; refine yv (y_build (vs := [(0,_),(1,_)]) rfl (by exact bd46_7 ..)) ?_; refine yv (y_build (vs := [(0,_),(1,_)]) rfl (by exact bd46_8 ..)) ?_; refine yv (y_build (vs := [(0,_),(1,_),(2,_)]) rfl (by exact bd46_9 ..)) ?_; refine yv y_mv <| fk [(1,_),(3,_),(9,_),(10,_)] K3 ?_; refine Hd.block <| Hd.loop (ι := Nat) (fun k => [(1, .pointer (some ⟨b1, 0, none⟩)), (3, .int .i64 (evk n k)), (9, .agg #[.int .i64 2, .int .i64 1, .int .i64 4, .int .i64 4, .int .i64 32, .int .i64 32]), (10, .int .i64 (k : Int))])
  (fun k => pu (k ≤ 3) :: pt b1 [.int .i64 f, .int .i64 o, .int .i64 n] 113 :: L) (fun k => 3 - k) 0 ⟨rfl, rfl, rfl, rfl, trivial⟩
  (Ent.sep (.pure (by simp) enn)) ?_
 intro k; refine Hd.pure (fun hk => ?_); refine sr fun _ K4 => ?_
 refine yv (y_lss rfl rfl) ?_; refine fk [(1,_),(3,_),(9,_),(10,_),(11,_)] K4 ?_; refine Hd.seq fun _ K5 => ?_
 refine qz ?_ ?_ <;> intro hc0 <;> try simp only [hyZ] at hc0
 ·have hk3 : k < 3 := by omega
  refine qv K5 <| Hd.seq fun _ K6 => ?_
  refine Hd.block <| sr fun _ K7 => ?_
  refine yv (y_indexn Tryz.underlying203 ag202 sz202 rfl rfl (by omega) (by exact arrAt3 hk3)) ?_; refine Hd.alloc zr202 (fun b5 => ?_); refine Hd.store (us := [_, _]) sz202 rfl rfl rfl (by simp [Value.oneCell']) pkk (by simp) ?_
  try simp only [hyS]
  refine fk [(1,_),(3,_),(5,_),(9,_),(10,_)] K7 ?_; refine sr fun _ K8 => ?_
  refine yv (y_f 2 3 Tryz.underlying113 sz3) <| yv (y_l1 ag3 rfl) <| yv (y_idxA Tryz.underlying202 sz3 rfl rfl (by decide)) ?_; refine yv (y_l1 ag3 rfl) <| yv (y_and rfl rfl) ?_; refine yv (y_neq rfl rfl) ?_; refine fk [(1,_),(3,_),(5,_),(9,_),(10,_),(18,_)] K8 ?_; refine qz ?_ ?_ <;> intro hc1 <;> try simp only [hyZ] at hc1
  ·have e : evk n (k + 1) = bits .or .i64 (evk n k) (outOf k) := by simp [evk, hasB, hc1]
   refine Hd.region <| yv y_mv <| yv (y_idxA Tryz.underlying202 sz3 rfl rfl (by decide)) ?_; refine yv (y_l1 ag3 rfl) <| yv (y_or rfl rfl) ?_; refine yv y_as <| Hd.nil <| slots [(1,_),(3,_),(9,_),(10,_)] sbq ?_; refine Hd.inB <| Hd.toK K6 ?_; refine Hd.region <| yv (y_addn rfl rfl (by simp only [InK]; omega)) ?_; refine yv y_mv <| Hd.nil <| slots [(1,_),(3,_),(9,_),(10,_)] sbq ?_; refine thenN <| Hd.again (k + 1) (by omega) ⟨rfl, by rw [e]; rfl, rfl, rfl, trivial⟩ (Ent.sep (.pure (show k + 1 ≤ 3 by omega) enn))
  have e : evk n (k + 1) = evk n k := by simp [evk, hasB, hc1]
  refine Hd.skip <| Hd.inB <| Hd.toK K6 ?_; refine Hd.region <| yv (y_addn rfl rfl (by simp only [InK]; omega)) ?_; refine yv y_mv <| Hd.nil <| slots [(1,_),(3,_),(9,_),(10,_)] sbq ?_; refine thenN <| Hd.again (k + 1) (by omega) ⟨rfl, by rw [e]; rfl, rfl, rfl, trivial⟩ (Ent.sep (.pure (show k + 1 ≤ 3 by omega) enn))
 obtain rfl : k = 3 := by omega
 refine Hd.exit <| Hd.thenExit <| Hd.thenExit <| Hd.inBexit <| Hd.toK K2 ?_; refine Hd.seq fun _ K9 => ?_
 refine Hd.block <| sr fun _ K10 => ?_
 refine yv (y_f 1 3 Tryz.underlying113 sz3) <| yv (y_l1 ag3 rfl) <| yv (y_eql rfl rfl) ?_; refine yv y_as <| fk [(1,_),(3,_),(24,_)] K10 ?_; refine qz ?_ ?_ <;> intro hc2 <;> try simp only [hyZ] at hc2
 ·refine sr fun _ K11 => ?_
  refine yv y_mv <| yv y_as <| yv y_as <| fk [(2,_),(3,_)] K11 ?_; refine Hd.ret <| Hd.inBret <| Hd.thenRet ?_; exact Hd.ret2 rfl () rfl rfl (by simp [opOf, evk_3, *]) sq
 refine sr fun _ K12 => ?_
 refine yv (y_f 2 3 Tryz.underlying113 sz3) <| yv (y_l1 ag3 rfl) <| yv (y_eql rfl rfl) ?_; refine yv y_as <| fk [(3,_),(29,_)] K12 ?_; refine qz ?_ ?_ <;> intro hc3 <;> try simp only [hyZ] at hc3
 ·refine sr fun _ K13 => ?_
  refine yv y_mv <| yv y_as <| yv y_as <| fk [(2,_),(3,_)] K13 ?_; refine Hd.ret <| Hd.inBret <| Hd.thenRet ?_; exact Hd.ret2 rfl () rfl rfl (by simp [opOf, evk_3, *]) sq
 refine Hd.skip <| Hd.inB <| Hd.toK K9 ?_; refine sr fun _ K14 => ?_
 refine yv y_mv <| yv y_as <| yv y_as <| fk [(2,_),(3,_)] K14 ?_; refine Hd.ret ?_; exact Hd.ret2 rfl () rfl rfl (by simp [opOf, evk_3, *]) sq
abbrev V (a : Int) : Value := .int .i64 a
structure LS where
 h : List Int
 w : List Int
 hh : h.length = 96
 hw : w.length = 96
def LS.cs (s : LS) (m : List Value) : List Value := s.h.map V ++ (s.w.map V ++ m)
theorem LS.cs_len (s : LS) (m : List Value) : (s.cs m).length = 192 + m.length := by simp [LS.cs, s.hh, s.hw]; omega
theorem LS.at_h (s : LS) (m : List Value) {i : Nat} (hi : i < 96) : (s.cs m)[0 + 0 + i * 1]? = some (V (s.h.getD i 0)) := by
 have := s.hh
 unfold LS.cs; rw [List.getElem?_append_left (by simp; omega)]; simp [List.getD, List.getElem?_eq_getElem (show i < s.h.length by omega)]
theorem LS.at_w (s : LS) (m : List Value) {i : Nat} (hi : i < 96) : (s.cs m)[0 + 96 + i * 1]? = some (V (s.w.getD i 0)) := by
 have := s.hh; have := s.hw
 unfold LS.cs; rw [List.getElem?_append_right (by simp; omega), List.getElem?_append_left (by simp; omega)]; simp [List.getD, s.hh, List.getElem?_eq_getElem (show i < s.w.length by omega)]
theorem LS.at_m (s : LS) (u : Value) : (s.cs [u])[0 + 192]? = some u := by
 have := s.hh; have := s.hw
 unfold LS.cs; rw [List.getElem?_append_right (by simp; omega), List.getElem?_append_right (by simp; omega)]; simp [s.hh, s.hw]
def LS.setw (s : LS) (i : Nat) (x : Int) : LS := ⟨s.h, s.w.set i x, s.hh, by simp [s.hw]⟩
theorem LS.set_w (s : LS) (m : List Value) {i : Nat} (hi : i < 96) (x : Int) : (s.cs m).set (0 + 96 + i * 1) (V x) = (s.setw i x).cs m := by
 have := s.hh; have := s.hw
 unfold LS.cs LS.setw; rw [List.set_append_right _ _ (by simp; omega), List.set_append_left _ _ (by simp; omega)]; simp [List.map_set, s.hh]
def inB (fd : Int) : Bool := decide (0 ≤ fd) && decide (fd ≤ 95)
def mayB (x : Int) : Bool := decide (bits .andNot .i64 x 38 = 0) && (decide (x = 0) || decide (bits .and .i64 x 6 ≠ 0))
theorem none_ct (L : List SP) (b : Nat) (s : LS) (mb : Bool) : Ct Tryz.prog 105 #[.pointer (some ⟨b, 0, none⟩)] (pt b (s.cs [.bool mb]) 188 :: L) (fun _ : Unit => .bool (!mb)) (fun _ => pt b (s.cs [.bool mb]) 188 :: L) := by
 refine Ct.of (vs := [.pointer (some ⟨b, 0, none⟩)]) Tryz.func105 rfl rfl [(0, .pointer (some ⟨b, 0, none⟩))] ⟨rfl, trivial⟩ ?_; intro E
 show Hd E 12 _ _ _ _
 refine sr fun _ K1 => ?_
 refine yv y_as <| fk [(0,_)] K1 ?_; refine sr fun _ K2 => ?_
 refine yv y_mv <| yv (y_eql_pointer Tryz.underlying102 rfl rfl) ?_; refine yv y_mv <| y2 y_mv <| y2 y_np <| y2 (y_f 192 4 Tryz.underlying188 sz4) <| y2 (y_load1 ag4 rfl (Rd.pt1 pkk (by exact s.at_m _))) ?_; refine y2 (y_not rfl) <| yv (y_pickF rfl rfl) ?_; refine yv y_as <| fk [(2,_)] K2 ?_; refine Hd.ret ?_; exact Hd.ret1 rfl () rfl sq
theorem in_ct (L : List SP) (fd : Int) : Ct Tryz.prog 106 #[.int .i64 fd] L (fun _ : Unit => .bool (inB fd)) (fun _ => L) := by
 refine Ct.of (vs := [.int .i64 fd]) Tryz.func106 rfl rfl [(0, .int .i64 fd)] ⟨rfl, trivial⟩ ?_; intro E
 show Hd E 9 _ _ _ _
 refine sr fun _ K1 => ?_
 refine yv y_as <| fk [(0,_)] K1 ?_; refine sr fun _ K2 => ?_
 refine yv y_mv <| yv (y_geq rfl rfl) ?_; refine yv y_mv ?_; apply Hd.andg 3 5 8 [] rfl sbq
 ·intro hg1_5
  try simp only [hyZ] at hg1_5
  simp only [List.take]; refine y2 y_mv <| y2 (y_leq rfl rfl) ?_; refine yv (y_pickT rfl rfl) ?_; exact Hd.mn
 ·intro hg1_5
  try simp only [hyZ] at hg1_5
  simp only [List.take]; refine n1 <| n1 <| yv (y_pickF rfl rfl) ?_; exact Hd.mn
 simp only [List.drop]; refine yv y_as <| fk [(2,_)] K2 ?_; refine Hd.ret ?_; exact Hd.ret1 rfl () rfl sq
theorem may_ct (L : List SP) (x : Int) : Ct Tryz.prog 107 #[.int .i64 x] L (fun _ : Unit => .bool (mayB x)) (fun _ => L) := by
 refine Ct.of (vs := [.int .i64 x]) Tryz.func107 rfl rfl [(0, .int .i64 x)] ⟨rfl, trivial⟩ ?_; intro E
 show Hd E 15 _ _ _ _
 refine sr fun _ K1 => ?_
 refine yv y_as <| fk [(0,_)] K1 ?_; refine sr fun _ K2 => ?_
 refine yv y_mv <| yv (y_andNot rfl rfl) ?_; refine yv (y_eql rfl rfl) ?_; refine yv y_mv ?_; apply Hd.andg 8 6 14 [] rfl sbq
 ·intro hg1_6
  try simp only [hyZ] at hg1_6
  simp only [List.take]; refine y2 y_mv <| y2 (y_eql rfl rfl) ?_; refine y2 y_mv ?_; apply Hd.org 4 9 13 [(6,_)] rfl sbq
  ·intro hg1_9
   try simp only [hyZ] at hg1_9
   simp only [List.take]; refine n1 <| n1 <| n1 <| y2 (y_pickT rfl rfl) ?_; exact Hd.mn
  ·intro hg1_9
   try simp only [hyZ] at hg1_9
   simp only [List.take]; refine y2 y_mv <| y2 (y_and rfl rfl) ?_; refine y2 (y_neq rfl rfl) ?_; refine y2 (y_pickF rfl rfl) ?_; exact Hd.mn
  simp only [List.drop]; refine yv (y_pickT rfl rfl) ?_; exact Hd.mn
 ·intro hg1_6
  try simp only [hyZ] at hg1_6
  simp only [List.take]; refine n1 <| n1 <| n1 <| n1 <| n1 <| n1 <| n1 <| yv (y_pickF rfl rfl) ?_; exact Hd.mn
 simp only [List.drop]; refine yv y_as <| fk [(2,_)] K2 ?_; refine Hd.ret ?_; exact Hd.ret1 rfl () rfl sq
def LS.want (s : LS) (fd x : Int) : LS := if inB fd && mayB x then s.setw fd.toNat x else s
def wantE (fd x : Int) : Int := if inB fd && mayB x then 0 else 2
def LS.held (s : LS) (fd : Int) : Int := if inB fd then s.h.getD fd.toNat 0 else 0
def LS.wants (s : LS) (fd : Int) : Int := if inB fd then s.w.getD fd.toNat 0 else 0
def LS.flush (s : LS) : LS := ⟨s.w, s.w, s.hw, s.hw⟩
abbrev CT := Int × Int × Int
def LS.chg (s : LS) (i : Nat) : List CT := if s.h.getD i 0 = s.w.getD i 0 then [] else [((i : Int), s.h.getD i 0, s.w.getD i 0)]
def LS.chs (s : LS) : Nat → List CT
 | 0 => []
 | k + 1 => s.chs k ++ s.chg k
def LS.zero : LS := ⟨List.replicate 96 0, List.replicate 96 0, rfl, rfl⟩
theorem inB_nat {fd : Int} (h : inB fd = true) : ∃ j : Nat, fd = (j : Int) ∧ j < 96 := by
 simp only [inB, Bool.and_eq_true, decide_eq_true_eq] at h; exact ⟨fd.toNat, by omega, by omega⟩
abbrev CLs (b : Nat) (s : LS) (mb : Bool) : SP := pt b (s.cs [.bool mb]) 188
theorem wants_ct (L : List SP) (b : Nat) (s : LS) (fd : Int) : Ct Tryz.prog 48 #[.pointer (some ⟨b, 0, none⟩), .int .i64 fd] (CLs b s true :: L) (fun _ : Unit => .int .i64 (s.wants fd)) (fun _ => CLs b s true :: L) := by
 refine Ct.of (vs := [.pointer (some ⟨b, 0, none⟩), .int .i64 fd]) Tryz.func48 rfl rfl [(0, .pointer (some ⟨b, 0, none⟩)), (1, .int .i64 fd)] ⟨rfl, rfl, trivial⟩ ?_; intro E
 show Hd E 18 _ _ _ _
 refine sr fun _ K1 => ?_
 refine yv y_as <| fk [(0,_),(1,_)] K1 ?_; refine Hd.seq fun _ K2 => ?_
 refine sr fun _ K3 => ?_
 refine yv y_mv <| callE rfl fk105 (none_ct _ b s true) sq ?_; intro _; refine yv y_mv <| y2 y_mv <| Hd.unguard rfl rfl ?_; refine callE rfl fk106 (in_ct _ fd) sq ?_; intro _; refine y2 (y_not rfl) <| yv (y_pickF rfl rfl) ?_; refine fk [(0,_),(1,_),(11,_)] K3 ?_; refine qz ?_ ?_ <;> intro hc0 <;> try simp only [hyZ] at hc0
 ·refine sr fun _ K4 => ?_
  refine yv y_as <| fk [(4,_)] K4 ?_; refine Hd.ret <| Hd.thenRet ?_
  have hin : inB fd = false := by simpa using hc0
  exact Hd.ret1 rfl () (by simp [LS.wants, hin]; rfl) sq
 have hin : inB fd = true := by simpa using hc0
 obtain ⟨j, rfl, hj⟩ := inB_nat hin
 refine qv K2 <| sr fun _ K5 => ?_
 refine yv y_mv <| yv y_mv <| yv y_np <| yv (y_f 96 186 Tryz.underlying188 sz186) <| yv (y_idxA Tryz.underlying186 sz3 rfl rfl (by omega)) ?_; refine yv (y_load1 ag3 rfl (Rd.pt1 pkk (by exact s.at_w _ hj))) ?_; refine yv y_as <| fk [(4,_)] K5 ?_; refine Hd.ret ?_; exact Hd.ret1 rfl () (by simp [LS.wants, hin]; rfl) sq
theorem want_ct (L : List SP) (b : Nat) (s : LS) (fd x : Int) : Ct Tryz.prog 44 #[.pointer (some ⟨b, 0, none⟩), .int .i64 fd, .int .i64 x] (CLs b s true :: L) (fun _ : Unit => .int .i64 (wantE fd x)) (fun _ => CLs b (s.want fd x) true :: L) := by
 refine Ct.of (vs := [.pointer (some ⟨b, 0, none⟩), .int .i64 fd, .int .i64 x]) Tryz.func44 rfl rfl [(0, .pointer (some ⟨b, 0, none⟩)), (1, .int .i64 fd), (2, .int .i64 x)] ⟨rfl, rfl, rfl, trivial⟩ ?_; intro E
 show Hd E 25 _ _ _ _
 refine sr fun _ K1 => ?_
 refine yv y_as <| fk [(0,_),(1,_),(2,_)] K1 ?_; refine Hd.seq fun _ K2 => ?_
 refine Hd.block <| sr fun _ K3 => ?_
 refine yv y_mv <| callE rfl fk105 (none_ct _ b s true) sq ?_; intro _; refine yv y_as <| fk [(0,_),(1,_),(2,_),(7,_)] K3 ?_; refine Hd.condF rfl ?_; refine sr fun _ K4 => ?_
 refine yv y_mv <| callE rfl fk106 (in_ct _ fd) sq ?_; intro _; refine yv (y_not rfl) <| yv y_mv ?_; apply Hd.org 4 14 18 [(0,_),(1,_),(2,_)] rfl sbq
 ·intro hg3_14
  try simp only [hyZ] at hg3_14
  simp only [List.take]; refine n1 <| n1 <| n1 <| yv (y_pickT rfl rfl) ?_; exact Hd.mn
 ·intro hg3_14
  try simp only [hyZ] at hg3_14
  simp only [List.take]; refine y2 y_mv <| Hd.unguard rfl rfl ?_; refine callE rfl fk107 (may_ct _ x) sq ?_; intro _; refine y2 (y_not rfl) <| yv (y_pickF rfl rfl) ?_; exact Hd.mn
 simp only [List.drop]; refine yv y_as <| fk [(0,_),(1,_),(2,_),(10,_)] K4 ?_; refine qz ?_ ?_ <;> intro hc1 <;> try simp only [hyZ] at hc1
 ·refine sr fun _ K5 => ?_
  refine yv y_as <| fk [(6,_)] K5 ?_; refine Hd.ret <| Hd.inBret <| Hd.thenRet ?_
  have h0 : (inB fd && mayB x) = false := by rcases hc1 with h | h <;> simp [h]
  refine Hd.ret1 rfl () (by simp [wantE, h0]; rfl) (by simp only [LS.want, h0]; exact sq)
 obtain ⟨hin, hmay⟩ : inB fd = true ∧ mayB x = true := by simpa using hc1
 obtain ⟨j, rfl, hj⟩ := inB_nat hin
 refine Hd.skip <| Hd.inB <| Hd.toK K2 ?_; refine sr fun _ K6 => ?_
 refine yv y_mv <| yv y_mv <| yv y_mv <| yv y_np <| yv (y_f 96 186 Tryz.underlying188 sz186) <| yv (y_idxA Tryz.underlying186 sz3 rfl rfl (by omega)) ?_; refine Hd.store1 sz3 rfl rfl rfl pkk (by rw [LS.cs_len]; simp only [List.length_cons, List.length_nil]; omega) ?_
 try simp only [hyS]
 refine fk [] K6 ?_; refine sr fun _ K7 => ?_
 refine yv y_as <| fk [(6,_)] K7 ?_; refine Hd.ret ?_
 have h0 : (inB (j : Int) && mayB x) = true := by simp [hin, hmay]
 refine Hd.ret1 rfl () (by simp [wantE, h0]; rfl) (by simp only [LS.want, h0, if_true]; exact (Ent.sep (.eq pkk (pt_eq (by simp only [s.set_w _ hj, Int.toNat_natCast])) enn)))
theorem new_ct (L : List SP) : Ct Tryz.prog 42 #[] L (fun b : Nat => .pointer (some ⟨b, 0, none⟩)) (fun b => CLs b LS.zero true :: L) := by
 refine Ct.of (vs := []) Tryz.func42 rfl rfl [] trivial ?_; intro E
 show Hd E 3 _ _ _ _
 refine sr fun _ K1 => ?_
 refine yv y_as <| fk [] K1 ?_; refine sr fun _ K2 => ?_
 refine yv (y_build (vs := [(2,_)]) (cs := (LS.zero.cs [.bool true]).toArray) rfl kq) ?_; refine Hd.box rfl rfl (fun b2 => ?_); refine yv y_as <| fk [(0,_)] K2 ?_; refine Hd.ret ?_; exact Hd.ret1 rfl b2 rfl sq
theorem boxchg_ct (L : List SP) (p : Option Addr) : Ct Tryz.prog 166 #[.pointer p] L (fun b : Nat => .func (.func 194) #[] #[.pointer (some ⟨b, 0, none⟩)]) (fun b => pt b [.pointer p] 102 :: L) := by
 refine Ct.of (vs := [.pointer p]) Tryz.func166 rfl rfl [(0, .pointer p)] ⟨rfl, trivial⟩ ?_; intro E
 show Hd E 4 _ _ _ _
 refine sr fun _ K1 => ?_
 refine Hd.box rfl rfl (fun b1 => ?_); refine yv y_as <| fk [(1,_)] K1 ?_; refine sr fun _ K2 => ?_
 refine yv (y_mkf (fv := []) (cv := [_]) rfl rfl) ?_; refine yv y_as <| fk [(2,_)] K2 ?_; refine Hd.ret ?_; exact Hd.ret1 rfl b1 rfl sq
abbrev encY (c : CT) : List Value := [.agg (encC c).toArray]
theorem arr_at {xs : List Int} {i : Nat} (h : i < xs.length) : ((xs.map V).toArray)[i * 1]? = some (V (xs.getD i 0)) := by
 simp [List.getD, List.getElem?_eq_getElem h]
theorem LS.arr_w (s : LS) (m : List Value) : ∀ j v, (s.w.map V)[j]? = some v → (s.cs m)[0 + 96 + j]? = some v := fun j v e => by
 have h := s.hh
 have hj := (List.getElem?_eq_some_iff.1 e).1
 unfold LS.cs; rw [List.getElem?_append_right (by simp; omega), List.getElem?_append_left (by simp at hj ⊢; omega)]; simpa [s.hh] using e
theorem chs_le (s : LS) : ∀ k, (s.chs k).length ≤ k
 | 0 => by simp [LS.chs]
 | k + 1 => by
  have := chs_le s k
  simp only [LS.chs, List.length_append, LS.chg]
  split <;> simp <;> omega
theorem chs_pre (s : LS) {k m : Nat} (h : k ≤ m) : s.chs k <+: s.chs m := by
 induction h with
 | refl => exact List.prefix_refl _
 | step _ ih => exact ih.trans (List.prefix_append _ _)
theorem changes_it (L : List SP) (b bc : Nat) (s : LS) : It Tryz.prog 194 [.pointer (some ⟨bc, 0, none⟩)] encY (fun xs => xs = s.chs 96) (fun xs => xs <+: s.chs 96)
  (pt bc [.pointer (some ⟨b, 0, none⟩)] 102 :: CLs b s true :: L) (pt bc [.pointer (some ⟨b, 0, none⟩)] 102 :: CLs b s true :: L) := by
 intro l J X hy; refine Ct.of (vs := [.func (.yield l) #[] #[], .pointer (some ⟨bc, 0, none⟩)]) Tryz.func194 rfl rfl [(0, .func (.yield l) #[] #[]), (1, .pointer (some ⟨bc, 0, none⟩))] ⟨rfl, rfl, trivial⟩ ?_; intro E
 show Hd E 36 _ _ _ _
 refine Hd.heap (pt bc [.pointer (some ⟨b, 0, none⟩)] 102 :: CLs b s true :: (J [] ++ L)) (fun k h => ?_) ?_
 ·exact sep_two h
 refine Hd.scope ?_; refine Hd.seq fun _ K1 => ?_
 refine sr fun _ K2 => ?_
 refine yv (y_l1 ag102 rfl) <| callE rfl fk105 (none_ct _ b s true) sq ?_; intro _; refine fk [(0,_),(1,_),(6,_)] K2 ?_; refine Hd.condF rfl ?_; refine qv K1 <| Hd.seq fun _ K3 => ?_
 refine Hd.label ?_; refine Hd.toK K3 ?_; refine sr fun _ K4 => ?_
 refine yv (y_l1 ag102 rfl) <| yv y_np <| yv (y_f 96 186 Tryz.underlying188 sz186) <| yv (y_loadn (us := s.w.map V) ag186 rfl (Rd.pt pkk (s.arr_w _)) (by rw [List.length_map, s.hw]; exact sz186)) ?_; refine yv y_mv <| fk [(0,_),(1,_),(10,_),(11,_)] K4 ?_; refine Hd.block <| Hd.loop (ι := Nat) (fun k => [(0, .func (.yield l) #[] #[]), (1, .pointer (some ⟨bc, 0, none⟩)), (10, .agg (s.w.map V).toArray), (11, .int .i64 (k : Int))])
  (fun k => pu (k ≤ 96) :: pt bc [.pointer (some ⟨b, 0, none⟩)] 102 :: CLs b s true :: (J (s.chs k) ++ L)) (fun k => 96 - k) 0 ⟨rfl, rfl, rfl, rfl, trivial⟩ (Ent.sep (.pure (by omega) enn)) ?_
 intro k; refine Hd.pure (fun hk => ?_); refine sr fun _ K5 => ?_
 refine yv (y_lss rfl rfl) ?_; refine fk [(0,_),(1,_),(10,_),(11,_),(12,_)] K5 ?_; refine Hd.seq fun _ K6 => ?_
 refine qz ?_ ?_ <;> intro hc1 <;> try simp only [hyZ] at hc1
 ·have hk' : k < 96 := by omega
  refine qv K6 <| Hd.seq fun _ K7 => ?_
  refine Hd.block <| sr fun _ K8 => ?_
  refine yv y_mv <| yv (y_index1 Tryz.underlying186 ag3 sz3 rfl rfl (by omega) (by exact arr_at (by rw [s.hw]; exact hk'))) ?_; refine yv y_as <| yv y_as <| fk [(0,_),(1,_),(3,_),(4,_),(10,_),(11,_)] K8 ?_; refine Hd.seq fun _ K9 => ?_
  refine sr fun _ K10 => ?_
  refine yv (y_l1 ag102 rfl) <| yv y_mv <| yv y_np <| yv (y_f 0 186 Tryz.underlying188 sz186) <| yv (y_idxA Tryz.underlying186 sz3 rfl rfl (by omega)) ?_; refine yv (y_load1 ag3 rfl (Rd.pt1 pkk (by exact s.at_h _ hk'))) ?_; refine yv y_mv <| yv (y_eql rfl rfl) ?_; refine fk [(0,_),(1,_),(3,_),(4,_),(10,_),(11,_),(22,_)] K10 ?_; refine qz ?_ ?_ <;> intro hc2 <;> try simp only [hyZ] at hc2
  ·have e : s.chs (k + 1) = s.chs k := by simp only [LS.chs, LS.chg, hc2, if_true, List.append_nil]
   refine Hd.exit <| Hd.thenExit <| Hd.inBexit <| Hd.toK K7 ?_; refine Hd.region <| yv (y_addn rfl rfl (by simp only [InK]; omega)) ?_; refine yv y_mv <| Hd.nil <| slots [(0,_),(1,_),(10,_),(11,_)] sbq ?_; refine thenN ?_; rw [← e]; exact Hd.again (k + 1) (by omega) ⟨rfl, rfl, rfl, rfl, trivial⟩ (Ent.sep (.pure (by omega) enn))
  have e : s.chs (k + 1) = s.chs k ++ [((k : Int), s.h.getD k 0, s.w.getD k 0)] := by simp only [LS.chs, LS.chg]; rw [if_neg hc2]
  refine qv K9 <| sr fun _ K11 => ?_
  refine yv y_mv <| yv y_mv <| yv (y_l1 ag102 rfl) <| yv y_mv <| yv y_np <| yv (y_f 0 186 Tryz.underlying188 sz186) <| yv (y_idxA Tryz.underlying186 sz3 rfl rfl (by omega)) ?_; refine yv (y_load1 ag3 rfl (Rd.pt1 pkk (by exact s.at_h _ hk'))) ?_; refine yv y_mv <| yv (y_build (vs := [(0,_),(1,_),(2,_)]) rfl (by exact bd194_32 ..)) ?_; refine Hd.yield (pre := s.chs k) (c := ((k : Int), s.h.getD k 0, s.w.getD k 0)) (M := pt bc [.pointer (some ⟨b, 0, none⟩)] 102 :: CLs b s true :: L) hy rfl rfl (by rw [← e]; exact chs_pre s (by omega)) (fun k h => sep_two' h) ?_; intro yb; rw [← e]; refine yv (y_not rfl) <| fk [(0,_),(1,_),(10,_),(11,_),(34,_)] K11 ?_; refine qz ?_ ?_ <;> intro hc3 <;> try simp only [hyZ] at hc3
  ·subst hc3
   simp only [cond_false]; refine Hd.ret <| Hd.inBret <| Hd.thenRet <| Hd.thenRet <| Hd.inBret <| Hd.scRet ?_; exact Hd.ret0 rfl (s.chs (k + 1), false) rfl (fun k' h => Ent.sep (.pure (chs_pre s (by omega)) .same) k' h)
  subst hc3; simp only [cond_true]; refine Hd.skip <| Hd.inB <| Hd.toK K7 ?_; refine Hd.region <| yv (y_addn rfl rfl (by simp only [InK]; omega)) ?_; refine yv y_mv <| Hd.nil <| slots [(0,_),(1,_),(10,_),(11,_)] sbq ?_; refine thenN ?_; exact Hd.again (k + 1) (by omega) ⟨rfl, rfl, rfl, rfl, trivial⟩ (fun k' h => Ent.sep (.pure (by omega) .same) k' (sep_two h))
 refine Hd.exit <| Hd.thenExit <| Hd.thenExit <| Hd.inBexit <| Hd.scNorm ?_
 obtain rfl : k = 96 := by omega
 exact Hd.end0 rfl (s.chs 96, true) rfl (fun k' h => Ent.sep (.pure rfl .same) k' (sep_two' h))
theorem changes_ct (L : List SP) (b : Nat) (s : LS) : Ct Tryz.prog 99 #[.pointer (some ⟨b, 0, none⟩)] (CLs b s true :: L)
  (fun i : Option Addr × Nat => .slice i.1 (s.chs 96).length i.2) (fun i => own 113 3 i.1 (s.chs 96).length i.2 ((s.chs 96).flatMap encC) :: CLs b s true :: L) := by
 refine Ct.ofM (vs := [.pointer (some ⟨b, 0, none⟩)]) Tryz.func99 rfl rfl [(0, .pointer (some ⟨b, 0, none⟩))] ⟨rfl, trivial⟩ ?_; intro E
 show Hd E 13 _ _ _ _
 refine sr fun _ K1 => ?_
 refine yv y_as <| fk [(0,_)] K1 ?_; refine sr fun _ K2 => ?_
 refine Hd.alloc zr110 (fun b3 => ?_); refine fk [(0,_),(3,_)] K2 ?_; refine Hd.seq fun _ K3 => ?_
 refine sr fun _ K4 => ?_
 refine yv y_mv <| callE rfl fk166 (boxchg_ct _ _) sq ?_; intro bc; refine fk [(3,_),(6,_)] K4 ?_; refine Hd.block <| Hd.rangeF (enc := encY) (S := fun xs => xs = s.chs 96) (Sp := fun xs => xs <+: s.chs 96)
  (fun pre => [ex fun i : Option Addr × Nat => [pt b3 [.slice i.1 pre.length i.2] 110, own 113 3 i.1 pre.length i.2 (pre.flatMap encC)]]) (fun _ _ => [pu False])
  rfl kq (fun _ => rfl) rfl (changes_it L b bc s) (by simp only [List.cons_append, List.nil_append]; refine Ent.sep (.ex (none, 0) ?_); simp only [List.cons_append, List.nil_append, List.length_nil, List.flatMap_nil]; exact enn) ?_ ?_ ?_
 ·intro E l R pre c N hR hG
  unfold Rnd; simp only [List.cons_append, List.nil_append, pz, encY]; refine Hd.exs pkk ?_; rintro ⟨ad, cap⟩; simp only [List.cons_append, List.nil_append]
  have hpl : pre.length + 1 ≤ 96 := by have h1 := hG.length_le; have h2 := chs_le s 96; simp at h1; omega
  refine Hd.region <| Hd.alloc zr113 (fun b4 => ?_); refine Hd.store (us := [_, _, _]) sz113 rfl rfl rfl (by simp [Value.oneCell']) pkk (by simp) ?_
  try simp only [hyS]
  refine Hd.nil <| slots [(3,_),(4,_)] sbq ?_; refine thenN <| Hd.begin hR pkk ?_; refine Hd.block <| Hd.region <| yv (y_l1 ag110 rfl) <| yv (y_loadn (us := [_, _, _]) ag113 rfl (Rd.pt pkk (by (first | (intro j v e; rcases j with _|_|_|_|_|_|_|_|_|_|_|_|j <;> first | exact e | exact absurd e (by simp))))) (by exact sz113)) ?_; refine Hd.bslice (vs := [(0,_)]) rfl (by exact bs99_10 ..) (fun b10 => ?_); refine Hd.append Tryz.underlying110 ty113 rfl rfl rfl pkk (by exact RdS.rd (Rd.pt pkk (fun j v e => by simpa using e)) rfl) (by simp [Value.oneCell']; done) (by simp only [maxLen]; omega) (by omega) (fun ad11 cap11 => ?_); refine Hd.store1 sz110 rfl rfl rfl pkk (by simp; done) ?_
  try simp only [hyS]
  refine Hd.nil <| slots [(3,_)] sbq ?_; refine Hd.inB <| Hd.reN ?_; simp only [List.cons_append, List.nil_append]; exact Ent.sep (.pick pkk (.ex (ad11, cap11) (.eq pkk (pt_eq (by simp)) (.eq pkk (own_eq (by simp) (by simp)) enn))))
 ·intro r0 xs hxs
  have hxs' : xs = s.chs 96 := hxs
  try simp only [List.cons_append, List.nil_append]
  refine Hd.inB <| Hd.toK K3 ?_; refine Hd.seq fun _ K5 => ?_
  refine Hd.exs pkk ?_; rintro ⟨ad, cap⟩; simp only [List.cons_append, List.nil_append]; refine Hd.region <| yv (y_l1 ag110 rfl) <| yv y_as <| fk [(2,_)] K5 ?_; refine Hd.ret ?_; rw [hxs']; exact Hd.retM (fun a fr => Lv.mark pkk (Lv.end1 fr rfl (ad, cap) rfl sq))
 rintro r0_0 (_ | id0) pre0 hG0
 ·exact Hd.absurd (by exact id)
 exact Hd.absurd (by exact id)
theorem LS.store_h (s : LS) (m : List Value) : (s.cs m).take (0 + 0) ++ s.w.map V ++ (s.cs m).drop (0 + 0 + (s.w.map V).length) = s.flush.cs m := by
 have h1 := s.hh; have h2 := s.hw
 unfold LS.cs LS.flush; simp only [Nat.zero_add, List.take_zero, List.nil_append, List.length_map, h2]; rw [List.drop_append, List.drop_of_length_le (by simp; omega)]; simp [h1]
theorem flush_ct (L : List SP) (b : Nat) (s : LS) : Ct Tryz.prog 45 #[.pointer (some ⟨b, 0, none⟩)] (CLs b s true :: L)
  (fun i : Option Addr × Nat => .slice i.1 (s.chs 96).length i.2) (fun i => own 113 3 i.1 (s.chs 96).length i.2 ((s.chs 96).flatMap encC) :: CLs b s.flush true :: L) := by
 refine Ct.of (vs := [.pointer (some ⟨b, 0, none⟩)]) Tryz.func45 rfl rfl [(0, .pointer (some ⟨b, 0, none⟩))] ⟨rfl, trivial⟩ ?_; intro E
 show Hd E 17 _ _ _ _
 refine sr fun _ K1 => ?_
 refine yv y_as <| fk [(0,_)] K1 ?_; refine sr fun _ K2 => ?_
 refine yv y_mv <| callE rfl fk99 (changes_ct _ b s) sq ?_; rintro ⟨ad, cap⟩; refine yv y_as <| fk [(0,_),(3,_)] K2 ?_; refine Hd.seq fun _ K3 => ?_
 refine sr fun _ K4 => ?_
 refine yv y_mv <| callE rfl fk105 (none_ct _ b s true) sq ?_; intro _; refine yv (y_not rfl) <| fk [(0,_),(3,_),(8,_)] K4 ?_; refine Hd.condT rfl ?_; refine Hd.region <| yv y_mv <| yv y_mv <| yv y_np <| yv (y_f 96 186 Tryz.underlying188 sz186) <| yv (y_loadn (us := s.w.map V) ag186 rfl (Rd.pt pkk (s.arr_w _)) (by rw [List.length_map, s.hw]; exact sz186)) ?_; refine yv y_np <| yv (y_f 0 186 Tryz.underlying188 sz186) <| Hd.store (us := s.w.map V) (by rw [List.length_map, s.hw]; exact sz186) rfl rfl rfl (by simp [Value.oneCell']) pkk (by rw [LS.cs_len, List.length_map, s.hw]; simp) ?_; rw [s.store_h]; refine fk [(3,_)] K3 ?_; refine sr fun _ K5 => ?_
 refine yv y_mv <| yv y_as <| fk [(2,_)] K5 ?_; refine Hd.ret ?_; exact Hd.ret1 rfl (ad, cap) rfl sq
theorem allEq_encC (x y : CT) : allEq (encC x) (encC y) = decide (x = y) := by
 obtain ⟨a, b, c⟩ := x
 obtain ⟨a', b', c'⟩ := y
 simp [allEq, eqv, Prod.ext_iff, Bool.and_assoc]
theorem sameC_ct (L : List SP) (ad1 ad2 : Option Addr) (c1 c2 : Nat) (xs ys : List CT) (h1 : RdS L 3 ad1 xs.length (xs.flatMap encC)) (h2 : RdS L 3 ad2 ys.length (ys.flatMap encC)) (hb : xs.length ≤ 9223372036854775807) :
  Ct Tryz.prog 100 #[.slice ad1 xs.length c1, .slice ad2 ys.length c2] L (fun _ : Unit => .bool (decide (xs = ys))) (fun _ => L) := by
 refine Ct.of (vs := [.slice ad1 xs.length c1, .slice ad2 ys.length c2]) Tryz.func100 rfl rfl [(0, .slice ad1 xs.length c1), (1, .slice ad2 ys.length c2)] ⟨rfl, rfl, trivial⟩ ?_; intro E
 show Hd E 26 _ _ _ _
 refine sr fun _ K1 => ?_
 refine yv y_as <| fk [(0,_),(1,_)] K1 ?_; refine Hd.seq fun _ K2 => ?_
 refine sr fun _ K3 => ?_
 refine yv y_mv <| yv (y_len Tryz.underlying110 rfl) ?_; refine yv y_mv <| yv (y_len Tryz.underlying110 rfl) ?_; refine yv (y_neq rfl rfl) ?_; refine fk [(0,_),(1,_),(10,_)] K3 ?_; refine qz ?_ ?_ <;> intro hc0 <;> try simp only [hyZ] at hc0
 ·refine sr fun _ K4 => ?_
  refine yv y_as <| fk [(4,_)] K4 ?_; refine Hd.ret <| Hd.thenRet ?_; exact Hd.ret1 rfl () (by rw [decide_eq_false (by intro e; subst e; exact hc0 rfl)]; rfl) sq
 refine qv K2 <| Hd.seq fun _ K5 => ?_
 refine sr fun _ K6 => ?_
 refine yv y_as <| fk [(0,_),(1,_),(5,_)] K6 ?_; refine Hd.block <| Hd.loop (ι := {i : Nat // i ≤ xs.length ∧ ∀ j, j < i → xs[j]? = ys[j]?}) (fun i => [(0, .slice ad1 xs.length c1), (1, .slice ad2 ys.length c2), (5, .int .i64 (i.1 : Int))]) (fun _ => L) (fun i => xs.length - i.1) ⟨0, by omega, by omega⟩ ⟨rfl, rfl, rfl, trivial⟩ (fun _ h => h) ?_; rintro ⟨i, hi, hp⟩; refine Hd.seq fun _ K7 => ?_
 refine sr fun _ K8 => ?_
 refine yv y_mv <| yv y_mv <| yv (y_len Tryz.underlying110 rfl) ?_; refine yv (y_lss rfl rfl) ?_; refine fk [(0,_),(1,_),(5,_),(14,_)] K8 ?_; refine qz ?_ ?_ <;> intro hc1 <;> try simp only [hyZ] at hc1
 ·have hxi : i < xs.length := by omega
  have hyi : i < ys.length := by omega
  have hx : xs[i]? = some xs[i] := List.getElem?_eq_getElem hxi
  have hy : ys[i]? = some ys[i] := List.getElem?_eq_getElem hyi
  refine qv K7 <| Hd.seq fun _ K9 => ?_
  refine Hd.block <| Hd.seq fun _ K10 => ?_
  refine Hd.quiet mixed kq ?_; refine Hq.yv y_mv ?_; refine Hq.yv y_mv ?_; refine Hq.yv (y_idxR Tryz.underlying110 sz113 rfl rfl (by omega) (by exact h1)) ?_; refine Hq.yv (y_loadRn ag113 rfl h1 (flat_cells encC 3 (fun _ => rfl) hx) (by exact sz113) (by simp)) ?_; refine Hq.yv y_mv ?_; refine Hq.yv y_mv ?_; refine Hq.yv (y_idxR Tryz.underlying110 sz113 rfl rfl (by omega) (by exact h2)) ?_; refine Hq.yv (y_loadRn ag113 rfl h2 (flat_cells encC 3 (fun _ => rfl) hy) (by exact sz113) (by simp)) ?_; refine Hq.yv (y_neq_agg rfl rfl eqt113 rfl ⟨rfl, rfl⟩) ?_; refine Hq.nil ?_; refine sk [(0,_),(1,_),(5,_),(25,_)] K10 ?_; refine qz ?_ ?_ <;> intro hc2 <;> try simp only [hyZ] at hc2
  ·refine sr fun _ K11 => ?_
   refine yv y_as <| fk [(4,_)] K11 ?_; refine Hd.ret <| Hd.inBret <| Hd.thenRet <| Hd.thenRet <| Hd.inBret <| Hd.thenRet <| Hd.ret1 rfl () ?_ sq
   rw [decide_eq_false (by
    intro e; subst e
    simp [allEq_encC] at hc2)]; rfl
  refine Hd.skip <| Hd.inB <| Hd.toK K9 ?_; refine Hd.region <| yv y_mv <| yv (y_addn rfl rfl (by simp only [InK]; omega)) ?_; refine yv y_as <| Hd.nil <| slots [(0,_),(1,_),(5,_)] sbq ?_; refine thenN <| Hd.again ⟨i + 1, by omega, fun j hj => ?_⟩ (by simp only; omega) ⟨rfl, rfl, rfl, trivial⟩ (fun _ h => h)
  rcases Nat.lt_succ_iff_lt_or_eq.1 hj with h | h
  ·exact hp j h
  ·subst h; rw [hx, hy]; simpa [allEq_encC] using hc2
 refine Hd.exit <| Hd.thenExit <| Hd.thenExit <| Hd.inBexit <| Hd.toK K5 ?_; refine sr fun _ K12 => ?_
 refine yv y_as <| fk [(4,_)] K12 ?_; refine Hd.ret <| Hd.ret1 rfl () ?_ sq
 rw [decide_eq_true (by
  apply List.ext_getElem?; intro j
  by_cases hj : j < i
  ·exact hp j hj
  ·rw [List.getElem?_eq_none (by omega), List.getElem?_eq_none (by omega)])]; rfl
def aliveS : LS := ((LS.zero.want 3 2).want 1 36).want 3 0
theorem alive_e1 : wantE 3 2 = 0 := by decide
theorem alive_e2 : wantE 1 36 = 0 := by decide
theorem alive_e3 : wantE 3 0 = 0 := by decide
theorem alive_chs : aliveS.chs 96 = [(1, 0, 36)] := by decide +kernel
theorem alive_ct (L : List SP) : Ct Tryz.prog 41 #[] L (fun _ : Unit => .bool true) (fun _ => L) := by
 refine Ct.of (vs := []) Tryz.func41 rfl rfl [] trivial ?_; intro E
 show Hd E 31 _ _ _ _
 refine sr fun _ K1 => ?_
 refine yv y_as <| fk [] K1 ?_; refine sr fun _ K2 => ?_
 refine callE rfl fk42 (new_ct _) sq ?_; intro b; refine yv y_as <| fk [(1,_)] K2 ?_; refine sr fun _ K3 => ?_
 refine yv y_mv <| callE rfl fk44 (want_ct _ b LS.zero 3 2) sq ?_; intro _; rw [alive_e1]; refine yv y_mv <| callE rfl fk44 (want_ct _ b (LS.zero.want 3 2) 1 36) sq ?_; intro _; rw [alive_e2]; refine yv y_mv <| callE rfl fk44 (want_ct _ b ((LS.zero.want 3 2).want 1 36) 3 0) sq ?_; intro _; rw [alive_e3]; refine yv y_as <| yv y_as <| yv y_as <| fk [(1,_),(2,_),(3,_),(4,_)] K3 ?_; refine sr fun _ K4 => ?_
 refine yv y_mv <| callE rfl fk99 (changes_ct _ b aliveS) sq ?_; rintro ⟨ad, cap⟩; dsimp only; rw [alive_chs]; refine yv y_as <| fk [(2,_),(3,_),(4,_),(5,_)] K4 ?_; refine sr fun _ K5 => ?_
 refine yv y_mv <| yv (y_eqlT rfl rfl) ?_; refine yv y_mv <| y2 y_mv <| y2 (y_eqlT rfl rfl) ?_; refine yv (y_pickT rfl rfl) ?_; refine yv y_mv <| y2 y_mv <| y2 (y_eqlT rfl rfl) ?_; refine yv (y_pickT rfl rfl) ?_; refine yv y_mv <| y2 y_mv <| y2 (y_build (vs := [(0,_),(2,_)]) rfl (by exact bd41_27 ..)) ?_; refine Hd.unguard rfl rfl ?_; refine Hd.bslice (vs := [(0,_)]) rfl (by exact bs41_28 ..) (fun b28 => ?_); refine Hd.unguard rfl rfl ?_; refine Hd.call rfl fk100 (sameC_ct _ ad (some ⟨b28, 0, none⟩) _ _ [(1, 0, 36)] [(1, 0, 36)] (RdS.own pkk) (RdS.rd (Rd.pt pkk (fun j v e => by simpa using e)) rfl) (by simp)) ?_; intro _; refine yv (y_pickT rfl rfl) ?_; refine yv y_as <| fk [(0,_)] K5 ?_; refine Hd.ret ?_; exact Hd.ret1 rfl () rfl sq
theorem getD_set (l : List Int) (i j : Nat) (x : Int) (hi : i < l.length) : (l.set i x).getD j 0 = if i = j then x else l.getD j 0 := by
 simp only [List.getD_eq_getElem?_getD, List.getElem?_set]
 by_cases h : i = j
 ·subst h; simp [hi]
 ·simp [h]
theorem inB_lt {fd : Int} (h : inB fd = true) : fd.toNat < 96 ∧ 0 ≤ fd := by
 simp only [inB, Bool.and_eq_true, decide_eq_true_eq] at h; omega
end Cl
end Go.Proofs.YtbfddabjbkohdaaGreat
namespace Go.Proofs.YtbfddabjbkohdaaGreat
open Go.RX Fx
namespace Kq
open Wo
structure KnA where
 wire : Int
 flags : Int
 armed : Bool
 seen : Int
abbrev encKn (x : KnA) : List Value := [.int .i64 x.wire, .int .i64 x.flags, .bool x.armed, .int .u64 x.seen]
abbrev zKn : KnA := ⟨0, 0, false, 0⟩
def kmap (f : Int × Int → Option KnA) : Int × Int → Option Value := fun a => (f a).map fun x => .agg (encKn x).toArray
theorem kmap_get (f : Int × Int → Option KnA) (a : Int × Int) : (kmap f a).getD (.agg (encKn zKn).toArray) = .agg (encKn ((f a).getD zKn)).toArray := by
 unfold kmap; cases f a <;> rfl
theorem kmap_some (f : Int × Int → Option KnA) (a : Int × Int) : (kmap f a).isSome = (f a).isSome := by unfold kmap; cases f a <;> rfl
abbrev KqH (qb wb mb : Nat) : SP := pt qb [.pointer (some ⟨wb, 0, none⟩), .map (some mb)] 175
def isK (f : Int × Int → Option KnA) (w : WA) (a : Int × Int) : Bool := match f a with
 | none => false
 | some x => if a.2 = 3 then true else decide ((w.at a.1).isSome = true ∧ wireN (w.at a.1) = x.wire)
theorem isK_call {f : Int × Int → Option KnA} {w : WA} {a : Int × Int} (h : (f a).isSome = true ∧ a.2 ≠ 3) : (decide (fdErr (w.at a.1) = 0) && decide (wireN (w.at a.1) = ((f a).getD zKn).wire)) = isK f w a := by
 unfold isK
 cases hf : f a with
 | none => rw [hf] at h; simp at h
 | some x =>
  simp only [if_neg h.2, Option.getD_some]
  cases ho : w.at a.1 with
  | none => simp [fdErr]
  | some p => simp [fdErr]
theorem isK_no {f : Int × Int → Option KnA} {w : WA} {a : Int × Int} (h : ¬((f a).isSome = true ∧ a.2 ≠ 3)) : (f a).isSome = isK f w a := by
 unfold isK
 cases hf : f a with
 | none => rfl
 | some x =>
  rw [hf] at h
  have : a.2 = 3 := by simpa using h
  simp [this]
theorem kfindG_ct (L : List SP) (qb wb mb : Nat) (f : Int × Int → Option KnA) (m : Nat) (w : WA) (fd flt : Int) (M : SP) (hM : ∀ (L0 : List SP) q, sep (M :: L0) q → sep (mpP mb .i64 (kmap f) m :: L0) q) : Ct Tryz.prog 158 #[.pointer (some ⟨qb, 0, none⟩), .agg #[.int .i64 fd, .int .i64 flt]] (KqH qb wb mb :: M :: WorldP wb w :: L) (fun _ : Unit => .tuple #[.agg (encKn ((f (fd, flt)).getD zKn)).toArray, .bool (isK f w (fd, flt))]) (fun _ : Unit => KqH qb wb mb :: M :: WorldP wb w :: L) := by
 refine Ct.o2 Tryz.func158 ?_; intro E
 show Hd E 45 _ _ _ _
 refine sr fun _ K1 => ?_
 refine Hd.box rfl rfl (fun b3 => ?_); refine Hd.alloc zr172 (fun b4 => ?_); refine yv y_as <| fk [(0,_),(3,_),(4,_)] K1 ?_; refine Hd.cutK (ι := Nat) [(0,_),(3,_),(4,_)] (fun b6 => [(6, .pointer (some ⟨b6, 0, none⟩)), (7, .bool (f (fd, flt)).isSome)]) (fun b6 => pt b6 (encKn ((f (fd, flt)).getD zKn)) 172 :: pt b4 (encKn zKn) 172 :: pt b3 [.int .i64 fd, .int .i64 flt] 170 :: KqH qb wb mb :: M :: WorldP wb w :: L) ?_ ?_ ⟨rfl, rfl, rfl, trivial⟩
 ·refine Hd.drawsH ([KqH qb wb mb, M, pt b3 [.int .i64 fd, .int .i64 flt] 170]) (fun j => !([10].contains j)) mixed ?_
  simp only [List.length, Nat.zero_add, Nat.reduceAdd]; refine tH 0 rfl y_mv <| tH 1 rfl y_np <| tH 2 rfl (y_f 1 173 Tryz.underlying175 sz173) <| tH 3 rfl (y_l1 ag173 rfl) <| tH 4 rfl (y_loadn (us := [_, _]) ag170 rfl (Rd.pt pkk (by (first | (intro j v e; rcases j with _|_|_|_|_|_|_|_|_|_|_|_|j <;> first | exact e | exact absurd e (by simp))))) (by exact sz170)) ?_; refine tH 5 rfl (y_lookup2G hM mapt173 rfl rfl pkk) ?_; refine tH 6 rfl y_mv <| tH 7 rfl (y_to (v' := .agg (encKn ((f (fd, flt)).getD zKn)).toArray) y_ex (by exact kmap_get f (fd, flt))) ?_; refine Hd.eitherH 8 9 rfl rfl kq ?_ ?_
  ·refine yv (y_to (v' := .bool (f (fd, flt)).isSome) y_ex (by (rw [← kmap_some]; rfl))) ?_
   refine qk <| qo 9 ?_; refine Hd.alloc zr172 (fun b6 => ?_); refine qk <| qo 10 ?_; refine Hd.storeA (us := encKn ((f (fd, flt)).getD zKn)) sz172 rfl rfl rfl (by simp [Value.oneCell']) pkk (by exact rfl) ?_; refine qn <| qo 11 ?_; refine yv y_as <| qk <| endH kq ?_; refine slots [(0,_),(3,_),(4,_),(6,_),(7,_)] sbq ?_; refine thenN ?_; exact Hd.meet b6 sbq sq
  refine Hd.alloc zr172 (fun b6 => ?_); refine qk <| Hd.eitherH 8 10 rfl rfl kq ?_ ?_
  ·refine yv (y_to (v' := .bool (f (fd, flt)).isSome) y_ex (by (rw [← kmap_some]; rfl))) ?_
   refine qk <| qo 10 ?_; refine Hd.storeA (us := encKn ((f (fd, flt)).getD zKn)) sz172 rfl rfl rfl (by simp [Value.oneCell']) pkk (by exact rfl) ?_; refine qn <| qo 11 ?_; refine yv y_as <| qk <| endH kq ?_; refine slots [(0,_),(3,_),(4,_),(6,_),(7,_)] sbq ?_; refine thenN ?_; exact Hd.meet b6 sbq sq
  refine Hd.storeA (us := encKn ((f (fd, flt)).getD zKn)) sz172 rfl rfl rfl (by simp [Value.oneCell']) pkk (by exact rfl) ?_; refine qn <| qo 8 ?_; refine yv (y_to (v' := .bool (f (fd, flt)).isSome) y_ex (by (rw [← kmap_some]; rfl))) ?_; refine qk <| qo 11 ?_; refine yv y_as <| qk <| endH kq ?_; refine slots [(0,_),(3,_),(4,_),(6,_),(7,_)] sbq ?_; refine thenN ?_; exact Hd.meet b6 sbq sq
 intro b6; refine Hd.seq fun _ K2 => ?_
 refine sr fun _ K3 => ?_
 refine yv y_mv <| yv y_mv ?_; apply Hd.andg 4 20 24 [(0,_),(3,_),(4,_),(6,_),(7,_)] rfl sbq
 ·intro hg2_20
  try simp only [hyZ] at hg2_20
  simp only [List.take]; refine y2 (y_f 1 3 Tryz.underlying170 sz3) <| y2 (y_l1 ag3 rfl) <| y2 (y_neq rfl rfl) ?_; refine yv (y_pickT rfl rfl) ?_; exact Hd.mn
 ·intro hg2_20
  try simp only [hyZ] at hg2_20
  simp only [List.take]; refine n1 <| n1 <| n1 <| yv (y_pickF rfl rfl) ?_; exact Hd.mn
 simp only [List.drop]; refine fk [(0,_),(3,_),(4,_),(6,_),(7,_),(24,_)] K3 ?_; refine qz ?_ ?_ <;> intro hc0 <;> try simp only [hyZ] at hc0
 ·refine Hd.seq fun _ K4 => ?_
  refine Hd.quiet mixed kq ?_; refine Hq.yv y_mv ?_; refine Hq.yv y_np ?_; refine Hq.yv (y_f 0 38 Tryz.underlying175 sz38) ?_; refine Hq.yv (y_l1 ag38 rfl) ?_; refine Hq.yv (y_f 0 3 Tryz.underlying170 sz3) ?_; refine Hq.yv (y_l1 ag3 rfl) ?_; refine Hq.call rfl fk71 ((wwire_ct _ wb w fd).swap sq sq) ?_; refine Hq.yv y_mv ?_; refine Hq.yv y_ex ?_; refine Hq.yv y_ex ?_; refine Hq.yv y_as ?_; refine Hq.yv y_as ?_; refine Hq.nil ?_; refine sk [(4,_),(6,_),(8,_),(9,_)] K4 ?_; refine Hd.region <| yv y_mv <| yv (y_eql rfl rfl) ?_; refine yv y_mv ?_; apply Hd.andg 5 37 42 [(4,_),(6,_)] rfl sbq
  ·intro hg4_37
   try simp only [hyZ] at hg4_37
   simp only [List.take]; refine y2 y_mv <| y2 (y_f 0 3 Tryz.underlying172 sz3) <| y2 (y_l1 ag3 rfl) <| y2 (y_eql rfl rfl) ?_; refine yv (y_pickT rfl rfl) ?_; exact Hd.mn
  ·intro hg4_37
   try simp only [hyZ] at hg4_37
   simp only [List.take]; refine n1 <| n1 <| n1 <| n1 <| yv (y_pickF rfl rfl) ?_; exact Hd.mn
  simp only [List.drop]; refine yv y_as <| fk [(4,_),(6,_),(7,_)] K2 ?_; refine sr fun _ K5 => ?_
  refine yv (y_loadn (us := [_, _, _, _]) ag172 rfl (Rd.pt pkk (by (first | (intro j v e; rcases j with _|_|_|_|_|_|_|_|_|_|_|_|j <;> first | exact e | exact absurd e (by simp))))) (by exact sz172)) ?_; refine yv y_mv <| Hd.storeA (us := encKn ((f (fd, flt)).getD zKn)) sz172 rfl rfl rfl (by simp [Value.oneCell']) pkk (by exact rfl) ?_; refine yv y_as <| fk [(4,_),(5,_)] K5 ?_; refine Hd.ret ?_; rw [← isK_call (w := w) (a := (fd, flt)) hc0]; exact Hd.retCT rfl () ag172 rfl rfl (Rd.pt (b := b4) (us := encKn ((f (fd, flt)).getD zKn)) pkk (fun j v e => by rw [Nat.zero_add]; exact e)) (by exact sz172) rfl sq
 refine qv K2 <| sr fun _ K6 => ?_
 refine yv (y_loadn (us := [_, _, _, _]) ag172 rfl (Rd.pt pkk (by (first | (intro j v e; rcases j with _|_|_|_|_|_|_|_|_|_|_|_|j <;> first | exact e | exact absurd e (by simp))))) (by exact sz172)) ?_; refine yv y_mv <| Hd.storeA (us := encKn ((f (fd, flt)).getD zKn)) sz172 rfl rfl rfl (by simp [Value.oneCell']) pkk (by exact rfl) ?_; refine yv y_as <| fk [(4,_),(5,_)] K6 ?_; refine Hd.ret ?_; rw [← isK_no (w := w) (a := (fd, flt)) (fun hh => by simp [hh.1] at hc0; exact hh.2 hc0)]; exact Hd.retCT rfl () ag172 rfl rfl (Rd.pt (b := b4) (us := encKn ((f (fd, flt)).getD zKn)) pkk (fun j v e => by rw [Nat.zero_add]; exact e)) (by exact sz172) rfl sq
theorem kfind_ct (L : List SP) (qb wb mb : Nat) (f : Int × Int → Option KnA) (m : Nat) (w : WA) (fd flt : Int) : Ct Tryz.prog 158 #[.pointer (some ⟨qb, 0, none⟩), .agg #[.int .i64 fd, .int .i64 flt]] (KqH qb wb mb :: mpP mb .i64 (kmap f) m :: WorldP wb w :: L) (fun _ : Unit => .tuple #[.agg (encKn ((f (fd, flt)).getD zKn)).toArray, .bool (isK f w (fd, flt))]) (fun _ => KqH qb wb mb :: mpP mb .i64 (kmap f) m :: WorldP wb w :: L) :=
 kfindG_ct L qb wb mb f m w fd flt (mpP mb .i64 (kmap f) m) (fun _ _ h => h)
end Kq
end Go.Proofs.YtbfddabjbkohdaaGreat
namespace Go.Proofs.YtbfddabjbkohdaaGreat
open Go.RX Fx
namespace Sh
abbrev V (a : Int) : Value := .int .i64 a
abbrev encNo (p : Int × Int × Int × Int) : List Value := [.int .i64 p.1, .int .i64 p.2.1, .int .i64 p.2.2.1, .int .i64 p.2.2.2]
theorem encNo_one (p : Int × Int × Int × Int) : ∀ u ∈ encNo p, u.oneCell' = true := by simp [Value.oneCell']
end Sh
end Go.Proofs.YtbfddabjbkohdaaGreat
namespace Go.Proofs.YtbfddabjbkohdaaGreat
open Go.RX Fx
namespace Kq
open Wo
abbrev NoA := Int × Int × Int × Int
abbrev encNo := Sh.encNo
abbrev KqB (qb wb mb : Nat) (f : Int × Int → Option KnA) (m : Nat) (w : WA) (L : List SP) : List SP := KqH qb wb mb :: mpP mb .i64 (kmap f) m :: WorldP wb w :: L
abbrev hasF (p : NoA) (g : Int) : Prop := bits .and .i64 p.2.2.1 g ≠ 0
def badN (p : NoA) : Prop := p.2.2.2 ≠ 0 ∨ bits .andNot .i64 p.2.2.1 127 ≠ 0 ∨ p.2.1 < 1 ∨ 3 < p.2.1
instance (p : NoA) : Decidable (badN p) := by unfold badN; infer_instance
def mayK (p : NoA) : Bool :=
 if badN p then false
 else if hasF p 1 then !decide (hasF p 6)
 else if hasF p 2 then !decide (hasF p 60)
 else (decide (hasF p 4) != decide (hasF p 8)) && !decide (hasF p 48)
theorem kmay1_ct (L : List SP) (b : Nat) (p : NoA) (g : Int) : Ct Tryz.prog 190 #[.int .i64 g, .pointer (some ⟨b, 0, none⟩)] (pt b (encNo p) 82 :: L) (fun _ : Unit => .bool (decide (hasF p g))) (fun _ : Unit => pt b (encNo p) 82 :: L) := by
 refine Ct.o2 Tryz.func190 ?_; intro E
 show Hd E 9 _ _ _ _
 refine sr fun _ K1 => ?_
 refine yv y_as <| fk [(0,_),(1,_)] K1 ?_; refine sr fun _ K2 => ?_
 refine yv (y_f 2 3 Tryz.underlying82 sz3) <| yv (y_l1 ag3 rfl) <| yv y_mv <| yv (y_and rfl rfl) ?_; refine yv (y_neq rfl rfl) ?_; refine yv y_as <| fk [(3,_)] K2 ?_; refine Hd.ret ?_; exact Hd.ret1 rfl () (by rfl) sq
theorem kmay_ct (L : List SP) (p : NoA) : Ct Tryz.prog 157 #[.agg (encNo p).toArray] (L) (fun _ : Unit => .bool (mayK p)) (fun _ : Unit => L) := by
 refine Ct.o1 Tryz.func157 ?_; intro E
 show Hd E 41 _ _ _ _
 refine sr fun _ K1 => ?_
 refine Hd.box rfl rfl (fun b1 => ?_); refine yv y_as <| fk [(1,_)] K1 ?_; refine sr fun _ K2 => ?_
 refine yv (y_mkf (fv := []) (cv := [_]) rfl rfl) ?_; refine yv y_as <| fk [(1,_),(3,_)] K2 ?_; refine Hd.seq fun _ K3 => ?_
 refine Hd.block <| Hd.seq fun _ K4 => ?_
 refine sr fun _ K5 => ?_
 refine yv (y_f 3 3 Tryz.underlying82 sz3) <| yv (y_l1 ag3 rfl) <| yv (y_neq rfl rfl) ?_; refine yv y_as <| fk [(1,_),(3,_),(5,_)] K5 ?_; refine qz ?_ ?_ <;> intro hc0 <;> try simp only [hyZ] at hc0
 ·have hb : badN p := .inl hc0
  refine qv K4 <| qz ?_ ?_ <;> intro hc3 <;> try simp only [hyZ] at hc3
  ·refine sr fun _ K6 => ?_
   refine yv y_as <| fk [(2,_)] K6 ?_; refine Hd.ret <| Hd.inBret <| Hd.thenRet ?_; rw [show mayK p = false from if_pos hb]; exact Hd.ret1 rfl () rfl sq
  exact absurd hc3 hc0
 refine sr fun _ K7 => ?_
 refine yv (y_f 2 3 Tryz.underlying82 sz3) <| yv (y_l1 ag3 rfl) <| yv (y_andNot rfl rfl) ?_; refine yv (y_neq rfl rfl) ?_; refine yv y_as <| fk [(1,_),(3,_),(5,_)] K7 ?_; refine qz ?_ ?_ <;> intro hc1 <;> try simp only [hyZ] at hc1
 ·have hb : badN p := .inr (.inl hc1)
  refine qv K4 <| qz ?_ ?_ <;> intro hc3 <;> try simp only [hyZ] at hc3
  ·refine sr fun _ K8 => ?_
   refine yv y_as <| fk [(2,_)] K8 ?_; refine Hd.ret <| Hd.inBret <| Hd.thenRet ?_; rw [show mayK p = false from if_pos hb]; exact Hd.ret1 rfl () rfl sq
  exact absurd hc3 hc1
 refine sr fun _ K9 => ?_
 refine yv (y_f 1 3 Tryz.underlying82 sz3) <| yv (y_l1 ag3 rfl) <| yv (y_lss rfl rfl) ?_; refine yv y_as <| fk [(1,_),(3,_),(5,_)] K9 ?_; refine qz ?_ ?_ <;> intro hc2 <;> try simp only [hyZ] at hc2
 ·have hb : badN p := .inr (.inr (.inl hc2))
  refine qv K4 <| qz ?_ ?_ <;> intro hc3 <;> try simp only [hyZ] at hc3
  ·refine sr fun _ K10 => ?_
   refine yv y_as <| fk [(2,_)] K10 ?_; refine Hd.ret <| Hd.inBret <| Hd.thenRet ?_; rw [show mayK p = false from if_pos hb]; exact Hd.ret1 rfl () rfl sq
  omega
 refine Hd.region <| yv (y_f 1 3 Tryz.underlying82 sz3) <| yv (y_l1 ag3 rfl) <| yv (y_gtr rfl rfl) ?_; refine yv y_as <| fk [(3,_),(5,_)] K4 ?_; refine qz ?_ ?_ <;> intro hc3 <;> try simp only [hyZ] at hc3
 ·have hb : badN p := .inr (.inr (.inr hc3))
  refine sr fun _ K11 => ?_
  refine yv y_as <| fk [(2,_)] K11 ?_; refine Hd.ret <| Hd.inBret <| Hd.thenRet ?_; rw [show mayK p = false from if_pos hb]; exact Hd.ret1 rfl () rfl sq
 have hb : ¬ badN p := by
  rintro (h | h | h | h)
  ·exact h hc0
  ·exact h hc1
  ·omega
  ·omega
 refine sr fun _ K12 => ?_
 refine yv y_mv <| Hd.callvE (vs := [_]) (cap := [_]) rfl rfl kq (kmay1_ct _ b1 p 1) sq ?_; intro _; refine yv y_as <| fk [(3,_),(19,_)] K12 ?_; refine qz ?_ ?_ <;> intro hc4 <;> try simp only [hyZ] at hc4
 ·refine sr fun _ K13 => ?_
  refine yv y_mv <| Hd.callvE (vs := [_]) (cap := [_]) rfl rfl kq (kmay1_ct _ b1 p 6) sq ?_; intro _; refine yv (y_not rfl) <| yv y_as <| fk [(2,_)] K13 ?_; refine Hd.ret <| Hd.inBret <| Hd.thenRet ?_; rw [show mayK p = !decide (hasF p 6) by unfold mayK; rw [if_neg hb, if_pos hc4]]; exact Hd.ret1 rfl () rfl sq
 refine sr fun _ K14 => ?_
 refine yv y_mv <| Hd.callvE (vs := [_]) (cap := [_]) rfl rfl kq (kmay1_ct _ b1 p 2) sq ?_; intro _; refine yv y_as <| fk [(3,_),(25,_)] K14 ?_; refine qz ?_ ?_ <;> intro hc5 <;> try simp only [hyZ] at hc5
 ·refine sr fun _ K15 => ?_
  refine yv y_mv <| Hd.callvE (vs := [_]) (cap := [_]) rfl rfl kq (kmay1_ct _ b1 p 60) sq ?_; intro _; refine yv (y_not rfl) <| yv y_as <| fk [(2,_)] K15 ?_; refine Hd.ret <| Hd.inBret <| Hd.thenRet ?_; rw [show mayK p = !decide (hasF p 60) by unfold mayK; rw [if_neg hb, if_neg (fun h => h hc4), if_pos hc5]]; exact Hd.ret1 rfl () rfl sq
 refine Hd.skip <| Hd.inB <| Hd.toK K3 ?_; refine sr fun _ K16 => ?_
 refine yv y_mv <| Hd.callvE (vs := [_]) (cap := [_]) rfl rfl kq (kmay1_ct _ b1 p 4) sq ?_; intro _; refine yv y_mv <| Hd.callvE (vs := [_]) (cap := [_]) rfl rfl kq (kmay1_ct _ b1 p 8) sq ?_; intro _; refine yv (y_neqb Tryz.underlying4 rfl rfl) ?_; refine yv y_mv ?_; apply Hd.andg 4 36 40 [] rfl sbq
 ·intro hg11_36
  try simp only [hyZ] at hg11_36
  simp only [List.take]; refine y2 y_mv <| Hd.unguard rfl rfl ?_; refine Hd.callvE (vs := [_]) (cap := [_]) rfl rfl kq (kmay1_ct _ b1 p 48) sq ?_; intro _; refine y2 (y_not rfl) <| yv (y_pickT rfl rfl) ?_; exact Hd.mn
 ·intro hg11_36
  try simp only [hyZ] at hg11_36
  simp only [List.take]; refine n1 <| n1 <| n1 <| yv (y_pickF rfl rfl) ?_; exact Hd.mn
 simp only [List.drop]; refine yv y_as <| fk [(2,_)] K16 ?_; refine Hd.ret ?_; rw [show mayK p = ((decide (hasF p 4) != decide (hasF p 8)) && !decide (hasF p 48)) by unfold mayK; rw [if_neg hb, if_neg (fun h => h hc4), if_neg (fun h => h hc5)]]; exact Hd.ret1 rfl () rfl sq
def riseK (flt : Int) (r : RdyA) : Int := if flt = 1 then r.r else r.w
theorem krises_ct (L : List SP) (flt : Int) (r : RdyA) : Ct Tryz.prog 91 #[.int .i64 flt, .agg (encR r).toArray] (L) (fun _ : Unit => .int .u64 (riseK flt r)) (fun _ : Unit => L) := by
 refine Ct.o2 Tryz.func91 ?_; intro E
 show Hd E 11 _ _ _ _
 refine sr fun _ K1 => ?_
 refine Hd.box rfl rfl (fun b3 => ?_); refine yv y_as <| fk [(0,_),(3,_)] K1 ?_; refine Hd.seq fun _ K2 => ?_
 refine sr fun _ K3 => ?_
 refine yv y_mv <| yv (y_eql rfl rfl) ?_; refine fk [(3,_),(6,_)] K3 ?_; refine qz ?_ ?_ <;> intro hc0 <;> try simp only [hyZ] at hc0
 ·refine sr fun _ K4 => ?_
  refine yv (y_f 5 30 Tryz.underlying105 sz30) <| yv (y_l1 ag30 rfl) <| yv y_as <| fk [(4,_)] K4 ?_; refine Hd.ret <| Hd.thenRet ?_; unfold riseK; rw [if_pos hc0]; exact Hd.ret1 rfl () rfl sq
 refine qv K2 <| sr fun _ K5 => ?_
 refine yv (y_f 6 30 Tryz.underlying105 sz30) <| yv (y_l1 ag30 rfl) <| yv y_as <| fk [(4,_)] K5 ?_; refine Hd.ret ?_; unfold riseK; rw [if_neg hc0]; exact Hd.ret1 rfl () rfl sq
theorem knone_ct (L : List SP) (qb wb mb : Nat) : Ct Tryz.prog 87 #[.pointer (some ⟨qb, 0, none⟩)] (KqH qb wb mb :: L) (fun _ : Unit => .bool false) (fun _ : Unit => KqH qb wb mb :: L) := by
 refine Ct.o1 Tryz.func87 ?_; intro E
 show Hd E 12 _ _ _ _
 refine sr fun _ K1 => ?_
 refine yv y_as <| fk [(0,_)] K1 ?_; refine sr fun _ K2 => ?_
 refine yv y_mv <| yv (y_eql_pointer Tryz.underlying68 rfl rfl) ?_; refine yv y_mv <| y2 y_mv <| y2 y_np <| y2 (y_f 0 38 Tryz.underlying175 sz38) <| y2 (y_l1 ag38 rfl) <| y2 (y_eql_pointer Tryz.underlying38 rfl rfl) ?_; refine yv (y_pickF rfl rfl) ?_; refine yv y_as <| fk [(2,_)] K2 ?_; refine Hd.ret ?_; exact Hd.ret1 rfl () (by rfl) sq
abbrev k0 : Int × Int → Option KnA := fun _ => none
theorem knew_ct (L : List SP) (wb : Nat) : Ct Tryz.prog 32 #[.pointer (some ⟨wb, 0, none⟩)] (L) (fun q_ : Nat × Nat => .tuple #[.pointer (some ⟨q_.1, 0, none⟩), .int .i64 0]) (fun q_ : Nat × Nat => KqH q_.1 wb q_.2 :: mpP q_.2 .i64 (kmap k0) 0 :: L) := by
 refine Ct.o1 Tryz.func32 ?_; intro E
 show Hd E 10 _ _ _ _
 refine sr fun _ K1 => ?_
 refine yv y_as <| yv y_as <| fk [(0,_)] K1 ?_; refine Hd.seq fun _ K2 => ?_
 refine sr fun _ K3 => ?_
 refine yv y_mv <| yv (y_eql_pointer Tryz.underlying38 rfl rfl) ?_; refine fk [(0,_),(5,_)] K3 ?_; refine Hd.condF rfl ?_; refine qv K2 <| sr fun _ K4 => ?_
 refine yv y_mv <| Hd.makeMapP .i64 (fun b7 => ?_); refine yv (y_build (vs := [(0,_),(1,_)]) rfl (by exact bd32_8 ..)) ?_; refine Hd.box rfl rfl (fun b9 => ?_); refine yv y_as <| yv y_as <| fk [(2,_),(3,_)] K4 ?_; refine Hd.ret ?_; exact Hd.ret2 rfl (b9, b7) rfl rfl rfl (Ent.sep (.eq pkk (pt_eq (by rfl)) enn))
end Kq
end Go.Proofs.YtbfddabjbkohdaaGreat
