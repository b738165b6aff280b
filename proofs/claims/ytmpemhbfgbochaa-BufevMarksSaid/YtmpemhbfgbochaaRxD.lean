/-
  A slice's own cells moved to the left (append(s[:i], s[j:]...)), and its last ones cleared: slices.Delete. No program is named here.
-/
import Derived.Test.YtmpemhbfgbochaaRxC
namespace Go.RX
set_option linter.unusedSimpArgs false
set_option linter.unusedVariables false
set_option linter.unnecessarySimpa false
section
variable {E : World} {n : Nat} {ds : List Deferred} {st st' : List (Nat × Value)} {L L' : List SP} {r : Option Nat} {P : Program} {Q : Exit → Act → World → Prop} {ops : Array Oper} {rest : List Oper}
variable {d : Nat} {ty t t2 : TypeId} {pos : String} {af : Array Edge} {g : Option (Nat × Bool)} {x y z : Operand} {v u : Value} {k : IntKind} {p q : Bool}
/-- append(s[:i], s[j:]...) within one's own slice -/
theorem Hd.appendMove {e sz bytes m cap i j : Nat} {ad : Option Addr} {us : List Value} (ht : P.underlying t = some (.slice e)) (hi : tyr P e = some (sz, bytes, sz)) (hpos : Nat.ble 1 sz = true)
    (hx : evo st x = some (.slice ad i cap)) (hy : evo st y = some (.slice (cutA ad sz j cap) (m - j) (cap - j))) (hp : Pick L (own e sz ad m cap us) L') (hij : i ≤ j) (hjm : j ≤ m) (h1 : ∀ u ∈ us, u.oneCell' = true)
    (K : Hd E n ds ((d, .slice ad (i + (m - j)) cap) :: st) (own e sz ad m cap (us.take (i * sz) ++ us.drop (j * sz) ++ us.drop ((i + (m - j)) * sz)) :: L') (LW r P ops Q rest)) (hd : d < n := by decide) :
    Hd E n ds st L (LW r P ops Q (⟨some d, .call ⟨.builtin .append, #[x, y], #[t, t]⟩, ty, pos, af, none⟩ :: rest)) :=
  Hd.op rfl (by simp) fun a w f s => by
    obtain ⟨ti, zv, h1', h2', h3', h4', h5'⟩ := tyr_parts hi
    have s' : Sat E (own e sz ad m cap us :: L') w := s.mp fun _ k => hp.sep k
    obtain ⟨hos, htp, hou, k1, k2, dd, s1, s2, ⟨hul, hv⟩, hL⟩ := s'
    have hpos' := Nat.le_of_ble_eq_true hpos
    rcases hv with ⟨rfl, rfl⟩ | ⟨b, off, sp, rfl, hmc, hcm, hsp, hpt⟩
    · obtain rfl : j = 0 := by omega
      obtain rfl : i = 0 := by omega
      obtain rfl : us = [] := List.eq_nil_of_length_eq_zero (by simpa using hul)
      refine ⟨.slice ad 0 0, w, ?_, K _ _ (f.put hd _) ⟨hos, htp, hou, k1, k2, dd, s1, s2, ⟨by simp, .inl ⟨rfl, rfl⟩⟩, hL⟩⟩
      have hun : (Builtin.append_ #[t, t] ty #[.slice ad 0 0, .slice (cutA ad sz 0 0) 0 0]).run P w = .ok (.slice ad 0 0) w := by
        rw [cutA_zero]
        cases ad <;> simp [Builtin.append_, run_underlying ht, sizeOf, typeInfo, h1', Builtin.lenOf, Builtin.firstCells, loadCells, loadCellsFrom, storeCells]
      simp only [execOp, resolve, List.map_toArray, List.map_cons, List.map_nil, f.ev hx, f.ev hy, invoke, builtin, Sem.run_bind, Sem.run_pure, Result.andThen_ok, hun]
    · obtain ⟨A, hA, hAc⟩ : ∃ A : Addr, cutA (some ⟨b, off, none⟩) sz j cap = some A ∧ ∀ q u, (us.drop (j * sz))[q]? = some u → w.cell? (A.add q) = some u := by
        unfold cutA
        by_cases hc : cap = j
        · refine ⟨⟨b, off, none⟩, by rw [if_pos hc], fun q u hq => ?_⟩
          have : us.drop (j * sz) = [] := List.drop_eq_nil_of_le (by rw [hul]; exact Nat.mul_le_mul_right _ (by omega))
          rw [this] at hq; simp at hq
        · refine ⟨⟨b, off + j * sz, none⟩, by rw [if_neg hc]; simp [add_flat], fun q u hq => ?_⟩
          rw [add_flat]
          rw [List.getElem?_drop] at hq
          have hql := (List.getElem?_eq_some_iff.1 hq).1
          rw [Nat.add_assoc]
          exact cell_hp (s1 _ _ (hpt (j * sz + q) u (by rw [List.getElem?_append_left hql]; exact hq)))
      have hnl : (us.drop (j * sz)).length = (m - j) * sz := by rw [List.length_drop, hul, Nat.sub_mul]
      have hf := run_firstCells_some (P := P) w ti.size (m - j) A (m - j) (cap - j) (us.drop (j * sz)) (by rw [h3']; exact hnl) hAc
      rw [h3'] at hf
      have s0 : Sat E (seg b off (us ++ sp) :: L') w := ⟨hos, htp, hou, k1, k2, dd, s1, s2, hpt, hL⟩
      have hroom : i + (m - j) ≤ cap := by omega
      have hij2 : i * sz ≤ j * sz := Nat.mul_le_mul_right _ hij
      have hjm2 : j * sz ≤ m * sz := Nat.mul_le_mul_right _ hjm
      have him : (i + (m - j)) * sz = i * sz + (m * sz - j * sz) := by rw [Nat.add_mul, Nat.sub_mul]
      have htot : (us.take (i * sz) ++ us.drop (j * sz) ++ us.drop ((i + (m - j)) * sz)).length = m * sz := by
        simp only [List.length_append, List.length_take, List.length_drop, hul, him]; omega
      by_cases hne : 0 < (us ++ sp).length
      · obtain ⟨w', hst, s'⟩ := Sat.storeSeg (P := P) (q := i * sz) (vs := us.drop (j * sz)) s0 (by rw [List.length_append, hnl, hul, Nat.sub_mul]; omega) hne (fun u hu => h1 u (List.mem_of_mem_drop hu))
        refine ⟨.slice (some ⟨b, off, none⟩) (i + (m - j)) cap, w', ?_, K _ _ (f.put hd _) (s'.mp fun h hh => sep_head hh fun k x => ?_)⟩
        · have hun : (Builtin.append_ #[t, t] ty #[.slice (some ⟨b, off, none⟩) i cap, .slice (cutA (some ⟨b, off, none⟩) sz j cap) (m - j) (cap - j)]).run P w = .ok (.slice (some ⟨b, off, none⟩) (i + (m - j)) cap) w' := by
            rw [hA]
            simp [Builtin.append_, run_underlying ht, sizeOf, typeInfo, h1', Builtin.lenOf, hroom, hf, add_flat, h3']
            rw [hst]
            rfl
          simp only [execOp, resolve, List.map_toArray, List.map_cons, List.map_nil, f.ev hx, f.ev hy, invoke, builtin, Sem.run_bind, Sem.run_pure, Result.andThen_ok, hun]
        · refine ⟨htot, .inr ⟨b, off, sp, rfl, hmc, hcm, hsp, ?_⟩⟩
          have e1 : (us ++ sp).take (i * sz) = us.take (i * sz) := by rw [List.take_append_of_le_length (by rw [hul]; omega)]
          have e2 : (us ++ sp).drop (i * sz + (us.drop (j * sz)).length) = us.drop ((i + (m - j)) * sz) ++ sp := by
            rw [hnl, ← Nat.add_mul, List.drop_append_of_le_length (by rw [hul, him]; omega)]
          rw [e1, e2] at x
          simpa only [List.append_assoc] using x
      · have hu : us = [] := List.eq_nil_of_length_eq_zero (by simp at hne ⊢; simp [hne])
        have hs : sp = [] := List.eq_nil_of_length_eq_zero (by simp at hne ⊢; simp [hne])
        subst hu; subst hs
        have hm0 : m = 0 := by
          rcases Nat.eq_zero_or_pos m with h | h
          · exact h
          · have := Nat.mul_pos h hpos'; simp at hul; omega
        subst hm0
        obtain rfl : j = 0 := by omega
        obtain rfl : i = 0 := by omega
        refine ⟨.slice (some ⟨b, off, none⟩) 0 cap, w, ?_, K _ _ (f.put hd _) (s0.mp fun h hh => sep_head hh fun k x => ⟨by simp, .inr ⟨b, off, [], rfl, hmc, hcm, hsp, by simpa using x⟩⟩)⟩
        have hun : (Builtin.append_ #[t, t] ty #[.slice (some ⟨b, off, none⟩) 0 cap, .slice (cutA (some ⟨b, off, none⟩) sz 0 cap) 0 cap]).run P w = .ok (.slice (some ⟨b, off, none⟩) 0 cap) w := by
          rw [cutA_zero]
          simp [Builtin.append_, run_underlying ht, sizeOf, typeInfo, h1', Builtin.lenOf, Builtin.firstCells, loadCells, loadCellsFrom, storeCells]
        simp only [execOp, resolve, List.map_toArray, List.map_cons, List.map_nil, f.ev hx, f.ev hy, invoke, builtin, Sem.run_bind, Sem.run_pure, Result.andThen_ok, Nat.sub_zero, hun]
/-- clear(s[l:m]): what is ahead of them is left -/
theorem Hd.clearTail {e sz m cap l : Nat} {zs : List Value} {ad : Option Addr} {us : List Value} (ht : P.underlying t = some (.slice e)) (hz : zrk P e = some zs) (hzl : zs.length = sz) (hz1 : zs.all (·.oneCell') = true)
    (hx : evo st x = some (.slice (cutA ad sz l cap) (m - l) (cap - l))) (hp : Pick L (own e sz ad m cap us) L') (hl : l ≤ m)
    (K : Hd E n ds st (own e sz ad l cap (us.take (l * sz)) :: L') (LW r P ops Q rest)) :
    Hd E n ds st L (LW r P ops Q (⟨none, .call ⟨.builtin .clear, #[x], #[t]⟩, ty, pos, af, none⟩ :: rest)) :=
  Hd.op rfl (by simp) fun a w f s => by
    have s' : Sat E (own e sz ad m cap us :: L') w := s.mp fun _ k => hp.sep k
    have hsplit : us = us.take (l * sz) ++ us.drop (l * sz) := (List.take_append_drop _ _).symm
    have hul : us.length = m * sz := by obtain ⟨_, _, _, _, _, _, _, _, ⟨h, _⟩, _⟩ := s'; exact h
    have hlm : l * sz ≤ m * sz := Nat.mul_le_mul_right _ hl
    have htl : (us.take (l * sz)).length = l * sz := by rw [List.length_take, hul]; omega
    have done : ∀ w', Sat E (own e sz ad m cap us :: L') w' → Sat E (own e sz ad l cap (us.take (l * sz)) :: L') w' := fun w' s => s.mp fun h hh => sep_head hh fun k x => own_take hl htl (by rw [List.take_append_drop]; exact x)
    by_cases h0 : m - l = 0
    · refine ⟨.tuple #[], w, ?_, K _ _ f (done w s')⟩
      simp only [execOp, resolve, List.map_toArray, List.map_cons, List.map_nil, f.ev hx, invoke, builtin, Sem.run_bind, Sem.run_pure, Result.andThen_ok]
      rw [h0]
      cases cutA ad sz l cap <;> simp [Builtin.clear_, run_underlying ht]
    obtain ⟨hos, htp, hou, k1, k2, dd, s1, s2, ⟨_, hv⟩, hL⟩ := s'
    rcases hv with ⟨rfl, rfl⟩ | ⟨b, off, sp, rfl, hmc, hcm, hsp, hpt⟩
    · omega
    have hA : cutA (some ⟨b, off, none⟩) sz l cap = some ⟨b, off + l * sz, none⟩ := by
      unfold cutA; rw [if_neg (by omega)]; simp [add_flat]
    have s0 : Sat E (seg b off (us ++ sp) :: L') w := ⟨hos, htp, hou, k1, k2, dd, s1, s2, hpt, hL⟩
    obtain ⟨z, hzr, hzc⟩ := run_zero' (P := P) hz w
    have hzn : (Builtin.zeroCells z.cells (m - l)).toList.length = (m - l) * sz := by rw [hzc]; simp [Builtin.zeroCells, hzl]
    have hzo : ∀ v ∈ (Builtin.zeroCells z.cells (m - l)).toList, v.oneCell' = true := fun v hv => by
      rw [hzc] at hv
      simp only [Builtin.zeroCells, Array.toList_map, List.mem_map, Array.toList_range, List.mem_range, List.size_toArray] at hv
      obtain ⟨i, hi, rfl⟩ := hv
      have hz0 : 0 < zs.length := by
        rcases Nat.eq_zero_or_pos zs.length with h | h
        · rw [h, Nat.mul_zero] at hi; omega
        · exact h
      have hlt : i % zs.length < zs.length := Nat.mod_lt _ hz0
      rw [List.all_eq_true] at hz1
      rw [getElem!_pos zs.toArray _ (by simpa using hlt)]
      exact hz1 _ (by simp)
    by_cases hne : 0 < (us ++ sp).length
    · obtain ⟨w', hst, s'⟩ := Sat.storeSeg (P := P) (q := l * sz) (vs := (Builtin.zeroCells z.cells (m - l)).toList) s0 (by rw [List.length_append, hzn, hul, Nat.sub_mul]; omega) hne hzo
      refine ⟨.tuple #[], w', ?_, K _ _ f (s'.mp fun h hh => sep_head hh fun k x => ?_)⟩
      · simp only [execOp, resolve, List.map_toArray, List.map_cons, List.map_nil, f.ev hx, invoke, builtin, Sem.run_bind, Sem.run_pure, Result.andThen_ok, hA]
        obtain ⟨q, hq⟩ := Nat.exists_eq_succ_of_ne_zero h0
        rw [hq] at hst ⊢
        simp [Builtin.clear_, run_underlying ht, hzr, hst]
      · have e1 : (us ++ sp).take (l * sz) = us.take (l * sz) := by rw [List.take_append_of_le_length (by rw [hul]; omega)]
        have e2 : (us ++ sp).drop (l * sz + (Builtin.zeroCells z.cells (m - l)).toList.length) = sp := by
          have e3 : l * sz + (m - l) * sz = us.length := by rw [hul, Nat.sub_mul]; omega
          rw [hzn, e3, List.drop_left]
        rw [e1, e2, List.append_assoc] at x
        refine ⟨htl, .inr ⟨b, off, (Builtin.zeroCells z.cells (m - l)).toList ++ sp, rfl, by omega, hcm, ?_, x⟩⟩
        rw [List.length_append, hzn, hsp, ← Nat.add_mul]; congr 1; omega
    · have hu : us.length = 0 := by simp at hne ⊢; simp [hne]
      have hsz : sz = 0 := by
        rw [hul] at hu
        rcases Nat.eq_zero_or_pos sz with h | h
        · exact h
        · have := Nat.mul_pos (show 0 < m by omega) h; omega
      have hzz : zs = [] := List.eq_nil_of_length_eq_zero (by omega)
      refine ⟨.tuple #[], w, ?_, K _ _ f (done w ⟨hos, htp, hou, k1, k2, dd, s1, s2, ⟨hul, .inr ⟨b, off, sp, rfl, hmc, hcm, hsp, hpt⟩⟩, hL⟩)⟩
      simp only [execOp, resolve, List.map_toArray, List.map_cons, List.map_nil, f.ev hx, invoke, builtin, Sem.run_bind, Sem.run_pure, Result.andThen_ok, hA]
      obtain ⟨q, hq⟩ := Nat.exists_eq_succ_of_ne_zero h0
      have hze : (Builtin.zeroCells z.cells (m - l)).toList = [] := List.eq_nil_of_length_eq_zero (by rw [hzn, hsz, Nat.mul_zero])
      rw [hq] at hze ⊢
      simp [Builtin.clear_, run_underlying ht, hzr, hze, storeCells]
end
end Go.RX
