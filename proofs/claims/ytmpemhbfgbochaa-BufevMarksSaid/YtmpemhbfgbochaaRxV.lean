/-
  copy(dst, src): dst a part of a slice that is owned. No program is named here.
-/
import Derived.Test.YtmpemhbfgbochaaRxD
import Derived.Laws.CopyOwn
namespace Go.RX
set_option linter.unusedSimpArgs false
set_option linter.unusedVariables false
set_option linter.unnecessarySimpa false
section
variable {E : World} {n : Nat} {ds : List Deferred} {st st' : List (Nat × Value)} {L L' : List SP} {r : Option Nat} {P : Program} {Q : Exit → Act → World → Prop} {ops : Array Oper} {rest : List Oper}
variable {d : Nat} {ty t t2 : TypeId} {pos : String} {af : Array Edge} {x y : Operand} {v : Value} {k : IntKind}
theorem Hd.copyOwn {e bytes m cap q dl dc sl sc : Nat} {ad sad : Option Addr} {us vs : List Value} (ht : P.underlying t = some (.slice e)) (hi : tyr P e = some (1, bytes, 1))
    (hx : evo st x = some (.slice (cutA ad 1 q cap) dl dc)) (hy : evo st y = some (.slice sad sl sc)) (hp : Pick L (own e 1 ad m cap us) L') (hR : RdS L 1 sad sl vs) (hq : q + dl ≤ m) (h1 : ∀ u ∈ vs, u.oneCell' = true)
    (K : Hd E n ds ((d, .int .i64 ((min sl dl : Nat) : Int)) :: st) (own e 1 ad m cap (us.take q ++ vs.take (min sl dl) ++ us.drop (q + min sl dl)) :: L') (LW r P ops Q rest)) (hd : d < n := by decide) :
    Hd E n ds st L (LW r P ops Q (⟨some d, .call ⟨.builtin .copy, #[x, y], #[t, t2]⟩, ty, pos, af, none⟩ :: rest)) :=
  Hd.op rfl (by simp) fun a w f s => by
    obtain ⟨ti, zv, h1', h2', h3', h4', h5'⟩ := tyr_parts hi
    have hsz : (P.info? e).map (·.size) = some 1 := by rw [h1']; simp [h3']
    obtain ⟨hvl, hsrc⟩ := hR _ s.2.2.2
    have s' : Sat E (own e 1 ad m cap us :: L') w := s.mp fun _ k => hp.sep k
    obtain ⟨hos, htp, hou, k1, k2, dd, s1, s2, ⟨hul, hv⟩, hL⟩ := s'
    by_cases h0 : min sl dl = 0
    · refine ⟨.int .i64 0, w, ?_, ?_⟩
      · have hrun := run_copy_none (P := P) w t t2 ty e (cutA ad 1 q cap) sad dl dc sl sc ht hsz h0
        simp only [execOp, resolve, List.map_toArray, List.map_cons, List.map_nil, f.ev hx, f.ev hy, invoke, builtin, Sem.run_bind, Sem.run_pure, Result.andThen_ok, hrun]
        rfl
      · rw [h0] at K
        refine K _ _ (f.put hd _) ⟨hos, htp, hou, k1, k2, dd, s1, s2, ?_, hL⟩
        simpa using ⟨hul, hv⟩
    · have hds : dl ≠ 0 := fun h => h0 (by rw [h]; simp)
      have hsl : sl ≠ 0 := fun h => h0 (by rw [h]; simp)
      rcases hv with ⟨rfl, rfl⟩ | ⟨b, off, sp, rfl, hmc, hcm, hsp, hpt⟩
      · omega
      have hA : cutA (some ⟨b, off, none⟩) 1 q cap = some ⟨b, off + q, none⟩ := by
        unfold cutA; rw [if_neg (by omega)]; simp [add_flat]
      obtain ⟨sb, so, rfl, hsc⟩ : ∃ sb so, sad = some ⟨sb, so, none⟩ ∧ ∀ j v, vs[j]? = some v → w.cell? ⟨sb, so + j, none⟩ = some v := by
        rcases hsrc with h | ⟨sb, so, e, hc⟩
        · omega
        · exact ⟨sb, so, e, fun j v hj => by obtain ⟨_, hb⟩ := hc j v hj; exact cell_hp hb⟩
      have hnl : (vs.take (min sl dl)).length = min sl dl * 1 := by rw [List.length_take, hvl]; omega
      have hf := run_firstCells_some (P := P) w 1 (min sl dl) ⟨sb, so, none⟩ sl sc (vs.take (min sl dl)) hnl (fun j v hj => by
        rw [add_flat]
        refine hsc j v ?_
        have hj2 := (List.getElem?_eq_some_iff.1 hj).1
        rw [List.length_take] at hj2
        rwa [List.getElem?_take_of_lt (by omega)] at hj)
      have s0 : Sat E (seg b off (us ++ sp) :: L') w := ⟨hos, htp, hou, k1, k2, dd, s1, s2, hpt, hL⟩
      have hul' : us.length = m := by omega
      obtain ⟨w', hst, s''⟩ := Sat.storeSeg (P := P) (q := q) (vs := vs.take (min sl dl)) s0 (by rw [List.length_append, hnl]; omega) (by rw [List.length_append]; omega) (fun u hu => h1 u (List.mem_of_mem_take hu))
      refine ⟨.int .i64 ((min sl dl : Nat) : Int), w', ?_, K _ _ (f.put hd _) (s''.mp fun h hh => sep_head hh fun k x => ?_)⟩
      · have hun : (Builtin.copy_ #[t, t2] ty #[.slice (some ⟨b, off + q, none⟩) dl dc, .slice (some ⟨sb, so, none⟩) sl sc]).run P w = .ok (goInt (min sl dl : Nat)) w' := by
          have hm : Nat.min sl dl = min sl dl := rfl
          simp [Builtin.copy_, run_underlying ht, sizeOf, typeInfo, h1', Builtin.lenOf, h3', hm, hf, hst]
        rw [hA] at hx
        simp only [execOp, resolve, List.map_toArray, List.map_cons, List.map_nil, f.ev hx, f.ev hy, invoke, builtin, Sem.run_bind, Sem.run_pure, Result.andThen_ok, hun]
        rfl
      · rw [hnl, Nat.mul_one] at x
        have htot : (us.take q ++ vs.take (min sl dl) ++ us.drop (q + min sl dl)).length = m * 1 := by
          simp only [List.length_append, List.length_take, List.length_drop, hul', hvl]; omega
        refine ⟨htot, .inr ⟨b, off, sp, rfl, hmc, hcm, hsp, ?_⟩⟩
        rw [List.take_append_of_le_length (by omega), List.drop_append_of_le_length (by omega)] at x
        simpa only [List.append_assoc] using x
end
end Go.RX
