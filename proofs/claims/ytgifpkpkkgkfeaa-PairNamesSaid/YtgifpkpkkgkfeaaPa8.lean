/-
  Pairs: move.
-/
import Derived.Test.YtgifpkpkkgkfeaaPa7
namespace Go.Proofs.Ytgifpkpkkgkfeaa
set_option linter.unusedSimpArgs false
set_option linter.unusedVariables false
set_option linter.unnecessarySimpa false
open Go.RX Fx
namespace Pa
open Bc
set_option maxRecDepth 8000
section
variable {E : World} {n : Nat} {ds : List Deferred} {st : List (Nat × Value)} {L L' : List SP} {K : Act → World → Prop}
theorem Hd.toldSplit {b : Nat} (p : Pick L (pt b (encT t0 ++ encT t0) 69) L') (h : Hd E n ds st (segK b (0 * 6) 0 (encT t0) :: segK b (1 * 6) 0 (encT t0) :: KdT b :: L') K) : Hd E n ds st L K := Hd.heap _ (fun k s => told_split (p.sep s)) h
end
theorem ent1 {L : List SP} {A : SP} : Ent (A :: L) (L ++ [A]) := Ent.swap (L := [A])
def S0 (A C : PE) : St := ⟨fun j => if j = 0 then A else C, fun _ => t0⟩
theorem spW_in {k : Int} {pre : List Nat} {c : Nat} (h : SpW k (pre ++ [c])) : c < 2 ∧ pre = ws k c := by
  obtain ⟨i, hi, _, e⟩ := h
  have := List.append_inj' e rfl
  obtain rfl : c = i := by simpa using this.2
  exact ⟨hi, this.1⟩
set_option maxHeartbeats 2000000 in
theorem move_ct (L : List SP) (b : Nat) (k : Int) (fl : Bool) (A C : PE) (hA : EOk A) (hC : EOk C) : Ct Try.prog 72 #[.pointer (some ⟨b, 0, none⟩), .int .i64 k, .bool fl] (Md b :: En b (0 * 10) A (En b (1 * 10) C L)) (fun S2 : St => .agg (encT (S2.t 0) ++ encT (S2.t 1)).toArray) (fun S2 : St => pu (Runs fl (ws k 2) (S0 A C) S2 ∧ OkS S2) :: Md b :: En b (0 * 10) (S2.e 0) (En b (1 * 10) (S2.e 1) L)) := by
  refine Ct.ofM (vs := [.pointer (some ⟨b, 0, none⟩), .int .i64 k, .bool fl]) Try.func72 rfl rfl [(0, .pointer (some ⟨b, 0, none⟩)), (1, .int .i64 k), (2, .bool fl)] (by repeat (first | exact trivial | refine ⟨rfl, ?_⟩)) ?_
  intro E
  show Hd E 20 _ _ _ _
  refine Hd.seq (fun K1 hK1 => ?_)
  refine Hd.region ?_
  refine Hd.box rfl rfl (fun b3 => ?_)
  refine Hd.box rfl rfl (fun b5 => ?_)
  refine Hd.alloc zr69 (fun b6 => ?_)
  refine Hd.nil ?_
  refine Hd.slots [(1, _), (3, _), (5, _), (6, _)] ⟨rfl, rfl, rfl, rfl, trivial⟩ ?_
  refine Hd.toK hK1 ?_
  refine Hd.seq (fun K2 hK2 => ?_)
  refine Hd.region ?_
  refine Hd.alloc zr69 (fun b7 => ?_)
  refine Hd.nil ?_
  refine Hd.toldSplit (b := b7) (by exact Pick.here) ?_
  refine Hd.slots [(1, _), (3, _), (5, _), (6, _), (7, _)] ⟨rfl, rfl, rfl, rfl, rfl, trivial⟩ ?_
  refine Hd.toK hK2 ?_
  refine Hd.seq (fun K3 hK3 => ?_)
  refine Hd.seq (fun K4 hK4 => ?_)
  refine Hd.region ?_
  first | (refine Hd.yv (y_load1 ag62 rfl (Rd.pt1 pkk (by (first | rfl)))) ?_) | (refine Hd.yv (y_load1 ag62 rfl (Rd.seg1 pkk (by (first | rfl)))) ?_) | (refine Hd.yv (y_loadR1 ag62 rfl (by (first | exact RdS.own pkk)) (by (first | rfl))) ?_)
  refine Hd.callE rfl fk79 (none_ct _ b) (Ent.sep enn) ?_
  intro _
  refine Hd.yv (y_not rfl) ?_
  refine Hd.nil ?_
  refine Hd.slots [(1, _), (3, _), (5, _), (6, _), (7, _), (11, _)] ⟨rfl, rfl, rfl, rfl, rfl, rfl, trivial⟩ ?_
  refine Hd.toK hK4 ?_
  refine Hd.condT rfl ?_
  refine Hd.seq (fun K5 hK5 => ?_)
  refine Hd.region ?_
  refine Hd.yv (y_move rfl) ?_
  refine Hd.call rfl fk80 (ways_ct _ k) ?_
  intro bk
  refine Hd.nil ?_
  refine Hd.slots [(3, _), (5, _), (6, _), (7, _), (13, _)] ⟨rfl, rfl, rfl, rfl, rfl, trivial⟩ ?_
  refine Hd.toK hK5 ?_
  refine Hd.block ?_
  refine Hd.rangeF (enc := encN) (S := fun xs => xs = ws k 2) (Sp := SpW k)
    (fun pre => (RX.ex fun S2 : St => pu (Runs fl pre (S0 A C) S2 ∧ OkS S2) :: StH b b7 0 S2 []) :: Md b :: KdT b7 :: pt b6 [.bool false, .bool false, .int .i64 0, .int .i64 0, .int .i64 0, .int .i64 0, .bool false, .bool false, .int .i64 0, .int .i64 0, .int .i64 0, .int .i64 0] 69 :: pt b3 [.pointer (some ⟨b, 0, none⟩)] 62 :: pt b5 [.bool fl] 4 :: L) (fun _ _ => [pu False])
    rfl (by kernel_rfl) (fun _ => rfl) rfl (ways_it bk k) (Ent.sep (.ex (S0 A C) (.pure ⟨rfl, hA, hC⟩ (by
      show Ent _ (En b (0 * 10) A (En b (1 * 10) C (segK b7 (0 * 6) 0 (encT t0) :: segK b7 (1 * 6) 0 (encT t0) :: Md b :: KdT b7 :: pt b6 [.bool false, .bool false, .int .i64 0, .int .i64 0, .int .i64 0, .int .i64 0, .bool false, .bool false, .int .i64 0, .int .i64 0, .int .i64 0, .int .i64 0] 69 :: pt b3 [.pointer (some ⟨b, 0, none⟩)] 62 :: pt b5 [.bool fl] 4 :: (L ++ [pt bk [.int .i64 k] 3]))))
      exact (Ent.pick pkk (Ent.pick pkk (Ent.pick pkk (Ent.pick pkk (Ent.pick pkk (Ent.pick pkk (Ent.pick pkk (Ent.pick pkk (Ent.pick pkk (Ent.pick pkk (Ent.pick pkk (Ent.pick pkk (Ent.pick pkk ent1))))))))))))))))) ?_ ?_ ?_
  ·
    intro E l' R pre c N hR hG
    obtain ⟨hc2, hpre⟩ := spW_in hG
    unfold Rnd
    simp only [List.cons_append, List.nil_append, pz, encN]
    refine Hd.region ?_
    refine Hd.yv (y_assign rfl) ?_
    refine Hd.nil ?_
    refine Hd.slots [(3, _), (5, _), (6, _), (7, _), (8, _)] ⟨rfl, rfl, rfl, rfl, rfl, trivial⟩ ?_
    refine Hd.thenN ?_
    refine Hd.begin hR pkk ?_
    refine Hd.block ?_
    refine Hd.exs pkk ?_
    intro S1
    simp only [List.cons_append, List.nil_append]
    refine Hd.pure (fun hS1 => ?_)
    refine Hd.region ?_
    first | (refine Hd.yv (y_load1 ag62 rfl (Rd.pt1 pkk (by (first | rfl)))) ?_) | (refine Hd.yv (y_load1 ag62 rfl (Rd.seg1 pkk (by (first | rfl)))) ?_) | (refine Hd.yv (y_loadR1 ag62 rfl (by (first | exact RdS.own pkk)) (by (first | rfl))) ?_)
    refine Hd.yv (y_move rfl) ?_
    first | (refine Hd.yv (y_load1 ag4 rfl (Rd.pt1 pkk (by (first | rfl)))) ?_) | (refine Hd.yv (y_load1 ag4 rfl (Rd.seg1 pkk (by (first | rfl)))) ?_) | (refine Hd.yv (y_loadR1 ag4 rfl (by (first | exact RdS.own pkk)) (by (first | rfl))) ?_)
    refine Hd.callE rfl fk81 (passN_ct _ b b7 c hc2 S1 hS1.2 fl) (Ent.sep enn) ?_
    intro S2
    refine Hd.pure (fun hp => ?_)
    refine Hd.nil ?_
    refine Hd.slots [(6, _), (7, _)] ⟨rfl, rfl, trivial⟩ ?_
    refine Hd.inB ?_
    clear hK1 hK2 hK3 hK4 hK5
    refine Hd.reN ?_
    simp only [List.cons_append, List.nil_append]
    exact Ent.sep (.pick pkk (.ex S2 (.pure ⟨hS1.1.snoc hp, hp.ok hc2 hS1.2⟩ enn)))
  ·
    intro r0 xs hxs
    have hxs' : xs = ws k 2 := hxs
    simp only [List.cons_append, List.nil_append]
    refine Hd.inB ?_
    refine Hd.toK hK3 ?_
    refine Hd.seq (fun K6 hK6 => ?_)
    refine Hd.exs pkk ?_
    intro S2
    simp only [List.cons_append, List.nil_append]
    refine Hd.pure (fun hS2 => ?_)
    refine Hd.heap (pt b7 (encT (S2.t 0) ++ encT (S2.t 1)) 69 :: ob r0 (.deferred (some [])) :: Md b :: pt b6 [.bool false, .bool false, .int .i64 0, .int .i64 0, .int .i64 0, .int .i64 0, .bool false, .bool false, .int .i64 0, .int .i64 0, .int .i64 0, .int .i64 0] 69 :: En b (0 * 10) (S2.e 0) (En b (1 * 10) (S2.e 1) L)) (fun k' s => told_join (Ent.sep (by show Ent _ (segK b7 (0 * 6) 0 (encT (S2.t 0)) :: segK b7 (1 * 6) 0 (encT (S2.t 1)) :: KdT b7 :: ob r0 (.deferred (some [])) :: Md b :: pt b6 [.bool false, .bool false, .int .i64 0, .int .i64 0, .int .i64 0, .int .i64 0, .bool false, .bool false, .int .i64 0, .int .i64 0, .int .i64 0, .int .i64 0] 69 :: En b (0 * 10) (S2.e 0) (En b (1 * 10) (S2.e 1) L)); exact enn) k' s)) ?_
    refine Hd.region ?_
    first | (refine Hd.yv (y_loadn (us := [_, _, _, _, _, _, _, _, _, _, _, _]) ag69 rfl (Rd.pt pkk (by (first | (intro j v e; rcases j with _|_|_|_|_|_|_|_|_|_|_|_|j <;> first | exact e | exact absurd e (by simp))))) (by exact sz69)) ?_) | (refine Hd.yv (y_loadn (us := [_, _, _, _, _, _, _, _, _, _, _, _]) ag69 rfl (Rd.seg pkk (by (first | (intro j v e; rcases j with _|_|_|_|_|_|_|_|_|_|_|_|j <;> first | exact e | exact absurd e (by simp))))) (by exact sz69)) ?_) | (refine Hd.yv (y_loadRn ag69 rfl (by (first | exact RdS.own pkk)) (by (first | (intro j v e; rcases j with _|_|_|_|_|_|_|_|_|_|_|_|j <;> first | exact e | exact absurd e (by simp)))) (by exact sz69) (by simp)) ?_)
    first | (refine Hd.storeA (us := [_, _, _, _, _, _, _, _, _, _, _, _]) sz69 rfl rfl rfl (by simp [Value.oneCell']) pkk rfl ?_) | (refine Hd.store (us := [_, _, _, _, _, _, _, _, _, _, _, _]) sz69 rfl rfl rfl (by simp [Value.oneCell']) pkk (by simp) ?_)
    try simp only [List.set_cons_zero, List.set_cons_succ]
    refine Hd.nil ?_
    refine Hd.slots [(6, _)] ⟨rfl, trivial⟩ ?_
    refine Hd.toK hK6 ?_
    refine Hd.ret ?_
    clear hK1 hK2 hK3 hK4 hK5 hK6
    subst hxs'
    exact Hd.retM (fun a fr => Lv.mark pkk (Lv.endC (us := encT (S2.t 0) ++ encT (S2.t 1)) fr rfl S2 ag69 rfl (Rd.pt pkk (fun j v e => by simpa using e)) (by exact sz69) rfl (Ent.sep (.pure ⟨hS2.1, hS2.2⟩ enn))))
  ·
    rintro r0_0 (_ | id0) pre0 hG0
    ·
      exact Hd.absurd (by first | exact id | simp)
    ·
      exact Hd.absurd (by first | exact id | simp)
end Pa
end Go.Proofs.Ytgifpkpkkgkfeaa
