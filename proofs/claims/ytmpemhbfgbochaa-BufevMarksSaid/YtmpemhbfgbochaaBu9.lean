/-
  Bufev's laws: the chapter's first example.
-/
import Derived.Test.YtmpemhbfgbochaaBu8
import Derived.Test.YtmpemhbfgbochaaRxE
namespace Go.Proofs.Ytmpemhbfgbochaa
set_option linter.unusedSimpArgs false
set_option linter.unusedVariables false
set_option linter.unnecessarySimpa false
open Go.RX Fx
namespace Bu
open Wo
set_option maxRecDepth 8000
/-- a side in order -/
def SOk (s : SdA) : Prop := (InK .u64 s.after ∧ InK .u64 s.at_) ∧ (0 ≤ s.low ∧ s.low ≤ 1048576) ∧ 0 ≤ s.high ∧ s.high ≤ 1048576
def BOk (x : BfA) : Prop := ∀ k, k < 2 → SOk (x.s k)
theorem BOk.tm {x : BfA} (h : BOk x) : TmOk x := fun k hk => (h k hk).1
theorem BOk.hi {x : BfA} (h : BOk x) : InK .i64 (x.s 0).high := by
  have := (h 0 (by omega)).2.2
  simp only [InK]; omega
theorem bok_up {x : BfA} (h : BOk x) {k : Nat} {f : SdA → SdA} (hf : ∀ s, SOk s → SOk (f s)) : BOk (x.up k f) := fun j hj => by
  by_cases e : j = k
  · subst e; rw [bup_at]; exact hf _ (h j hj)
  · rw [bup_ne _ _ e]; exact h j hj
theorem bok_eff {f : Nat → SdA → SdA} {x : BfA} (h : BOk x) (hf : ∀ k s, SOk s → SOk (f k s)) (ks : List Nat) : BOk (effB f x ks) := fun j hj => by
  show SOk (if j ∈ ks then f j (x.s j) else x.s j)
  split
  · exact hf _ _ (h j hj)
  · exact h j hj
theorem sok_nv {s : SdA} (h : SOk s) (on en : Bool) : SOk { s with on := on, ended := en, at_ := NV } := ⟨⟨h.1.1, by show InK .u64 18446744073709551615; simp [InK]⟩, h.2⟩
theorem sok_set {s : SdA} (h : SOk s) (k : Nat) {now : Int} (hn : InK .u64 now) (on : Bool) (c : List UInt8) : SOk (setA k now { s with on := on, c := c }) := ⟨⟨h.1.1, atV_in (s := { s with on := on, c := c }) hn h.1.1⟩, h.2⟩
theorem bok_new (fd : Int) : BOk (newB fd) := fun k hk => ⟨tm_new fd k hk, ⟨Int.le_refl 0, by show (0 : Int) ≤ _; omega⟩, Int.le_refl 0, by show (0 : Int) ≤ _; omega⟩
theorem bok_en {x : BfA} (h : BOk x) {now : Int} (hn : InK .u64 now) (sides : Int) : BOk (enB x now sides) := by
  unfold enB
  split
  · refine bok_eff h (fun k s hs => ?_) _
    show SOk (if s.on = true then s else setA k now { s with on := true })
    split
    · exact hs
    · exact sok_set hs k hn true s.c
  · exact h
theorem bok_dis {x : BfA} (h : BOk x) (sides : Int) : BOk (disB x sides) := by
  unfold disB
  split
  · exact bok_eff h (fun k s hs => sok_nv hs false s.ended) _
  · exact h
theorem bok_mrk {x : BfA} (h : BOk x) (side low high : Int) : BOk (mrkB x side low high) := by
  unfold mrkB
  split
  · exact h
  · rename_i hb
    refine bok_eff (f := mrkF low high) h (fun k s hs => ⟨hs.1, ?_⟩) _
    unfold mrkBad at hb
    simp only [Bool.or_eq_true, Bool.and_eq_true, decide_eq_true_eq] at hb
    show (0 ≤ low ∧ low ≤ 1048576) ∧ 0 ≤ high ∧ high ≤ 1048576
    omega
theorem bok_read {σ : StA} (h : BOk σ.x) {now : Int} (hn : InK .u64 now) (most : Int) : BOk (readS σ now most).x := by
  unfold readS rdP
  repeat' split
  all_goals first
    | exact h
    | exact bok_up h fun s hs => sok_nv hs false true
    | exact bok_up h fun s hs => sok_set hs 0 hn s.on _
theorem bok_write {σ : StA} (h : BOk σ.x) {now : Int} (hn : InK .u64 now) (much : Int) : BOk (writeS σ now much).x := by
  unfold writeS wrP
  repeat' split
  all_goals first
    | exact h
    | exact bok_up h fun s hs => sok_nv hs false true
    | exact bok_up h fun s hs => sok_set hs 1 hn s.on _
theorem bok_stepR {x : BfA} (h : BOk x) {now : Int} (hn : InK .u64 now) (w : WA) (flags most : Int) : BOk (stepR x w now flags most).x := by
  unfold stepR
  split
  · exact bok_read h hn most
  · exact h
theorem bok_step {x : BfA} (h : BOk x) {now : Int} (hn : InK .u64 now) (w : WA) (flags most much : Int) : BOk (stepS x w now flags most much).x := by
  unfold stepS
  split
  · exact bok_write (bok_stepR h hn w flags most) hn much
  · exact bok_stepR h hn w flags most
theorem bok_put {x : BfA} (h : BOk x) {now : Int} (hn : InK .u64 now) (bs : List UInt8) : BOk (wrB x now bs) := by
  unfold wrB
  repeat' split
  · exact h
  · exact bok_up h fun s hs => sok_set hs 1 hn s.on _
  · exact bok_up h fun s hs => hs
theorem bok_get {x : BfA} (h : BOk x) (n : Int) : BOk (readB x n) := by
  unfold readB
  split
  · exact h
  · exact bok_up h fun s hs => hs
theorem bok_tms {x : BfA} (h : BOk x) {now r w : Int} (hn : InK .u64 now) (hr : InK .u64 r) (hw : InK .u64 w) : BOk (tmB x now r w) := by
  unfold tmB
  exact bok_up (k := 1) (f := fun s => setA 1 now { s with after := w }) (bok_up (k := 0) (f := fun s => setA 0 now { s with after := r }) h fun s hs => ⟨⟨hr, atV_in (s := { s with after := r }) hn hr⟩, hs.2⟩) fun s hs => ⟨⟨hw, atV_in (s := { s with after := w }) hn hw⟩, hs.2⟩
theorem bok_late {x : BfA} (h : BOk x) (now : Int) (ks : List Nat) : BOk (effB (ltF now) x ks) := by
  refine bok_eff h (fun k s hs => ?_) _
  show SOk (if lateK now s = true then offF k s else s)
  split
  · exact sok_nv hs false s.ended
  · exact hs
theorem eqn49 : EqN Try.prog 49 [.bool, .bool, .int .i64, .int .i64, .int .i64, .int .i64] := ⟨by kernel_rfl, by kernel_rfl, by kernel_rfl⟩
abbrev abc : List UInt8 := [97, 98, 99]
abbrev pairA (n : Nat) : WA := mkW newA 2 (halfW n 2)
abbrev alX1 : BfA := enB (newB 0) 0 2
abbrev alX2 : BfA := mrkB alX1 2 2 4
abbrev alW : WA := (writeR (pairA 8) 1 abc).2
abbrev alS : StA := stepS alX2 alW 0 2 99 99
theorem al_op : (readyR (pairA 8) 0).op = true := by decide +kernel
theorem al_1 : enE 2 = 0 := by decide +kernel
theorem al_2 : mrkE 2 2 4 = 0 := by decide +kernel
theorem al_3 : wantsA alX2 = 2 := by decide +kernel
theorem al_4 : encT alS.t = [.bool true, .bool false, .int .i64 0, .int .i64 0, .int .i64 3, .int .i64 0] := by rfl
theorem al_5 : wantsA alS.x = 2 := by decide +kernel
theorem al_k1 : BOk alX1 := bok_en (bok_new 0) (by simp [InK]) 2
theorem al_k2 : BOk alX2 := bok_mrk al_k1 2 2 4
set_option maxHeartbeats 2000000 in
theorem alive_ct (L : List SP) : Ct Try.prog 8 #[] (L) (fun _ : Unit => .bool true) (fun _ : Unit => L) := by
  refine Ct.of (vs := []) Try.func8 rfl rfl [] (by repeat (first | exact trivial | refine ⟨rfl, ?_⟩)) ?_
  intro E
  show Hd E 52 _ _ _ _
  refine Hd.seq (fun K1 hK1 => ?_)
  refine Hd.region ?_
  refine Hd.yv (y_assign rfl) ?_
  refine Hd.nil ?_
  refine Hd.slots [] trivial ?_
  refine Hd.toK hK1 ?_
  refine Hd.seq (fun K2 hK2 => ?_)
  refine Hd.region ?_
  refine Hd.callE rfl fk10 (wnew_ct _) (Ent.sep enn) ?_
  intro wb
  refine Hd.yv (y_assign rfl) ?_
  refine Hd.nil ?_
  refine Hd.slots [(1, _)] ⟨rfl, trivial⟩ ?_
  refine Hd.toK hK2 ?_
  refine Hd.seq (fun K3 hK3 => ?_)
  refine Hd.region ?_
  refine Hd.yv (y_move rfl) ?_
  refine Hd.callE rfl fk11 (pair_ct _ wb newA 8 (by decide) (by decide)) (Ent.sep enn) ?_
  intro _
  refine Hd.nil ?_
  refine Hd.slots [(1, _)] ⟨rfl, trivial⟩ ?_
  refine Hd.toK hK3 ?_
  refine Hd.seq (fun K4 hK4 => ?_)
  refine Hd.region ?_
  refine Hd.yv (y_move rfl) ?_
  refine Hd.callE rfl fk12 (bnew_ct _ wb (pairA 8) 0 al_op) (Ent.sep enn) ?_
  intro b
  refine Hd.yv (y_move rfl) ?_
  refine Hd.yv (y_extract rfl rfl) ?_
  refine Hd.yv (y_extract rfl rfl) ?_
  refine Hd.yv (y_assign rfl) ?_
  refine Hd.yv (y_assign rfl) ?_
  refine Hd.nil ?_
  refine Hd.slots [(1, _), (2, _), (3, _)] ⟨rfl, rfl, rfl, trivial⟩ ?_
  refine Hd.toK hK4 ?_
  refine Hd.seq (fun K5 hK5 => ?_)
  refine Hd.region ?_
  refine Hd.yv (y_move rfl) ?_
  refine Hd.callE rfl fk14 (enable_ct _ b wb (newB 0) (tm_new 0) 0 2 (by simp [InK])) (Ent.sep enn) ?_
  intro _
  refine Hd.yv (y_assign rfl) ?_
  refine Hd.nil ?_
  refine Hd.slots [(1, _), (2, _), (3, _), (4, _)] ⟨rfl, rfl, rfl, rfl, trivial⟩ ?_
  refine Hd.toK hK5 ?_
  refine Hd.seq (fun K6 hK6 => ?_)
  refine Hd.region ?_
  refine Hd.yv (y_move rfl) ?_
  refine Hd.callE rfl fk13 (marks_ct _ b wb alX1 2 2 4) (Ent.sep enn) ?_
  intro _
  refine Hd.yv (y_assign rfl) ?_
  refine Hd.nil ?_
  refine Hd.slots [(1, _), (2, _), (3, _), (4, _), (5, _)] ⟨rfl, rfl, rfl, rfl, rfl, trivial⟩ ?_
  refine Hd.toK hK6 ?_
  refine Hd.seq (fun K7 hK7 => ?_)
  refine Hd.region ?_
  refine Hd.yv (y_move rfl) ?_
  refine Hd.bslice (vs := [(0, _), (1, _), (2, _)]) rfl (by first | exact bs8_21 .. | kernel_rfl) (fun b21 => ?_)
  refine Hd.convSS (e := 5) (by kernel_rfl) rfl pkk rfl (by first | decide | (simp [maxLen])) ?_
  refine Hd.callE rfl fk24 (wwrite_ct _ wb (pairA 8) 1 (some ⟨b21, 0, none⟩) 3 3 abc rfl ?hD (by decide) (by decide)) (Ent.sep enn) ?_
  case hD => exact RdS.own (m := 3) (us := [.int .u8 97, .int .u8 98, .int .u8 99]) pkk
  intro _
  refine Hd.nil ?_
  refine Hd.slots [(2, _), (3, _), (4, _), (5, _)] ⟨rfl, rfl, rfl, rfl, trivial⟩ ?_
  refine Hd.toK hK7 ?_
  refine Hd.seq (fun K8 hK8 => ?_)
  refine Hd.region ?_
  refine Hd.yv (y_move rfl) ?_
  refine Hd.callE rfl fk26 (wants_ct _ b wb alX2) (Ent.sep enn) ?_
  intro _
  rw [al_3]
  refine Hd.yv (y_assign rfl) ?_
  refine Hd.nil ?_
  refine Hd.slots [(2, _), (3, _), (4, _), (5, _), (6, _)] ⟨rfl, rfl, rfl, rfl, rfl, trivial⟩ ?_
  refine Hd.toK hK8 ?_
  refine Hd.seq (fun K9 hK9 => ?_)
  refine Hd.region ?_
  refine Hd.yv (y_move rfl) ?_
  refine Hd.callE rfl fk18 (step_ct _ b wb alX2 alW al_k2.tm al_k2.hi 0 2 99 99 (by simp [InK]) (by decide) (by simp [InK])) (Ent.sep enn) ?_
  intro _
  rw [al_4]
  refine Hd.alloc zr49 (fun b7 => ?_)
  refine Hd.storeA (us := [.bool true, .bool false, .int .i64 0, .int .i64 0, .int .i64 3, .int .i64 0]) sz49 rfl rfl rfl (by simp [Value.oneCell']) pkk (by exact rfl) ?_
  refine Hd.nil ?_
  refine Hd.slots [(2, _), (3, _), (4, _), (5, _), (6, _), (7, _)] ⟨rfl, rfl, rfl, rfl, rfl, rfl, trivial⟩ ?_
  refine Hd.toK hK9 ?_
  refine Hd.seq (fun K10 hK10 => ?_)
  refine Hd.region ?_
  refine Hd.yv (y_move rfl) ?_
  first | (refine Hd.yv (y_eqlT rfl rfl) ?_) | (refine Hd.yv (y_eql rfl rfl) ?_)
  refine Hd.yv (y_to (v' := .bool true) (y_move rfl) (by rfl)) ?_
  refine Hd.yg rfl rfl (y_move rfl) ?_
  first | (refine Hd.yg rfl rfl (y_eqlT rfl rfl) ?_) | (refine Hd.yg rfl rfl (y_eql rfl rfl) ?_)
  first | (refine Hd.yv (y_pickT rfl rfl) ?_) | (refine Hd.yv (y_pickF rfl rfl) ?_) | (refine Hd.yv (y_pickb rfl rfl rfl) ?_) | (refine Hd.yv (y_pick rfl rfl rfl) ?_)
  refine Hd.yv (y_move rfl) ?_
  refine Hd.yg rfl rfl (y_move rfl) ?_
  first | (refine Hd.yg rfl rfl (y_eqlT rfl rfl) ?_) | (refine Hd.yg rfl rfl (y_eql rfl rfl) ?_)
  first | (refine Hd.yv (y_pickT rfl rfl) ?_) | (refine Hd.yv (y_pickF rfl rfl) ?_) | (refine Hd.yv (y_pickb rfl rfl rfl) ?_) | (refine Hd.yv (y_pick rfl rfl rfl) ?_)
  refine Hd.yv (y_move rfl) ?_
  refine Hd.yg rfl rfl (y_move rfl) ?_
  first | (refine Hd.yg rfl rfl (y_eqlT rfl rfl) ?_) | (refine Hd.yg rfl rfl (y_eql rfl rfl) ?_)
  first | (refine Hd.yv (y_pickT rfl rfl) ?_) | (refine Hd.yv (y_pickF rfl rfl) ?_) | (refine Hd.yv (y_pickb rfl rfl rfl) ?_) | (refine Hd.yv (y_pick rfl rfl rfl) ?_)
  refine Hd.yv (y_move rfl) ?_
  refine Hd.yg rfl rfl (y_loadn (us := [.bool true, .bool false, .int .i64 0, .int .i64 0, .int .i64 3, .int .i64 0]) ag49 rfl (Rd.pt pkk (fun j v e => by rw [Nat.zero_add]; exact e)) (by exact sz49)) ?_
  refine Hd.yg rfl rfl (y_build (vs := [(0, _), (4, _)]) rfl (by first | exact bd8_44 .. | kernel_rfl)) ?_
  refine Hd.yg rfl rfl (y_eql_agg rfl rfl eqt49 rfl ⟨rfl, rfl⟩) ?_
  first | (refine Hd.yv (y_pickT rfl rfl) ?_) | (refine Hd.yv (y_pickF rfl rfl) ?_) | (refine Hd.yv (y_pickb rfl rfl rfl) ?_) | (refine Hd.yv (y_pick rfl rfl rfl) ?_)
  refine Hd.yv (y_move rfl) ?_
  refine Hd.yg rfl rfl (y_move rfl) ?_
  refine Hd.unguard rfl rfl ?_
  refine Hd.callE rfl fk26 (wants_ct _ b wb alS.x) (Ent.sep enn) ?_
  intro _
  rw [al_5]
  first | (refine Hd.yg rfl rfl (y_eqlT rfl rfl) ?_) | (refine Hd.yg rfl rfl (y_eql rfl rfl) ?_)
  first | (refine Hd.yv (y_pickT rfl rfl) ?_) | (refine Hd.yv (y_pickF rfl rfl) ?_) | (refine Hd.yv (y_pickb rfl rfl rfl) ?_) | (refine Hd.yv (y_pick rfl rfl rfl) ?_)
  refine Hd.yv (y_assign rfl) ?_
  refine Hd.nil ?_
  refine Hd.slots [(0, _)] ⟨rfl, trivial⟩ ?_
  refine Hd.toK hK10 ?_
  refine Hd.ret ?_
  clear hK1 hK2 hK3 hK4 hK5 hK6 hK7 hK8 hK9 hK10
  exact Hd.ret1 rfl () (by first | rfl | (simp only [*]; done) | (simp [*]; done)) (Ent.sep enn)
end Bu
end Go.Proofs.Ytmpemhbfgbochaa
