/-
  Contracts of package change's List where there is none, or where it is the zero one.
-/
import Derived.Test.YtkgkfjhfedjnpaaCh4
namespace Go.Proofs.Ytkgkfjhfedjnpaa
set_option linter.unusedSimpArgs false
set_option linter.unusedVariables false
set_option linter.unnecessarySimpa false
open Go.RX
namespace Cl7
open Cl Cl4
theorem ag3 : agk Try.prog 3 = some false := by kernel_rfl
theorem sz3 : szk Try.prog 3 = some 1 := by kernel_rfl
theorem zr3 : zrk Try.prog 3 = some ([.int .i64 0]) := by kernel_rfl
theorem ty3 : tyr Try.prog 3 = some (1, 8, 1) := by kernel_rfl
theorem ag4 : agk Try.prog 4 = some false := by kernel_rfl
theorem sz4 : szk Try.prog 4 = some 1 := by kernel_rfl
theorem zr4 : zrk Try.prog 4 = some ([.bool false]) := by kernel_rfl
theorem ty4 : tyr Try.prog 4 = some (1, 1, 1) := by kernel_rfl
theorem ag27 : agk Try.prog 27 = some true := by kernel_rfl
theorem sz27 : szk Try.prog 27 = some 3 := by kernel_rfl
theorem zr27 : zrk Try.prog 27 = some ([.int .i64 0, .int .i64 0, .int .i64 0]) := by kernel_rfl
theorem ty27 : tyr Try.prog 27 = some (3, 24, 3) := by kernel_rfl
theorem ag30 : agk Try.prog 30 = some false := by kernel_rfl
theorem sz30 : szk Try.prog 30 = some 1 := by kernel_rfl
theorem zr30 : zrk Try.prog 30 = some ([.slice none 0 0]) := by kernel_rfl
theorem ty30 : tyr Try.prog 30 = some (1, 24, 1) := by kernel_rfl
theorem ag36 : agk Try.prog 36 = some false := by kernel_rfl
theorem sz36 : szk Try.prog 36 = some 1 := by kernel_rfl
theorem zr36 : zrk Try.prog 36 = some ([.pointer none]) := by kernel_rfl
theorem ty36 : tyr Try.prog 36 = some (1, 8, 1) := by kernel_rfl
theorem ag38 : agk Try.prog 38 = some false := by kernel_rfl
theorem sz38 : szk Try.prog 38 = some 1 := by kernel_rfl
theorem zr38 : zrk Try.prog 38 = some ([.int .i64 0]) := by kernel_rfl
theorem ty38 : tyr Try.prog 38 = some (1, 8, 1) := by kernel_rfl
theorem ag42 : agk Try.prog 42 = some false := by kernel_rfl
theorem sz42 : szk Try.prog 42 = some 1 := by kernel_rfl
theorem zr42 : zrk Try.prog 42 = some ([.slice none 0 0]) := by kernel_rfl
theorem ty42 : tyr Try.prog 42 = some (1, 24, 1) := by kernel_rfl
theorem ag58 : agk Try.prog 58 = some true := by kernel_rfl
theorem sz58 : szk Try.prog 58 = some 4 := by kernel_rfl
theorem zr58 : zrk Try.prog 58 = some ([.int .i64 0, .int .i64 0, .int .i64 0, .int .i64 0]) := by kernel_rfl
theorem ty58 : tyr Try.prog 58 = some (4, 32, 4) := by kernel_rfl
theorem ag60 : agk Try.prog 60 = some true := by kernel_rfl
theorem sz60 : szk Try.prog 60 = some 193 := by kernel_rfl
theorem zr60 : zrk Try.prog 60 = some (List.replicate 96 (.int .i64 0) ++ List.replicate 96 (.int .i64 0) ++ [.bool false]) := by kernel_rfl
theorem ty60 : tyr Try.prog 60 = some (193, 1544, 193) := by kernel_rfl
theorem fk12 : fnk Try.prog 12 = true := by kernel_rfl
theorem fk14 : fnk Try.prog 14 = true := by kernel_rfl
theorem fk15 : fnk Try.prog 15 = true := by kernel_rfl
theorem fk17 : fnk Try.prog 17 = true := by kernel_rfl
theorem fk18 : fnk Try.prog 18 = true := by kernel_rfl
theorem fk19 : fnk Try.prog 19 = true := by kernel_rfl
theorem fk20 : fnk Try.prog 20 = true := by kernel_rfl
theorem fk21 : fnk Try.prog 21 = true := by kernel_rfl
theorem fk22 : fnk Try.prog 22 = true := by kernel_rfl
theorem fk23 : fnk Try.prog 23 = true := by kernel_rfl
theorem fk24 : fnk Try.prog 24 = true := by kernel_rfl
theorem fk26 : fnk Try.prog 26 = true := by kernel_rfl
theorem mixed : Try.prog.follows .mixedOrders = true := by kernel_rfl
theorem want_nil (L : List SP) (fd x : Int) : Ct Try.prog 19 #[.pointer none, .int .i64 fd, .int .i64 x] L (fun _ : Unit => .int .i64 1) (fun _ => L) := by
  refine Ct.of (vs := [.pointer none, .int .i64 fd, .int .i64 x]) Try.func19 rfl rfl [(0, .pointer none), (1, .int .i64 fd), (2, .int .i64 x)] ⟨rfl, rfl, rfl, trivial⟩ ?_
  intro E
  show Hd E 25 _ _ _ _
  refine Hd.seq (fun K1 hK1 => ?_)
  refine Hd.region ?_
  refine Hd.yv (y_assign rfl) ?_
  refine Hd.nil ?_
  refine Hd.slots [(0, _), (1, _), (2, _)] ⟨rfl, rfl, rfl, trivial⟩ ?_
  refine Hd.toK hK1 ?_
  refine Hd.seq (fun K2 hK2 => ?_)
  refine Hd.block ?_
  refine Hd.seq (fun K3 hK3 => ?_)
  refine Hd.region ?_
  refine Hd.yv (y_move rfl) ?_
  refine Hd.callE rfl fk34 (none_nil _) (Ent.sep (by repeat (first | with_reducible exact Ent.same | exact Ent.nil | with_reducible exact Ent.left | (apply Ent.pick; focus ((repeat (first | with_reducible exact Pick.here | apply Pick.there | with_reducible apply Pick.right)); done)) | refine Ent.pure (by assumption) ?_ | apply Ent.ownNil | with_reducible apply Ent.right | exact Ent.left | exact Ent.same | refine Ent.skip ?_))) ?_
  intro _
  refine Hd.yv (y_assign rfl) ?_
  refine Hd.nil ?_
  refine Hd.slots [(0, _), (1, _), (2, _), (7, _)] ⟨rfl, rfl, rfl, rfl, trivial⟩ ?_
  refine Hd.toK hK3 ?_
  refine Hd.condT rfl ?_
  refine Hd.seq (fun K4 hK4 => ?_)
  refine Hd.region ?_
  refine Hd.yv (y_assign rfl) ?_
  refine Hd.nil ?_
  refine Hd.slots [(6, _)] ⟨rfl, trivial⟩ ?_
  refine Hd.toK hK4 ?_
  refine Hd.ret ?_
  refine Hd.inBret ?_
  refine Hd.thenRet ?_
  clear hK1 hK2 hK3 hK4
  exact Hd.ret1 rfl () rfl (Ent.sep (by repeat (first | with_reducible exact Ent.same | exact Ent.nil | with_reducible exact Ent.left | (apply Ent.pick; focus ((repeat (first | with_reducible exact Pick.here | apply Pick.there | with_reducible apply Pick.right)); done)) | refine Ent.pure (by assumption) ?_ | apply Ent.ownNil | with_reducible apply Ent.right | exact Ent.left | exact Ent.same | refine Ent.skip ?_)))
theorem want_zero (L : List SP) (b : Nat) (s : LS) (fd x : Int) : Ct Try.prog 19 #[.pointer (some ⟨b, 0, none⟩), .int .i64 fd, .int .i64 x] (CLs b s false :: L) (fun _ : Unit => .int .i64 1) (fun _ => CLs b s false :: L) := by
  refine Ct.of (vs := [.pointer (some ⟨b, 0, none⟩), .int .i64 fd, .int .i64 x]) Try.func19 rfl rfl [(0, .pointer (some ⟨b, 0, none⟩)), (1, .int .i64 fd), (2, .int .i64 x)] ⟨rfl, rfl, rfl, trivial⟩ ?_
  intro E
  show Hd E 25 _ _ _ _
  refine Hd.seq (fun K1 hK1 => ?_)
  refine Hd.region ?_
  refine Hd.yv (y_assign rfl) ?_
  refine Hd.nil ?_
  refine Hd.slots [(0, _), (1, _), (2, _)] ⟨rfl, rfl, rfl, trivial⟩ ?_
  refine Hd.toK hK1 ?_
  refine Hd.seq (fun K2 hK2 => ?_)
  refine Hd.block ?_
  refine Hd.seq (fun K3 hK3 => ?_)
  refine Hd.region ?_
  refine Hd.yv (y_move rfl) ?_
  refine Hd.callE rfl fk34 (none_ct _ b s false) (Ent.sep (by repeat (first | with_reducible exact Ent.same | exact Ent.nil | with_reducible exact Ent.left | (apply Ent.pick; focus ((repeat (first | with_reducible exact Pick.here | apply Pick.there | with_reducible apply Pick.right)); done)) | refine Ent.pure (by assumption) ?_ | apply Ent.ownNil | with_reducible apply Ent.right | exact Ent.left | exact Ent.same | refine Ent.skip ?_))) ?_
  intro _
  refine Hd.yv (y_assign rfl) ?_
  refine Hd.nil ?_
  refine Hd.slots [(0, _), (1, _), (2, _), (7, _)] ⟨rfl, rfl, rfl, rfl, trivial⟩ ?_
  refine Hd.toK hK3 ?_
  refine Hd.condT rfl ?_
  refine Hd.seq (fun K4 hK4 => ?_)
  refine Hd.region ?_
  refine Hd.yv (y_assign rfl) ?_
  refine Hd.nil ?_
  refine Hd.slots [(6, _)] ⟨rfl, trivial⟩ ?_
  refine Hd.toK hK4 ?_
  refine Hd.ret ?_
  refine Hd.inBret ?_
  refine Hd.thenRet ?_
  clear hK1 hK2 hK3 hK4
  exact Hd.ret1 rfl () rfl (Ent.sep (by repeat (first | with_reducible exact Ent.same | exact Ent.nil | with_reducible exact Ent.left | (apply Ent.pick; focus ((repeat (first | with_reducible exact Pick.here | apply Pick.there | with_reducible apply Pick.right)); done)) | refine Ent.pure (by assumption) ?_ | apply Ent.ownNil | with_reducible apply Ent.right | exact Ent.left | exact Ent.same | refine Ent.skip ?_)))
theorem held_zero (L : List SP) (b : Nat) (s : LS) (fd : Int) : Ct Try.prog 23 #[.pointer (some ⟨b, 0, none⟩), .int .i64 fd] (CLs b s false :: L) (fun _ : Unit => .int .i64 0) (fun _ => CLs b s false :: L) := by
  refine Ct.of (vs := [.pointer (some ⟨b, 0, none⟩), .int .i64 fd]) Try.func23 rfl rfl [(0, .pointer (some ⟨b, 0, none⟩)), (1, .int .i64 fd)] ⟨rfl, rfl, trivial⟩ ?_
  intro E
  show Hd E 18 _ _ _ _
  refine Hd.seq (fun K1 hK1 => ?_)
  refine Hd.region ?_
  refine Hd.yv (y_assign rfl) ?_
  refine Hd.nil ?_
  refine Hd.slots [(0, _), (1, _)] ⟨rfl, rfl, trivial⟩ ?_
  refine Hd.toK hK1 ?_
  refine Hd.seq (fun K2 hK2 => ?_)
  refine Hd.seq (fun K3 hK3 => ?_)
  refine Hd.region ?_
  refine Hd.yv (y_move rfl) ?_
  refine Hd.callE rfl fk34 (none_ct _ b s false) (Ent.sep (by repeat (first | with_reducible exact Ent.same | exact Ent.nil | with_reducible exact Ent.left | (apply Ent.pick; focus ((repeat (first | with_reducible exact Pick.here | apply Pick.there | with_reducible apply Pick.right)); done)) | refine Ent.pure (by assumption) ?_ | apply Ent.ownNil | with_reducible apply Ent.right | exact Ent.left | exact Ent.same | refine Ent.skip ?_))) ?_
  intro _
  refine Hd.yv (y_move rfl) ?_
  refine Hd.ng rfl rfl rfl ?_
  refine Hd.ng rfl rfl rfl ?_
  refine Hd.ng rfl rfl rfl ?_
  first | (refine Hd.yv (y_pickT rfl rfl) ?_) | (refine Hd.yv (y_pickF rfl rfl) ?_) | (refine Hd.yv (y_pickb rfl rfl rfl) ?_) | (refine Hd.yv (y_pick rfl rfl rfl) ?_)
  refine Hd.nil ?_
  refine Hd.slots [(0, _), (1, _), (11, _)] ⟨rfl, rfl, rfl, trivial⟩ ?_
  refine Hd.toK hK3 ?_
  refine Hd.condT rfl ?_
  refine Hd.seq (fun K4 hK4 => ?_)
  refine Hd.region ?_
  refine Hd.yv (y_assign rfl) ?_
  refine Hd.nil ?_
  refine Hd.slots [(4, _)] ⟨rfl, trivial⟩ ?_
  refine Hd.toK hK4 ?_
  refine Hd.ret ?_
  refine Hd.thenRet ?_
  clear hK1 hK2 hK3 hK4
  exact Hd.ret1 rfl () rfl (Ent.sep (by repeat (first | with_reducible exact Ent.same | exact Ent.nil | with_reducible exact Ent.left | (apply Ent.pick; focus ((repeat (first | with_reducible exact Pick.here | apply Pick.there | with_reducible apply Pick.right)); done)) | refine Ent.pure (by assumption) ?_ | apply Ent.ownNil | with_reducible apply Ent.right | exact Ent.left | exact Ent.same | refine Ent.skip ?_)))
theorem wants_nil (L : List SP) (fd : Int) : Ct Try.prog 24 #[.pointer none, .int .i64 fd] L (fun _ : Unit => .int .i64 0) (fun _ => L) := by
  refine Ct.of (vs := [.pointer none, .int .i64 fd]) Try.func24 rfl rfl [(0, .pointer none), (1, .int .i64 fd)] ⟨rfl, rfl, trivial⟩ ?_
  intro E
  show Hd E 18 _ _ _ _
  refine Hd.seq (fun K1 hK1 => ?_)
  refine Hd.region ?_
  refine Hd.yv (y_assign rfl) ?_
  refine Hd.nil ?_
  refine Hd.slots [(0, _), (1, _)] ⟨rfl, rfl, trivial⟩ ?_
  refine Hd.toK hK1 ?_
  refine Hd.seq (fun K2 hK2 => ?_)
  refine Hd.seq (fun K3 hK3 => ?_)
  refine Hd.region ?_
  refine Hd.yv (y_move rfl) ?_
  refine Hd.callE rfl fk34 (none_nil _) (Ent.sep (by repeat (first | with_reducible exact Ent.same | exact Ent.nil | with_reducible exact Ent.left | (apply Ent.pick; focus ((repeat (first | with_reducible exact Pick.here | apply Pick.there | with_reducible apply Pick.right)); done)) | refine Ent.pure (by assumption) ?_ | apply Ent.ownNil | with_reducible apply Ent.right | exact Ent.left | exact Ent.same | refine Ent.skip ?_))) ?_
  intro _
  refine Hd.yv (y_move rfl) ?_
  refine Hd.ng rfl rfl rfl ?_
  refine Hd.ng rfl rfl rfl ?_
  refine Hd.ng rfl rfl rfl ?_
  first | (refine Hd.yv (y_pickT rfl rfl) ?_) | (refine Hd.yv (y_pickF rfl rfl) ?_) | (refine Hd.yv (y_pickb rfl rfl rfl) ?_) | (refine Hd.yv (y_pick rfl rfl rfl) ?_)
  refine Hd.nil ?_
  refine Hd.slots [(0, _), (1, _), (11, _)] ⟨rfl, rfl, rfl, trivial⟩ ?_
  refine Hd.toK hK3 ?_
  refine Hd.condT rfl ?_
  refine Hd.seq (fun K4 hK4 => ?_)
  refine Hd.region ?_
  refine Hd.yv (y_assign rfl) ?_
  refine Hd.nil ?_
  refine Hd.slots [(4, _)] ⟨rfl, trivial⟩ ?_
  refine Hd.toK hK4 ?_
  refine Hd.ret ?_
  refine Hd.thenRet ?_
  clear hK1 hK2 hK3 hK4
  exact Hd.ret1 rfl () rfl (Ent.sep (by repeat (first | with_reducible exact Ent.same | exact Ent.nil | with_reducible exact Ent.left | (apply Ent.pick; focus ((repeat (first | with_reducible exact Pick.here | apply Pick.there | with_reducible apply Pick.right)); done)) | refine Ent.pure (by assumption) ?_ | apply Ent.ownNil | with_reducible apply Ent.right | exact Ent.left | exact Ent.same | refine Ent.skip ?_)))
theorem forget_nil (L : List SP) (fd : Int) : Ct Try.prog 26 #[.pointer none, .int .i64 fd] L (fun _ : Unit => .tuple #[]) (fun _ => L) := by
  refine Ct.of (vs := [.pointer none, .int .i64 fd]) Try.func26 rfl rfl [(0, .pointer none), (1, .int .i64 fd)] ⟨rfl, rfl, trivial⟩ ?_
  intro E
  show Hd E 21 _ _ _ _
  refine Hd.seq (fun K1 hK1 => ?_)
  refine Hd.region ?_
  refine Hd.yv (y_move rfl) ?_
  refine Hd.callE rfl fk34 (none_nil _) (Ent.sep (by repeat (first | with_reducible exact Ent.same | exact Ent.nil | with_reducible exact Ent.left | (apply Ent.pick; focus ((repeat (first | with_reducible exact Pick.here | apply Pick.there | with_reducible apply Pick.right)); done)) | refine Ent.pure (by assumption) ?_ | apply Ent.ownNil | with_reducible apply Ent.right | exact Ent.left | exact Ent.same | refine Ent.skip ?_))) ?_
  intro _
  refine Hd.yv (y_not rfl) ?_
  refine Hd.yv (y_move rfl) ?_
  refine Hd.ng rfl rfl rfl ?_
  refine Hd.ng rfl rfl rfl ?_
  first | (refine Hd.yv (y_pickT rfl rfl) ?_) | (refine Hd.yv (y_pickF rfl rfl) ?_) | (refine Hd.yv (y_pickb rfl rfl rfl) ?_) | (refine Hd.yv (y_pick rfl rfl rfl) ?_)
  refine Hd.nil ?_
  refine Hd.slots [(0, _), (1, _), (10, _)] ⟨rfl, rfl, rfl, trivial⟩ ?_
  refine Hd.toK hK1 ?_
  refine Hd.condF rfl ?_
  refine Hd.skip ?_
  clear hK1
  exact Hd.end0 rfl () rfl (Ent.sep (by repeat (first | with_reducible exact Ent.same | exact Ent.nil | with_reducible exact Ent.left | (apply Ent.pick; focus ((repeat (first | with_reducible exact Pick.here | apply Pick.there | with_reducible apply Pick.right)); done)) | refine Ent.pure (by assumption) ?_ | apply Ent.ownNil | with_reducible apply Ent.right | exact Ent.left | exact Ent.same | refine Ent.skip ?_)))
theorem changesN_it (L : List SP) (bc : Nat) : It Try.prog 37 [.pointer (some ⟨bc, 0, none⟩)] encY (fun xs => xs = []) (fun xs => xs = [])
    (pt bc [.pointer none] 36 :: L) (pt bc [.pointer none] 36 :: L) := by
  intro l J X hy
  refine Ct.of (vs := [.func (.yield l) #[] #[], .pointer (some ⟨bc, 0, none⟩)]) Try.func37 rfl rfl [(0, .func (.yield l) #[] #[]), (1, .pointer (some ⟨bc, 0, none⟩))] ⟨rfl, rfl, trivial⟩ ?_
  intro E
  show Hd E 36 _ _ _ _
  refine Hd.heap (pt bc [.pointer none] 36 :: (J [] ++ L)) (fun k h => Ent.sep .same k (sep_one h)) ?_
  refine Hd.scope ?_
  refine Hd.seq (fun K1 hK1 => ?_)
  refine Hd.seq (fun K2 hK2 => ?_)
  refine Hd.region ?_
  first | (refine Hd.yv (y_load1 ag36 rfl (Rd.pt1 (by repeat (first | with_reducible exact Pick.here | apply Pick.there | with_reducible apply Pick.right)) (by (first | rfl)))) ?_) | (refine Hd.yv (y_load1 ag36 rfl (Rd.seg1 (by repeat (first | with_reducible exact Pick.here | apply Pick.there | with_reducible apply Pick.right)) (by (first | rfl)))) ?_) | (refine Hd.yv (y_loadR1 ag36 rfl (by (first | exact RdS.own (by repeat (first | with_reducible exact Pick.here | apply Pick.there | with_reducible apply Pick.right)))) (by (first | rfl))) ?_)
  refine Hd.callE rfl fk34 (none_nil _) (Ent.sep (by repeat (first | with_reducible exact Ent.same | exact Ent.nil | with_reducible exact Ent.left | (apply Ent.pick; focus ((repeat (first | with_reducible exact Pick.here | apply Pick.there | with_reducible apply Pick.right)); done)) | refine Ent.pure (by assumption) ?_ | apply Ent.ownNil | with_reducible apply Ent.right | exact Ent.left | exact Ent.same | refine Ent.skip ?_))) ?_
  intro _
  refine Hd.nil ?_
  refine Hd.slots [(0, _), (1, _), (6, _)] ⟨rfl, rfl, rfl, trivial⟩ ?_
  refine Hd.toK hK2 ?_
  refine Hd.condT rfl ?_
  refine Hd.ret ?_
  refine Hd.thenRet ?_
  refine Hd.scRet ?_
  clear hK1 hK2
  exact Hd.ret0 rfl ([], true) rfl (fun k' h => Ent.sep (.pure rfl .same) k' (sep_one' h))
theorem changes_nil (L : List SP) : Ct Try.prog 22 #[.pointer none] L (fun i : Option Addr × Nat => .slice i.1 0 i.2) (fun _ => L) := by
  refine Ct.ofM (vs := [.pointer none]) Try.func22 rfl rfl [(0, .pointer none)] ⟨rfl, trivial⟩ ?_
  intro E
  show Hd E 13 _ _ _ _
  refine Hd.seq (fun K1 hK1 => ?_)
  refine Hd.region ?_
  refine Hd.yv (y_assign rfl) ?_
  refine Hd.nil ?_
  refine Hd.slots [(0, _)] ⟨rfl, trivial⟩ ?_
  refine Hd.toK hK1 ?_
  refine Hd.seq (fun K2 hK2 => ?_)
  refine Hd.region ?_
  refine Hd.alloc zr42 (fun b3 => ?_)
  refine Hd.nil ?_
  refine Hd.slots [(0, _), (3, _)] ⟨rfl, rfl, trivial⟩ ?_
  refine Hd.toK hK2 ?_
  refine Hd.seq (fun K3 hK3 => ?_)
  refine Hd.seq (fun K4 hK4 => ?_)
  refine Hd.region ?_
  refine Hd.yv (y_move rfl) ?_
  refine Hd.callE rfl fk36 (boxchg_ct _ _) (Ent.sep (by repeat (first | with_reducible exact Ent.same | exact Ent.nil | with_reducible exact Ent.left | (apply Ent.pick; focus ((repeat (first | with_reducible exact Pick.here | apply Pick.there | with_reducible apply Pick.right)); done)) | refine Ent.pure (by assumption) ?_ | apply Ent.ownNil | with_reducible apply Ent.right | exact Ent.left | exact Ent.same | refine Ent.skip ?_))) ?_
  intro bc
  refine Hd.nil ?_
  refine Hd.slots [(3, _), (6, _)] ⟨rfl, rfl, trivial⟩ ?_
  refine Hd.toK hK4 ?_
  refine Hd.block ?_
  refine Hd.rangeF (enc := encY) (S := fun xs => xs = []) (Sp := fun xs => xs = [])
    (fun pre => [ex fun i : Option Addr × Nat => [pt b3 [.slice i.1 0 i.2] 42]]) (fun _ _ => [pu False])
    rfl (by kernel_rfl) (fun _ => rfl) rfl (changesN_it L bc) (by simp only [List.cons_append, List.nil_append]; refine Ent.sep (.ex (none, 0) ?_); simp only [List.cons_append, List.nil_append]; exact (by repeat (first | with_reducible exact Ent.same | exact Ent.nil | with_reducible exact Ent.left | (apply Ent.pick; focus ((repeat (first | with_reducible exact Pick.here | apply Pick.there | with_reducible apply Pick.right)); done)) | refine Ent.pure (by assumption) ?_ | apply Ent.ownNil | with_reducible apply Ent.right | exact Ent.left | exact Ent.same | refine Ent.skip ?_))) ?_ ?_ ?_
  ·
    intro E l R pre c N hR hG
    exact absurd hG (by simp)
  ·
    intro r0 xs hxs
    simp only [List.cons_append, List.nil_append]
    refine Hd.inB ?_
    refine Hd.toK hK3 ?_
    refine Hd.seq (fun K5 hK5 => ?_)
    refine Hd.exs (by repeat (first | with_reducible exact Pick.here | apply Pick.there | with_reducible apply Pick.right)) ?_
    rintro ⟨ad, cap⟩
    simp only [List.cons_append, List.nil_append]
    refine Hd.region ?_
    first | (refine Hd.yv (y_load1 ag42 rfl (Rd.pt1 (by repeat (first | with_reducible exact Pick.here | apply Pick.there | with_reducible apply Pick.right)) (by (first | rfl)))) ?_) | (refine Hd.yv (y_load1 ag42 rfl (Rd.seg1 (by repeat (first | with_reducible exact Pick.here | apply Pick.there | with_reducible apply Pick.right)) (by (first | rfl)))) ?_) | (refine Hd.yv (y_loadR1 ag42 rfl (by (first | exact RdS.own (by repeat (first | with_reducible exact Pick.here | apply Pick.there | with_reducible apply Pick.right)))) (by (first | rfl))) ?_)
    refine Hd.yv (y_assign rfl) ?_
    refine Hd.nil ?_
    refine Hd.slots [(2, _)] ⟨rfl, trivial⟩ ?_
    refine Hd.toK hK5 ?_
    refine Hd.ret ?_
    clear hK1 hK2 hK3 hK4 hK5
    exact Hd.retM (fun a fr => Lv.mark (by repeat (first | with_reducible exact Pick.here | apply Pick.there | with_reducible apply Pick.right)) (Lv.end1 fr rfl (ad, cap) rfl (Ent.sep (by repeat (first | with_reducible exact Ent.same | exact Ent.nil | with_reducible exact Ent.left | (apply Ent.pick; focus ((repeat (first | with_reducible exact Pick.here | apply Pick.there | with_reducible apply Pick.right)); done)) | refine Ent.pure (by assumption) ?_ | apply Ent.ownNil | with_reducible apply Ent.right | exact Ent.left | exact Ent.same | refine Ent.skip ?_)))))
  ·
    rintro r0_0 (_ | id0) pre0 hG0
    ·
      exact Hd.absurd (by first | exact id | simp)
    ·
      exact Hd.absurd (by first | exact id | simp)
theorem changesZ_it (L : List SP) (b : Nat) (s : LS) (bc : Nat) : It Try.prog 37 [.pointer (some ⟨bc, 0, none⟩)] encY (fun xs => xs = []) (fun xs => xs = [])
    (pt bc [.pointer (some ⟨b, 0, none⟩)] 36 :: CLs b s false :: L) (pt bc [.pointer (some ⟨b, 0, none⟩)] 36 :: CLs b s false :: L) := by
  intro l J X hy
  refine Ct.of (vs := [.func (.yield l) #[] #[], .pointer (some ⟨bc, 0, none⟩)]) Try.func37 rfl rfl [(0, .func (.yield l) #[] #[]), (1, .pointer (some ⟨bc, 0, none⟩))] ⟨rfl, rfl, trivial⟩ ?_
  intro E
  show Hd E 36 _ _ _ _
  refine Hd.heap (pt bc [.pointer (some ⟨b, 0, none⟩)] 36 :: CLs b s false :: (J [] ++ L)) (fun k h => sep_two h) ?_
  refine Hd.scope ?_
  refine Hd.seq (fun K1 hK1 => ?_)
  refine Hd.seq (fun K2 hK2 => ?_)
  refine Hd.region ?_
  first | (refine Hd.yv (y_load1 ag36 rfl (Rd.pt1 (by repeat (first | with_reducible exact Pick.here | apply Pick.there | with_reducible apply Pick.right)) (by (first | rfl)))) ?_) | (refine Hd.yv (y_load1 ag36 rfl (Rd.seg1 (by repeat (first | with_reducible exact Pick.here | apply Pick.there | with_reducible apply Pick.right)) (by (first | rfl)))) ?_) | (refine Hd.yv (y_loadR1 ag36 rfl (by (first | exact RdS.own (by repeat (first | with_reducible exact Pick.here | apply Pick.there | with_reducible apply Pick.right)))) (by (first | rfl))) ?_)
  refine Hd.callE rfl fk34 (none_ct _ b s false) (Ent.sep (by repeat (first | with_reducible exact Ent.same | exact Ent.nil | with_reducible exact Ent.left | (apply Ent.pick; focus ((repeat (first | with_reducible exact Pick.here | apply Pick.there | with_reducible apply Pick.right)); done)) | refine Ent.pure (by assumption) ?_ | apply Ent.ownNil | with_reducible apply Ent.right | exact Ent.left | exact Ent.same | refine Ent.skip ?_))) ?_
  intro _
  refine Hd.nil ?_
  refine Hd.slots [(0, _), (1, _), (6, _)] ⟨rfl, rfl, rfl, trivial⟩ ?_
  refine Hd.toK hK2 ?_
  refine Hd.condT rfl ?_
  refine Hd.ret ?_
  refine Hd.thenRet ?_
  refine Hd.scRet ?_
  clear hK1 hK2
  exact Hd.ret0 rfl ([], true) rfl (fun k' h => Ent.sep (.pure rfl .same) k' (sep_two' (Ent.sep (by repeat (first | with_reducible exact Ent.same | exact Ent.nil | with_reducible exact Ent.left | (apply Ent.pick; focus ((repeat (first | with_reducible exact Pick.here | apply Pick.there | with_reducible apply Pick.right)); done)) | refine Ent.pure (by assumption) ?_ | apply Ent.ownNil | with_reducible apply Ent.right | exact Ent.left | exact Ent.same | refine Ent.skip ?_)) k' h)))
theorem changes_zero (L : List SP) (b : Nat) (s : LS) : Ct Try.prog 22 #[.pointer (some ⟨b, 0, none⟩)] (CLs b s false :: L) (fun i : Option Addr × Nat => .slice i.1 0 i.2) (fun _ => CLs b s false :: L) := by
  refine Ct.ofM (vs := [.pointer (some ⟨b, 0, none⟩)]) Try.func22 rfl rfl [(0, .pointer (some ⟨b, 0, none⟩))] ⟨rfl, trivial⟩ ?_
  intro E
  show Hd E 13 _ _ _ _
  refine Hd.seq (fun K1 hK1 => ?_)
  refine Hd.region ?_
  refine Hd.yv (y_assign rfl) ?_
  refine Hd.nil ?_
  refine Hd.slots [(0, _)] ⟨rfl, trivial⟩ ?_
  refine Hd.toK hK1 ?_
  refine Hd.seq (fun K2 hK2 => ?_)
  refine Hd.region ?_
  refine Hd.alloc zr42 (fun b3 => ?_)
  refine Hd.nil ?_
  refine Hd.slots [(0, _), (3, _)] ⟨rfl, rfl, trivial⟩ ?_
  refine Hd.toK hK2 ?_
  refine Hd.seq (fun K3 hK3 => ?_)
  refine Hd.seq (fun K4 hK4 => ?_)
  refine Hd.region ?_
  refine Hd.yv (y_move rfl) ?_
  refine Hd.callE rfl fk36 (boxchg_ct _ _) (Ent.sep (by repeat (first | with_reducible exact Ent.same | exact Ent.nil | with_reducible exact Ent.left | (apply Ent.pick; focus ((repeat (first | with_reducible exact Pick.here | apply Pick.there | with_reducible apply Pick.right)); done)) | refine Ent.pure (by assumption) ?_ | apply Ent.ownNil | with_reducible apply Ent.right | exact Ent.left | exact Ent.same | refine Ent.skip ?_))) ?_
  intro bc
  refine Hd.nil ?_
  refine Hd.slots [(3, _), (6, _)] ⟨rfl, rfl, trivial⟩ ?_
  refine Hd.toK hK4 ?_
  refine Hd.block ?_
  refine Hd.rangeF (enc := encY) (S := fun xs => xs = []) (Sp := fun xs => xs = [])
    (fun pre => [ex fun i : Option Addr × Nat => [pt b3 [.slice i.1 0 i.2] 42]]) (fun _ _ => [pu False])
    rfl (by kernel_rfl) (fun _ => rfl) rfl (changesZ_it L b s bc) (by simp only [List.cons_append, List.nil_append]; refine Ent.sep (.ex (none, 0) ?_); simp only [List.cons_append, List.nil_append]; exact (by repeat (first | with_reducible exact Ent.same | exact Ent.nil | with_reducible exact Ent.left | (apply Ent.pick; focus ((repeat (first | with_reducible exact Pick.here | apply Pick.there | with_reducible apply Pick.right)); done)) | refine Ent.pure (by assumption) ?_ | apply Ent.ownNil | with_reducible apply Ent.right | exact Ent.left | exact Ent.same | refine Ent.skip ?_))) ?_ ?_ ?_
  ·
    intro E l R pre c N hR hG
    exact absurd hG (by simp)
  ·
    intro r0 xs hxs
    simp only [List.cons_append, List.nil_append]
    refine Hd.inB ?_
    refine Hd.toK hK3 ?_
    refine Hd.seq (fun K5 hK5 => ?_)
    refine Hd.exs (by repeat (first | with_reducible exact Pick.here | apply Pick.there | with_reducible apply Pick.right)) ?_
    rintro ⟨ad, cap⟩
    simp only [List.cons_append, List.nil_append]
    refine Hd.region ?_
    first | (refine Hd.yv (y_load1 ag42 rfl (Rd.pt1 (by repeat (first | with_reducible exact Pick.here | apply Pick.there | with_reducible apply Pick.right)) (by (first | rfl)))) ?_) | (refine Hd.yv (y_load1 ag42 rfl (Rd.seg1 (by repeat (first | with_reducible exact Pick.here | apply Pick.there | with_reducible apply Pick.right)) (by (first | rfl)))) ?_) | (refine Hd.yv (y_loadR1 ag42 rfl (by (first | exact RdS.own (by repeat (first | with_reducible exact Pick.here | apply Pick.there | with_reducible apply Pick.right)))) (by (first | rfl))) ?_)
    refine Hd.yv (y_assign rfl) ?_
    refine Hd.nil ?_
    refine Hd.slots [(2, _)] ⟨rfl, trivial⟩ ?_
    refine Hd.toK hK5 ?_
    refine Hd.ret ?_
    clear hK1 hK2 hK3 hK4 hK5
    exact Hd.retM (fun a fr => Lv.mark (by repeat (first | with_reducible exact Pick.here | apply Pick.there | with_reducible apply Pick.right)) (Lv.end1 fr rfl (ad, cap) rfl (Ent.sep (by repeat (first | with_reducible exact Ent.same | exact Ent.nil | with_reducible exact Ent.left | (apply Ent.pick; focus ((repeat (first | with_reducible exact Pick.here | apply Pick.there | with_reducible apply Pick.right)); done)) | refine Ent.pure (by assumption) ?_ | apply Ent.ownNil | with_reducible apply Ent.right | exact Ent.left | exact Ent.same | refine Ent.skip ?_)))))
  ·
    rintro r0_0 (_ | id0) pre0 hG0
    ·
      exact Hd.absurd (by first | exact id | simp)
    ·
      exact Hd.absurd (by first | exact id | simp)
theorem flush_zero (L : List SP) (b : Nat) (s : LS) : Ct Try.prog 20 #[.pointer (some ⟨b, 0, none⟩)] (CLs b s false :: L) (fun i : Option Addr × Nat => .slice i.1 0 i.2) (fun _ => CLs b s false :: L) := by
  refine Ct.of (vs := [.pointer (some ⟨b, 0, none⟩)]) Try.func20 rfl rfl [(0, .pointer (some ⟨b, 0, none⟩))] ⟨rfl, trivial⟩ ?_
  intro E
  show Hd E 17 _ _ _ _
  refine Hd.seq (fun K1 hK1 => ?_)
  refine Hd.region ?_
  refine Hd.yv (y_assign rfl) ?_
  refine Hd.nil ?_
  refine Hd.slots [(0, _)] ⟨rfl, trivial⟩ ?_
  refine Hd.toK hK1 ?_
  refine Hd.seq (fun K2 hK2 => ?_)
  refine Hd.region ?_
  refine Hd.yv (y_move rfl) ?_
  refine Hd.callE rfl fk22 (changes_zero _ b s) (Ent.sep (by repeat (first | with_reducible exact Ent.same | exact Ent.nil | with_reducible exact Ent.left | (apply Ent.pick; focus ((repeat (first | with_reducible exact Pick.here | apply Pick.there | with_reducible apply Pick.right)); done)) | refine Ent.pure (by assumption) ?_ | apply Ent.ownNil | with_reducible apply Ent.right | exact Ent.left | exact Ent.same | refine Ent.skip ?_))) ?_
  rintro ⟨ad, cap⟩
  refine Hd.yv (y_assign rfl) ?_
  refine Hd.nil ?_
  refine Hd.slots [(0, _), (3, _)] ⟨rfl, rfl, trivial⟩ ?_
  refine Hd.toK hK2 ?_
  refine Hd.seq (fun K3 hK3 => ?_)
  refine Hd.seq (fun K4 hK4 => ?_)
  refine Hd.region ?_
  refine Hd.yv (y_move rfl) ?_
  refine Hd.callE rfl fk34 (none_ct _ b s false) (Ent.sep (by repeat (first | with_reducible exact Ent.same | exact Ent.nil | with_reducible exact Ent.left | (apply Ent.pick; focus ((repeat (first | with_reducible exact Pick.here | apply Pick.there | with_reducible apply Pick.right)); done)) | refine Ent.pure (by assumption) ?_ | apply Ent.ownNil | with_reducible apply Ent.right | exact Ent.left | exact Ent.same | refine Ent.skip ?_))) ?_
  intro _
  refine Hd.yv (y_not rfl) ?_
  refine Hd.nil ?_
  refine Hd.slots [(0, _), (3, _), (8, _)] ⟨rfl, rfl, rfl, trivial⟩ ?_
  refine Hd.toK hK4 ?_
  refine Hd.condF rfl ?_
  refine Hd.skip ?_
  refine Hd.toK hK3 ?_
  refine Hd.seq (fun K5 hK5 => ?_)
  refine Hd.region ?_
  refine Hd.yv (y_move rfl) ?_
  refine Hd.yv (y_assign rfl) ?_
  refine Hd.nil ?_
  refine Hd.slots [(2, _)] ⟨rfl, trivial⟩ ?_
  refine Hd.toK hK5 ?_
  refine Hd.ret ?_
  clear hK1 hK2 hK3 hK4 hK5
  exact Hd.ret1 rfl (ad, cap) rfl (Ent.sep (by repeat (first | with_reducible exact Ent.same | exact Ent.nil | with_reducible exact Ent.left | (apply Ent.pick; focus ((repeat (first | with_reducible exact Pick.here | apply Pick.there | with_reducible apply Pick.right)); done)) | refine Ent.pure (by assumption) ?_ | apply Ent.ownNil | with_reducible apply Ent.right | exact Ent.left | exact Ent.same | refine Ent.skip ?_)))
theorem bd9_42  : Try.prog.built 27 [(0, .int .i64 1), (1, .int .i64 36), (2, .int .i64 2)] = some #[.int .i64 1, .int .i64 36, .int .i64 2] := by kernel_rfl
theorem bs9_43 (x1 : Int) (x2 : Int) (x3 : Int) : bltS Try.prog 42 1 [(0, .agg #[.int .i64 x1, .int .i64 x2, .int .i64 x3])] = some (27, [.int .i64 x1, .int .i64 x2, .int .i64 x3]) := by kernel_rfl
theorem bd9_67  : Try.prog.built 58 [(0, .int .i64 1), (1, .int .i64 1), (2, .int .i64 1)] = some #[.int .i64 1, .int .i64 1, .int .i64 1, .int .i64 0] := by kernel_rfl
theorem bd9_68  : Try.prog.built 58 [(0, .int .i64 1), (1, .int .i64 2), (2, .int .i64 2)] = some #[.int .i64 1, .int .i64 2, .int .i64 2, .int .i64 0] := by kernel_rfl
theorem bs9_69 (x4 : Int) (x5 : Int) (x6 : Int) (x7 : Int) (x8 : Int) (x9 : Int) (x10 : Int) (x11 : Int) : bltS Try.prog 30 2 [(0, .agg #[.int .i64 x4, .int .i64 x5, .int .i64 x6, .int .i64 x7]), (1, .agg #[.int .i64 x8, .int .i64 x9, .int .i64 x10, .int .i64 x11])] = some (58, [.int .i64 x4, .int .i64 x5, .int .i64 x6, .int .i64 x7, .int .i64 x8, .int .i64 x9, .int .i64 x10, .int .i64 x11]) := by kernel_rfl
def n1 : LS := LS.zero.want 1 36
def n2 : LS := n1.flush.want 1 2
def n3 : LS := (((n2.want 1 32).want (-1) 0).want 96 0).want 1 8
def n4 : LS := (n3.forget 1).forget (-1)
theorem n_e1 : wantE 1 2 = 0 := by decide
theorem n_c1 : n1.chs 96 = [(1, 0, 36)] := by decide +kernel
theorem n_c2 : n2.chs 96 = [(1, 36, 2)] := by decide +kernel
theorem n_c3 : n4.chs 96 = [] := by decide +kernel
theorem n_h : n4.held 1 = 0 := by decide +kernel
theorem n_e2 : wantE 1 32 = 2 ∧ wantE (-1) 0 = 2 ∧ wantE 96 0 = 2 ∧ wantE 1 8 = 2 := by decide
end Cl7
end Go.Proofs.Ytkgkfjhfedjnpaa
