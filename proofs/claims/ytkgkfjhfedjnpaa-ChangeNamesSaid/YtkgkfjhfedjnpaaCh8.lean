/-
  That the law ChangeNames answers true.
-/
import Derived.Test.YtkgkfjhfedjnpaaCh7
import Derived.Test.YtkgkfjhfedjnpaaFx
namespace Go.Proofs.Ytkgkfjhfedjnpaa
set_option linter.unusedSimpArgs false
set_option linter.unusedVariables false
set_option linter.unnecessarySimpa false
open Go.RX
namespace Cl8
open Fx
theorem e_op : opOf 36 2 = 2 := by decide
theorem e_ev : evs (hasB 2 2) (hasB 2 4) (hasB 2 32) = 1 := by decide
theorem e_kq : kqs 1 36 2 2 = [(1, 1, 1, 0), (1, 2, 2, 0)] := by decide
theorem names_ct (L : List SP) : Ct Try.prog 9 #[] L (fun _ : Unit => .bool true) (fun _ => L) := by
  refine Ct.of (vs := []) Try.func9 rfl rfl [] trivial ?_
  intro E
  show Hd E 148 _ _ _ _
  refine Hd.seq (fun K1 hK1 => ?_)
  refine Hd.region ?_
  refine Hd.yv (y_assign rfl) ?_
  refine Hd.nil ?_
  refine Hd.slots [] trivial ?_
  refine Hd.toK hK1 ?_
  refine Hd.seq (fun K2 hK2 => ?_)
  refine Hd.region ?_
  refine Hd.callE rfl fk18 (Cl.new_ct _) (Ent.sep (by repeat (first | with_reducible exact Ent.same | exact Ent.nil | with_reducible exact Ent.left | (apply Ent.pick; focus ((repeat (first | with_reducible exact Pick.here | apply Pick.there | with_reducible apply Pick.right)); done)) | refine Ent.pure (by assumption) ?_ | apply Ent.ownNil | with_reducible apply Ent.right | exact Ent.left | exact Ent.same | refine Ent.skip ?_))) ?_
  intro b
  refine Hd.yv (y_assign rfl) ?_
  refine Hd.nil ?_
  refine Hd.slots [(1, _)] ⟨rfl, trivial⟩ ?_
  refine Hd.toK hK2 ?_
  refine Hd.seq (fun K3 hK3 => ?_)
  refine Hd.region ?_
  refine Hd.yv (y_move rfl) ?_
  refine Hd.callE rfl fk19 (Cl.want_ct _ b Cl.LS.zero 1 36) (Ent.sep (by repeat (first | with_reducible exact Ent.same | exact Ent.nil | with_reducible exact Ent.left | (apply Ent.pick; focus ((repeat (first | with_reducible exact Pick.here | apply Pick.there | with_reducible apply Pick.right)); done)) | refine Ent.pure (by assumption) ?_ | apply Ent.ownNil | with_reducible apply Ent.right | exact Ent.left | exact Ent.same | refine Ent.skip ?_))) ?_
  intro _
  refine Hd.nil ?_
  refine Hd.slots [(1, _)] ⟨rfl, trivial⟩ ?_
  refine Hd.toK hK3 ?_
  refine Hd.seq (fun K4 hK4 => ?_)
  refine Hd.region ?_
  refine Hd.yv (y_move rfl) ?_
  refine Hd.callE rfl fk20 (Cl.flush_ct _ b Cl7.n1) (Ent.sep (by repeat (first | with_reducible exact Ent.same | exact Ent.nil | with_reducible exact Ent.left | (apply Ent.pick; focus ((repeat (first | with_reducible exact Pick.here | apply Pick.there | with_reducible apply Pick.right)); done)) | refine Ent.pure (by assumption) ?_ | apply Ent.ownNil | with_reducible apply Ent.right | exact Ent.left | exact Ent.same | refine Ent.skip ?_))) ?_
  rintro ⟨a1, c1⟩
  dsimp only
  rw [Cl7.n_c1]
  refine Hd.yv (y_assign rfl) ?_
  refine Hd.nil ?_
  refine Hd.slots [(1, _), (2, _)] ⟨rfl, rfl, trivial⟩ ?_
  refine Hd.toK hK4 ?_
  refine Hd.seq (fun K5 hK5 => ?_)
  refine Hd.region ?_
  refine Hd.yv (y_move rfl) ?_
  refine Hd.callE rfl fk22 (Cl.changes_ct _ b Cl7.n1.flush) (Ent.sep (by repeat (first | with_reducible exact Ent.same | exact Ent.nil | with_reducible exact Ent.left | (apply Ent.pick; focus ((repeat (first | with_reducible exact Pick.here | apply Pick.there | with_reducible apply Pick.right)); done)) | refine Ent.pure (by assumption) ?_ | apply Ent.ownNil | with_reducible apply Ent.right | exact Ent.left | exact Ent.same | refine Ent.skip ?_))) ?_
  rintro ⟨a2, c2⟩
  dsimp only
  rw [Cl4.flush_chs]
  refine Hd.yv (y_assign rfl) ?_
  refine Hd.nil ?_
  refine Hd.slots [(1, _), (2, _), (3, _)] ⟨rfl, rfl, rfl, trivial⟩ ?_
  refine Hd.toK hK5 ?_
  refine Hd.seq (fun K6 hK6 => ?_)
  refine Hd.region ?_
  refine Hd.yv (y_move rfl) ?_
  refine Hd.callE rfl fk19 (Cl.want_ct _ b Cl7.n1.flush 1 2) (Ent.sep (by repeat (first | with_reducible exact Ent.same | exact Ent.nil | with_reducible exact Ent.left | (apply Ent.pick; focus ((repeat (first | with_reducible exact Pick.here | apply Pick.there | with_reducible apply Pick.right)); done)) | refine Ent.pure (by assumption) ?_ | apply Ent.ownNil | with_reducible apply Ent.right | exact Ent.left | exact Ent.same | refine Ent.skip ?_))) ?_
  intro _
  rw [Cl7.n_e1]
  refine Hd.yv (y_assign rfl) ?_
  refine Hd.nil ?_
  refine Hd.slots [(1, _), (2, _), (3, _), (4, _)] ⟨rfl, rfl, rfl, rfl, trivial⟩ ?_
  refine Hd.toK hK6 ?_
  refine Hd.seq (fun K7 hK7 => ?_)
  refine Hd.region ?_
  refine Hd.yv (y_move rfl) ?_
  refine Hd.callE rfl fk22 (Cl.changes_ct _ b Cl7.n2) (Ent.sep (by repeat (first | with_reducible exact Ent.same | exact Ent.nil | with_reducible exact Ent.left | (apply Ent.pick; focus ((repeat (first | with_reducible exact Pick.here | apply Pick.there | with_reducible apply Pick.right)); done)) | refine Ent.pure (by assumption) ?_ | apply Ent.ownNil | with_reducible apply Ent.right | exact Ent.left | exact Ent.same | refine Ent.skip ?_))) ?_
  rintro ⟨a3, c3⟩
  dsimp only
  rw [Cl7.n_c2]
  refine Hd.yv (y_assign rfl) ?_
  refine Hd.nil ?_
  refine Hd.slots [(1, _), (2, _), (3, _), (4, _), (5, _)] ⟨rfl, rfl, rfl, rfl, rfl, trivial⟩ ?_
  refine Hd.toK hK7 ?_
  refine Hd.seq (fun K8 hK8 => ?_)
  refine Hd.region ?_
  refine Hd.yv (y_move rfl) ?_
  refine Hd.yv (y_len Try.underlying42 rfl) ?_
  first | (refine Hd.yv (y_eqlT rfl rfl) ?_) | (refine Hd.yv (y_eql rfl rfl) ?_)
  refine Hd.yv (y_move rfl) ?_
  refine Hd.yg rfl rfl (y_move rfl) ?_
  refine Hd.yg rfl rfl (y_len Try.underlying42 rfl) ?_
  first | (refine Hd.yg rfl rfl (y_eqlT rfl rfl) ?_) | (refine Hd.yg rfl rfl (y_eql rfl rfl) ?_)
  first | (refine Hd.yv (y_pickT rfl rfl) ?_) | (refine Hd.yv (y_pickF rfl rfl) ?_) | (refine Hd.yv (y_pickb rfl rfl rfl) ?_) | (refine Hd.yv (y_pick rfl rfl rfl) ?_)
  refine Hd.yv (y_move rfl) ?_
  refine Hd.yg rfl rfl (y_move rfl) ?_
  first | (refine Hd.yg rfl rfl (y_eqlT rfl rfl) ?_) | (refine Hd.yg rfl rfl (y_eql rfl rfl) ?_)
  first | (refine Hd.yv (y_pickT rfl rfl) ?_) | (refine Hd.yv (y_pickF rfl rfl) ?_) | (refine Hd.yv (y_pickb rfl rfl rfl) ?_) | (refine Hd.yv (y_pick rfl rfl rfl) ?_)
  refine Hd.yv (y_move rfl) ?_
  refine Hd.yg rfl rfl (y_move rfl) ?_
  refine Hd.yg rfl rfl (y_build (vs := [(0, _), (1, _), (2, _)]) rfl (by first | exact bd9_42 .. | kernel_rfl)) ?_
  refine Hd.unguard rfl rfl ?_
  refine Hd.bslice (vs := [(0, _)]) rfl (by first | exact bs9_43 .. | kernel_rfl) (fun b43 => ?_)
  refine Hd.unguard rfl rfl ?_
  refine Hd.call rfl fk21 (Cl.sameC_ct _ a3 (some ⟨b43, 0, none⟩) _ _ [(1, 36, 2)] [(1, 36, 2)] (RdS.own (by repeat (first | with_reducible exact Pick.here | apply Pick.there | with_reducible apply Pick.right))) (RdS.rd (Rd.pt (by repeat (first | with_reducible exact Pick.here | apply Pick.there | with_reducible apply Pick.right)) (fun j v e => by simpa using e)) rfl) (by simp)) ?_
  intro _
  rw [decide_eq_true rfl]
  first | (refine Hd.yv (y_pickT rfl rfl) ?_) | (refine Hd.yv (y_pickF rfl rfl) ?_) | (refine Hd.yv (y_pickb rfl rfl rfl) ?_) | (refine Hd.yv (y_pick rfl rfl rfl) ?_)
  refine Hd.yv (y_assign rfl) ?_
  refine Hd.nil ?_
  refine Hd.slots [(1, _), (5, _), (6, _)] ⟨rfl, rfl, rfl, trivial⟩ ?_
  refine Hd.toK hK8 ?_
  refine Hd.seq (fun K9 hK9 => ?_)
  refine Hd.seq (fun K10 hK10 => ?_)
  refine Hd.region ?_
  refine Hd.yv (y_move rfl) ?_
  refine Hd.yv (y_not rfl) ?_
  refine Hd.nil ?_
  refine Hd.slots [(1, _), (5, _), (47, _)] ⟨rfl, rfl, rfl, trivial⟩ ?_
  refine Hd.toK hK10 ?_
  refine Hd.condF rfl ?_
  refine Hd.skip ?_
  refine Hd.toK hK9 ?_
  refine Hd.seq (fun K11 hK11 => ?_)
  refine Hd.region ?_
  refine Hd.yv (y_move rfl) ?_
  first | (refine Hd.yv (y_idxS Try.underlying42 sz27 rfl rfl (by first | exact (show (0 : Nat) < _ by omega) | omega | decide)) ?_) | (refine Hd.yv (y_idxR Try.underlying42 sz27 rfl rfl (by first | exact (show (0 : Nat) < _ by omega) | omega | decide) (by (first | exact RdS.own (by repeat (first | with_reducible exact Pick.here | apply Pick.there | with_reducible apply Pick.right))))) ?_)
  first | (refine Hd.yv (y_loadn (us := [_, _, _]) ag27 rfl (Rd.pt (by repeat (first | with_reducible exact Pick.here | apply Pick.there | with_reducible apply Pick.right)) (by (first | (intro j v e; rcases j with _|_|_|_|_|_|_|_|_|_|_|_|j <;> first | exact e | exact absurd e (by simp))))) (by exact sz27)) ?_) | (refine Hd.yv (y_loadn (us := [_, _, _]) ag27 rfl (Rd.seg (by repeat (first | with_reducible exact Pick.here | apply Pick.there | with_reducible apply Pick.right)) (by (first | (intro j v e; rcases j with _|_|_|_|_|_|_|_|_|_|_|_|j <;> first | exact e | exact absurd e (by simp))))) (by exact sz27)) ?_) | (refine Hd.yv (y_loadRn ag27 rfl (by (first | exact RdS.own (by repeat (first | with_reducible exact Pick.here | apply Pick.there | with_reducible apply Pick.right)))) (by (first | (intro j v e; rcases j with _|_|_|_|_|_|_|_|_|_|_|_|j <;> first | exact e | exact absurd e (by simp)))) (by exact sz27) (by simp)) ?_)
  refine Hd.callE rfl fk12 (epoll_ct _ 1 36 2) (Ent.sep (by repeat (first | with_reducible exact Ent.same | exact Ent.nil | with_reducible exact Ent.left | (apply Ent.pick; focus ((repeat (first | with_reducible exact Pick.here | apply Pick.there | with_reducible apply Pick.right)); done)) | refine Ent.pure (by assumption) ?_ | apply Ent.ownNil | with_reducible apply Ent.right | exact Ent.left | exact Ent.same | refine Ent.skip ?_))) ?_
  intro _
  rw [e_op, e_ev]
  refine Hd.yv (y_move rfl) ?_
  refine Hd.yv (y_extract rfl rfl) ?_
  refine Hd.yv (y_extract rfl rfl) ?_
  refine Hd.yv (y_assign rfl) ?_
  refine Hd.yv (y_assign rfl) ?_
  refine Hd.nil ?_
  refine Hd.slots [(1, _), (5, _), (7, _), (8, _)] ⟨rfl, rfl, rfl, rfl, trivial⟩ ?_
  refine Hd.toK hK11 ?_
  refine Hd.seq (fun K12 hK12 => ?_)
  refine Hd.region ?_
  refine Hd.yv (y_move rfl) ?_
  first | (refine Hd.yv (y_idxS Try.underlying42 sz27 rfl rfl (by first | exact (show (0 : Nat) < _ by omega) | omega | decide)) ?_) | (refine Hd.yv (y_idxR Try.underlying42 sz27 rfl rfl (by first | exact (show (0 : Nat) < _ by omega) | omega | decide) (by (first | exact RdS.own (by repeat (first | with_reducible exact Pick.here | apply Pick.there | with_reducible apply Pick.right))))) ?_)
  first | (refine Hd.yv (y_loadn (us := [_, _, _]) ag27 rfl (Rd.pt (by repeat (first | with_reducible exact Pick.here | apply Pick.there | with_reducible apply Pick.right)) (by (first | (intro j v e; rcases j with _|_|_|_|_|_|_|_|_|_|_|_|j <;> first | exact e | exact absurd e (by simp))))) (by exact sz27)) ?_) | (refine Hd.yv (y_loadn (us := [_, _, _]) ag27 rfl (Rd.seg (by repeat (first | with_reducible exact Pick.here | apply Pick.there | with_reducible apply Pick.right)) (by (first | (intro j v e; rcases j with _|_|_|_|_|_|_|_|_|_|_|_|j <;> first | exact e | exact absurd e (by simp))))) (by exact sz27)) ?_) | (refine Hd.yv (y_loadRn ag27 rfl (by (first | exact RdS.own (by repeat (first | with_reducible exact Pick.here | apply Pick.there | with_reducible apply Pick.right)))) (by (first | (intro j v e; rcases j with _|_|_|_|_|_|_|_|_|_|_|_|j <;> first | exact e | exact absurd e (by simp)))) (by exact sz27) (by simp)) ?_)
  refine Hd.callE rfl fk14 (kq_ct _ 1 36 2) (Ent.sep (by repeat (first | with_reducible exact Ent.same | exact Ent.nil | with_reducible exact Ent.left | (apply Ent.pick; focus ((repeat (first | with_reducible exact Pick.here | apply Pick.there | with_reducible apply Pick.right)); done)) | refine Ent.pure (by assumption) ?_ | apply Ent.ownNil | with_reducible apply Ent.right | exact Ent.left | exact Ent.same | refine Ent.skip ?_))) ?_
  rintro ⟨a4, c4⟩
  dsimp only
  rw [e_kq]
  refine Hd.yv (y_assign rfl) ?_
  refine Hd.nil ?_
  refine Hd.slots [(1, _), (7, _), (8, _), (9, _)] ⟨rfl, rfl, rfl, rfl, trivial⟩ ?_
  refine Hd.toK hK12 ?_
  refine Hd.seq (fun K13 hK13 => ?_)
  refine Hd.region ?_
  refine Hd.yv (y_move rfl) ?_
  first | (refine Hd.yv (y_eqlT rfl rfl) ?_) | (refine Hd.yv (y_eql rfl rfl) ?_)
  refine Hd.yv (y_move rfl) ?_
  refine Hd.yg rfl rfl (y_move rfl) ?_
  first | (refine Hd.yg rfl rfl (y_eqlT rfl rfl) ?_) | (refine Hd.yg rfl rfl (y_eql rfl rfl) ?_)
  first | (refine Hd.yv (y_pickT rfl rfl) ?_) | (refine Hd.yv (y_pickF rfl rfl) ?_) | (refine Hd.yv (y_pickb rfl rfl rfl) ?_) | (refine Hd.yv (y_pick rfl rfl rfl) ?_)
  refine Hd.yv (y_move rfl) ?_
  refine Hd.yg rfl rfl (y_move rfl) ?_
  refine Hd.yg rfl rfl (y_build (vs := [(0, _), (1, _), (2, _)]) rfl (by first | exact bd9_67 .. | kernel_rfl)) ?_
  refine Hd.yg rfl rfl (y_build (vs := [(0, _), (1, _), (2, _)]) rfl (by first | exact bd9_68 .. | kernel_rfl)) ?_
  refine Hd.unguard rfl rfl ?_
  refine Hd.bslice (vs := [(0, _), (1, _)]) rfl (by first | exact bs9_69 .. | kernel_rfl) (fun b69 => ?_)
  refine Hd.unguard rfl rfl ?_
  refine Hd.call rfl fk15 (sameN_ct _ a4 (some ⟨b69, 0, none⟩) _ _ [(1, 1, 1, 0), (1, 2, 2, 0)] [(1, 1, 1, 0), (1, 2, 2, 0)] (RdS.own (by repeat (first | with_reducible exact Pick.here | apply Pick.there | with_reducible apply Pick.right))) (RdS.rd (Rd.pt (by repeat (first | with_reducible exact Pick.here | apply Pick.there | with_reducible apply Pick.right)) (fun j v e => by simpa using e)) rfl) (by simp)) ?_
  intro _
  rw [decide_eq_true rfl]
  first | (refine Hd.yv (y_pickT rfl rfl) ?_) | (refine Hd.yv (y_pickF rfl rfl) ?_) | (refine Hd.yv (y_pickb rfl rfl rfl) ?_) | (refine Hd.yv (y_pick rfl rfl rfl) ?_)
  refine Hd.yv (y_assign rfl) ?_
  refine Hd.nil ?_
  refine Hd.slots [(1, _), (10, _)] ⟨rfl, rfl, trivial⟩ ?_
  refine Hd.toK hK13 ?_
  refine Hd.seq (fun K14 hK14 => ?_)
  refine Hd.region ?_
  refine Hd.yv (y_move rfl) ?_
  refine Hd.callE rfl fk19 (Cl.want_ct _ b Cl7.n2 1 32) (Ent.sep (by repeat (first | with_reducible exact Ent.same | exact Ent.nil | with_reducible exact Ent.left | (apply Ent.pick; focus ((repeat (first | with_reducible exact Pick.here | apply Pick.there | with_reducible apply Pick.right)); done)) | refine Ent.pure (by assumption) ?_ | apply Ent.ownNil | with_reducible apply Ent.right | exact Ent.left | exact Ent.same | refine Ent.skip ?_))) ?_
  intro _
  rw [Cl7.n_e2.1]
  refine Hd.yv (y_move rfl) ?_
  refine Hd.callE rfl fk19 (Cl.want_ct _ b (Cl7.n2.want 1 32) (-1) 0) (Ent.sep (by repeat (first | with_reducible exact Ent.same | exact Ent.nil | with_reducible exact Ent.left | (apply Ent.pick; focus ((repeat (first | with_reducible exact Pick.here | apply Pick.there | with_reducible apply Pick.right)); done)) | refine Ent.pure (by assumption) ?_ | apply Ent.ownNil | with_reducible apply Ent.right | exact Ent.left | exact Ent.same | refine Ent.skip ?_))) ?_
  intro _
  rw [Cl7.n_e2.2.1]
  refine Hd.yv (y_move rfl) ?_
  refine Hd.callE rfl fk19 (Cl.want_ct _ b ((Cl7.n2.want 1 32).want (-1) 0) 96 0) (Ent.sep (by repeat (first | with_reducible exact Ent.same | exact Ent.nil | with_reducible exact Ent.left | (apply Ent.pick; focus ((repeat (first | with_reducible exact Pick.here | apply Pick.there | with_reducible apply Pick.right)); done)) | refine Ent.pure (by assumption) ?_ | apply Ent.ownNil | with_reducible apply Ent.right | exact Ent.left | exact Ent.same | refine Ent.skip ?_))) ?_
  intro _
  rw [Cl7.n_e2.2.2.1]
  refine Hd.yv (y_move rfl) ?_
  refine Hd.callE rfl fk19 (Cl.want_ct _ b (((Cl7.n2.want 1 32).want (-1) 0).want 96 0) 1 8) (Ent.sep (by repeat (first | with_reducible exact Ent.same | exact Ent.nil | with_reducible exact Ent.left | (apply Ent.pick; focus ((repeat (first | with_reducible exact Pick.here | apply Pick.there | with_reducible apply Pick.right)); done)) | refine Ent.pure (by assumption) ?_ | apply Ent.ownNil | with_reducible apply Ent.right | exact Ent.left | exact Ent.same | refine Ent.skip ?_))) ?_
  intro _
  rw [Cl7.n_e2.2.2.2]
  refine Hd.yv (y_assign rfl) ?_
  refine Hd.yv (y_assign rfl) ?_
  refine Hd.yv (y_assign rfl) ?_
  refine Hd.yv (y_assign rfl) ?_
  refine Hd.nil ?_
  refine Hd.slots [(1, _), (10, _), (11, _), (12, _), (13, _), (14, _)] ⟨rfl, rfl, rfl, rfl, rfl, rfl, trivial⟩ ?_
  refine Hd.toK hK14 ?_
  refine Hd.seq (fun K15 hK15 => ?_)
  refine Hd.region ?_
  refine Hd.yv (y_move rfl) ?_
  refine Hd.callE rfl fk26 (Cl.forget_ct _ b Cl7.n3 1) (Ent.sep (by repeat (first | with_reducible exact Ent.same | exact Ent.nil | with_reducible exact Ent.left | (apply Ent.pick; focus ((repeat (first | with_reducible exact Pick.here | apply Pick.there | with_reducible apply Pick.right)); done)) | refine Ent.pure (by assumption) ?_ | apply Ent.ownNil | with_reducible apply Ent.right | exact Ent.left | exact Ent.same | refine Ent.skip ?_))) ?_
  intro _
  refine Hd.nil ?_
  refine Hd.slots [(1, _), (10, _), (11, _), (12, _), (13, _), (14, _)] ⟨rfl, rfl, rfl, rfl, rfl, rfl, trivial⟩ ?_
  refine Hd.toK hK15 ?_
  refine Hd.seq (fun K16 hK16 => ?_)
  refine Hd.region ?_
  refine Hd.yv (y_move rfl) ?_
  refine Hd.callE rfl fk26 (Cl.forget_ct _ b (Cl7.n3.forget 1) (-1)) (Ent.sep (by repeat (first | with_reducible exact Ent.same | exact Ent.nil | with_reducible exact Ent.left | (apply Ent.pick; focus ((repeat (first | with_reducible exact Pick.here | apply Pick.there | with_reducible apply Pick.right)); done)) | refine Ent.pure (by assumption) ?_ | apply Ent.ownNil | with_reducible apply Ent.right | exact Ent.left | exact Ent.same | refine Ent.skip ?_))) ?_
  intro _
  refine Hd.nil ?_
  refine Hd.slots [(1, _), (10, _), (11, _), (12, _), (13, _), (14, _)] ⟨rfl, rfl, rfl, rfl, rfl, rfl, trivial⟩ ?_
  refine Hd.toK hK16 ?_
  refine Hd.seq (fun K17 hK17 => ?_)
  refine Hd.region ?_
  refine Hd.yv (y_assign rfl) ?_
  refine Hd.nil ?_
  refine Hd.slots [(1, _), (10, _), (11, _), (12, _), (13, _), (14, _), (15, _)] ⟨rfl, rfl, rfl, rfl, rfl, rfl, rfl, trivial⟩ ?_
  refine Hd.toK hK17 ?_
  refine Hd.seq (fun K18 hK18 => ?_)
  refine Hd.region ?_
  refine Hd.alloc zr60 (fun b16 => ?_)
  refine Hd.nil ?_
  refine Hd.heap (Cl.CLs b16 Cl.LS.zero false :: Cl.CLs b Cl7.n4 true :: L) (Ent.sep (.eq (by repeat (first | with_reducible exact Pick.here | apply Pick.there | with_reducible apply Pick.right)) (pt_eq (by kernel_rfl)) (.imp (A := Cl.CLs b ((Cl7.n3.forget 1).forget (-1)) true) (by repeat (first | with_reducible exact Pick.here | apply Pick.there | with_reducible apply Pick.right)) (fun _ h => h) (by repeat (first | with_reducible exact Ent.same | exact Ent.nil | with_reducible exact Ent.left | (apply Ent.pick; focus ((repeat (first | with_reducible exact Pick.here | apply Pick.there | with_reducible apply Pick.right)); done)) | refine Ent.pure (by assumption) ?_ | apply Ent.ownNil | with_reducible apply Ent.right | exact Ent.left | exact Ent.same | refine Ent.skip ?_))))) ?_
  refine Hd.slots [(1, _), (10, _), (11, _), (12, _), (13, _), (14, _), (15, _), (16, _)] ⟨rfl, rfl, rfl, rfl, rfl, rfl, rfl, rfl, trivial⟩ ?_
  refine Hd.toK hK18 ?_
  refine Hd.seq (fun K19 hK19 => ?_)
  refine Hd.region ?_
  refine Hd.yv (y_move rfl) ?_
  refine Hd.callE rfl fk26 (Cl7.forget_nil _ 0) (Ent.sep (by repeat (first | with_reducible exact Ent.same | exact Ent.nil | with_reducible exact Ent.left | (apply Ent.pick; focus ((repeat (first | with_reducible exact Pick.here | apply Pick.there | with_reducible apply Pick.right)); done)) | refine Ent.pure (by assumption) ?_ | apply Ent.ownNil | with_reducible apply Ent.right | exact Ent.left | exact Ent.same | refine Ent.skip ?_))) ?_
  intro _
  refine Hd.nil ?_
  refine Hd.slots [(1, _), (10, _), (11, _), (12, _), (13, _), (14, _), (15, _), (16, _)] ⟨rfl, rfl, rfl, rfl, rfl, rfl, rfl, rfl, trivial⟩ ?_
  refine Hd.toK hK19 ?_
  refine Hd.seq (fun K20 hK20 => ?_)
  refine Hd.region ?_
  refine Hd.yv (y_move rfl) ?_
  refine Hd.unguard rfl rfl ?_
  refine Hd.callE rfl fk17 (Cl4.alive_ct _) (Ent.sep (by repeat (first | with_reducible exact Ent.same | exact Ent.nil | with_reducible exact Ent.left | (apply Ent.pick; focus ((repeat (first | with_reducible exact Pick.here | apply Pick.there | with_reducible apply Pick.right)); done)) | refine Ent.pure (by assumption) ?_ | apply Ent.ownNil | with_reducible apply Ent.right | exact Ent.left | exact Ent.same | refine Ent.skip ?_))) ?_
  intro _
  first | (refine Hd.yv (y_pickT rfl rfl) ?_) | (refine Hd.yv (y_pickF rfl rfl) ?_) | (refine Hd.yv (y_pickb rfl rfl rfl) ?_) | (refine Hd.yv (y_pick rfl rfl rfl) ?_)
  refine Hd.yv (y_move rfl) ?_
  refine Hd.yg rfl rfl (y_move rfl) ?_
  first | (refine Hd.yv (y_pickT rfl rfl) ?_) | (refine Hd.yv (y_pickF rfl rfl) ?_) | (refine Hd.yv (y_pickb rfl rfl rfl) ?_) | (refine Hd.yv (y_pick rfl rfl rfl) ?_)
  refine Hd.yv (y_move rfl) ?_
  refine Hd.yg rfl rfl (y_move rfl) ?_
  first | (refine Hd.yg rfl rfl (y_eqlT rfl rfl) ?_) | (refine Hd.yg rfl rfl (y_eql rfl rfl) ?_)
  first | (refine Hd.yv (y_pickT rfl rfl) ?_) | (refine Hd.yv (y_pickF rfl rfl) ?_) | (refine Hd.yv (y_pickb rfl rfl rfl) ?_) | (refine Hd.yv (y_pick rfl rfl rfl) ?_)
  refine Hd.yv (y_move rfl) ?_
  refine Hd.yg rfl rfl (y_move rfl) ?_
  first | (refine Hd.yg rfl rfl (y_eqlT rfl rfl) ?_) | (refine Hd.yg rfl rfl (y_eql rfl rfl) ?_)
  first | (refine Hd.yv (y_pickT rfl rfl) ?_) | (refine Hd.yv (y_pickF rfl rfl) ?_) | (refine Hd.yv (y_pickb rfl rfl rfl) ?_) | (refine Hd.yv (y_pick rfl rfl rfl) ?_)
  refine Hd.yv (y_move rfl) ?_
  refine Hd.yg rfl rfl (y_move rfl) ?_
  first | (refine Hd.yg rfl rfl (y_eqlT rfl rfl) ?_) | (refine Hd.yg rfl rfl (y_eql rfl rfl) ?_)
  first | (refine Hd.yv (y_pickT rfl rfl) ?_) | (refine Hd.yv (y_pickF rfl rfl) ?_) | (refine Hd.yv (y_pickb rfl rfl rfl) ?_) | (refine Hd.yv (y_pick rfl rfl rfl) ?_)
  refine Hd.yv (y_move rfl) ?_
  refine Hd.yg rfl rfl (y_move rfl) ?_
  first | (refine Hd.yg rfl rfl (y_eqlT rfl rfl) ?_) | (refine Hd.yg rfl rfl (y_eql rfl rfl) ?_)
  first | (refine Hd.yv (y_pickT rfl rfl) ?_) | (refine Hd.yv (y_pickF rfl rfl) ?_) | (refine Hd.yv (y_pickb rfl rfl rfl) ?_) | (refine Hd.yv (y_pick rfl rfl rfl) ?_)
  refine Hd.yv (y_move rfl) ?_
  refine Hd.yg rfl rfl (y_move rfl) ?_
  refine Hd.unguard rfl rfl ?_
  refine Hd.callE rfl fk22 (Cl.changes_ct _ b Cl7.n4) (Ent.sep (by repeat (first | with_reducible exact Ent.same | exact Ent.nil | with_reducible exact Ent.left | (apply Ent.pick; focus ((repeat (first | with_reducible exact Pick.here | apply Pick.there | with_reducible apply Pick.right)); done)) | refine Ent.pure (by assumption) ?_ | apply Ent.ownNil | with_reducible apply Ent.right | exact Ent.left | exact Ent.same | refine Ent.skip ?_))) ?_
  rintro ⟨a5, c5⟩
  dsimp only
  rw [Cl7.n_c3]
  refine Hd.yg rfl rfl (y_len Try.underlying42 rfl) ?_
  first | (refine Hd.yg rfl rfl (y_eqlT rfl rfl) ?_) | (refine Hd.yg rfl rfl (y_eql rfl rfl) ?_)
  first | (refine Hd.yv (y_pickT rfl rfl) ?_) | (refine Hd.yv (y_pickF rfl rfl) ?_) | (refine Hd.yv (y_pickb rfl rfl rfl) ?_) | (refine Hd.yv (y_pick rfl rfl rfl) ?_)
  refine Hd.yv (y_move rfl) ?_
  refine Hd.yg rfl rfl (y_move rfl) ?_
  refine Hd.unguard rfl rfl ?_
  refine Hd.callE rfl fk23 (Cl.held_ct _ b Cl7.n4 1) (Ent.sep (by repeat (first | with_reducible exact Ent.same | exact Ent.nil | with_reducible exact Ent.left | (apply Ent.pick; focus ((repeat (first | with_reducible exact Pick.here | apply Pick.there | with_reducible apply Pick.right)); done)) | refine Ent.pure (by assumption) ?_ | apply Ent.ownNil | with_reducible apply Ent.right | exact Ent.left | exact Ent.same | refine Ent.skip ?_))) ?_
  intro _
  rw [Cl7.n_h]
  first | (refine Hd.yg rfl rfl (y_eqlT rfl rfl) ?_) | (refine Hd.yg rfl rfl (y_eql rfl rfl) ?_)
  first | (refine Hd.yv (y_pickT rfl rfl) ?_) | (refine Hd.yv (y_pickF rfl rfl) ?_) | (refine Hd.yv (y_pickb rfl rfl rfl) ?_) | (refine Hd.yv (y_pick rfl rfl rfl) ?_)
  refine Hd.yv (y_move rfl) ?_
  refine Hd.yg rfl rfl (y_move rfl) ?_
  refine Hd.unguard rfl rfl ?_
  refine Hd.callE rfl fk19 (Cl7.want_nil _ 0 0) (Ent.sep (by repeat (first | with_reducible exact Ent.same | exact Ent.nil | with_reducible exact Ent.left | (apply Ent.pick; focus ((repeat (first | with_reducible exact Pick.here | apply Pick.there | with_reducible apply Pick.right)); done)) | refine Ent.pure (by assumption) ?_ | apply Ent.ownNil | with_reducible apply Ent.right | exact Ent.left | exact Ent.same | refine Ent.skip ?_))) ?_
  intro _
  first | (refine Hd.yg rfl rfl (y_eqlT rfl rfl) ?_) | (refine Hd.yg rfl rfl (y_eql rfl rfl) ?_)
  first | (refine Hd.yv (y_pickT rfl rfl) ?_) | (refine Hd.yv (y_pickF rfl rfl) ?_) | (refine Hd.yv (y_pickb rfl rfl rfl) ?_) | (refine Hd.yv (y_pick rfl rfl rfl) ?_)
  refine Hd.yv (y_move rfl) ?_
  refine Hd.unguard rfl rfl ?_
  refine Hd.callE rfl fk19 (Cl7.want_zero _ b16 Cl.LS.zero 0 0) (Ent.sep (by repeat (first | with_reducible exact Ent.same | exact Ent.nil | with_reducible exact Ent.left | (apply Ent.pick; focus ((repeat (first | with_reducible exact Pick.here | apply Pick.there | with_reducible apply Pick.right)); done)) | refine Ent.pure (by assumption) ?_ | apply Ent.ownNil | with_reducible apply Ent.right | exact Ent.left | exact Ent.same | refine Ent.skip ?_))) ?_
  intro _
  first | (refine Hd.yg rfl rfl (y_eqlT rfl rfl) ?_) | (refine Hd.yg rfl rfl (y_eql rfl rfl) ?_)
  first | (refine Hd.yv (y_pickT rfl rfl) ?_) | (refine Hd.yv (y_pickF rfl rfl) ?_) | (refine Hd.yv (y_pickb rfl rfl rfl) ?_) | (refine Hd.yv (y_pick rfl rfl rfl) ?_)
  refine Hd.yv (y_move rfl) ?_
  refine Hd.yg rfl rfl (y_move rfl) ?_
  refine Hd.unguard rfl rfl ?_
  refine Hd.callE rfl fk22 (Cl7.changes_nil _) (Ent.sep (by repeat (first | with_reducible exact Ent.same | exact Ent.nil | with_reducible exact Ent.left | (apply Ent.pick; focus ((repeat (first | with_reducible exact Pick.here | apply Pick.there | with_reducible apply Pick.right)); done)) | refine Ent.pure (by assumption) ?_ | apply Ent.ownNil | with_reducible apply Ent.right | exact Ent.left | exact Ent.same | refine Ent.skip ?_))) ?_
  rintro ⟨a6, c6⟩
  dsimp only
  refine Hd.yg rfl rfl (y_len Try.underlying42 rfl) ?_
  first | (refine Hd.yg rfl rfl (y_eqlT rfl rfl) ?_) | (refine Hd.yg rfl rfl (y_eql rfl rfl) ?_)
  first | (refine Hd.yv (y_pickT rfl rfl) ?_) | (refine Hd.yv (y_pickF rfl rfl) ?_) | (refine Hd.yv (y_pickb rfl rfl rfl) ?_) | (refine Hd.yv (y_pick rfl rfl rfl) ?_)
  refine Hd.yv (y_move rfl) ?_
  refine Hd.unguard rfl rfl ?_
  refine Hd.callE rfl fk20 (Cl7.flush_zero _ b16 Cl.LS.zero) (Ent.sep (by repeat (first | with_reducible exact Ent.same | exact Ent.nil | with_reducible exact Ent.left | (apply Ent.pick; focus ((repeat (first | with_reducible exact Pick.here | apply Pick.there | with_reducible apply Pick.right)); done)) | refine Ent.pure (by assumption) ?_ | apply Ent.ownNil | with_reducible apply Ent.right | exact Ent.left | exact Ent.same | refine Ent.skip ?_))) ?_
  rintro ⟨a7, c7⟩
  dsimp only
  refine Hd.yg rfl rfl (y_len Try.underlying42 rfl) ?_
  first | (refine Hd.yg rfl rfl (y_eqlT rfl rfl) ?_) | (refine Hd.yg rfl rfl (y_eql rfl rfl) ?_)
  first | (refine Hd.yv (y_pickT rfl rfl) ?_) | (refine Hd.yv (y_pickF rfl rfl) ?_) | (refine Hd.yv (y_pickb rfl rfl rfl) ?_) | (refine Hd.yv (y_pick rfl rfl rfl) ?_)
  refine Hd.yv (y_move rfl) ?_
  refine Hd.yg rfl rfl (y_move rfl) ?_
  refine Hd.unguard rfl rfl ?_
  refine Hd.callE rfl fk24 (Cl7.wants_nil _ 0) (Ent.sep (by repeat (first | with_reducible exact Ent.same | exact Ent.nil | with_reducible exact Ent.left | (apply Ent.pick; focus ((repeat (first | with_reducible exact Pick.here | apply Pick.there | with_reducible apply Pick.right)); done)) | refine Ent.pure (by assumption) ?_ | apply Ent.ownNil | with_reducible apply Ent.right | exact Ent.left | exact Ent.same | refine Ent.skip ?_))) ?_
  intro _
  first | (refine Hd.yg rfl rfl (y_eqlT rfl rfl) ?_) | (refine Hd.yg rfl rfl (y_eql rfl rfl) ?_)
  first | (refine Hd.yv (y_pickT rfl rfl) ?_) | (refine Hd.yv (y_pickF rfl rfl) ?_) | (refine Hd.yv (y_pickb rfl rfl rfl) ?_) | (refine Hd.yv (y_pick rfl rfl rfl) ?_)
  refine Hd.yv (y_move rfl) ?_
  refine Hd.unguard rfl rfl ?_
  refine Hd.callE rfl fk23 (Cl7.held_zero _ b16 Cl.LS.zero 0) (Ent.sep (by repeat (first | with_reducible exact Ent.same | exact Ent.nil | with_reducible exact Ent.left | (apply Ent.pick; focus ((repeat (first | with_reducible exact Pick.here | apply Pick.there | with_reducible apply Pick.right)); done)) | refine Ent.pure (by assumption) ?_ | apply Ent.ownNil | with_reducible apply Ent.right | exact Ent.left | exact Ent.same | refine Ent.skip ?_))) ?_
  intro _
  first | (refine Hd.yg rfl rfl (y_eqlT rfl rfl) ?_) | (refine Hd.yg rfl rfl (y_eql rfl rfl) ?_)
  first | (refine Hd.yv (y_pickT rfl rfl) ?_) | (refine Hd.yv (y_pickF rfl rfl) ?_) | (refine Hd.yv (y_pickb rfl rfl rfl) ?_) | (refine Hd.yv (y_pick rfl rfl rfl) ?_)
  refine Hd.yv (y_assign rfl) ?_
  refine Hd.nil ?_
  refine Hd.slots [(0, _)] ⟨rfl, trivial⟩ ?_
  refine Hd.toK hK20 ?_
  refine Hd.ret ?_
  clear hK1 hK2 hK3 hK4 hK5 hK6 hK7 hK8 hK9 hK10 hK11 hK12 hK13 hK14 hK15 hK16 hK17 hK18 hK19 hK20
  exact Hd.ret1 rfl () rfl (Ent.sep (by repeat (first | with_reducible exact Ent.same | exact Ent.nil | with_reducible exact Ent.left | (apply Ent.pick; focus ((repeat (first | with_reducible exact Pick.here | apply Pick.there | with_reducible apply Pick.right)); done)) | refine Ent.pure (by assumption) ?_ | apply Ent.ownNil | with_reducible apply Ent.right | exact Ent.left | exact Ent.same | refine Ent.skip ?_)))
end Cl8
end Go.Proofs.Ytkgkfjhfedjnpaa
