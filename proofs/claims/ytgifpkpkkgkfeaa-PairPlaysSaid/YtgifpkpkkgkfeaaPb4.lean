/-
  The law PairPlays answers true.
-/
import Derived.Test.YtgifpkpkkgkfeaaPb3
namespace Go.Proofs.Ytgifpkpkkgkfeaa
set_option linter.unusedSimpArgs false
set_option linter.unusedVariables false
set_option linter.unnecessarySimpa false
open Go.RX Fx
namespace Pa
open Bc
set_option maxRecDepth 8000
set_option maxHeartbeats 2000000 in
theorem told8_ct (L : List SP) (bt : Nat) (x y : TV) (hx : x.er = 0) (hy : y.er = 0) : Ct Try.prog 50 #[.agg (encT x ++ encT y).toArray, .slice (some ⟨bt, 0, none⟩) 2 2] (pt bt (encV x ++ encV y) 125 :: L) (fun _ : Unit => .bool true) (fun _ : Unit => pt bt (encV x ++ encV y) 125 :: L) := by
  refine Ct.of (vs := [.agg (encT x ++ encT y).toArray, .slice (some ⟨bt, 0, none⟩) 2 2]) Try.func50 rfl rfl [(0, .agg (encT x ++ encT y).toArray), (1, .slice (some ⟨bt, 0, none⟩) 2 2)] (by repeat (first | exact trivial | refine ⟨rfl, ?_⟩)) ?_
  intro E
  show Hd E 75 _ _ _ _
  obtain ⟨rd, wr, ev, er, inn, out⟩ := x
  obtain ⟨rd2, wr2, ev2, er2, inn2, out2⟩ := y
  obtain rfl : er = 0 := hx
  obtain rfl : er2 = 0 := hy
  refine Hd.seq (fun K1 hK1 => ?_)
  refine Hd.region ?_
  refine Hd.box rfl rfl (fun b2 => ?_)
  refine Hd.yv (y_assign rfl) ?_
  refine Hd.nil ?_
  refine Hd.slots [(1, _), (2, _)] ⟨rfl, rfl, trivial⟩ ?_
  refine Hd.toK hK1 ?_
  refine Hd.seq (fun K2 hK2 => ?_)
  refine Hd.seq (fun K3 hK3 => ?_)
  refine Hd.region ?_
  refine Hd.yv (y_assign rfl) ?_
  refine Hd.nil ?_
  refine Hd.slots [(1, _), (2, _), (5, _)] ⟨rfl, rfl, rfl, trivial⟩ ?_
  refine Hd.toK hK3 ?_
  refine Hd.block ?_
  refine Hd.rounds 3 ?_
  refine Hd.roundS ?_
  refine Hd.seq (fun K4 hK4 => ?_)
  refine Hd.seq (fun K5 hK5 => ?_)
  refine Hd.region ?_
  refine Hd.yv (y_move rfl) ?_
  refine Hd.yv (y_lss rfl rfl) ?_
  refine Hd.nil ?_
  refine Hd.slots [(1, _), (2, _), (5, _), (7, _)] ⟨rfl, rfl, rfl, rfl, trivial⟩ ?_
  refine Hd.toK hK5 ?_
  refine Hd.condT rfl ?_
  refine Hd.skip ?_
  refine Hd.toK hK4 ?_
  refine Hd.seq (fun K6 hK6 => ?_)
  refine Hd.block ?_
  refine Hd.seq (fun K7 hK7 => ?_)
  refine Hd.quiet mixed (by kernel_rfl) ?_
  refine Hq.yv (y_move rfl) ?_
  refine Hq.yv (y_idxA Try.underlying69 sz68 rfl rfl (by first | omega | decide)) ?_
  first | (refine Hq.yv (y_field' (q := 0) (ft := 4) Try.underlying68 rfl sz4 rfl rfl) ?_) | (refine Hq.yv (y_fieldR (q := 0) (ft := 4) Try.underlying68 rfl sz4 rfl rfl) ?_)
  first | (refine Hq.yv (y_load1 ag4 rfl (Rd.pt1 pkk (by (first | rfl)))) ?_) | (refine Hq.yv (y_load1 ag4 rfl (Rd.seg1 pkk (by (first | rfl)))) ?_) | (refine Hq.yv (y_loadR1 ag4 rfl (by (first | exact RdS.own pkk)) (by (first | rfl))) ?_)
  refine Hq.yv (y_move rfl) ?_
  refine Hq.yv (y_move rfl) ?_
  first | (refine Hq.yv (y_idxS Try.underlying85 sz125 rfl rfl (by first | omega | decide)) ?_) | (refine Hq.yv (y_idxR Try.underlying85 sz125 rfl rfl (by first | omega | decide) (by (first | exact RdS.own pkk))) ?_)
  first | (refine Hq.yv (y_field' (q := 0) (ft := 4) Try.underlying125 rfl sz4 rfl rfl) ?_) | (refine Hq.yv (y_fieldR (q := 0) (ft := 4) Try.underlying125 rfl sz4 rfl rfl) ?_)
  first | (refine Hq.yv (y_load1 ag4 rfl (Rd.pt1 pkk (by (first | rfl)))) ?_) | (refine Hq.yv (y_load1 ag4 rfl (Rd.seg1 pkk (by (first | rfl)))) ?_) | (refine Hq.yv (y_loadR1 ag4 rfl (by (first | exact RdS.own pkk)) (by (first | rfl))) ?_)
  refine Hq.yv (y_to (v' := .bool false) (y_neqb Try.underlying4 rfl rfl) (by simp)) ?_
  refine Hq.yv (y_move rfl) ?_
  refine Hq.yg rfl rfl (y_move rfl) ?_
  refine Hq.yg rfl rfl (y_idxA Try.underlying69 sz68 rfl rfl (by first | omega | decide)) ?_
  first | (refine Hq.yg rfl rfl (y_field' (q := 1) (ft := 4) Try.underlying68 rfl sz4 rfl rfl) ?_) | (refine Hq.yg rfl rfl (y_fieldR (q := 1) (ft := 4) Try.underlying68 rfl sz4 rfl rfl) ?_)
  first | (refine Hq.yg rfl rfl (y_load1 ag4 rfl (Rd.pt1 pkk (by (first | rfl)))) ?_) | (refine Hq.yg rfl rfl (y_load1 ag4 rfl (Rd.seg1 pkk (by (first | rfl)))) ?_) | (refine Hq.yg rfl rfl (y_loadR1 ag4 rfl (by (first | exact RdS.own pkk)) (by (first | rfl))) ?_)
  refine Hq.yg rfl rfl (y_move rfl) ?_
  refine Hq.yg rfl rfl (y_move rfl) ?_
  first | (refine Hq.yg rfl rfl (y_idxS Try.underlying85 sz125 rfl rfl (by first | omega | decide)) ?_) | (refine Hq.yg rfl rfl (y_idxR Try.underlying85 sz125 rfl rfl (by first | omega | decide) (by (first | exact RdS.own pkk))) ?_)
  first | (refine Hq.yg rfl rfl (y_field' (q := 1) (ft := 4) Try.underlying125 rfl sz4 rfl rfl) ?_) | (refine Hq.yg rfl rfl (y_fieldR (q := 1) (ft := 4) Try.underlying125 rfl sz4 rfl rfl) ?_)
  first | (refine Hq.yg rfl rfl (y_load1 ag4 rfl (Rd.pt1 pkk (by (first | rfl)))) ?_) | (refine Hq.yg rfl rfl (y_load1 ag4 rfl (Rd.seg1 pkk (by (first | rfl)))) ?_) | (refine Hq.yg rfl rfl (y_loadR1 ag4 rfl (by (first | exact RdS.own pkk)) (by (first | rfl))) ?_)
  refine Hq.yg rfl rfl (y_to (v' := .bool false) (y_neqb Try.underlying4 rfl rfl) (by simp)) ?_
  first | (refine Hq.yv (y_pickT rfl rfl) ?_) | (refine Hq.yv (y_pickF rfl rfl) ?_) | (refine Hq.yv (y_pickb rfl rfl rfl) ?_) | (refine Hq.yv (y_pick rfl rfl rfl) ?_)
  refine Hq.yv (y_move rfl) ?_
  refine Hq.yg rfl rfl (y_move rfl) ?_
  refine Hq.yg rfl rfl (y_idxA Try.underlying69 sz68 rfl rfl (by first | omega | decide)) ?_
  first | (refine Hq.yg rfl rfl (y_field' (q := 2) (ft := 3) Try.underlying68 rfl sz3 rfl rfl) ?_) | (refine Hq.yg rfl rfl (y_fieldR (q := 2) (ft := 3) Try.underlying68 rfl sz3 rfl rfl) ?_)
  first | (refine Hq.yg rfl rfl (y_load1 ag3 rfl (Rd.pt1 pkk (by (first | rfl)))) ?_) | (refine Hq.yg rfl rfl (y_load1 ag3 rfl (Rd.seg1 pkk (by (first | rfl)))) ?_) | (refine Hq.yg rfl rfl (y_loadR1 ag3 rfl (by (first | exact RdS.own pkk)) (by (first | rfl))) ?_)
  refine Hq.yg rfl rfl (y_move rfl) ?_
  refine Hq.yg rfl rfl (y_move rfl) ?_
  first | (refine Hq.yg rfl rfl (y_idxS Try.underlying85 sz125 rfl rfl (by first | omega | decide)) ?_) | (refine Hq.yg rfl rfl (y_idxR Try.underlying85 sz125 rfl rfl (by first | omega | decide) (by (first | exact RdS.own pkk))) ?_)
  first | (refine Hq.yg rfl rfl (y_field' (q := 2) (ft := 3) Try.underlying125 rfl sz3 rfl rfl) ?_) | (refine Hq.yg rfl rfl (y_fieldR (q := 2) (ft := 3) Try.underlying125 rfl sz3 rfl rfl) ?_)
  first | (refine Hq.yg rfl rfl (y_load1 ag3 rfl (Rd.pt1 pkk (by (first | rfl)))) ?_) | (refine Hq.yg rfl rfl (y_load1 ag3 rfl (Rd.seg1 pkk (by (first | rfl)))) ?_) | (refine Hq.yg rfl rfl (y_loadR1 ag3 rfl (by (first | exact RdS.own pkk)) (by (first | rfl))) ?_)
  refine Hq.yg rfl rfl (y_to (y_neq rfl rfl) (congrArg Value.bool (decide_eq_false ((fun h => h rfl))))) ?_
  first | (refine Hq.yv (y_pickT rfl rfl) ?_) | (refine Hq.yv (y_pickF rfl rfl) ?_) | (refine Hq.yv (y_pickb rfl rfl rfl) ?_) | (refine Hq.yv (y_pick rfl rfl rfl) ?_)
  refine Hq.yv (y_move rfl) ?_
  refine Hq.yg rfl rfl (y_move rfl) ?_
  refine Hq.yg rfl rfl (y_idxA Try.underlying69 sz68 rfl rfl (by first | omega | decide)) ?_
  first | (refine Hq.yg rfl rfl (y_field' (q := 4) (ft := 3) Try.underlying68 rfl sz3 rfl rfl) ?_) | (refine Hq.yg rfl rfl (y_fieldR (q := 4) (ft := 3) Try.underlying68 rfl sz3 rfl rfl) ?_)
  first | (refine Hq.yg rfl rfl (y_load1 ag3 rfl (Rd.pt1 pkk (by (first | rfl)))) ?_) | (refine Hq.yg rfl rfl (y_load1 ag3 rfl (Rd.seg1 pkk (by (first | rfl)))) ?_) | (refine Hq.yg rfl rfl (y_loadR1 ag3 rfl (by (first | exact RdS.own pkk)) (by (first | rfl))) ?_)
  refine Hq.yg rfl rfl (y_move rfl) ?_
  refine Hq.yg rfl rfl (y_move rfl) ?_
  first | (refine Hq.yg rfl rfl (y_idxS Try.underlying85 sz125 rfl rfl (by first | omega | decide)) ?_) | (refine Hq.yg rfl rfl (y_idxR Try.underlying85 sz125 rfl rfl (by first | omega | decide) (by (first | exact RdS.own pkk))) ?_)
  first | (refine Hq.yg rfl rfl (y_field' (q := 3) (ft := 3) Try.underlying125 rfl sz3 rfl rfl) ?_) | (refine Hq.yg rfl rfl (y_fieldR (q := 3) (ft := 3) Try.underlying125 rfl sz3 rfl rfl) ?_)
  first | (refine Hq.yg rfl rfl (y_load1 ag3 rfl (Rd.pt1 pkk (by (first | rfl)))) ?_) | (refine Hq.yg rfl rfl (y_load1 ag3 rfl (Rd.seg1 pkk (by (first | rfl)))) ?_) | (refine Hq.yg rfl rfl (y_loadR1 ag3 rfl (by (first | exact RdS.own pkk)) (by (first | rfl))) ?_)
  refine Hq.yg rfl rfl (y_to (y_neq rfl rfl) (congrArg Value.bool (decide_eq_false ((fun h => h rfl))))) ?_
  first | (refine Hq.yv (y_pickT rfl rfl) ?_) | (refine Hq.yv (y_pickF rfl rfl) ?_) | (refine Hq.yv (y_pickb rfl rfl rfl) ?_) | (refine Hq.yv (y_pick rfl rfl rfl) ?_)
  refine Hq.yv (y_move rfl) ?_
  refine Hq.yg rfl rfl (y_move rfl) ?_
  refine Hq.yg rfl rfl (y_idxA Try.underlying69 sz68 rfl rfl (by first | omega | decide)) ?_
  first | (refine Hq.yg rfl rfl (y_field' (q := 5) (ft := 3) Try.underlying68 rfl sz3 rfl rfl) ?_) | (refine Hq.yg rfl rfl (y_fieldR (q := 5) (ft := 3) Try.underlying68 rfl sz3 rfl rfl) ?_)
  first | (refine Hq.yg rfl rfl (y_load1 ag3 rfl (Rd.pt1 pkk (by (first | rfl)))) ?_) | (refine Hq.yg rfl rfl (y_load1 ag3 rfl (Rd.seg1 pkk (by (first | rfl)))) ?_) | (refine Hq.yg rfl rfl (y_loadR1 ag3 rfl (by (first | exact RdS.own pkk)) (by (first | rfl))) ?_)
  refine Hq.yg rfl rfl (y_move rfl) ?_
  refine Hq.yg rfl rfl (y_move rfl) ?_
  first | (refine Hq.yg rfl rfl (y_idxS Try.underlying85 sz125 rfl rfl (by first | omega | decide)) ?_) | (refine Hq.yg rfl rfl (y_idxR Try.underlying85 sz125 rfl rfl (by first | omega | decide) (by (first | exact RdS.own pkk))) ?_)
  first | (refine Hq.yg rfl rfl (y_field' (q := 4) (ft := 3) Try.underlying125 rfl sz3 rfl rfl) ?_) | (refine Hq.yg rfl rfl (y_fieldR (q := 4) (ft := 3) Try.underlying125 rfl sz3 rfl rfl) ?_)
  first | (refine Hq.yg rfl rfl (y_load1 ag3 rfl (Rd.pt1 pkk (by (first | rfl)))) ?_) | (refine Hq.yg rfl rfl (y_load1 ag3 rfl (Rd.seg1 pkk (by (first | rfl)))) ?_) | (refine Hq.yg rfl rfl (y_loadR1 ag3 rfl (by (first | exact RdS.own pkk)) (by (first | rfl))) ?_)
  refine Hq.yg rfl rfl (y_to (y_neq rfl rfl) (congrArg Value.bool (decide_eq_false ((fun h => h rfl))))) ?_
  first | (refine Hq.yv (y_pickT rfl rfl) ?_) | (refine Hq.yv (y_pickF rfl rfl) ?_) | (refine Hq.yv (y_pickb rfl rfl rfl) ?_) | (refine Hq.yv (y_pick rfl rfl rfl) ?_)
  refine Hq.yv (y_move rfl) ?_
  refine Hq.yg rfl rfl (y_move rfl) ?_
  refine Hq.yg rfl rfl (y_idxA Try.underlying69 sz68 rfl rfl (by first | omega | decide)) ?_
  first | (refine Hq.yg rfl rfl (y_field' (q := 3) (ft := 29) Try.underlying68 rfl sz29 rfl rfl) ?_) | (refine Hq.yg rfl rfl (y_fieldR (q := 3) (ft := 29) Try.underlying68 rfl sz29 rfl rfl) ?_)
  first | (refine Hq.yg rfl rfl (y_load1 ag29 rfl (Rd.pt1 pkk (by (first | rfl)))) ?_) | (refine Hq.yg rfl rfl (y_load1 ag29 rfl (Rd.seg1 pkk (by (first | rfl)))) ?_) | (refine Hq.yg rfl rfl (y_loadR1 ag29 rfl (by (first | exact RdS.own pkk)) (by (first | rfl))) ?_)
  refine Hq.yg rfl rfl (y_to (y_neq rfl rfl) (congrArg Value.bool (decide_eq_false ((fun h => h rfl))))) ?_
  first | (refine Hq.yv (y_pickT rfl rfl) ?_) | (refine Hq.yv (y_pickF rfl rfl) ?_) | (refine Hq.yv (y_pickb rfl rfl rfl) ?_) | (refine Hq.yv (y_pick rfl rfl rfl) ?_)
  refine Hq.nil ?_
  refine Hd.slots [(1, _), (2, _), (5, _), (74, _)] ⟨rfl, rfl, rfl, rfl, trivial⟩ ?_
  refine Hd.toK hK7 ?_
  refine Hd.condF rfl ?_
  refine Hd.skip ?_
  refine Hd.inB ?_
  refine Hd.toK hK6 ?_
  refine Hd.region ?_
  refine Hd.yv (y_move rfl) ?_
  first | (refine Hd.yv (y_addn rfl rfl (by simp only [InK]; omega)) ?_) | (refine Hd.yv (y_add rfl rfl) ?_)
  refine Hd.yv (y_assign rfl) ?_
  refine Hd.nil ?_
  refine Hd.slots [(1, _), (2, _), (5, _)] ⟨rfl, rfl, rfl, trivial⟩ ?_
  refine Hd.roundN ?_
  refine Hd.seq (fun K8 hK8 => ?_)
  refine Hd.seq (fun K9 hK9 => ?_)
  refine Hd.region ?_
  refine Hd.yv (y_move rfl) ?_
  refine Hd.yv (y_lss rfl rfl) ?_
  refine Hd.nil ?_
  refine Hd.slots [(1, _), (2, _), (5, _), (7, _)] ⟨rfl, rfl, rfl, rfl, trivial⟩ ?_
  refine Hd.toK hK9 ?_
  refine Hd.condT rfl ?_
  refine Hd.skip ?_
  refine Hd.toK hK8 ?_
  refine Hd.seq (fun K10 hK10 => ?_)
  refine Hd.block ?_
  refine Hd.seq (fun K11 hK11 => ?_)
  refine Hd.quiet mixed (by kernel_rfl) ?_
  refine Hq.yv (y_move rfl) ?_
  refine Hq.yv (y_idxA Try.underlying69 sz68 rfl rfl (by first | omega | decide)) ?_
  first | (refine Hq.yv (y_field' (q := 0) (ft := 4) Try.underlying68 rfl sz4 rfl rfl) ?_) | (refine Hq.yv (y_fieldR (q := 0) (ft := 4) Try.underlying68 rfl sz4 rfl rfl) ?_)
  first | (refine Hq.yv (y_load1 ag4 rfl (Rd.pt1 pkk (by (first | rfl)))) ?_) | (refine Hq.yv (y_load1 ag4 rfl (Rd.seg1 pkk (by (first | rfl)))) ?_) | (refine Hq.yv (y_loadR1 ag4 rfl (by (first | exact RdS.own pkk)) (by (first | rfl))) ?_)
  refine Hq.yv (y_move rfl) ?_
  refine Hq.yv (y_move rfl) ?_
  first | (refine Hq.yv (y_idxS Try.underlying85 sz125 rfl rfl (by first | omega | decide)) ?_) | (refine Hq.yv (y_idxR Try.underlying85 sz125 rfl rfl (by first | omega | decide) (by (first | exact RdS.own pkk))) ?_)
  first | (refine Hq.yv (y_field' (q := 0) (ft := 4) Try.underlying125 rfl sz4 rfl rfl) ?_) | (refine Hq.yv (y_fieldR (q := 0) (ft := 4) Try.underlying125 rfl sz4 rfl rfl) ?_)
  first | (refine Hq.yv (y_load1 ag4 rfl (Rd.pt1 pkk (by (first | rfl)))) ?_) | (refine Hq.yv (y_load1 ag4 rfl (Rd.seg1 pkk (by (first | rfl)))) ?_) | (refine Hq.yv (y_loadR1 ag4 rfl (by (first | exact RdS.own pkk)) (by (first | rfl))) ?_)
  refine Hq.yv (y_to (v' := .bool false) (y_neqb Try.underlying4 rfl rfl) (by simp)) ?_
  refine Hq.yv (y_move rfl) ?_
  refine Hq.yg rfl rfl (y_move rfl) ?_
  refine Hq.yg rfl rfl (y_idxA Try.underlying69 sz68 rfl rfl (by first | omega | decide)) ?_
  first | (refine Hq.yg rfl rfl (y_field' (q := 1) (ft := 4) Try.underlying68 rfl sz4 rfl rfl) ?_) | (refine Hq.yg rfl rfl (y_fieldR (q := 1) (ft := 4) Try.underlying68 rfl sz4 rfl rfl) ?_)
  first | (refine Hq.yg rfl rfl (y_load1 ag4 rfl (Rd.pt1 pkk (by (first | rfl)))) ?_) | (refine Hq.yg rfl rfl (y_load1 ag4 rfl (Rd.seg1 pkk (by (first | rfl)))) ?_) | (refine Hq.yg rfl rfl (y_loadR1 ag4 rfl (by (first | exact RdS.own pkk)) (by (first | rfl))) ?_)
  refine Hq.yg rfl rfl (y_move rfl) ?_
  refine Hq.yg rfl rfl (y_move rfl) ?_
  first | (refine Hq.yg rfl rfl (y_idxS Try.underlying85 sz125 rfl rfl (by first | omega | decide)) ?_) | (refine Hq.yg rfl rfl (y_idxR Try.underlying85 sz125 rfl rfl (by first | omega | decide) (by (first | exact RdS.own pkk))) ?_)
  first | (refine Hq.yg rfl rfl (y_field' (q := 1) (ft := 4) Try.underlying125 rfl sz4 rfl rfl) ?_) | (refine Hq.yg rfl rfl (y_fieldR (q := 1) (ft := 4) Try.underlying125 rfl sz4 rfl rfl) ?_)
  first | (refine Hq.yg rfl rfl (y_load1 ag4 rfl (Rd.pt1 pkk (by (first | rfl)))) ?_) | (refine Hq.yg rfl rfl (y_load1 ag4 rfl (Rd.seg1 pkk (by (first | rfl)))) ?_) | (refine Hq.yg rfl rfl (y_loadR1 ag4 rfl (by (first | exact RdS.own pkk)) (by (first | rfl))) ?_)
  refine Hq.yg rfl rfl (y_to (v' := .bool false) (y_neqb Try.underlying4 rfl rfl) (by simp)) ?_
  first | (refine Hq.yv (y_pickT rfl rfl) ?_) | (refine Hq.yv (y_pickF rfl rfl) ?_) | (refine Hq.yv (y_pickb rfl rfl rfl) ?_) | (refine Hq.yv (y_pick rfl rfl rfl) ?_)
  refine Hq.yv (y_move rfl) ?_
  refine Hq.yg rfl rfl (y_move rfl) ?_
  refine Hq.yg rfl rfl (y_idxA Try.underlying69 sz68 rfl rfl (by first | omega | decide)) ?_
  first | (refine Hq.yg rfl rfl (y_field' (q := 2) (ft := 3) Try.underlying68 rfl sz3 rfl rfl) ?_) | (refine Hq.yg rfl rfl (y_fieldR (q := 2) (ft := 3) Try.underlying68 rfl sz3 rfl rfl) ?_)
  first | (refine Hq.yg rfl rfl (y_load1 ag3 rfl (Rd.pt1 pkk (by (first | rfl)))) ?_) | (refine Hq.yg rfl rfl (y_load1 ag3 rfl (Rd.seg1 pkk (by (first | rfl)))) ?_) | (refine Hq.yg rfl rfl (y_loadR1 ag3 rfl (by (first | exact RdS.own pkk)) (by (first | rfl))) ?_)
  refine Hq.yg rfl rfl (y_move rfl) ?_
  refine Hq.yg rfl rfl (y_move rfl) ?_
  first | (refine Hq.yg rfl rfl (y_idxS Try.underlying85 sz125 rfl rfl (by first | omega | decide)) ?_) | (refine Hq.yg rfl rfl (y_idxR Try.underlying85 sz125 rfl rfl (by first | omega | decide) (by (first | exact RdS.own pkk))) ?_)
  first | (refine Hq.yg rfl rfl (y_field' (q := 2) (ft := 3) Try.underlying125 rfl sz3 rfl rfl) ?_) | (refine Hq.yg rfl rfl (y_fieldR (q := 2) (ft := 3) Try.underlying125 rfl sz3 rfl rfl) ?_)
  first | (refine Hq.yg rfl rfl (y_load1 ag3 rfl (Rd.pt1 pkk (by (first | rfl)))) ?_) | (refine Hq.yg rfl rfl (y_load1 ag3 rfl (Rd.seg1 pkk (by (first | rfl)))) ?_) | (refine Hq.yg rfl rfl (y_loadR1 ag3 rfl (by (first | exact RdS.own pkk)) (by (first | rfl))) ?_)
  refine Hq.yg rfl rfl (y_to (y_neq rfl rfl) (congrArg Value.bool (decide_eq_false ((fun h => h rfl))))) ?_
  first | (refine Hq.yv (y_pickT rfl rfl) ?_) | (refine Hq.yv (y_pickF rfl rfl) ?_) | (refine Hq.yv (y_pickb rfl rfl rfl) ?_) | (refine Hq.yv (y_pick rfl rfl rfl) ?_)
  refine Hq.yv (y_move rfl) ?_
  refine Hq.yg rfl rfl (y_move rfl) ?_
  refine Hq.yg rfl rfl (y_idxA Try.underlying69 sz68 rfl rfl (by first | omega | decide)) ?_
  first | (refine Hq.yg rfl rfl (y_field' (q := 4) (ft := 3) Try.underlying68 rfl sz3 rfl rfl) ?_) | (refine Hq.yg rfl rfl (y_fieldR (q := 4) (ft := 3) Try.underlying68 rfl sz3 rfl rfl) ?_)
  first | (refine Hq.yg rfl rfl (y_load1 ag3 rfl (Rd.pt1 pkk (by (first | rfl)))) ?_) | (refine Hq.yg rfl rfl (y_load1 ag3 rfl (Rd.seg1 pkk (by (first | rfl)))) ?_) | (refine Hq.yg rfl rfl (y_loadR1 ag3 rfl (by (first | exact RdS.own pkk)) (by (first | rfl))) ?_)
  refine Hq.yg rfl rfl (y_move rfl) ?_
  refine Hq.yg rfl rfl (y_move rfl) ?_
  first | (refine Hq.yg rfl rfl (y_idxS Try.underlying85 sz125 rfl rfl (by first | omega | decide)) ?_) | (refine Hq.yg rfl rfl (y_idxR Try.underlying85 sz125 rfl rfl (by first | omega | decide) (by (first | exact RdS.own pkk))) ?_)
  first | (refine Hq.yg rfl rfl (y_field' (q := 3) (ft := 3) Try.underlying125 rfl sz3 rfl rfl) ?_) | (refine Hq.yg rfl rfl (y_fieldR (q := 3) (ft := 3) Try.underlying125 rfl sz3 rfl rfl) ?_)
  first | (refine Hq.yg rfl rfl (y_load1 ag3 rfl (Rd.pt1 pkk (by (first | rfl)))) ?_) | (refine Hq.yg rfl rfl (y_load1 ag3 rfl (Rd.seg1 pkk (by (first | rfl)))) ?_) | (refine Hq.yg rfl rfl (y_loadR1 ag3 rfl (by (first | exact RdS.own pkk)) (by (first | rfl))) ?_)
  refine Hq.yg rfl rfl (y_to (y_neq rfl rfl) (congrArg Value.bool (decide_eq_false ((fun h => h rfl))))) ?_
  first | (refine Hq.yv (y_pickT rfl rfl) ?_) | (refine Hq.yv (y_pickF rfl rfl) ?_) | (refine Hq.yv (y_pickb rfl rfl rfl) ?_) | (refine Hq.yv (y_pick rfl rfl rfl) ?_)
  refine Hq.yv (y_move rfl) ?_
  refine Hq.yg rfl rfl (y_move rfl) ?_
  refine Hq.yg rfl rfl (y_idxA Try.underlying69 sz68 rfl rfl (by first | omega | decide)) ?_
  first | (refine Hq.yg rfl rfl (y_field' (q := 5) (ft := 3) Try.underlying68 rfl sz3 rfl rfl) ?_) | (refine Hq.yg rfl rfl (y_fieldR (q := 5) (ft := 3) Try.underlying68 rfl sz3 rfl rfl) ?_)
  first | (refine Hq.yg rfl rfl (y_load1 ag3 rfl (Rd.pt1 pkk (by (first | rfl)))) ?_) | (refine Hq.yg rfl rfl (y_load1 ag3 rfl (Rd.seg1 pkk (by (first | rfl)))) ?_) | (refine Hq.yg rfl rfl (y_loadR1 ag3 rfl (by (first | exact RdS.own pkk)) (by (first | rfl))) ?_)
  refine Hq.yg rfl rfl (y_move rfl) ?_
  refine Hq.yg rfl rfl (y_move rfl) ?_
  first | (refine Hq.yg rfl rfl (y_idxS Try.underlying85 sz125 rfl rfl (by first | omega | decide)) ?_) | (refine Hq.yg rfl rfl (y_idxR Try.underlying85 sz125 rfl rfl (by first | omega | decide) (by (first | exact RdS.own pkk))) ?_)
  first | (refine Hq.yg rfl rfl (y_field' (q := 4) (ft := 3) Try.underlying125 rfl sz3 rfl rfl) ?_) | (refine Hq.yg rfl rfl (y_fieldR (q := 4) (ft := 3) Try.underlying125 rfl sz3 rfl rfl) ?_)
  first | (refine Hq.yg rfl rfl (y_load1 ag3 rfl (Rd.pt1 pkk (by (first | rfl)))) ?_) | (refine Hq.yg rfl rfl (y_load1 ag3 rfl (Rd.seg1 pkk (by (first | rfl)))) ?_) | (refine Hq.yg rfl rfl (y_loadR1 ag3 rfl (by (first | exact RdS.own pkk)) (by (first | rfl))) ?_)
  refine Hq.yg rfl rfl (y_to (y_neq rfl rfl) (congrArg Value.bool (decide_eq_false ((fun h => h rfl))))) ?_
  first | (refine Hq.yv (y_pickT rfl rfl) ?_) | (refine Hq.yv (y_pickF rfl rfl) ?_) | (refine Hq.yv (y_pickb rfl rfl rfl) ?_) | (refine Hq.yv (y_pick rfl rfl rfl) ?_)
  refine Hq.yv (y_move rfl) ?_
  refine Hq.yg rfl rfl (y_move rfl) ?_
  refine Hq.yg rfl rfl (y_idxA Try.underlying69 sz68 rfl rfl (by first | omega | decide)) ?_
  first | (refine Hq.yg rfl rfl (y_field' (q := 3) (ft := 29) Try.underlying68 rfl sz29 rfl rfl) ?_) | (refine Hq.yg rfl rfl (y_fieldR (q := 3) (ft := 29) Try.underlying68 rfl sz29 rfl rfl) ?_)
  first | (refine Hq.yg rfl rfl (y_load1 ag29 rfl (Rd.pt1 pkk (by (first | rfl)))) ?_) | (refine Hq.yg rfl rfl (y_load1 ag29 rfl (Rd.seg1 pkk (by (first | rfl)))) ?_) | (refine Hq.yg rfl rfl (y_loadR1 ag29 rfl (by (first | exact RdS.own pkk)) (by (first | rfl))) ?_)
  refine Hq.yg rfl rfl (y_to (y_neq rfl rfl) (congrArg Value.bool (decide_eq_false ((fun h => h rfl))))) ?_
  first | (refine Hq.yv (y_pickT rfl rfl) ?_) | (refine Hq.yv (y_pickF rfl rfl) ?_) | (refine Hq.yv (y_pickb rfl rfl rfl) ?_) | (refine Hq.yv (y_pick rfl rfl rfl) ?_)
  refine Hq.nil ?_
  refine Hd.slots [(1, _), (2, _), (5, _), (74, _)] ⟨rfl, rfl, rfl, rfl, trivial⟩ ?_
  refine Hd.toK hK11 ?_
  refine Hd.condF rfl ?_
  refine Hd.skip ?_
  refine Hd.inB ?_
  refine Hd.toK hK10 ?_
  refine Hd.region ?_
  refine Hd.yv (y_move rfl) ?_
  first | (refine Hd.yv (y_addn rfl rfl (by simp only [InK]; omega)) ?_) | (refine Hd.yv (y_add rfl rfl) ?_)
  refine Hd.yv (y_assign rfl) ?_
  refine Hd.nil ?_
  refine Hd.slots [(1, _), (2, _), (5, _)] ⟨rfl, rfl, rfl, trivial⟩ ?_
  refine Hd.roundN ?_
  refine Hd.seq (fun K12 hK12 => ?_)
  refine Hd.seq (fun K13 hK13 => ?_)
  refine Hd.region ?_
  refine Hd.yv (y_move rfl) ?_
  refine Hd.yv (y_lss rfl rfl) ?_
  refine Hd.nil ?_
  refine Hd.slots [(1, _), (2, _), (5, _), (7, _)] ⟨rfl, rfl, rfl, rfl, trivial⟩ ?_
  refine Hd.toK hK13 ?_
  refine Hd.condF rfl ?_
  refine Hd.exit ?_
  refine Hd.thenExit ?_
  refine Hd.thenExit ?_
  refine Hd.inBexit ?_
  refine Hd.toK hK2 ?_
  refine Hd.seq (fun K14 hK14 => ?_)
  refine Hd.region ?_
  refine Hd.yv (y_assign rfl) ?_
  refine Hd.nil ?_
  refine Hd.slots [(4, _)] ⟨rfl, trivial⟩ ?_
  refine Hd.toK hK14 ?_
  refine Hd.ret ?_
  clear hK1 hK2 hK3 hK4 hK5 hK6 hK7 hK8 hK9 hK10 hK11 hK12 hK13 hK14
  exact Hd.ret1 rfl () (by first | rfl | (simp only [*]; done) | (simp [*]; done)) (Ent.sep enn)
set_option maxHeartbeats 2000000 in
theorem plays8_ct (L : List SP) (ad : Option Addr) (c : Nat) (xs : List Cv) (hR : RdS L 6 ad xs.length (xs.flatMap encC)) (hok : ∀ o ∈ xs, CvOk L o) : Ct Try.prog 11 #[.slice ad xs.length c] (L) (fun _ : Unit => .bool true) (fun _ : Unit => L) := by
  refine Ct.of (vs := [.slice ad xs.length c]) Try.func11 rfl rfl [(0, .slice ad xs.length c)] (by repeat (first | exact trivial | refine ⟨rfl, ?_⟩)) ?_
  intro E
  show Hd E 207 _ _ _ _
  refine Hd.seq (fun K1 hK1 => ?_)
  refine Hd.region ?_
  refine Hd.yv (y_assign rfl) ?_
  refine Hd.nil ?_
  refine Hd.slots [(0, _)] ⟨rfl, trivial⟩ ?_
  refine Hd.toK hK1 ?_
  refine Hd.seq (fun K2 hK2 => ?_)
  refine Hd.seq (fun K3 hK3 => ?_)
  refine Hd.region ?_
  refine Hd.yv (y_move rfl) ?_
  refine Hd.callE rfl fk42 (great8_ct L ad c xs hR) (Ent.sep enn) ?_
  intro g
  refine Hd.pure (fun hgr => ?_)
  refine Hd.yv (y_gtr rfl rfl) ?_
  refine Hd.nil ?_
  refine Hd.slots [(0, _), (16, _)] ⟨rfl, rfl, trivial⟩ ?_
  refine Hd.toK hK3 ?_
  refine Hd.cond rfl (fun hc0 => ?_) (fun hc0 => ?_)
  ·
    try simp only [decide_eq_true_eq, decide_eq_false_iff_not, Bool.and_eq_true, Bool.or_eq_true, Bool.and_eq_false_iff, Bool.or_eq_false_iff, Bool.not_eq_true', Bool.not_eq_false', Bool.not_eq_true, Bool.not_eq_false, Int.not_lt, Int.not_le, Decidable.not_not, ne_eq] at hc0
    refine Hd.seq (fun K4 hK4 => ?_)
    refine Hd.region ?_
    refine Hd.yv (y_assign rfl) ?_
    refine Hd.nil ?_
    refine Hd.slots [(2, _)] ⟨rfl, trivial⟩ ?_
    refine Hd.toK hK4 ?_
    refine Hd.ret ?_
    refine Hd.thenRet ?_
    clear hK1 hK2 hK3 hK4
    exact Hd.ret1 rfl () (by first | rfl | (simp only [*]; done) | (simp [*]; done)) (Ent.sep enn)
  ·
    try simp only [decide_eq_true_eq, decide_eq_false_iff_not, Bool.and_eq_true, Bool.or_eq_true, Bool.and_eq_false_iff, Bool.or_eq_false_iff, Bool.not_eq_true', Bool.not_eq_false', Bool.not_eq_true, Bool.not_eq_false, Int.not_lt, Int.not_le, Decidable.not_not, ne_eq] at hc0
    obtain ⟨hx, hbs⟩ := hgr (by omega)
    refine Hd.skip ?_
    refine Hd.toK hK2 ?_
    refine Hd.seq (fun K5 hK5 => ?_)
    refine Hd.region ?_
    refine Hd.callE rfl fk32 (newA _) (Ent.sep enn) ?_
    intro bp
    refine Hd.yv (y_assign rfl) ?_
    refine Hd.nil ?_
    refine Hd.slots [(0, _), (3, _)] ⟨rfl, rfl, trivial⟩ ?_
    refine Hd.toK hK5 ?_
    refine Hd.seq (fun K6 hK6 => ?_)
    refine Hd.region ?_
    refine Hd.callE rfl fk43 (rnewA _) (Ent.sep enn) ?_
    intro br
    refine Hd.yv (y_assign rfl) ?_
    refine Hd.nil ?_
    refine Hd.slots [(0, _), (3, _), (4, _)] ⟨rfl, rfl, rfl, trivial⟩ ?_
    refine Hd.toK hK6 ?_
    refine Hd.seq (fun K7 hK7 => ?_)
    refine Hd.seq (fun K8 hK8 => ?_)
    refine Hd.region ?_
    refine Hd.yv (y_assign rfl) ?_
    refine Hd.nil ?_
    refine Hd.slots [(0, _), (3, _), (4, _), (5, _)] ⟨rfl, rfl, rfl, rfl, trivial⟩ ?_
    refine Hd.toK hK8 ?_
    refine Hd.block ?_
    refine Hd.loopK (ι := Nat × (Nat → AE)) [(0, _), (3, _), (4, _)] (fun q_ => [(5, .int .i64 (q_.1 : Int))]) (fun q_ => pu (q_.1 ≤ xs.length) :: PrA bp q_.2 :: RfP br q_.2 :: L) (fun q_ => xs.length - q_.1) (0, fun _ => ae0) (by repeat (first | exact trivial | refine ⟨rfl, ?_⟩)) (by repeat (first | exact trivial | refine ⟨rfl, ?_⟩)) (Ent.sep (.pure (by first | omega | (simp; done) | (simp; omega) | exact ⟨by simp, by simp⟩) enn)) ?_
    rintro ⟨i, A⟩
    try dsimp only
    refine Hd.pure (fun hp0 => ?_)
    try dsimp only at hp0
    refine Hd.seq (fun K9 hK9 => ?_)
    refine Hd.seq (fun K10 hK10 => ?_)
    refine Hd.region ?_
    refine Hd.yv (y_move rfl) ?_
    refine Hd.yv (y_move rfl) ?_
    refine Hd.yv (y_len Try.underlying75 rfl) ?_
    refine Hd.yv (y_lss rfl rfl) ?_
    refine Hd.nil ?_
    refine Hd.slots [(0, _), (3, _), (4, _), (5, _), (22, _)] ⟨rfl, rfl, rfl, rfl, rfl, trivial⟩ ?_
    refine Hd.toK hK10 ?_
    refine Hd.cond rfl (fun hc1 => ?_) (fun hc1 => ?_)
    ·
      try simp only [decide_eq_true_eq, decide_eq_false_iff_not, Bool.and_eq_true, Bool.or_eq_true, Bool.and_eq_false_iff, Bool.or_eq_false_iff, Bool.not_eq_true', Bool.not_eq_false', Bool.not_eq_true, Bool.not_eq_false, Int.not_lt, Int.not_le, Decidable.not_not, ne_eq] at hc1
      have hi : i < xs.length := by omega
      obtain ⟨o, ho⟩ : ∃ o, xs[i]? = some o := ⟨_, List.getElem?_eq_getElem hi⟩
      have hoo := hok o (List.mem_of_getElem? ho)
      have hbo := hbs o (List.mem_of_getElem? ho)
      have hon := hoo.n
      refine Hd.prOk .here (fun hA => ?_)
      refine Hd.skip ?_
      refine Hd.toK hK9 ?_
      refine Hd.seq (fun K11 hK11 => ?_)
      refine Hd.block ?_
      refine Hd.seq (fun K12 hK12 => ?_)
      refine Hd.region ?_
      refine Hd.yv (y_move rfl) ?_
      refine Hd.yv (y_move rfl) ?_
      first | (refine Hd.yv (y_idxS Try.underlying75 sz80 rfl rfl (by first | omega | decide)) ?_) | (refine Hd.yv (y_idxR Try.underlying75 sz80 rfl rfl (by first | omega | decide) (by (first | exact RdS.own pkk | exact RdS.mono hR (Ent.sep enn)))) ?_)
      refine Hd.yv (y_loadRn (vs := [_, _, _, _, _, _]) ag80 rfl (RdS.mono hR (Ent.sep enn)) (flat_cells encC 6 (fun _ => rfl) ho) (by exact sz80) (by simp)) ?_
      refine Hd.alloc zr80 (fun b6 => ?_)
      refine Hd.storeA (us := encC o) sz80 rfl rfl rfl (by simp [Value.oneCell']) pkk (by exact rfl) ?_
      refine Hd.nil ?_
      refine Hd.slots [(0, _), (3, _), (4, _), (5, _), (6, _)] ⟨rfl, rfl, rfl, rfl, rfl, trivial⟩ ?_
      refine Hd.toK hK12 ?_
      refine Hd.seq (fun K13 hK13 => ?_)
      refine Hd.region ?_
      refine Hd.yv (y_assign rfl) ?_
      refine Hd.nil ?_
      refine Hd.slots [(0, _), (3, _), (4, _), (5, _), (6, _), (7, _)] ⟨rfl, rfl, rfl, rfl, rfl, rfl, trivial⟩ ?_
      refine Hd.toK hK13 ?_
      refine Hd.cutK (ι := Nat → AE) [(0, _), (3, _), (4, _), (5, _)] (fun _ => [(7, .bool true)]) (fun A2 => PrA bp A2 :: RfP br A2 :: L) ?_ ?_ ⟨rfl, rfl, rfl, rfl, trivial⟩
      ·
        refine Hd.seq (fun K14 hK14 => ?_)
        refine Hd.region ?_
        first | (refine Hd.yv (y_field' (q := 0) (ft := 3) Try.underlying80 rfl sz3 rfl rfl) ?_) | (refine Hd.yv (y_fieldR (q := 0) (ft := 3) Try.underlying80 rfl sz3 rfl rfl) ?_)
        first | (refine Hd.yv (y_load1 ag3 rfl (Rd.pt1 pkk (by (first | rfl)))) ?_) | (refine Hd.yv (y_load1 ag3 rfl (Rd.seg1 pkk (by (first | rfl)))) ?_) | (refine Hd.yv (y_loadR1 ag3 rfl (by (first | exact RdS.own pkk | exact RdS.mono hR (Ent.sep enn))) (by (first | rfl))) ?_)
        refine Hd.nil ?_
        refine Hd.slots [(0, _), (3, _), (4, _), (5, _), (6, _), (7, _), (30, _)] ⟨rfl, rfl, rfl, rfl, rfl, rfl, rfl, trivial⟩ ?_
        refine Hd.toK hK14 ?_
        refine Hd.block ?_
        refine Hd.seq (fun K15 hK15 => ?_)
        refine Hd.region ?_
        first | (refine Hd.yv (y_eqlT rfl rfl) ?_) | (refine Hd.yv (y_eql rfl rfl) ?_)
        refine Hd.yv (y_assign rfl) ?_
        refine Hd.nil ?_
        refine Hd.slots [(0, _), (3, _), (4, _), (5, _), (6, _), (7, _), (30, _), (31, _)] ⟨rfl, rfl, rfl, rfl, rfl, rfl, rfl, rfl, trivial⟩ ?_
        refine Hd.toK hK15 ?_
        refine Hd.cond rfl (fun hc2 => ?_) (fun hc2 => ?_)
        ·
          try simp only [decide_eq_true_eq, decide_eq_false_iff_not, Bool.and_eq_true, Bool.or_eq_true, Bool.and_eq_false_iff, Bool.or_eq_false_iff, Bool.not_eq_true', Bool.not_eq_false', Bool.not_eq_true, Bool.not_eq_false, Int.not_lt, Int.not_le, Decidable.not_not, ne_eq] at hc2
          refine Hd.drawsH ([pt b6 (encC o) 80]) (fun _ => true) mixed ?_
          simp only [List.length, Nat.zero_add, Nat.reduceAdd]
          refine Hd.takeH 0 rfl (by kernel_rfl) (by kernel_rfl) (by kernel_rfl) (by kernel_rfl) (y_move rfl) (fun _ _ => rfl) (Ent.sep enn) ?_
          first | (refine Hd.takeH 1 rfl (by kernel_rfl) (by kernel_rfl) (by kernel_rfl) (by kernel_rfl) (y_field' (q := 1) (ft := 3) Try.underlying80 rfl sz3 rfl rfl) (fun _ _ => rfl) (Ent.sep enn) ?_) | (refine Hd.takeH 1 rfl (by kernel_rfl) (by kernel_rfl) (by kernel_rfl) (by kernel_rfl) (y_fieldR (q := 1) (ft := 3) Try.underlying80 rfl sz3 rfl rfl) (fun _ _ => rfl) (Ent.sep enn) ?_)
          first | (refine Hd.takeH 2 rfl (by kernel_rfl) (by kernel_rfl) (by kernel_rfl) (by kernel_rfl) (y_load1 ag3 rfl (Rd.pt1 pkk (by (first | rfl)))) (fun _ _ => rfl) (Ent.sep enn) ?_) | (refine Hd.takeH 2 rfl (by kernel_rfl) (by kernel_rfl) (by kernel_rfl) (by kernel_rfl) (y_load1 ag3 rfl (Rd.seg1 pkk (by (first | rfl)))) (fun _ _ => rfl) (Ent.sep enn) ?_) | (refine Hd.takeH 2 rfl (by kernel_rfl) (by kernel_rfl) (by kernel_rfl) (by kernel_rfl) (y_loadR1 ag3 rfl (by (first | exact RdS.own pkk | exact RdS.mono hR (Ent.sep enn))) (by (first | rfl))) (fun _ _ => rfl) (Ent.sep enn) ?_)
          first | (refine Hd.takeH 3 rfl (by kernel_rfl) (by kernel_rfl) (by kernel_rfl) (by kernel_rfl) (y_field' (q := 3) (ft := 3) Try.underlying80 rfl sz3 rfl rfl) (fun _ _ => rfl) (Ent.sep enn) ?_) | (refine Hd.takeH 3 rfl (by kernel_rfl) (by kernel_rfl) (by kernel_rfl) (by kernel_rfl) (y_fieldR (q := 3) (ft := 3) Try.underlying80 rfl sz3 rfl rfl) (fun _ _ => rfl) (Ent.sep enn) ?_)
          first | (refine Hd.takeH 4 rfl (by kernel_rfl) (by kernel_rfl) (by kernel_rfl) (by kernel_rfl) (y_load1 ag3 rfl (Rd.pt1 pkk (by (first | rfl)))) (fun _ _ => rfl) (Ent.sep enn) ?_) | (refine Hd.takeH 4 rfl (by kernel_rfl) (by kernel_rfl) (by kernel_rfl) (by kernel_rfl) (y_load1 ag3 rfl (Rd.seg1 pkk (by (first | rfl)))) (fun _ _ => rfl) (Ent.sep enn) ?_) | (refine Hd.takeH 4 rfl (by kernel_rfl) (by kernel_rfl) (by kernel_rfl) (by kernel_rfl) (y_loadR1 ag3 rfl (by (first | exact RdS.own pkk | exact RdS.mono hR (Ent.sep enn))) (by (first | rfl))) (fun _ _ => rfl) (Ent.sep enn) ?_)
          refine Hd.takeH 6 rfl (by kernel_rfl) (by kernel_rfl) (by kernel_rfl) (by kernel_rfl) (y_move rfl) (fun _ _ => rfl) (Ent.sep enn) ?_
          first | (refine Hd.takeH 7 rfl (by kernel_rfl) (by kernel_rfl) (by kernel_rfl) (by kernel_rfl) (y_field' (q := 1) (ft := 3) Try.underlying80 rfl sz3 rfl rfl) (fun _ _ => rfl) (Ent.sep enn) ?_) | (refine Hd.takeH 7 rfl (by kernel_rfl) (by kernel_rfl) (by kernel_rfl) (by kernel_rfl) (y_fieldR (q := 1) (ft := 3) Try.underlying80 rfl sz3 rfl rfl) (fun _ _ => rfl) (Ent.sep enn) ?_)
          first | (refine Hd.takeH 8 rfl (by kernel_rfl) (by kernel_rfl) (by kernel_rfl) (by kernel_rfl) (y_load1 ag3 rfl (Rd.pt1 pkk (by (first | rfl)))) (fun _ _ => rfl) (Ent.sep enn) ?_) | (refine Hd.takeH 8 rfl (by kernel_rfl) (by kernel_rfl) (by kernel_rfl) (by kernel_rfl) (y_load1 ag3 rfl (Rd.seg1 pkk (by (first | rfl)))) (fun _ _ => rfl) (Ent.sep enn) ?_) | (refine Hd.takeH 8 rfl (by kernel_rfl) (by kernel_rfl) (by kernel_rfl) (by kernel_rfl) (y_loadR1 ag3 rfl (by (first | exact RdS.own pkk | exact RdS.mono hR (Ent.sep enn))) (by (first | rfl))) (fun _ _ => rfl) (Ent.sep enn) ?_)
          first | (refine Hd.takeH 9 rfl (by kernel_rfl) (by kernel_rfl) (by kernel_rfl) (by kernel_rfl) (y_field' (q := 3) (ft := 3) Try.underlying80 rfl sz3 rfl rfl) (fun _ _ => rfl) (Ent.sep enn) ?_) | (refine Hd.takeH 9 rfl (by kernel_rfl) (by kernel_rfl) (by kernel_rfl) (by kernel_rfl) (y_fieldR (q := 3) (ft := 3) Try.underlying80 rfl sz3 rfl rfl) (fun _ _ => rfl) (Ent.sep enn) ?_)
          first | (refine Hd.takeH 10 rfl (by kernel_rfl) (by kernel_rfl) (by kernel_rfl) (by kernel_rfl) (y_load1 ag3 rfl (Rd.pt1 pkk (by (first | rfl)))) (fun _ _ => rfl) (Ent.sep enn) ?_) | (refine Hd.takeH 10 rfl (by kernel_rfl) (by kernel_rfl) (by kernel_rfl) (by kernel_rfl) (y_load1 ag3 rfl (Rd.seg1 pkk (by (first | rfl)))) (fun _ _ => rfl) (Ent.sep enn) ?_) | (refine Hd.takeH 10 rfl (by kernel_rfl) (by kernel_rfl) (by kernel_rfl) (by kernel_rfl) (y_loadR1 ag3 rfl (by (first | exact RdS.own pkk | exact RdS.mono hR (Ent.sep enn))) (by (first | rfl))) (fun _ _ => rfl) (Ent.sep enn) ?_)
          refine Hd.onlyH 5 rfl (by kernel_rfl) ?_
          refine Hd.callE rfl fk34 (enableA _ bp A o.k o.n hon) (Ent.sep enn) ?_
          intro _
          refine Hd.nil ?_
          refine Hd.thenN ?_
          refine Hd.heldK (J := (fun _ => true)) (i := 5) (Ent.sep enn) ?_
          refine Hd.onlyH 11 rfl (by kernel_rfl) ?_
          refine Hd.callE rfl fk44 (rturnA _ br A o.k o.n true) (Ent.sep enn) ?_
          intro _
          refine Hd.nil ?_
          refine Hd.thenN ?_
          refine Hd.heldK (J := (fun _ => true)) (i := 11) (Ent.sep enn) ?_
          first | (refine Hd.takeH 12 rfl (by kernel_rfl) (by kernel_rfl) (by kernel_rfl) (by kernel_rfl) (y_to (y_eqlT rfl rfl) (congrArg Value.bool (decide_eq_true (rfl)))) (fun _ _ => rfl) (Ent.sep enn) ?_) | (refine Hd.takeH 12 rfl (by kernel_rfl) (by kernel_rfl) (by kernel_rfl) (by kernel_rfl) (y_to (y_eql rfl rfl) (congrArg Value.bool (decide_eq_true (rfl)))) (fun _ _ => rfl) (Ent.sep enn) ?_)
          refine Hd.takeH 13 rfl (by kernel_rfl) (by kernel_rfl) (by kernel_rfl) (by kernel_rfl) (y_assign rfl) (fun _ _ => rfl) (Ent.sep enn) ?_
          refine Hd.endH (by kernel_rfl) ?_
          refine Hd.slots [(0, _), (3, _), (4, _), (5, _), (7, _)] ⟨rfl, rfl, rfl, rfl, rfl, trivial⟩ ?_
          refine Hd.inB ?_
          clear hK1 hK2 hK3 hK5 hK6 hK7 hK8 hK9 hK10 hK11 hK12 hK13 hK14 hK15
          refine Hd.thenN ?_
          exact Hd.meet (aTurn A o.k o.n true) (by repeat (first | exact trivial | refine ⟨rfl, ?_⟩)) (Ent.sep enn)
        ·
          try simp only [decide_eq_true_eq, decide_eq_false_iff_not, Bool.and_eq_true, Bool.or_eq_true, Bool.and_eq_false_iff, Bool.or_eq_false_iff, Bool.not_eq_true', Bool.not_eq_false', Bool.not_eq_true, Bool.not_eq_false, Int.not_lt, Int.not_le, Decidable.not_not, ne_eq] at hc2
          refine Hd.seq (fun K16 hK16 => ?_)
          refine Hd.region ?_
          first | (refine Hd.yv (y_eqlT rfl rfl) ?_) | (refine Hd.yv (y_eql rfl rfl) ?_)
          refine Hd.yv (y_assign rfl) ?_
          refine Hd.nil ?_
          refine Hd.slots [(0, _), (3, _), (4, _), (5, _), (6, _), (7, _), (30, _), (46, _)] ⟨rfl, rfl, rfl, rfl, rfl, rfl, rfl, rfl, trivial⟩ ?_
          refine Hd.toK hK16 ?_
          refine Hd.cond rfl (fun hc3 => ?_) (fun hc3 => ?_)
          ·
            try simp only [decide_eq_true_eq, decide_eq_false_iff_not, Bool.and_eq_true, Bool.or_eq_true, Bool.and_eq_false_iff, Bool.or_eq_false_iff, Bool.not_eq_true', Bool.not_eq_false', Bool.not_eq_true, Bool.not_eq_false, Int.not_lt, Int.not_le, Decidable.not_not, ne_eq] at hc3
            refine Hd.drawsH ([pt b6 (encC o) 80]) (fun _ => true) mixed ?_
            simp only [List.length, Nat.zero_add, Nat.reduceAdd]
            refine Hd.takeH 0 rfl (by kernel_rfl) (by kernel_rfl) (by kernel_rfl) (by kernel_rfl) (y_move rfl) (fun _ _ => rfl) (Ent.sep enn) ?_
            first | (refine Hd.takeH 1 rfl (by kernel_rfl) (by kernel_rfl) (by kernel_rfl) (by kernel_rfl) (y_field' (q := 1) (ft := 3) Try.underlying80 rfl sz3 rfl rfl) (fun _ _ => rfl) (Ent.sep enn) ?_) | (refine Hd.takeH 1 rfl (by kernel_rfl) (by kernel_rfl) (by kernel_rfl) (by kernel_rfl) (y_fieldR (q := 1) (ft := 3) Try.underlying80 rfl sz3 rfl rfl) (fun _ _ => rfl) (Ent.sep enn) ?_)
            first | (refine Hd.takeH 2 rfl (by kernel_rfl) (by kernel_rfl) (by kernel_rfl) (by kernel_rfl) (y_load1 ag3 rfl (Rd.pt1 pkk (by (first | rfl)))) (fun _ _ => rfl) (Ent.sep enn) ?_) | (refine Hd.takeH 2 rfl (by kernel_rfl) (by kernel_rfl) (by kernel_rfl) (by kernel_rfl) (y_load1 ag3 rfl (Rd.seg1 pkk (by (first | rfl)))) (fun _ _ => rfl) (Ent.sep enn) ?_) | (refine Hd.takeH 2 rfl (by kernel_rfl) (by kernel_rfl) (by kernel_rfl) (by kernel_rfl) (y_loadR1 ag3 rfl (by (first | exact RdS.own pkk | exact RdS.mono hR (Ent.sep enn))) (by (first | rfl))) (fun _ _ => rfl) (Ent.sep enn) ?_)
            first | (refine Hd.takeH 3 rfl (by kernel_rfl) (by kernel_rfl) (by kernel_rfl) (by kernel_rfl) (y_field' (q := 3) (ft := 3) Try.underlying80 rfl sz3 rfl rfl) (fun _ _ => rfl) (Ent.sep enn) ?_) | (refine Hd.takeH 3 rfl (by kernel_rfl) (by kernel_rfl) (by kernel_rfl) (by kernel_rfl) (y_fieldR (q := 3) (ft := 3) Try.underlying80 rfl sz3 rfl rfl) (fun _ _ => rfl) (Ent.sep enn) ?_)
            first | (refine Hd.takeH 4 rfl (by kernel_rfl) (by kernel_rfl) (by kernel_rfl) (by kernel_rfl) (y_load1 ag3 rfl (Rd.pt1 pkk (by (first | rfl)))) (fun _ _ => rfl) (Ent.sep enn) ?_) | (refine Hd.takeH 4 rfl (by kernel_rfl) (by kernel_rfl) (by kernel_rfl) (by kernel_rfl) (y_load1 ag3 rfl (Rd.seg1 pkk (by (first | rfl)))) (fun _ _ => rfl) (Ent.sep enn) ?_) | (refine Hd.takeH 4 rfl (by kernel_rfl) (by kernel_rfl) (by kernel_rfl) (by kernel_rfl) (y_loadR1 ag3 rfl (by (first | exact RdS.own pkk | exact RdS.mono hR (Ent.sep enn))) (by (first | rfl))) (fun _ _ => rfl) (Ent.sep enn) ?_)
            refine Hd.takeH 6 rfl (by kernel_rfl) (by kernel_rfl) (by kernel_rfl) (by kernel_rfl) (y_move rfl) (fun _ _ => rfl) (Ent.sep enn) ?_
            first | (refine Hd.takeH 7 rfl (by kernel_rfl) (by kernel_rfl) (by kernel_rfl) (by kernel_rfl) (y_field' (q := 1) (ft := 3) Try.underlying80 rfl sz3 rfl rfl) (fun _ _ => rfl) (Ent.sep enn) ?_) | (refine Hd.takeH 7 rfl (by kernel_rfl) (by kernel_rfl) (by kernel_rfl) (by kernel_rfl) (y_fieldR (q := 1) (ft := 3) Try.underlying80 rfl sz3 rfl rfl) (fun _ _ => rfl) (Ent.sep enn) ?_)
            first | (refine Hd.takeH 8 rfl (by kernel_rfl) (by kernel_rfl) (by kernel_rfl) (by kernel_rfl) (y_load1 ag3 rfl (Rd.pt1 pkk (by (first | rfl)))) (fun _ _ => rfl) (Ent.sep enn) ?_) | (refine Hd.takeH 8 rfl (by kernel_rfl) (by kernel_rfl) (by kernel_rfl) (by kernel_rfl) (y_load1 ag3 rfl (Rd.seg1 pkk (by (first | rfl)))) (fun _ _ => rfl) (Ent.sep enn) ?_) | (refine Hd.takeH 8 rfl (by kernel_rfl) (by kernel_rfl) (by kernel_rfl) (by kernel_rfl) (y_loadR1 ag3 rfl (by (first | exact RdS.own pkk | exact RdS.mono hR (Ent.sep enn))) (by (first | rfl))) (fun _ _ => rfl) (Ent.sep enn) ?_)
            first | (refine Hd.takeH 9 rfl (by kernel_rfl) (by kernel_rfl) (by kernel_rfl) (by kernel_rfl) (y_field' (q := 3) (ft := 3) Try.underlying80 rfl sz3 rfl rfl) (fun _ _ => rfl) (Ent.sep enn) ?_) | (refine Hd.takeH 9 rfl (by kernel_rfl) (by kernel_rfl) (by kernel_rfl) (by kernel_rfl) (y_fieldR (q := 3) (ft := 3) Try.underlying80 rfl sz3 rfl rfl) (fun _ _ => rfl) (Ent.sep enn) ?_)
            first | (refine Hd.takeH 10 rfl (by kernel_rfl) (by kernel_rfl) (by kernel_rfl) (by kernel_rfl) (y_load1 ag3 rfl (Rd.pt1 pkk (by (first | rfl)))) (fun _ _ => rfl) (Ent.sep enn) ?_) | (refine Hd.takeH 10 rfl (by kernel_rfl) (by kernel_rfl) (by kernel_rfl) (by kernel_rfl) (y_load1 ag3 rfl (Rd.seg1 pkk (by (first | rfl)))) (fun _ _ => rfl) (Ent.sep enn) ?_) | (refine Hd.takeH 10 rfl (by kernel_rfl) (by kernel_rfl) (by kernel_rfl) (by kernel_rfl) (y_loadR1 ag3 rfl (by (first | exact RdS.own pkk | exact RdS.mono hR (Ent.sep enn))) (by (first | rfl))) (fun _ _ => rfl) (Ent.sep enn) ?_)
            refine Hd.onlyH 5 rfl (by kernel_rfl) ?_
            refine Hd.callE rfl fk45 (disableA _ bp A o.k o.n hon) (Ent.sep enn) ?_
            intro _
            refine Hd.nil ?_
            refine Hd.thenN ?_
            refine Hd.heldK (J := (fun _ => true)) (i := 5) (Ent.sep enn) ?_
            refine Hd.onlyH 11 rfl (by kernel_rfl) ?_
            refine Hd.callE rfl fk44 (rturnA _ br A o.k o.n false) (Ent.sep enn) ?_
            intro _
            refine Hd.nil ?_
            refine Hd.thenN ?_
            refine Hd.heldK (J := (fun _ => true)) (i := 11) (Ent.sep enn) ?_
            first | (refine Hd.takeH 12 rfl (by kernel_rfl) (by kernel_rfl) (by kernel_rfl) (by kernel_rfl) (y_to (y_eqlT rfl rfl) (congrArg Value.bool (decide_eq_true (rfl)))) (fun _ _ => rfl) (Ent.sep enn) ?_) | (refine Hd.takeH 12 rfl (by kernel_rfl) (by kernel_rfl) (by kernel_rfl) (by kernel_rfl) (y_to (y_eql rfl rfl) (congrArg Value.bool (decide_eq_true (rfl)))) (fun _ _ => rfl) (Ent.sep enn) ?_)
            refine Hd.takeH 13 rfl (by kernel_rfl) (by kernel_rfl) (by kernel_rfl) (by kernel_rfl) (y_assign rfl) (fun _ _ => rfl) (Ent.sep enn) ?_
            refine Hd.endH (by kernel_rfl) ?_
            refine Hd.slots [(0, _), (3, _), (4, _), (5, _), (7, _)] ⟨rfl, rfl, rfl, rfl, rfl, trivial⟩ ?_
            refine Hd.inB ?_
            clear hK1 hK2 hK3 hK5 hK6 hK7 hK8 hK9 hK10 hK11 hK12 hK13 hK14 hK15 hK16
            refine Hd.thenN ?_
            exact Hd.meet (aTurn A o.k o.n false) (by repeat (first | exact trivial | refine ⟨rfl, ?_⟩)) (Ent.sep enn)
          ·
            try simp only [decide_eq_true_eq, decide_eq_false_iff_not, Bool.and_eq_true, Bool.or_eq_true, Bool.and_eq_false_iff, Bool.or_eq_false_iff, Bool.not_eq_true', Bool.not_eq_false', Bool.not_eq_true, Bool.not_eq_false, Int.not_lt, Int.not_le, Decidable.not_not, ne_eq] at hc3
            refine Hd.seq (fun K17 hK17 => ?_)
            refine Hd.region ?_
            first | (refine Hd.yv (y_eqlT rfl rfl) ?_) | (refine Hd.yv (y_eql rfl rfl) ?_)
            refine Hd.yv (y_assign rfl) ?_
            refine Hd.nil ?_
            refine Hd.slots [(0, _), (3, _), (4, _), (5, _), (6, _), (7, _), (30, _), (61, _)] ⟨rfl, rfl, rfl, rfl, rfl, rfl, rfl, rfl, trivial⟩ ?_
            refine Hd.toK hK17 ?_
            refine Hd.cond rfl (fun hc4 => ?_) (fun hc4 => ?_)
            ·
              try simp only [decide_eq_true_eq, decide_eq_false_iff_not, Bool.and_eq_true, Bool.or_eq_true, Bool.and_eq_false_iff, Bool.or_eq_false_iff, Bool.not_eq_true', Bool.not_eq_false', Bool.not_eq_true, Bool.not_eq_false, Int.not_lt, Int.not_le, Decidable.not_not, ne_eq] at hc4
              refine Hd.drawsH ([pt b6 (encC o) 80]) (fun _ => true) mixed ?_
              simp only [List.length, Nat.zero_add, Nat.reduceAdd]
              refine Hd.takeH 0 rfl (by kernel_rfl) (by kernel_rfl) (by kernel_rfl) (by kernel_rfl) (y_move rfl) (fun _ _ => rfl) (Ent.sep enn) ?_
              first | (refine Hd.takeH 1 rfl (by kernel_rfl) (by kernel_rfl) (by kernel_rfl) (by kernel_rfl) (y_field' (q := 1) (ft := 3) Try.underlying80 rfl sz3 rfl rfl) (fun _ _ => rfl) (Ent.sep enn) ?_) | (refine Hd.takeH 1 rfl (by kernel_rfl) (by kernel_rfl) (by kernel_rfl) (by kernel_rfl) (y_fieldR (q := 1) (ft := 3) Try.underlying80 rfl sz3 rfl rfl) (fun _ _ => rfl) (Ent.sep enn) ?_)
              first | (refine Hd.takeH 2 rfl (by kernel_rfl) (by kernel_rfl) (by kernel_rfl) (by kernel_rfl) (y_load1 ag3 rfl (Rd.pt1 pkk (by (first | rfl)))) (fun _ _ => rfl) (Ent.sep enn) ?_) | (refine Hd.takeH 2 rfl (by kernel_rfl) (by kernel_rfl) (by kernel_rfl) (by kernel_rfl) (y_load1 ag3 rfl (Rd.seg1 pkk (by (first | rfl)))) (fun _ _ => rfl) (Ent.sep enn) ?_) | (refine Hd.takeH 2 rfl (by kernel_rfl) (by kernel_rfl) (by kernel_rfl) (by kernel_rfl) (y_loadR1 ag3 rfl (by (first | exact RdS.own pkk | exact RdS.mono hR (Ent.sep enn))) (by (first | rfl))) (fun _ _ => rfl) (Ent.sep enn) ?_)
              first | (refine Hd.takeH 3 rfl (by kernel_rfl) (by kernel_rfl) (by kernel_rfl) (by kernel_rfl) (y_field' (q := 2) (ft := 3) Try.underlying80 rfl sz3 rfl rfl) (fun _ _ => rfl) (Ent.sep enn) ?_) | (refine Hd.takeH 3 rfl (by kernel_rfl) (by kernel_rfl) (by kernel_rfl) (by kernel_rfl) (y_fieldR (q := 2) (ft := 3) Try.underlying80 rfl sz3 rfl rfl) (fun _ _ => rfl) (Ent.sep enn) ?_)
              first | (refine Hd.takeH 4 rfl (by kernel_rfl) (by kernel_rfl) (by kernel_rfl) (by kernel_rfl) (y_load1 ag3 rfl (Rd.pt1 pkk (by (first | rfl)))) (fun _ _ => rfl) (Ent.sep enn) ?_) | (refine Hd.takeH 4 rfl (by kernel_rfl) (by kernel_rfl) (by kernel_rfl) (by kernel_rfl) (y_load1 ag3 rfl (Rd.seg1 pkk (by (first | rfl)))) (fun _ _ => rfl) (Ent.sep enn) ?_) | (refine Hd.takeH 4 rfl (by kernel_rfl) (by kernel_rfl) (by kernel_rfl) (by kernel_rfl) (y_loadR1 ag3 rfl (by (first | exact RdS.own pkk | exact RdS.mono hR (Ent.sep enn))) (by (first | rfl))) (fun _ _ => rfl) (Ent.sep enn) ?_)
              first | (refine Hd.takeH 5 rfl (by kernel_rfl) (by kernel_rfl) (by kernel_rfl) (by kernel_rfl) (y_field' (q := 3) (ft := 3) Try.underlying80 rfl sz3 rfl rfl) (fun _ _ => rfl) (Ent.sep enn) ?_) | (refine Hd.takeH 5 rfl (by kernel_rfl) (by kernel_rfl) (by kernel_rfl) (by kernel_rfl) (y_fieldR (q := 3) (ft := 3) Try.underlying80 rfl sz3 rfl rfl) (fun _ _ => rfl) (Ent.sep enn) ?_)
              first | (refine Hd.takeH 6 rfl (by kernel_rfl) (by kernel_rfl) (by kernel_rfl) (by kernel_rfl) (y_load1 ag3 rfl (Rd.pt1 pkk (by (first | rfl)))) (fun _ _ => rfl) (Ent.sep enn) ?_) | (refine Hd.takeH 6 rfl (by kernel_rfl) (by kernel_rfl) (by kernel_rfl) (by kernel_rfl) (y_load1 ag3 rfl (Rd.seg1 pkk (by (first | rfl)))) (fun _ _ => rfl) (Ent.sep enn) ?_) | (refine Hd.takeH 6 rfl (by kernel_rfl) (by kernel_rfl) (by kernel_rfl) (by kernel_rfl) (y_loadR1 ag3 rfl (by (first | exact RdS.own pkk | exact RdS.mono hR (Ent.sep enn))) (by (first | rfl))) (fun _ _ => rfl) (Ent.sep enn) ?_)
              first | (refine Hd.takeH 7 rfl (by kernel_rfl) (by kernel_rfl) (by kernel_rfl) (by kernel_rfl) (y_field' (q := 4) (ft := 3) Try.underlying80 rfl sz3 rfl rfl) (fun _ _ => rfl) (Ent.sep enn) ?_) | (refine Hd.takeH 7 rfl (by kernel_rfl) (by kernel_rfl) (by kernel_rfl) (by kernel_rfl) (y_fieldR (q := 4) (ft := 3) Try.underlying80 rfl sz3 rfl rfl) (fun _ _ => rfl) (Ent.sep enn) ?_)
              first | (refine Hd.takeH 8 rfl (by kernel_rfl) (by kernel_rfl) (by kernel_rfl) (by kernel_rfl) (y_load1 ag3 rfl (Rd.pt1 pkk (by (first | rfl)))) (fun _ _ => rfl) (Ent.sep enn) ?_) | (refine Hd.takeH 8 rfl (by kernel_rfl) (by kernel_rfl) (by kernel_rfl) (by kernel_rfl) (y_load1 ag3 rfl (Rd.seg1 pkk (by (first | rfl)))) (fun _ _ => rfl) (Ent.sep enn) ?_) | (refine Hd.takeH 8 rfl (by kernel_rfl) (by kernel_rfl) (by kernel_rfl) (by kernel_rfl) (y_loadR1 ag3 rfl (by (first | exact RdS.own pkk | exact RdS.mono hR (Ent.sep enn))) (by (first | rfl))) (fun _ _ => rfl) (Ent.sep enn) ?_)
              refine Hd.takeH 10 rfl (by kernel_rfl) (by kernel_rfl) (by kernel_rfl) (by kernel_rfl) (y_move rfl) (fun _ _ => rfl) (Ent.sep enn) ?_
              first | (refine Hd.takeH 11 rfl (by kernel_rfl) (by kernel_rfl) (by kernel_rfl) (by kernel_rfl) (y_field' (q := 1) (ft := 3) Try.underlying80 rfl sz3 rfl rfl) (fun _ _ => rfl) (Ent.sep enn) ?_) | (refine Hd.takeH 11 rfl (by kernel_rfl) (by kernel_rfl) (by kernel_rfl) (by kernel_rfl) (y_fieldR (q := 1) (ft := 3) Try.underlying80 rfl sz3 rfl rfl) (fun _ _ => rfl) (Ent.sep enn) ?_)
              first | (refine Hd.takeH 12 rfl (by kernel_rfl) (by kernel_rfl) (by kernel_rfl) (by kernel_rfl) (y_load1 ag3 rfl (Rd.pt1 pkk (by (first | rfl)))) (fun _ _ => rfl) (Ent.sep enn) ?_) | (refine Hd.takeH 12 rfl (by kernel_rfl) (by kernel_rfl) (by kernel_rfl) (by kernel_rfl) (y_load1 ag3 rfl (Rd.seg1 pkk (by (first | rfl)))) (fun _ _ => rfl) (Ent.sep enn) ?_) | (refine Hd.takeH 12 rfl (by kernel_rfl) (by kernel_rfl) (by kernel_rfl) (by kernel_rfl) (y_loadR1 ag3 rfl (by (first | exact RdS.own pkk | exact RdS.mono hR (Ent.sep enn))) (by (first | rfl))) (fun _ _ => rfl) (Ent.sep enn) ?_)
              first | (refine Hd.takeH 13 rfl (by kernel_rfl) (by kernel_rfl) (by kernel_rfl) (by kernel_rfl) (y_field' (q := 2) (ft := 3) Try.underlying80 rfl sz3 rfl rfl) (fun _ _ => rfl) (Ent.sep enn) ?_) | (refine Hd.takeH 13 rfl (by kernel_rfl) (by kernel_rfl) (by kernel_rfl) (by kernel_rfl) (y_fieldR (q := 2) (ft := 3) Try.underlying80 rfl sz3 rfl rfl) (fun _ _ => rfl) (Ent.sep enn) ?_)
              first | (refine Hd.takeH 14 rfl (by kernel_rfl) (by kernel_rfl) (by kernel_rfl) (by kernel_rfl) (y_load1 ag3 rfl (Rd.pt1 pkk (by (first | rfl)))) (fun _ _ => rfl) (Ent.sep enn) ?_) | (refine Hd.takeH 14 rfl (by kernel_rfl) (by kernel_rfl) (by kernel_rfl) (by kernel_rfl) (y_load1 ag3 rfl (Rd.seg1 pkk (by (first | rfl)))) (fun _ _ => rfl) (Ent.sep enn) ?_) | (refine Hd.takeH 14 rfl (by kernel_rfl) (by kernel_rfl) (by kernel_rfl) (by kernel_rfl) (y_loadR1 ag3 rfl (by (first | exact RdS.own pkk | exact RdS.mono hR (Ent.sep enn))) (by (first | rfl))) (fun _ _ => rfl) (Ent.sep enn) ?_)
              first | (refine Hd.takeH 15 rfl (by kernel_rfl) (by kernel_rfl) (by kernel_rfl) (by kernel_rfl) (y_field' (q := 3) (ft := 3) Try.underlying80 rfl sz3 rfl rfl) (fun _ _ => rfl) (Ent.sep enn) ?_) | (refine Hd.takeH 15 rfl (by kernel_rfl) (by kernel_rfl) (by kernel_rfl) (by kernel_rfl) (y_fieldR (q := 3) (ft := 3) Try.underlying80 rfl sz3 rfl rfl) (fun _ _ => rfl) (Ent.sep enn) ?_)
              first | (refine Hd.takeH 16 rfl (by kernel_rfl) (by kernel_rfl) (by kernel_rfl) (by kernel_rfl) (y_load1 ag3 rfl (Rd.pt1 pkk (by (first | rfl)))) (fun _ _ => rfl) (Ent.sep enn) ?_) | (refine Hd.takeH 16 rfl (by kernel_rfl) (by kernel_rfl) (by kernel_rfl) (by kernel_rfl) (y_load1 ag3 rfl (Rd.seg1 pkk (by (first | rfl)))) (fun _ _ => rfl) (Ent.sep enn) ?_) | (refine Hd.takeH 16 rfl (by kernel_rfl) (by kernel_rfl) (by kernel_rfl) (by kernel_rfl) (y_loadR1 ag3 rfl (by (first | exact RdS.own pkk | exact RdS.mono hR (Ent.sep enn))) (by (first | rfl))) (fun _ _ => rfl) (Ent.sep enn) ?_)
              first | (refine Hd.takeH 17 rfl (by kernel_rfl) (by kernel_rfl) (by kernel_rfl) (by kernel_rfl) (y_field' (q := 4) (ft := 3) Try.underlying80 rfl sz3 rfl rfl) (fun _ _ => rfl) (Ent.sep enn) ?_) | (refine Hd.takeH 17 rfl (by kernel_rfl) (by kernel_rfl) (by kernel_rfl) (by kernel_rfl) (y_fieldR (q := 4) (ft := 3) Try.underlying80 rfl sz3 rfl rfl) (fun _ _ => rfl) (Ent.sep enn) ?_)
              first | (refine Hd.takeH 18 rfl (by kernel_rfl) (by kernel_rfl) (by kernel_rfl) (by kernel_rfl) (y_load1 ag3 rfl (Rd.pt1 pkk (by (first | rfl)))) (fun _ _ => rfl) (Ent.sep enn) ?_) | (refine Hd.takeH 18 rfl (by kernel_rfl) (by kernel_rfl) (by kernel_rfl) (by kernel_rfl) (y_load1 ag3 rfl (Rd.seg1 pkk (by (first | rfl)))) (fun _ _ => rfl) (Ent.sep enn) ?_) | (refine Hd.takeH 18 rfl (by kernel_rfl) (by kernel_rfl) (by kernel_rfl) (by kernel_rfl) (y_loadR1 ag3 rfl (by (first | exact RdS.own pkk | exact RdS.mono hR (Ent.sep enn))) (by (first | rfl))) (fun _ _ => rfl) (Ent.sep enn) ?_)
              refine Hd.onlyH 9 rfl (by kernel_rfl) ?_
              refine Hd.callE rfl fk35 (marksA _ bp A o.k o.side o.n o.m) (Ent.sep enn) ?_
              intro _
              refine Hd.nil ?_
              refine Hd.thenN ?_
              refine Hd.heldK (J := (fun _ => true)) (i := 9) (Ent.sep enn) ?_
              refine Hd.onlyH 19 rfl (by kernel_rfl) ?_
              refine Hd.callE rfl fk46 (rmarksA _ br A o.k o.side o.n o.m) (Ent.sep enn) ?_
              intro _
              refine Hd.nil ?_
              refine Hd.thenN ?_
              refine Hd.heldK (J := (fun _ => true)) (i := 19) (Ent.sep enn) ?_
              first | (refine Hd.takeH 20 rfl (by kernel_rfl) (by kernel_rfl) (by kernel_rfl) (by kernel_rfl) (y_to (y_eqlT rfl rfl) (congrArg Value.bool (decide_eq_true (rfl)))) (fun _ _ => rfl) (Ent.sep enn) ?_) | (refine Hd.takeH 20 rfl (by kernel_rfl) (by kernel_rfl) (by kernel_rfl) (by kernel_rfl) (y_to (y_eql rfl rfl) (congrArg Value.bool (decide_eq_true (rfl)))) (fun _ _ => rfl) (Ent.sep enn) ?_)
              refine Hd.takeH 21 rfl (by kernel_rfl) (by kernel_rfl) (by kernel_rfl) (by kernel_rfl) (y_assign rfl) (fun _ _ => rfl) (Ent.sep enn) ?_
              refine Hd.endH (by kernel_rfl) ?_
              refine Hd.slots [(0, _), (3, _), (4, _), (5, _), (7, _)] ⟨rfl, rfl, rfl, rfl, rfl, trivial⟩ ?_
              refine Hd.inB ?_
              clear hK1 hK2 hK3 hK5 hK6 hK7 hK8 hK9 hK10 hK11 hK12 hK13 hK14 hK15 hK16 hK17
              refine Hd.thenN ?_
              exact Hd.meet (aMarks A o.k o.side o.n o.m) (by repeat (first | exact trivial | refine ⟨rfl, ?_⟩)) (Ent.sep enn)
            ·
              try simp only [decide_eq_true_eq, decide_eq_false_iff_not, Bool.and_eq_true, Bool.or_eq_true, Bool.and_eq_false_iff, Bool.or_eq_false_iff, Bool.not_eq_true', Bool.not_eq_false', Bool.not_eq_true, Bool.not_eq_false, Int.not_lt, Int.not_le, Decidable.not_not, ne_eq] at hc4
              refine Hd.seq (fun K18 hK18 => ?_)
              refine Hd.region ?_
              first | (refine Hd.yv (y_eqlT rfl rfl) ?_) | (refine Hd.yv (y_eql rfl rfl) ?_)
              refine Hd.yv (y_assign rfl) ?_
              refine Hd.nil ?_
              refine Hd.slots [(0, _), (3, _), (4, _), (5, _), (6, _), (7, _), (30, _), (84, _)] ⟨rfl, rfl, rfl, rfl, rfl, rfl, rfl, rfl, trivial⟩ ?_
              refine Hd.toK hK18 ?_
              refine Hd.cond rfl (fun hc5 => ?_) (fun hc5 => ?_)
              ·
                try simp only [decide_eq_true_eq, decide_eq_false_iff_not, Bool.and_eq_true, Bool.or_eq_true, Bool.and_eq_false_iff, Bool.or_eq_false_iff, Bool.not_eq_true', Bool.not_eq_false', Bool.not_eq_true, Bool.not_eq_false, Int.not_lt, Int.not_le, Decidable.not_not, ne_eq] at hc5
                refine Hd.drawsH ([pt b6 (encC o) 80]) (fun _ => true) mixed ?_
                simp only [List.length, Nat.zero_add, Nat.reduceAdd]
                refine Hd.takeH 0 rfl (by kernel_rfl) (by kernel_rfl) (by kernel_rfl) (by kernel_rfl) (y_move rfl) (fun _ _ => rfl) (Ent.sep enn) ?_
                first | (refine Hd.takeH 1 rfl (by kernel_rfl) (by kernel_rfl) (by kernel_rfl) (by kernel_rfl) (y_field' (q := 1) (ft := 3) Try.underlying80 rfl sz3 rfl rfl) (fun _ _ => rfl) (Ent.sep enn) ?_) | (refine Hd.takeH 1 rfl (by kernel_rfl) (by kernel_rfl) (by kernel_rfl) (by kernel_rfl) (y_fieldR (q := 1) (ft := 3) Try.underlying80 rfl sz3 rfl rfl) (fun _ _ => rfl) (Ent.sep enn) ?_)
                first | (refine Hd.takeH 2 rfl (by kernel_rfl) (by kernel_rfl) (by kernel_rfl) (by kernel_rfl) (y_load1 ag3 rfl (Rd.pt1 pkk (by (first | rfl)))) (fun _ _ => rfl) (Ent.sep enn) ?_) | (refine Hd.takeH 2 rfl (by kernel_rfl) (by kernel_rfl) (by kernel_rfl) (by kernel_rfl) (y_load1 ag3 rfl (Rd.seg1 pkk (by (first | rfl)))) (fun _ _ => rfl) (Ent.sep enn) ?_) | (refine Hd.takeH 2 rfl (by kernel_rfl) (by kernel_rfl) (by kernel_rfl) (by kernel_rfl) (y_loadR1 ag3 rfl (by (first | exact RdS.own pkk | exact RdS.mono hR (Ent.sep enn))) (by (first | rfl))) (fun _ _ => rfl) (Ent.sep enn) ?_)
                first | (refine Hd.takeH 3 rfl (by kernel_rfl) (by kernel_rfl) (by kernel_rfl) (by kernel_rfl) (y_field' (q := 5) (ft := 22) Try.underlying80 rfl sz22 rfl rfl) (fun _ _ => rfl) (Ent.sep enn) ?_) | (refine Hd.takeH 3 rfl (by kernel_rfl) (by kernel_rfl) (by kernel_rfl) (by kernel_rfl) (y_fieldR (q := 5) (ft := 22) Try.underlying80 rfl sz22 rfl rfl) (fun _ _ => rfl) (Ent.sep enn) ?_)
                first | (refine Hd.takeH 4 rfl (by kernel_rfl) (by kernel_rfl) (by kernel_rfl) (by kernel_rfl) (y_load1 ag22 rfl (Rd.pt1 pkk (by (first | rfl)))) (fun _ _ => rfl) (Ent.sep enn) ?_) | (refine Hd.takeH 4 rfl (by kernel_rfl) (by kernel_rfl) (by kernel_rfl) (by kernel_rfl) (y_load1 ag22 rfl (Rd.seg1 pkk (by (first | rfl)))) (fun _ _ => rfl) (Ent.sep enn) ?_) | (refine Hd.takeH 4 rfl (by kernel_rfl) (by kernel_rfl) (by kernel_rfl) (by kernel_rfl) (y_loadR1 ag22 rfl (by (first | exact RdS.own pkk | exact RdS.mono hR (Ent.sep enn))) (by (first | rfl))) (fun _ _ => rfl) (Ent.sep enn) ?_)
                refine Hd.takeH 6 rfl (by kernel_rfl) (by kernel_rfl) (by kernel_rfl) (by kernel_rfl) (y_move rfl) (fun _ _ => rfl) (Ent.sep enn) ?_
                first | (refine Hd.takeH 7 rfl (by kernel_rfl) (by kernel_rfl) (by kernel_rfl) (by kernel_rfl) (y_field' (q := 1) (ft := 3) Try.underlying80 rfl sz3 rfl rfl) (fun _ _ => rfl) (Ent.sep enn) ?_) | (refine Hd.takeH 7 rfl (by kernel_rfl) (by kernel_rfl) (by kernel_rfl) (by kernel_rfl) (y_fieldR (q := 1) (ft := 3) Try.underlying80 rfl sz3 rfl rfl) (fun _ _ => rfl) (Ent.sep enn) ?_)
                first | (refine Hd.takeH 8 rfl (by kernel_rfl) (by kernel_rfl) (by kernel_rfl) (by kernel_rfl) (y_load1 ag3 rfl (Rd.pt1 pkk (by (first | rfl)))) (fun _ _ => rfl) (Ent.sep enn) ?_) | (refine Hd.takeH 8 rfl (by kernel_rfl) (by kernel_rfl) (by kernel_rfl) (by kernel_rfl) (y_load1 ag3 rfl (Rd.seg1 pkk (by (first | rfl)))) (fun _ _ => rfl) (Ent.sep enn) ?_) | (refine Hd.takeH 8 rfl (by kernel_rfl) (by kernel_rfl) (by kernel_rfl) (by kernel_rfl) (y_loadR1 ag3 rfl (by (first | exact RdS.own pkk | exact RdS.mono hR (Ent.sep enn))) (by (first | rfl))) (fun _ _ => rfl) (Ent.sep enn) ?_)
                first | (refine Hd.takeH 9 rfl (by kernel_rfl) (by kernel_rfl) (by kernel_rfl) (by kernel_rfl) (y_field' (q := 5) (ft := 22) Try.underlying80 rfl sz22 rfl rfl) (fun _ _ => rfl) (Ent.sep enn) ?_) | (refine Hd.takeH 9 rfl (by kernel_rfl) (by kernel_rfl) (by kernel_rfl) (by kernel_rfl) (y_fieldR (q := 5) (ft := 22) Try.underlying80 rfl sz22 rfl rfl) (fun _ _ => rfl) (Ent.sep enn) ?_)
                first | (refine Hd.takeH 10 rfl (by kernel_rfl) (by kernel_rfl) (by kernel_rfl) (by kernel_rfl) (y_load1 ag22 rfl (Rd.pt1 pkk (by (first | rfl)))) (fun _ _ => rfl) (Ent.sep enn) ?_) | (refine Hd.takeH 10 rfl (by kernel_rfl) (by kernel_rfl) (by kernel_rfl) (by kernel_rfl) (y_load1 ag22 rfl (Rd.seg1 pkk (by (first | rfl)))) (fun _ _ => rfl) (Ent.sep enn) ?_) | (refine Hd.takeH 10 rfl (by kernel_rfl) (by kernel_rfl) (by kernel_rfl) (by kernel_rfl) (y_loadR1 ag22 rfl (by (first | exact RdS.own pkk | exact RdS.mono hR (Ent.sep enn))) (by (first | rfl))) (fun _ _ => rfl) (Ent.sep enn) ?_)
                refine Hd.onlyH 5 rfl (by kernel_rfl) ?_
                refine Hd.callE rfl fk33 (writeA _ bp A o.k o.ad o.c o.b ?hD hoo.c (by omega)) (Ent.sep enn) ?_
                case hD => exact RdS.mono hoo.rd (Ent.sep enn)
                intro _
                refine Hd.nil ?_
                refine Hd.thenN ?_
                refine Hd.heldK (J := (fun _ => true)) (i := 5) (Ent.sep enn) ?_
                refine Hd.onlyH 11 rfl (by kernel_rfl) ?_
                refine Hd.callE rfl fk47 (rwriteA _ br A hA o.k o.ad o.c o.b ?hD (by omega)) (Ent.sep enn) ?_
                case hD => exact RdS.mono hoo.rd (Ent.sep enn)
                intro _
                refine Hd.nil ?_
                refine Hd.thenN ?_
                refine Hd.heldK (J := (fun _ => true)) (i := 11) (Ent.sep enn) ?_
                first | (refine Hd.takeH 12 rfl (by kernel_rfl) (by kernel_rfl) (by kernel_rfl) (by kernel_rfl) (y_to (y_eqlT rfl rfl) (congrArg Value.bool (decide_eq_true (rfl)))) (fun _ _ => rfl) (Ent.sep enn) ?_) | (refine Hd.takeH 12 rfl (by kernel_rfl) (by kernel_rfl) (by kernel_rfl) (by kernel_rfl) (y_to (y_eql rfl rfl) (congrArg Value.bool (decide_eq_true (rfl)))) (fun _ _ => rfl) (Ent.sep enn) ?_)
                refine Hd.takeH 13 rfl (by kernel_rfl) (by kernel_rfl) (by kernel_rfl) (by kernel_rfl) (y_assign rfl) (fun _ _ => rfl) (Ent.sep enn) ?_
                refine Hd.endH (by kernel_rfl) ?_
                refine Hd.slots [(0, _), (3, _), (4, _), (5, _), (7, _)] ⟨rfl, rfl, rfl, rfl, rfl, trivial⟩ ?_
                refine Hd.inB ?_
                clear hK1 hK2 hK3 hK5 hK6 hK7 hK8 hK9 hK10 hK11 hK12 hK13 hK14 hK15 hK16 hK17 hK18
                refine Hd.thenN ?_
                exact Hd.meet (aWrite A o.k o.b) (by repeat (first | exact trivial | refine ⟨rfl, ?_⟩)) (Ent.sep enn)
              ·
                try simp only [decide_eq_true_eq, decide_eq_false_iff_not, Bool.and_eq_true, Bool.or_eq_true, Bool.and_eq_false_iff, Bool.or_eq_false_iff, Bool.not_eq_true', Bool.not_eq_false', Bool.not_eq_true, Bool.not_eq_false, Int.not_lt, Int.not_le, Decidable.not_not, ne_eq] at hc5
                refine Hd.seq (fun K19 hK19 => ?_)
                refine Hd.region ?_
                first | (refine Hd.yv (y_eqlT rfl rfl) ?_) | (refine Hd.yv (y_eql rfl rfl) ?_)
                refine Hd.yv (y_assign rfl) ?_
                refine Hd.nil ?_
                refine Hd.slots [(0, _), (3, _), (4, _), (5, _), (6, _), (7, _), (30, _), (99, _)] ⟨rfl, rfl, rfl, rfl, rfl, rfl, rfl, rfl, trivial⟩ ?_
                refine Hd.toK hK19 ?_
                refine Hd.cond rfl (fun hc6 => ?_) (fun hc6 => ?_)
                ·
                  try simp only [decide_eq_true_eq, decide_eq_false_iff_not, Bool.and_eq_true, Bool.or_eq_true, Bool.and_eq_false_iff, Bool.or_eq_false_iff, Bool.not_eq_true', Bool.not_eq_false', Bool.not_eq_true, Bool.not_eq_false, Int.not_lt, Int.not_le, Decidable.not_not, ne_eq] at hc6
                  refine Hd.drawsH ([pt b6 (encC o) 80]) (fun _ => true) mixed ?_
                  simp only [List.length, Nat.zero_add, Nat.reduceAdd]
                  refine Hd.takeH 0 rfl (by kernel_rfl) (by kernel_rfl) (by kernel_rfl) (by kernel_rfl) (y_move rfl) (fun _ _ => rfl) (Ent.sep enn) ?_
                  first | (refine Hd.takeH 1 rfl (by kernel_rfl) (by kernel_rfl) (by kernel_rfl) (by kernel_rfl) (y_field' (q := 1) (ft := 3) Try.underlying80 rfl sz3 rfl rfl) (fun _ _ => rfl) (Ent.sep enn) ?_) | (refine Hd.takeH 1 rfl (by kernel_rfl) (by kernel_rfl) (by kernel_rfl) (by kernel_rfl) (y_fieldR (q := 1) (ft := 3) Try.underlying80 rfl sz3 rfl rfl) (fun _ _ => rfl) (Ent.sep enn) ?_)
                  first | (refine Hd.takeH 2 rfl (by kernel_rfl) (by kernel_rfl) (by kernel_rfl) (by kernel_rfl) (y_load1 ag3 rfl (Rd.pt1 pkk (by (first | rfl)))) (fun _ _ => rfl) (Ent.sep enn) ?_) | (refine Hd.takeH 2 rfl (by kernel_rfl) (by kernel_rfl) (by kernel_rfl) (by kernel_rfl) (y_load1 ag3 rfl (Rd.seg1 pkk (by (first | rfl)))) (fun _ _ => rfl) (Ent.sep enn) ?_) | (refine Hd.takeH 2 rfl (by kernel_rfl) (by kernel_rfl) (by kernel_rfl) (by kernel_rfl) (y_loadR1 ag3 rfl (by (first | exact RdS.own pkk | exact RdS.mono hR (Ent.sep enn))) (by (first | rfl))) (fun _ _ => rfl) (Ent.sep enn) ?_)
                  first | (refine Hd.takeH 3 rfl (by kernel_rfl) (by kernel_rfl) (by kernel_rfl) (by kernel_rfl) (y_field' (q := 3) (ft := 3) Try.underlying80 rfl sz3 rfl rfl) (fun _ _ => rfl) (Ent.sep enn) ?_) | (refine Hd.takeH 3 rfl (by kernel_rfl) (by kernel_rfl) (by kernel_rfl) (by kernel_rfl) (y_fieldR (q := 3) (ft := 3) Try.underlying80 rfl sz3 rfl rfl) (fun _ _ => rfl) (Ent.sep enn) ?_)
                  first | (refine Hd.takeH 4 rfl (by kernel_rfl) (by kernel_rfl) (by kernel_rfl) (by kernel_rfl) (y_load1 ag3 rfl (Rd.pt1 pkk (by (first | rfl)))) (fun _ _ => rfl) (Ent.sep enn) ?_) | (refine Hd.takeH 4 rfl (by kernel_rfl) (by kernel_rfl) (by kernel_rfl) (by kernel_rfl) (y_load1 ag3 rfl (Rd.seg1 pkk (by (first | rfl)))) (fun _ _ => rfl) (Ent.sep enn) ?_) | (refine Hd.takeH 4 rfl (by kernel_rfl) (by kernel_rfl) (by kernel_rfl) (by kernel_rfl) (y_loadR1 ag3 rfl (by (first | exact RdS.own pkk | exact RdS.mono hR (Ent.sep enn))) (by (first | rfl))) (fun _ _ => rfl) (Ent.sep enn) ?_)
                  refine Hd.takeH 7 rfl (by kernel_rfl) (by kernel_rfl) (by kernel_rfl) (by kernel_rfl) (y_move rfl) (fun _ _ => rfl) (Ent.sep enn) ?_
                  first | (refine Hd.takeH 8 rfl (by kernel_rfl) (by kernel_rfl) (by kernel_rfl) (by kernel_rfl) (y_field' (q := 1) (ft := 3) Try.underlying80 rfl sz3 rfl rfl) (fun _ _ => rfl) (Ent.sep enn) ?_) | (refine Hd.takeH 8 rfl (by kernel_rfl) (by kernel_rfl) (by kernel_rfl) (by kernel_rfl) (y_fieldR (q := 1) (ft := 3) Try.underlying80 rfl sz3 rfl rfl) (fun _ _ => rfl) (Ent.sep enn) ?_)
                  first | (refine Hd.takeH 9 rfl (by kernel_rfl) (by kernel_rfl) (by kernel_rfl) (by kernel_rfl) (y_load1 ag3 rfl (Rd.pt1 pkk (by (first | rfl)))) (fun _ _ => rfl) (Ent.sep enn) ?_) | (refine Hd.takeH 9 rfl (by kernel_rfl) (by kernel_rfl) (by kernel_rfl) (by kernel_rfl) (y_load1 ag3 rfl (Rd.seg1 pkk (by (first | rfl)))) (fun _ _ => rfl) (Ent.sep enn) ?_) | (refine Hd.takeH 9 rfl (by kernel_rfl) (by kernel_rfl) (by kernel_rfl) (by kernel_rfl) (y_loadR1 ag3 rfl (by (first | exact RdS.own pkk | exact RdS.mono hR (Ent.sep enn))) (by (first | rfl))) (fun _ _ => rfl) (Ent.sep enn) ?_)
                  first | (refine Hd.takeH 10 rfl (by kernel_rfl) (by kernel_rfl) (by kernel_rfl) (by kernel_rfl) (y_field' (q := 3) (ft := 3) Try.underlying80 rfl sz3 rfl rfl) (fun _ _ => rfl) (Ent.sep enn) ?_) | (refine Hd.takeH 10 rfl (by kernel_rfl) (by kernel_rfl) (by kernel_rfl) (by kernel_rfl) (y_fieldR (q := 3) (ft := 3) Try.underlying80 rfl sz3 rfl rfl) (fun _ _ => rfl) (Ent.sep enn) ?_)
                  first | (refine Hd.takeH 11 rfl (by kernel_rfl) (by kernel_rfl) (by kernel_rfl) (by kernel_rfl) (y_load1 ag3 rfl (Rd.pt1 pkk (by (first | rfl)))) (fun _ _ => rfl) (Ent.sep enn) ?_) | (refine Hd.takeH 11 rfl (by kernel_rfl) (by kernel_rfl) (by kernel_rfl) (by kernel_rfl) (y_load1 ag3 rfl (Rd.seg1 pkk (by (first | rfl)))) (fun _ _ => rfl) (Ent.sep enn) ?_) | (refine Hd.takeH 11 rfl (by kernel_rfl) (by kernel_rfl) (by kernel_rfl) (by kernel_rfl) (y_loadR1 ag3 rfl (by (first | exact RdS.own pkk | exact RdS.mono hR (Ent.sep enn))) (by (first | rfl))) (fun _ _ => rfl) (Ent.sep enn) ?_)
                  refine Hd.onlyH 5 rfl (by kernel_rfl) ?_
                  refine Hd.callE rfl fk40 (readA _ bp A o.k o.n hon) (Ent.sep enn) ?_
                  rintro ⟨a5, c5⟩
                  dsimp only
                  refine Hd.nil ?_
                  refine Hd.thenN ?_
                  refine Hd.heldK (J := (fun _ => true)) (i := 5) (Ent.sep enn) ?_
                  refine Hd.eitherH 6 12 rfl rfl (by kernel_rfl) ?_ ?_
                  ·
                    refine Hd.yv (y_strOf (l := aReadV A o.k o.n) (by kernel_rfl) Try.underlying9 rfl (by (first | exact RdS.own pkk | exact RdS.mono hR (Ent.sep enn)))) ?_
                    refine Hd.nil ?_
                    refine Hd.thenN ?_
                    refine Hd.heldK (J := (fun _ => true)) (i := 6) (Ent.sep enn) ?_
                    refine Hd.onlyH 12 rfl (by kernel_rfl) ?_
                    refine Hd.callE rfl fk48 (rreadA _ br A hA o.k o.n hon) (Ent.sep enn) ?_
                    rintro ⟨a6, c6⟩
                    dsimp only
                    refine Hd.nil ?_
                    refine Hd.thenN ?_
                    refine Hd.heldK (J := (fun _ => true)) (i := 12) (Ent.sep enn) ?_
                    refine Hd.onlyH 13 rfl (by kernel_rfl) ?_
                    refine Hd.yv (y_strOf (l := aReadV A o.k o.n) (by kernel_rfl) Try.underlying9 rfl (by (first | exact RdS.own pkk | exact RdS.mono hR (Ent.sep enn)))) ?_
                    refine Hd.nil ?_
                    refine Hd.thenN ?_
                    refine Hd.heldK (J := (fun _ => true)) (i := 13) (Ent.sep enn) ?_
                    refine Hd.takeH 14 rfl (by kernel_rfl) (by kernel_rfl) (by kernel_rfl) (by kernel_rfl) (y_to (v' := .bool true) (y_eqlstr rfl rfl) (by simp)) (fun _ _ => rfl) (Ent.sep enn) ?_
                    refine Hd.takeH 15 rfl (by kernel_rfl) (by kernel_rfl) (by kernel_rfl) (by kernel_rfl) (y_assign rfl) (fun _ _ => rfl) (Ent.sep enn) ?_
                    refine Hd.endH (by kernel_rfl) ?_
                    refine Hd.slots [(0, _), (3, _), (4, _), (5, _), (7, _)] ⟨rfl, rfl, rfl, rfl, rfl, trivial⟩ ?_
                    refine Hd.inB ?_
                    clear hK1 hK2 hK3 hK5 hK6 hK7 hK8 hK9 hK10 hK11 hK12 hK13 hK14 hK15 hK16 hK17 hK18 hK19
                    refine Hd.thenN ?_
                    exact Hd.meet (aRead A o.k o.n) (by repeat (first | exact trivial | refine ⟨rfl, ?_⟩)) (Ent.sep enn)
                  ·
                    refine Hd.callE rfl fk48 (rreadA _ br A hA o.k o.n hon) (Ent.sep enn) ?_
                    rintro ⟨a6, c6⟩
                    dsimp only
                    refine Hd.nil ?_
                    refine Hd.thenN ?_
                    refine Hd.heldK (J := (fun _ => true)) (i := 12) (Ent.sep enn) ?_
                    refine Hd.eitherH 6 13 rfl rfl (by kernel_rfl) ?_ ?_
                    ·
                      refine Hd.yv (y_strOf (l := aReadV A o.k o.n) (by kernel_rfl) Try.underlying9 rfl (by (first | exact RdS.own pkk | exact RdS.mono hR (Ent.sep enn)))) ?_
                      refine Hd.nil ?_
                      refine Hd.thenN ?_
                      refine Hd.heldK (J := (fun _ => true)) (i := 6) (Ent.sep enn) ?_
                      refine Hd.onlyH 13 rfl (by kernel_rfl) ?_
                      refine Hd.yv (y_strOf (l := aReadV A o.k o.n) (by kernel_rfl) Try.underlying9 rfl (by (first | exact RdS.own pkk | exact RdS.mono hR (Ent.sep enn)))) ?_
                      refine Hd.nil ?_
                      refine Hd.thenN ?_
                      refine Hd.heldK (J := (fun _ => true)) (i := 13) (Ent.sep enn) ?_
                      refine Hd.takeH 14 rfl (by kernel_rfl) (by kernel_rfl) (by kernel_rfl) (by kernel_rfl) (y_to (v' := .bool true) (y_eqlstr rfl rfl) (by simp)) (fun _ _ => rfl) (Ent.sep enn) ?_
                      refine Hd.takeH 15 rfl (by kernel_rfl) (by kernel_rfl) (by kernel_rfl) (by kernel_rfl) (y_assign rfl) (fun _ _ => rfl) (Ent.sep enn) ?_
                      refine Hd.endH (by kernel_rfl) ?_
                      refine Hd.slots [(0, _), (3, _), (4, _), (5, _), (7, _)] ⟨rfl, rfl, rfl, rfl, rfl, trivial⟩ ?_
                      refine Hd.inB ?_
                      clear hK1 hK2 hK3 hK5 hK6 hK7 hK8 hK9 hK10 hK11 hK12 hK13 hK14 hK15 hK16 hK17 hK18 hK19
                      refine Hd.thenN ?_
                      exact Hd.meet (aRead A o.k o.n) (by repeat (first | exact trivial | refine ⟨rfl, ?_⟩)) (Ent.sep enn)
                    ·
                      refine Hd.yv (y_strOf (l := aReadV A o.k o.n) (by kernel_rfl) Try.underlying9 rfl (by (first | exact RdS.own pkk | exact RdS.mono hR (Ent.sep enn)))) ?_
                      refine Hd.nil ?_
                      refine Hd.thenN ?_
                      refine Hd.heldK (J := (fun _ => true)) (i := 13) (Ent.sep enn) ?_
                      refine Hd.onlyH 6 rfl (by kernel_rfl) ?_
                      refine Hd.yv (y_strOf (l := aReadV A o.k o.n) (by kernel_rfl) Try.underlying9 rfl (by (first | exact RdS.own pkk | exact RdS.mono hR (Ent.sep enn)))) ?_
                      refine Hd.nil ?_
                      refine Hd.thenN ?_
                      refine Hd.heldK (J := (fun _ => true)) (i := 6) (Ent.sep enn) ?_
                      refine Hd.takeH 14 rfl (by kernel_rfl) (by kernel_rfl) (by kernel_rfl) (by kernel_rfl) (y_to (v' := .bool true) (y_eqlstr rfl rfl) (by simp)) (fun _ _ => rfl) (Ent.sep enn) ?_
                      refine Hd.takeH 15 rfl (by kernel_rfl) (by kernel_rfl) (by kernel_rfl) (by kernel_rfl) (y_assign rfl) (fun _ _ => rfl) (Ent.sep enn) ?_
                      refine Hd.endH (by kernel_rfl) ?_
                      refine Hd.slots [(0, _), (3, _), (4, _), (5, _), (7, _)] ⟨rfl, rfl, rfl, rfl, rfl, trivial⟩ ?_
                      refine Hd.inB ?_
                      clear hK1 hK2 hK3 hK5 hK6 hK7 hK8 hK9 hK10 hK11 hK12 hK13 hK14 hK15 hK16 hK17 hK18 hK19
                      refine Hd.thenN ?_
                      exact Hd.meet (aRead A o.k o.n) (by repeat (first | exact trivial | refine ⟨rfl, ?_⟩)) (Ent.sep enn)
                ·
                  try simp only [decide_eq_true_eq, decide_eq_false_iff_not, Bool.and_eq_true, Bool.or_eq_true, Bool.and_eq_false_iff, Bool.or_eq_false_iff, Bool.not_eq_true', Bool.not_eq_false', Bool.not_eq_true, Bool.not_eq_false, Int.not_lt, Int.not_le, Decidable.not_not, ne_eq] at hc6
                  refine Hd.seq (fun K20 hK20 => ?_)
                  refine Hd.region ?_
                  first | (refine Hd.yv (y_eqlT rfl rfl) ?_) | (refine Hd.yv (y_eql rfl rfl) ?_)
                  refine Hd.yv (y_assign rfl) ?_
                  refine Hd.nil ?_
                  refine Hd.slots [(0, _), (3, _), (4, _), (5, _), (6, _), (7, _), (30, _), (116, _)] ⟨rfl, rfl, rfl, rfl, rfl, rfl, rfl, rfl, trivial⟩ ?_
                  refine Hd.toK hK20 ?_
                  refine Hd.cond rfl (fun hc7 => ?_) (fun hc7 => ?_)
                  ·
                    try simp only [decide_eq_true_eq, decide_eq_false_iff_not, Bool.and_eq_true, Bool.or_eq_true, Bool.and_eq_false_iff, Bool.or_eq_false_iff, Bool.not_eq_true', Bool.not_eq_false', Bool.not_eq_true, Bool.not_eq_false, Int.not_lt, Int.not_le, Decidable.not_not, ne_eq] at hc7
                    refine Hd.drawsH ([pt b6 (encC o) 80]) (fun _ => true) mixed ?_
                    simp only [List.length, Nat.zero_add, Nat.reduceAdd]
                    refine Hd.takeH 0 rfl (by kernel_rfl) (by kernel_rfl) (by kernel_rfl) (by kernel_rfl) (y_move rfl) (fun _ _ => rfl) (Ent.sep enn) ?_
                    first | (refine Hd.takeH 1 rfl (by kernel_rfl) (by kernel_rfl) (by kernel_rfl) (by kernel_rfl) (y_field' (q := 1) (ft := 3) Try.underlying80 rfl sz3 rfl rfl) (fun _ _ => rfl) (Ent.sep enn) ?_) | (refine Hd.takeH 1 rfl (by kernel_rfl) (by kernel_rfl) (by kernel_rfl) (by kernel_rfl) (y_fieldR (q := 1) (ft := 3) Try.underlying80 rfl sz3 rfl rfl) (fun _ _ => rfl) (Ent.sep enn) ?_)
                    first | (refine Hd.takeH 2 rfl (by kernel_rfl) (by kernel_rfl) (by kernel_rfl) (by kernel_rfl) (y_load1 ag3 rfl (Rd.pt1 pkk (by (first | rfl)))) (fun _ _ => rfl) (Ent.sep enn) ?_) | (refine Hd.takeH 2 rfl (by kernel_rfl) (by kernel_rfl) (by kernel_rfl) (by kernel_rfl) (y_load1 ag3 rfl (Rd.seg1 pkk (by (first | rfl)))) (fun _ _ => rfl) (Ent.sep enn) ?_) | (refine Hd.takeH 2 rfl (by kernel_rfl) (by kernel_rfl) (by kernel_rfl) (by kernel_rfl) (y_loadR1 ag3 rfl (by (first | exact RdS.own pkk | exact RdS.mono hR (Ent.sep enn))) (by (first | rfl))) (fun _ _ => rfl) (Ent.sep enn) ?_)
                    refine Hd.takeH 4 rfl (by kernel_rfl) (by kernel_rfl) (by kernel_rfl) (by kernel_rfl) (y_move rfl) (fun _ _ => rfl) (Ent.sep enn) ?_
                    first | (refine Hd.takeH 5 rfl (by kernel_rfl) (by kernel_rfl) (by kernel_rfl) (by kernel_rfl) (y_field' (q := 1) (ft := 3) Try.underlying80 rfl sz3 rfl rfl) (fun _ _ => rfl) (Ent.sep enn) ?_) | (refine Hd.takeH 5 rfl (by kernel_rfl) (by kernel_rfl) (by kernel_rfl) (by kernel_rfl) (y_fieldR (q := 1) (ft := 3) Try.underlying80 rfl sz3 rfl rfl) (fun _ _ => rfl) (Ent.sep enn) ?_)
                    first | (refine Hd.takeH 6 rfl (by kernel_rfl) (by kernel_rfl) (by kernel_rfl) (by kernel_rfl) (y_load1 ag3 rfl (Rd.pt1 pkk (by (first | rfl)))) (fun _ _ => rfl) (Ent.sep enn) ?_) | (refine Hd.takeH 6 rfl (by kernel_rfl) (by kernel_rfl) (by kernel_rfl) (by kernel_rfl) (y_load1 ag3 rfl (Rd.seg1 pkk (by (first | rfl)))) (fun _ _ => rfl) (Ent.sep enn) ?_) | (refine Hd.takeH 6 rfl (by kernel_rfl) (by kernel_rfl) (by kernel_rfl) (by kernel_rfl) (y_loadR1 ag3 rfl (by (first | exact RdS.own pkk | exact RdS.mono hR (Ent.sep enn))) (by (first | rfl))) (fun _ _ => rfl) (Ent.sep enn) ?_)
                    refine Hd.onlyH 3 rfl (by kernel_rfl) ?_
                    refine Hd.callE rfl fk38 (finishA _ bp A o.k) (Ent.sep enn) ?_
                    intro _
                    refine Hd.nil ?_
                    refine Hd.thenN ?_
                    refine Hd.heldK (J := (fun _ => true)) (i := 3) (Ent.sep enn) ?_
                    refine Hd.onlyH 7 rfl (by kernel_rfl) ?_
                    refine Hd.callE rfl fk49 (rfinishA _ br A o.k) (Ent.sep enn) ?_
                    intro _
                    refine Hd.nil ?_
                    refine Hd.thenN ?_
                    refine Hd.heldK (J := (fun _ => true)) (i := 7) (Ent.sep enn) ?_
                    first | (refine Hd.takeH 8 rfl (by kernel_rfl) (by kernel_rfl) (by kernel_rfl) (by kernel_rfl) (y_to (y_eqlT rfl rfl) (congrArg Value.bool (decide_eq_true (rfl)))) (fun _ _ => rfl) (Ent.sep enn) ?_) | (refine Hd.takeH 8 rfl (by kernel_rfl) (by kernel_rfl) (by kernel_rfl) (by kernel_rfl) (y_to (y_eql rfl rfl) (congrArg Value.bool (decide_eq_true (rfl)))) (fun _ _ => rfl) (Ent.sep enn) ?_)
                    refine Hd.takeH 9 rfl (by kernel_rfl) (by kernel_rfl) (by kernel_rfl) (by kernel_rfl) (y_assign rfl) (fun _ _ => rfl) (Ent.sep enn) ?_
                    refine Hd.endH (by kernel_rfl) ?_
                    refine Hd.slots [(0, _), (3, _), (4, _), (5, _), (7, _)] ⟨rfl, rfl, rfl, rfl, rfl, trivial⟩ ?_
                    refine Hd.inB ?_
                    clear hK1 hK2 hK3 hK5 hK6 hK7 hK8 hK9 hK10 hK11 hK12 hK13 hK14 hK15 hK16 hK17 hK18 hK19 hK20
                    refine Hd.thenN ?_
                    exact Hd.meet (aFinish A o.k) (by repeat (first | exact trivial | refine ⟨rfl, ?_⟩)) (Ent.sep enn)
                  ·
                    try simp only [decide_eq_true_eq, decide_eq_false_iff_not, Bool.and_eq_true, Bool.or_eq_true, Bool.and_eq_false_iff, Bool.or_eq_false_iff, Bool.not_eq_true', Bool.not_eq_false', Bool.not_eq_true, Bool.not_eq_false, Int.not_lt, Int.not_le, Decidable.not_not, ne_eq] at hc7
                    refine Hd.seq (fun K21 hK21 => ?_)
                    refine Hd.region ?_
                    first | (refine Hd.yv (y_eqlT rfl rfl) ?_) | (refine Hd.yv (y_eql rfl rfl) ?_)
                    refine Hd.yv (y_assign rfl) ?_
                    refine Hd.nil ?_
                    refine Hd.slots [(0, _), (3, _), (4, _), (5, _), (6, _), (7, _), (30, _), (127, _)] ⟨rfl, rfl, rfl, rfl, rfl, rfl, rfl, rfl, trivial⟩ ?_
                    refine Hd.toK hK21 ?_
                    refine Hd.cond rfl (fun hc8 => ?_) (fun hc8 => ?_)
                    ·
                      try simp only [decide_eq_true_eq, decide_eq_false_iff_not, Bool.and_eq_true, Bool.or_eq_true, Bool.and_eq_false_iff, Bool.or_eq_false_iff, Bool.not_eq_true', Bool.not_eq_false', Bool.not_eq_true, Bool.not_eq_false, Int.not_lt, Int.not_le, Decidable.not_not, ne_eq] at hc8
                      refine Hd.seq (fun K22 hK22 => ?_)
                      refine Hd.region ?_
                      refine Hd.yv (y_move rfl) ?_
                      refine Hd.callE rfl fk36 (step_ct _ bp A) (Ent.sep enn) ?_
                      intro _
                      refine Hd.alloc zr69 (fun b8 => ?_)
                      refine Hd.storeA (us := encT ((aStep A).t 0) ++ encT ((aStep A).t 1)) sz69 rfl rfl rfl (by simp [Value.oneCell']) pkk (by exact rfl) ?_
                      refine Hd.nil ?_
                      refine Hd.slots [(0, _), (3, _), (4, _), (5, _), (8, _)] ⟨rfl, rfl, rfl, rfl, rfl, trivial⟩ ?_
                      refine Hd.toK hK22 ?_
                      refine Hd.drawsH ([pt b8 (encT ((aStep A).t 0) ++ encT ((aStep A).t 1)) 69]) (fun _ => true) mixed ?_
                      simp only [List.length, Nat.zero_add, Nat.reduceAdd]
                      first | (refine Hd.takeH 0 rfl (by kernel_rfl) (by kernel_rfl) (by kernel_rfl) (by kernel_rfl) (y_loadn (us := [_, _, _, _, _, _, _, _, _, _, _, _]) ag69 rfl (Rd.pt pkk (by (first | (intro j v e; rcases j with _|_|_|_|_|_|_|_|_|_|_|_|j <;> first | exact e | exact absurd e (by simp))))) (by exact sz69)) (fun _ _ => rfl) (Ent.sep enn) ?_) | (refine Hd.takeH 0 rfl (by kernel_rfl) (by kernel_rfl) (by kernel_rfl) (by kernel_rfl) (y_loadn (us := [_, _, _, _, _, _, _, _, _, _, _, _]) ag69 rfl (Rd.seg pkk (by (first | (intro j v e; rcases j with _|_|_|_|_|_|_|_|_|_|_|_|j <;> first | exact e | exact absurd e (by simp))))) (by exact sz69)) (fun _ _ => rfl) (Ent.sep enn) ?_) | (refine Hd.takeH 0 rfl (by kernel_rfl) (by kernel_rfl) (by kernel_rfl) (by kernel_rfl) (y_loadRn ag69 rfl (by (first | exact RdS.own pkk | exact RdS.mono hR (Ent.sep enn))) (by (first | (intro j v e; rcases j with _|_|_|_|_|_|_|_|_|_|_|_|j <;> first | exact e | exact absurd e (by simp)))) (by exact sz69) (by simp)) (fun _ _ => rfl) (Ent.sep enn) ?_)
                      refine Hd.takeH 1 rfl (by kernel_rfl) (by kernel_rfl) (by kernel_rfl) (by kernel_rfl) (y_move rfl) (fun _ _ => rfl) (Ent.sep enn) ?_
                      refine Hd.onlyH 2 rfl (by kernel_rfl) ?_
                      refine Hd.callE rfl fk51 (rstepA _ br A hA) (Ent.sep enn) ?_
                      intro bt
                      refine Hd.nil ?_
                      refine Hd.thenN ?_
                      refine Hd.heldK (J := (fun _ => true)) (i := 2) (Ent.sep enn) ?_
                      refine Hd.onlyH 3 rfl (by kernel_rfl) ?_
                      refine Hd.callE rfl fk50 (told8_ct _ bt ((aStep A).t 0) ((aStep A).t 1) (step_er A).1 (step_er A).2) (Ent.sep enn) ?_
                      intro _
                      refine Hd.nil ?_
                      refine Hd.thenN ?_
                      refine Hd.heldK (J := (fun _ => true)) (i := 3) (Ent.sep enn) ?_
                      refine Hd.takeH 4 rfl (by kernel_rfl) (by kernel_rfl) (by kernel_rfl) (by kernel_rfl) (y_assign rfl) (fun _ _ => rfl) (Ent.sep enn) ?_
                      refine Hd.endH (by kernel_rfl) ?_
                      refine Hd.slots [(0, _), (3, _), (4, _), (5, _), (7, _)] ⟨rfl, rfl, rfl, rfl, rfl, trivial⟩ ?_
                      refine Hd.inB ?_
                      clear hK1 hK2 hK3 hK5 hK6 hK7 hK8 hK9 hK10 hK11 hK12 hK13 hK14 hK15 hK16 hK17 hK18 hK19 hK20 hK21 hK22
                      refine Hd.thenN ?_
                      exact Hd.meet (aStep A).e (by repeat (first | exact trivial | refine ⟨rfl, ?_⟩)) (Ent.sep enn)
                    ·
                      try simp only [decide_eq_true_eq, decide_eq_false_iff_not, Bool.and_eq_true, Bool.or_eq_true, Bool.and_eq_false_iff, Bool.or_eq_false_iff, Bool.not_eq_true', Bool.not_eq_false', Bool.not_eq_true, Bool.not_eq_false, Int.not_lt, Int.not_le, Decidable.not_not, ne_eq] at hc8
                      refine Hd.seq (fun K23 hK23 => ?_)
                      refine Hd.region ?_
                      first | (refine Hd.yv (y_eqlT rfl rfl) ?_) | (refine Hd.yv (y_eql rfl rfl) ?_)
                      refine Hd.yv (y_assign rfl) ?_
                      refine Hd.nil ?_
                      refine Hd.slots [(0, _), (3, _), (4, _), (5, _), (6, _), (7, _), (135, _)] ⟨rfl, rfl, rfl, rfl, rfl, rfl, rfl, trivial⟩ ?_
                      refine Hd.toK hK23 ?_
                      refine Hd.cond rfl (fun hc9 => ?_) (fun hc9 => ?_)
                      ·
                        try simp only [decide_eq_true_eq, decide_eq_false_iff_not, Bool.and_eq_true, Bool.or_eq_true, Bool.and_eq_false_iff, Bool.or_eq_false_iff, Bool.not_eq_true', Bool.not_eq_false', Bool.not_eq_true, Bool.not_eq_false, Int.not_lt, Int.not_le, Decidable.not_not, ne_eq] at hc9
                        refine Hd.seq (fun K24 hK24 => ?_)
                        refine Hd.region ?_
                        refine Hd.yv (y_move rfl) ?_
                        first | (refine Hd.yv (y_field' (q := 1) (ft := 3) Try.underlying80 rfl sz3 rfl rfl) ?_) | (refine Hd.yv (y_fieldR (q := 1) (ft := 3) Try.underlying80 rfl sz3 rfl rfl) ?_)
                        first | (refine Hd.yv (y_load1 ag3 rfl (Rd.pt1 pkk (by (first | rfl)))) ?_) | (refine Hd.yv (y_load1 ag3 rfl (Rd.seg1 pkk (by (first | rfl)))) ?_) | (refine Hd.yv (y_loadR1 ag3 rfl (by (first | exact RdS.own pkk | exact RdS.mono hR (Ent.sep enn))) (by (first | rfl))) ?_)
                        refine Hd.callE rfl fk39 (flushA _ bp A o.k) (Ent.sep enn) ?_
                        intro _
                        refine Hd.alloc zr69 (fun b9 => ?_)
                        refine Hd.storeA (us := encT ((aFlush A o.k).t 0) ++ encT ((aFlush A o.k).t 1)) sz69 rfl rfl rfl (by simp [Value.oneCell']) pkk (by exact rfl) ?_
                        refine Hd.nil ?_
                        refine Hd.slots [(0, _), (3, _), (4, _), (5, _), (6, _), (9, _)] ⟨rfl, rfl, rfl, rfl, rfl, rfl, trivial⟩ ?_
                        refine Hd.toK hK24 ?_
                        refine Hd.drawsH ([pt b6 (encC o) 80, pt b9 (encT ((aFlush A o.k).t 0) ++ encT ((aFlush A o.k).t 1)) 69]) (fun _ => true) mixed ?_
                        simp only [List.length, Nat.zero_add, Nat.reduceAdd]
                        first | (refine Hd.takeH 0 rfl (by kernel_rfl) (by kernel_rfl) (by kernel_rfl) (by kernel_rfl) (y_loadn (us := [_, _, _, _, _, _, _, _, _, _, _, _]) ag69 rfl (Rd.pt pkk (by (first | (intro j v e; rcases j with _|_|_|_|_|_|_|_|_|_|_|_|j <;> first | exact e | exact absurd e (by simp))))) (by exact sz69)) (fun _ _ => rfl) (Ent.sep enn) ?_) | (refine Hd.takeH 0 rfl (by kernel_rfl) (by kernel_rfl) (by kernel_rfl) (by kernel_rfl) (y_loadn (us := [_, _, _, _, _, _, _, _, _, _, _, _]) ag69 rfl (Rd.seg pkk (by (first | (intro j v e; rcases j with _|_|_|_|_|_|_|_|_|_|_|_|j <;> first | exact e | exact absurd e (by simp))))) (by exact sz69)) (fun _ _ => rfl) (Ent.sep enn) ?_) | (refine Hd.takeH 0 rfl (by kernel_rfl) (by kernel_rfl) (by kernel_rfl) (by kernel_rfl) (y_loadRn ag69 rfl (by (first | exact RdS.own pkk | exact RdS.mono hR (Ent.sep enn))) (by (first | (intro j v e; rcases j with _|_|_|_|_|_|_|_|_|_|_|_|j <;> first | exact e | exact absurd e (by simp)))) (by exact sz69) (by simp)) (fun _ _ => rfl) (Ent.sep enn) ?_)
                        refine Hd.takeH 1 rfl (by kernel_rfl) (by kernel_rfl) (by kernel_rfl) (by kernel_rfl) (y_move rfl) (fun _ _ => rfl) (Ent.sep enn) ?_
                        first | (refine Hd.takeH 2 rfl (by kernel_rfl) (by kernel_rfl) (by kernel_rfl) (by kernel_rfl) (y_field' (q := 1) (ft := 3) Try.underlying80 rfl sz3 rfl rfl) (fun _ _ => rfl) (Ent.sep enn) ?_) | (refine Hd.takeH 2 rfl (by kernel_rfl) (by kernel_rfl) (by kernel_rfl) (by kernel_rfl) (y_fieldR (q := 1) (ft := 3) Try.underlying80 rfl sz3 rfl rfl) (fun _ _ => rfl) (Ent.sep enn) ?_)
                        first | (refine Hd.takeH 3 rfl (by kernel_rfl) (by kernel_rfl) (by kernel_rfl) (by kernel_rfl) (y_load1 ag3 rfl (Rd.pt1 pkk (by (first | rfl)))) (fun _ _ => rfl) (Ent.sep enn) ?_) | (refine Hd.takeH 3 rfl (by kernel_rfl) (by kernel_rfl) (by kernel_rfl) (by kernel_rfl) (y_load1 ag3 rfl (Rd.seg1 pkk (by (first | rfl)))) (fun _ _ => rfl) (Ent.sep enn) ?_) | (refine Hd.takeH 3 rfl (by kernel_rfl) (by kernel_rfl) (by kernel_rfl) (by kernel_rfl) (y_loadR1 ag3 rfl (by (first | exact RdS.own pkk | exact RdS.mono hR (Ent.sep enn))) (by (first | rfl))) (fun _ _ => rfl) (Ent.sep enn) ?_)
                        refine Hd.onlyH 4 rfl (by kernel_rfl) ?_
                        refine Hd.callE rfl fk52 (rflushA _ br A hA o.k) (Ent.sep enn) ?_
                        intro bt
                        refine Hd.nil ?_
                        refine Hd.thenN ?_
                        refine Hd.heldK (J := (fun _ => true)) (i := 4) (Ent.sep enn) ?_
                        refine Hd.onlyH 5 rfl (by kernel_rfl) ?_
                        refine Hd.callE rfl fk50 (told8_ct _ bt ((aFlush A o.k).t 0) ((aFlush A o.k).t 1) (flush_er A o.k).1 (flush_er A o.k).2) (Ent.sep enn) ?_
                        intro _
                        refine Hd.nil ?_
                        refine Hd.thenN ?_
                        refine Hd.heldK (J := (fun _ => true)) (i := 5) (Ent.sep enn) ?_
                        refine Hd.takeH 6 rfl (by kernel_rfl) (by kernel_rfl) (by kernel_rfl) (by kernel_rfl) (y_assign rfl) (fun _ _ => rfl) (Ent.sep enn) ?_
                        refine Hd.endH (by kernel_rfl) ?_
                        refine Hd.slots [(0, _), (3, _), (4, _), (5, _), (7, _)] ⟨rfl, rfl, rfl, rfl, rfl, trivial⟩ ?_
                        refine Hd.inB ?_
                        clear hK1 hK2 hK3 hK5 hK6 hK7 hK8 hK9 hK10 hK11 hK12 hK13 hK14 hK15 hK16 hK17 hK18 hK19 hK20 hK21 hK23 hK24
                        refine Hd.thenN ?_
                        exact Hd.meet (aFlush A o.k).e (by repeat (first | exact trivial | refine ⟨rfl, ?_⟩)) (Ent.sep enn)
                      ·
                        try simp only [decide_eq_true_eq, decide_eq_false_iff_not, Bool.and_eq_true, Bool.or_eq_true, Bool.and_eq_false_iff, Bool.or_eq_false_iff, Bool.not_eq_true', Bool.not_eq_false', Bool.not_eq_true, Bool.not_eq_false, Int.not_lt, Int.not_le, Decidable.not_not, ne_eq] at hc9
                        refine Hd.skip ?_
                        refine Hd.inB ?_
                        clear hK1 hK2 hK3 hK5 hK6 hK7 hK8 hK9 hK10 hK11 hK12 hK13 hK14 hK15 hK16 hK17 hK18 hK19 hK20 hK21 hK23
                        refine Hd.thenN ?_
                        exact Hd.meet A (by repeat (first | exact trivial | refine ⟨rfl, ?_⟩)) (Ent.sep enn)
      ·
        intro A2
        refine Hd.seq (fun K25 hK25 => ?_)
        refine Hd.region ?_
        refine Hd.yv (y_move rfl) ?_
        refine Hd.callE rfl fk37 (lensA _ bp A2 0 (by omega)) (Ent.sep enn) ?_
        intro _
        refine Hd.yv (y_move rfl) ?_
        refine Hd.yv (y_extract rfl rfl) ?_
        refine Hd.yv (y_extract rfl rfl) ?_
        refine Hd.yv (y_assign rfl) ?_
        refine Hd.yv (y_assign rfl) ?_
        refine Hd.nil ?_
        refine Hd.slots [(0, _), (3, _), (4, _), (5, _), (7, _), (10, _), (11, _)] ⟨rfl, rfl, rfl, rfl, rfl, rfl, rfl, trivial⟩ ?_
        refine Hd.toK hK25 ?_
        refine Hd.seq (fun K26 hK26 => ?_)
        refine Hd.region ?_
        refine Hd.yv (y_move rfl) ?_
        refine Hd.callE rfl fk37 (lensA _ bp A2 1 (by omega)) (Ent.sep enn) ?_
        intro _
        refine Hd.yv (y_move rfl) ?_
        refine Hd.yv (y_extract rfl rfl) ?_
        refine Hd.yv (y_extract rfl rfl) ?_
        refine Hd.yv (y_assign rfl) ?_
        refine Hd.yv (y_assign rfl) ?_
        refine Hd.nil ?_
        refine Hd.slots [(0, _), (3, _), (4, _), (5, _), (7, _), (10, _), (11, _), (12, _), (13, _)] ⟨rfl, rfl, rfl, rfl, rfl, rfl, rfl, rfl, rfl, trivial⟩ ?_
        refine Hd.toK hK26 ?_
        refine Hd.seq (fun K27 hK27 => ?_)
        refine Hd.exs (.there .here) ?_
        intro bE
        simp only [List.cons_append, List.nil_append]
        refine Hd.exs (.there .here) ?_
        intro xa
        simp only [List.cons_append, List.nil_append]
        refine Hd.exs (.there (.there (.there (.there .here)))) ?_
        intro xc
        simp only [List.cons_append, List.nil_append]
        refine Hd.region ?_
        refine Hd.yv (y_move rfl) ?_
        refine Hd.yv (y_not rfl) ?_
        refine Hd.yv (y_move rfl) ?_
        refine Hd.yg rfl rfl (y_move rfl) ?_
        refine Hd.yg rfl rfl (y_move rfl) ?_
        refine Hd.yg rfl rfl (y_nilp rfl) ?_
        first | (refine Hd.yg rfl rfl (y_field' (q := 0) (ft := 90) Try.underlying92 rfl sz90 rfl rfl) ?_) | (refine Hd.yg rfl rfl (y_fieldR (q := 0) (ft := 90) Try.underlying92 rfl sz90 rfl rfl) ?_)
        first | (refine Hd.yg rfl rfl (y_load1 ag90 rfl (Rd.pt1 pkk (by (first | rfl)))) ?_) | (refine Hd.yg rfl rfl (y_load1 ag90 rfl (Rd.seg1 pkk (by (first | rfl)))) ?_) | (refine Hd.yg rfl rfl (y_loadR1 ag90 rfl (by (first | exact RdS.own pkk | exact RdS.mono hR (Ent.sep enn))) (by (first | rfl))) ?_)
        first | (refine Hd.yg rfl rfl (y_idxS Try.underlying90 sz89 rfl rfl (by first | exact (show (0 : Nat) < _ by omega) | omega | decide)) ?_) | (refine Hd.yg rfl rfl (y_idxR Try.underlying90 sz89 rfl rfl (by first | exact (show (0 : Nat) < _ by omega) | omega | decide) (by (first | exact RdS.own pkk | exact RdS.mono hR (Ent.sep enn)))) ?_)
        first | (refine Hd.yg rfl rfl (y_field' (q := 0) (ft := 22) Try.underlying89 rfl sz22 rfl rfl) ?_) | (refine Hd.yg rfl rfl (y_fieldR (q := 0) (ft := 22) Try.underlying89 rfl sz22 rfl rfl) ?_)
        first | (refine Hd.yg rfl rfl (y_load1 ag22 rfl (Rd.pt1 pkk (by (first | rfl)))) ?_) | (refine Hd.yg rfl rfl (y_load1 ag22 rfl (Rd.seg1 pkk (by (first | rfl)))) ?_) | (refine Hd.yg rfl rfl (y_loadR1 ag22 rfl (by (first | exact RdS.own pkk | exact RdS.mono hR (Ent.sep enn))) (by (first | rfl))) ?_)
        refine Hd.yg rfl rfl (y_len Try.underlying22 rfl) ?_
        refine Hd.yg rfl rfl (y_to (y_neq rfl rfl) (congrArg Value.bool (decide_eq_false ((fun h => h rfl))))) ?_
        first | (refine Hd.yv (y_pickT rfl rfl) ?_) | (refine Hd.yv (y_pickF rfl rfl) ?_) | (refine Hd.yv (y_pickb rfl rfl rfl) ?_) | (refine Hd.yv (y_pick rfl rfl rfl) ?_)
        refine Hd.yv (y_move rfl) ?_
        refine Hd.yg rfl rfl (y_move rfl) ?_
        refine Hd.yg rfl rfl (y_move rfl) ?_
        refine Hd.yg rfl rfl (y_nilp rfl) ?_
        first | (refine Hd.yg rfl rfl (y_field' (q := 0) (ft := 90) Try.underlying92 rfl sz90 rfl rfl) ?_) | (refine Hd.yg rfl rfl (y_fieldR (q := 0) (ft := 90) Try.underlying92 rfl sz90 rfl rfl) ?_)
        first | (refine Hd.yg rfl rfl (y_load1 ag90 rfl (Rd.pt1 pkk (by (first | rfl)))) ?_) | (refine Hd.yg rfl rfl (y_load1 ag90 rfl (Rd.seg1 pkk (by (first | rfl)))) ?_) | (refine Hd.yg rfl rfl (y_loadR1 ag90 rfl (by (first | exact RdS.own pkk | exact RdS.mono hR (Ent.sep enn))) (by (first | rfl))) ?_)
        first | (refine Hd.yg rfl rfl (y_idxS Try.underlying90 sz89 rfl rfl (by first | exact (show (0 : Nat) < _ by omega) | omega | decide)) ?_) | (refine Hd.yg rfl rfl (y_idxR Try.underlying90 sz89 rfl rfl (by first | exact (show (0 : Nat) < _ by omega) | omega | decide) (by (first | exact RdS.own pkk | exact RdS.mono hR (Ent.sep enn)))) ?_)
        first | (refine Hd.yg rfl rfl (y_field' (q := 1) (ft := 22) Try.underlying89 rfl sz22 rfl rfl) ?_) | (refine Hd.yg rfl rfl (y_fieldR (q := 1) (ft := 22) Try.underlying89 rfl sz22 rfl rfl) ?_)
        first | (refine Hd.yg rfl rfl (y_load1 ag22 rfl (Rd.pt1 pkk (by (first | rfl)))) ?_) | (refine Hd.yg rfl rfl (y_load1 ag22 rfl (Rd.seg1 pkk (by (first | rfl)))) ?_) | (refine Hd.yg rfl rfl (y_loadR1 ag22 rfl (by (first | exact RdS.own pkk | exact RdS.mono hR (Ent.sep enn))) (by (first | rfl))) ?_)
        refine Hd.yg rfl rfl (y_len Try.underlying22 rfl) ?_
        refine Hd.yg rfl rfl (y_to (y_neq rfl rfl) (congrArg Value.bool (decide_eq_false ((fun h => h rfl))))) ?_
        first | (refine Hd.yv (y_pickT rfl rfl) ?_) | (refine Hd.yv (y_pickF rfl rfl) ?_) | (refine Hd.yv (y_pickb rfl rfl rfl) ?_) | (refine Hd.yv (y_pick rfl rfl rfl) ?_)
        refine Hd.yv (y_move rfl) ?_
        refine Hd.yg rfl rfl (y_move rfl) ?_
        refine Hd.yg rfl rfl (y_move rfl) ?_
        refine Hd.yg rfl rfl (y_nilp rfl) ?_
        first | (refine Hd.yg rfl rfl (y_field' (q := 0) (ft := 90) Try.underlying92 rfl sz90 rfl rfl) ?_) | (refine Hd.yg rfl rfl (y_fieldR (q := 0) (ft := 90) Try.underlying92 rfl sz90 rfl rfl) ?_)
        first | (refine Hd.yg rfl rfl (y_load1 ag90 rfl (Rd.pt1 pkk (by (first | rfl)))) ?_) | (refine Hd.yg rfl rfl (y_load1 ag90 rfl (Rd.seg1 pkk (by (first | rfl)))) ?_) | (refine Hd.yg rfl rfl (y_loadR1 ag90 rfl (by (first | exact RdS.own pkk | exact RdS.mono hR (Ent.sep enn))) (by (first | rfl))) ?_)
        first | (refine Hd.yg rfl rfl (y_idxS Try.underlying90 sz89 rfl rfl (by first | exact (show (1 : Nat) < _ by omega) | omega | decide)) ?_) | (refine Hd.yg rfl rfl (y_idxR Try.underlying90 sz89 rfl rfl (by first | exact (show (1 : Nat) < _ by omega) | omega | decide) (by (first | exact RdS.own pkk | exact RdS.mono hR (Ent.sep enn)))) ?_)
        first | (refine Hd.yg rfl rfl (y_field' (q := 0) (ft := 22) Try.underlying89 rfl sz22 rfl rfl) ?_) | (refine Hd.yg rfl rfl (y_fieldR (q := 0) (ft := 22) Try.underlying89 rfl sz22 rfl rfl) ?_)
        first | (refine Hd.yg rfl rfl (y_load1 ag22 rfl (Rd.pt1 pkk (by (first | rfl)))) ?_) | (refine Hd.yg rfl rfl (y_load1 ag22 rfl (Rd.seg1 pkk (by (first | rfl)))) ?_) | (refine Hd.yg rfl rfl (y_loadR1 ag22 rfl (by (first | exact RdS.own pkk | exact RdS.mono hR (Ent.sep enn))) (by (first | rfl))) ?_)
        refine Hd.yg rfl rfl (y_len Try.underlying22 rfl) ?_
        refine Hd.yg rfl rfl (y_to (y_neq rfl rfl) (congrArg Value.bool (decide_eq_false ((fun h => h rfl))))) ?_
        first | (refine Hd.yv (y_pickT rfl rfl) ?_) | (refine Hd.yv (y_pickF rfl rfl) ?_) | (refine Hd.yv (y_pickb rfl rfl rfl) ?_) | (refine Hd.yv (y_pick rfl rfl rfl) ?_)
        refine Hd.yv (y_move rfl) ?_
        refine Hd.yg rfl rfl (y_move rfl) ?_
        refine Hd.yg rfl rfl (y_move rfl) ?_
        refine Hd.yg rfl rfl (y_nilp rfl) ?_
        first | (refine Hd.yg rfl rfl (y_field' (q := 0) (ft := 90) Try.underlying92 rfl sz90 rfl rfl) ?_) | (refine Hd.yg rfl rfl (y_fieldR (q := 0) (ft := 90) Try.underlying92 rfl sz90 rfl rfl) ?_)
        first | (refine Hd.yg rfl rfl (y_load1 ag90 rfl (Rd.pt1 pkk (by (first | rfl)))) ?_) | (refine Hd.yg rfl rfl (y_load1 ag90 rfl (Rd.seg1 pkk (by (first | rfl)))) ?_) | (refine Hd.yg rfl rfl (y_loadR1 ag90 rfl (by (first | exact RdS.own pkk | exact RdS.mono hR (Ent.sep enn))) (by (first | rfl))) ?_)
        first | (refine Hd.yg rfl rfl (y_idxS Try.underlying90 sz89 rfl rfl (by first | exact (show (1 : Nat) < _ by omega) | omega | decide)) ?_) | (refine Hd.yg rfl rfl (y_idxR Try.underlying90 sz89 rfl rfl (by first | exact (show (1 : Nat) < _ by omega) | omega | decide) (by (first | exact RdS.own pkk | exact RdS.mono hR (Ent.sep enn)))) ?_)
        first | (refine Hd.yg rfl rfl (y_field' (q := 1) (ft := 22) Try.underlying89 rfl sz22 rfl rfl) ?_) | (refine Hd.yg rfl rfl (y_fieldR (q := 1) (ft := 22) Try.underlying89 rfl sz22 rfl rfl) ?_)
        first | (refine Hd.yg rfl rfl (y_load1 ag22 rfl (Rd.pt1 pkk (by (first | rfl)))) ?_) | (refine Hd.yg rfl rfl (y_load1 ag22 rfl (Rd.seg1 pkk (by (first | rfl)))) ?_) | (refine Hd.yg rfl rfl (y_loadR1 ag22 rfl (by (first | exact RdS.own pkk | exact RdS.mono hR (Ent.sep enn))) (by (first | rfl))) ?_)
        refine Hd.yg rfl rfl (y_len Try.underlying22 rfl) ?_
        refine Hd.yg rfl rfl (y_to (y_neq rfl rfl) (congrArg Value.bool (decide_eq_false ((fun h => h rfl))))) ?_
        first | (refine Hd.yv (y_pickT rfl rfl) ?_) | (refine Hd.yv (y_pickF rfl rfl) ?_) | (refine Hd.yv (y_pickb rfl rfl rfl) ?_) | (refine Hd.yv (y_pick rfl rfl rfl) ?_)
        refine Hd.nil ?_
        refine Hd.slots [(0, _), (3, _), (4, _), (5, _), (206, _)] ⟨rfl, rfl, rfl, rfl, rfl, trivial⟩ ?_
        refine Hd.toK hK27 ?_
        refine Hd.condF rfl ?_
        refine Hd.skip ?_
        refine Hd.inB ?_
        refine Hd.toK hK11 ?_
        refine Hd.region ?_
        refine Hd.yv (y_move rfl) ?_
        first | (refine Hd.yv (y_addn rfl rfl (by simp only [InK]; omega)) ?_) | (refine Hd.yv (y_add rfl rfl) ?_)
        refine Hd.yv (y_assign rfl) ?_
        refine Hd.nil ?_
        refine Hd.slots [(0, _), (3, _), (4, _), (5, _)] ⟨rfl, rfl, rfl, rfl, trivial⟩ ?_
        clear hK1 hK2 hK3 hK5 hK6 hK7 hK8 hK9 hK10 hK11 hK12 hK13 hK25 hK26 hK27
        refine Hd.thenN ?_
        exact Hd.again (i + 1, A2) (by first | omega | (simp only; omega) | (simp; omega)) (by repeat (first | exact trivial | refine ⟨rfl, ?_⟩)) (Ent.sep (.pure (by first | omega | (simp; done) | (simp; omega) | (dsimp only; omega)) (.pick pkk (.ex bE (.pick pkk (.ex xa (.pick pkk (.pick pkk (.pick pkk (.ex xc enn))))))))))
    ·
      try simp only [decide_eq_true_eq, decide_eq_false_iff_not, Bool.and_eq_true, Bool.or_eq_true, Bool.and_eq_false_iff, Bool.or_eq_false_iff, Bool.not_eq_true', Bool.not_eq_false', Bool.not_eq_true, Bool.not_eq_false, Int.not_lt, Int.not_le, Decidable.not_not, ne_eq] at hc1
      refine Hd.exit ?_
      refine Hd.thenExit ?_
      refine Hd.thenExit ?_
      refine Hd.inBexit ?_
      refine Hd.toK hK7 ?_
      refine Hd.seq (fun K28 hK28 => ?_)
      refine Hd.region ?_
      refine Hd.yv (y_assign rfl) ?_
      refine Hd.nil ?_
      refine Hd.slots [(2, _)] ⟨rfl, trivial⟩ ?_
      refine Hd.toK hK28 ?_
      refine Hd.ret ?_
      clear hK1 hK2 hK3 hK5 hK6 hK7 hK8 hK9 hK10 hK28
      exact Hd.ret1 rfl () (by first | rfl | (simp only [*]; done) | (simp [*]; done)) (Ent.sep enn)
end Pa
end Go.Proofs.Ytgifpkpkkgkfeaa
