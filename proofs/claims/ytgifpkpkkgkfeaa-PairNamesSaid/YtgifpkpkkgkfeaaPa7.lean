/-
  Pairs: the iterator's maker; what is told, apart and as one.
-/
import Derived.Test.YtgifpkpkkgkfeaaPa6
namespace Go.Proofs.Ytgifpkpkkgkfeaa
set_option linter.unusedSimpArgs false
set_option linter.unusedVariables false
set_option linter.unnecessarySimpa false
open Go.RX Fx
namespace Pa
open Bc
set_option maxRecDepth 8000
set_option maxHeartbeats 2000000 in
theorem ways_ct (L : List SP) (k : Int) : Ct Try.prog 80 #[.int .i64 k] (L) (fun b : Nat => .func (.func 82) #[] #[.pointer (some ⟨b, 0, none⟩)]) (fun b : Nat => pt b [.int .i64 k] 3 :: L) := by
  refine Ct.of (vs := [.int .i64 k]) Try.func80 rfl rfl [(0, .int .i64 k)] (by repeat (first | exact trivial | refine ⟨rfl, ?_⟩)) ?_
  intro E
  show Hd E 4 _ _ _ _
  refine Hd.seq (fun K1 hK1 => ?_)
  refine Hd.region ?_
  refine Hd.box rfl rfl (fun b1 => ?_)
  refine Hd.yv (y_assign rfl) ?_
  refine Hd.nil ?_
  refine Hd.slots [(1, _)] ⟨rfl, trivial⟩ ?_
  refine Hd.toK hK1 ?_
  refine Hd.seq (fun K2 hK2 => ?_)
  refine Hd.region ?_
  refine Hd.yv (y_mkf (fv := []) (cv := [_]) rfl rfl) ?_
  refine Hd.yv (y_assign rfl) ?_
  refine Hd.nil ?_
  refine Hd.slots [(2, _)] ⟨rfl, trivial⟩ ?_
  refine Hd.toK hK2 ?_
  refine Hd.ret ?_
  clear hK1 hK2
  exact Hd.ret1 rfl b1 rfl (Ent.sep enn)
def t0 : TV := ⟨false, false, 0, 0, 0, 0⟩
abbrev KdT (b : Nat) : SP := kd b 12 69
theorem told_split {b : Nat} {x y : TV} {L : List SP} {k : PH} (s : sep (pt b (encT x ++ encT y) 69 :: L) k) : sep (segK b (0 * 6) 0 (encT x) :: segK b (1 * 6) 0 (encT y) :: KdT b :: L) k :=
  seg_split (us := encT x) (vs := encT y) (pt_open s)
theorem told_join {b : Nat} {x y : TV} {L : List SP} {k : PH} (s : sep (segK b (0 * 6) 0 (encT x) :: segK b (1 * 6) 0 (encT y) :: KdT b :: L) k) : sep (pt b (encT x ++ encT y) 69 :: L) k :=
  pt_close (cs := encT x ++ encT y) (seg_join (us := encT x) (vs := encT y) s)
end Pa
end Go.Proofs.Ytgifpkpkkgkfeaa
