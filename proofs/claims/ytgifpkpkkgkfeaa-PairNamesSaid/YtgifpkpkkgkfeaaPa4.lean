/-
  Pairs: New.
-/
import Derived.Test.YtgifpkpkkgkfeaaPa3
namespace Go.Proofs.Ytgifpkpkkgkfeaa
set_option linter.unusedSimpArgs false
set_option linter.unusedVariables false
set_option linter.unnecessarySimpa false
open Go.RX Fx
namespace Pa
open Bc
set_option maxRecDepth 8000
theorem mkEn_sep {b o : Nat} {vs : List Value} {L : List SP} {k : PH} (s : sep (seg b o ([.slice none 0 0, .int .i64 0] ++ ([.slice none 0 0, .int .i64 0] ++ (encE e0 ++ vs))) :: L) k) :
    sep (En b o e0 (seg b (o + 10) vs :: L)) k := by
  have s2 : sep (seg b o [.slice none 0 0, .int .i64 0] :: seg b (o + 2) ([.slice none 0 0, .int .i64 0] ++ (encE e0 ++ vs)) :: L) k := seg_split s
  have s3 : sep (seg b o [.slice none 0 0, .int .i64 0] :: seg b (o + 2) [.slice none 0 0, .int .i64 0] :: seg b (o + 4) (encE e0 ++ vs) :: L) k := Ent.imp' .here (fun _ x => x) (fun _ s => seg_split (us := [.slice none 0 0, .int .i64 0]) s) s2
  have s4 : sep (seg b o [.slice none 0 0, .int .i64 0] :: seg b (o + 2) [.slice none 0 0, .int .i64 0] :: seg b (o + 4) (encE e0) :: seg b (o + 10) vs :: L) k := Ent.imp' .here (fun _ x => x) (fun _ s => Ent.imp' .here (fun _ x => x) (fun _ s => seg_split (us := encE e0) s) s) s3
  have s5 := rows_nil (rows_nil s4)
  exact Ent.sep (.ex (none, 0) (.pick (.there (.there .here)) (.ownNil (.pick .here (.ex (none, 0) (.pick (.there .here) (.ownNil (.pick .here (.eq .here rfl .same))))))))) k s5
section
variable {E : World} {n : Nat} {ds : List Deferred} {st : List (Nat × Value)} {L L' : List SP} {K : Act → World → Prop}
theorem Hd.mkPair {b : Nat} (p : Pick L (pt b ([.slice none 0 0, .int .i64 0] ++ ([.slice none 0 0, .int .i64 0] ++ (encE e0 ++ ([.slice none 0 0, .int .i64 0] ++ ([.slice none 0 0, .int .i64 0] ++ (encE e0 ++ [.bool true])))))) 117) L')
    (h : Hd E n ds st (Md b :: En b (0 * 10) e0 (En b (1 * 10) e0 (KdP b :: L'))) K) : Hd E n ds st L K := by
  refine Hd.heap (En b (0 * 10) e0 (En b (1 * 10) e0 (seg b 20 [.bool true] :: KdP b :: L'))) (fun k s => ?_) (Hd.heap _ (fun k s => ?_) h)
  · have s1 := mkEn_sep (pt_open (p.sep s))
    exact Ent.imp' .here (fun _ x => x) (fun _ s => Ent.imp' .here (fun _ x => x) (fun _ s => Ent.imp' .here (fun _ x => x) (fun _ s => mkEn_sep s) s) s) s1
  · exact Ent.sep (.eq (.there (.there (.there (.there (.there (.there .here)))))) rfl .same) k s
end
set_option maxHeartbeats 2000000 in
theorem new_ct (L : List SP) : Ct Try.prog 32 #[] (L) (fun b : Nat => .pointer (some ⟨b, 0, none⟩)) (fun b : Nat => Md b :: En b (0 * 10) e0 (En b (1 * 10) e0 (KdP b :: L))) := by
  refine Ct.of (vs := []) Try.func32 rfl rfl [] (by repeat (first | exact trivial | refine ⟨rfl, ?_⟩)) ?_
  intro E
  show Hd E 15 _ _ _ _
  refine Hd.seq (fun K1 hK1 => ?_)
  refine Hd.region ?_
  refine Hd.yv (y_assign rfl) ?_
  refine Hd.nil ?_
  refine Hd.slots [] trivial ?_
  refine Hd.toK hK1 ?_
  refine Hd.seq (fun K2 hK2 => ?_)
  refine Hd.region ?_
  refine Hd.yv (y_build (vs := [(1, _)]) rfl (by first | exact bd32_2 .. | kernel_rfl)) ?_
  refine Hd.box rfl rfl (fun b3 => ?_)
  refine Hd.yv (y_assign rfl) ?_
  refine Hd.nil ?_
  refine Hd.slots [(1, _)] ⟨rfl, trivial⟩ ?_
  refine Hd.toK hK2 ?_
  refine Hd.seq (fun K3 hK3 => ?_)
  refine Hd.draws mixed ?_
  simp only [List.length, Nat.zero_add, Nat.reduceAdd]
  refine Hd.take 0 rfl (by kernel_rfl) (by kernel_rfl) (by kernel_rfl) (fun _ => y_move rfl) (fun _ _ => rfl) ?_
  refine Hd.take 1 rfl (by kernel_rfl) (by kernel_rfl) (by kernel_rfl) (fun _ => y_move rfl) (fun _ _ => rfl) ?_
  refine Hd.take 2 rfl (by kernel_rfl) (by kernel_rfl) (by kernel_rfl) (fun _ => y_nilp rfl) (fun _ _ => rfl) ?_
  first | (refine Hd.take 3 rfl (by kernel_rfl) (by kernel_rfl) (by kernel_rfl) (fun _ => y_field' (q := 0) (ft := 115) Try.underlying117 rfl sz115 rfl rfl) (fun _ _ => rfl) ?_) | (refine Hd.take 3 rfl (by kernel_rfl) (by kernel_rfl) (by kernel_rfl) (fun _ => y_fieldR (q := 0) (ft := 115) Try.underlying117 rfl sz115 rfl rfl) (fun _ _ => rfl) ?_)
  refine Hd.take 7 rfl (by kernel_rfl) (by kernel_rfl) (by kernel_rfl) (fun _ => y_nilp rfl) (fun _ _ => rfl) ?_
  first | (refine Hd.take 8 rfl (by kernel_rfl) (by kernel_rfl) (by kernel_rfl) (fun _ => y_field' (q := 0) (ft := 115) Try.underlying117 rfl sz115 rfl rfl) (fun _ _ => rfl) ?_) | (refine Hd.take 8 rfl (by kernel_rfl) (by kernel_rfl) (by kernel_rfl) (fun _ => y_fieldR (q := 0) (ft := 115) Try.underlying117 rfl sz115 rfl rfl) (fun _ _ => rfl) ?_)
  refine Hd.tailAt 6 [4, 5] [6, 9, 10, 11] rfl rfl rfl (by kernel_rfl) ?_
  simp only [pk, List.getElem?_cons_zero, List.getElem?_cons_succ]
  refine Ht.yv (y_idxA Try.underlying115 sz114 rfl rfl (by first | omega | decide)) ?_
  first | (refine Ht.yv (y_field' (q := 4) (ft := 3) Try.underlying114 rfl sz3 rfl rfl) ?_) | (refine Ht.yv (y_fieldR (q := 4) (ft := 3) Try.underlying114 rfl sz3 rfl rfl) ?_)
  refine Ht.nil ?_
  first | (refine Hd.store1 sz3 rfl rfl rfl pkk (by first | decide | (simp; done) | (simp; omega)) ?_) | (refine Hd.storeG1 sz3 rfl rfl rfl pkk (by first | decide | (simp; done) | (simp; omega)) ?_) | (refine Hd.storeO1 sz3 rfl rfl rfl pkk (by first | omega | (simp; done) | (simp; omega)) ?_)
  try simp only [List.set_cons_zero, List.set_cons_succ]
  refine Hd.yv (y_idxA Try.underlying115 sz114 rfl rfl (by first | omega | decide)) ?_
  first | (refine Hd.yv (y_field' (q := 4) (ft := 3) Try.underlying114 rfl sz3 rfl rfl) ?_) | (refine Hd.yv (y_fieldR (q := 4) (ft := 3) Try.underlying114 rfl sz3 rfl rfl) ?_)
  first | (refine Hd.store1 sz3 rfl rfl rfl pkk (by first | decide | (simp; done) | (simp; omega)) ?_) | (refine Hd.storeG1 sz3 rfl rfl rfl pkk (by first | decide | (simp; done) | (simp; omega)) ?_) | (refine Hd.storeO1 sz3 rfl rfl rfl pkk (by first | omega | (simp; done) | (simp; omega)) ?_)
  try simp only [List.set_cons_zero, List.set_cons_succ]
  refine Hd.nil ?_
  refine Hd.noPn ?_
  refine Hd.slots [(1, _)] ⟨rfl, trivial⟩ ?_
  refine Hd.toK hK3 ?_
  refine Hd.seq (fun K4 hK4 => ?_)
  refine Hd.region ?_
  refine Hd.yv (y_move rfl) ?_
  refine Hd.yv (y_assign rfl) ?_
  refine Hd.nil ?_
  refine Hd.slots [(0, _)] ⟨rfl, trivial⟩ ?_
  refine Hd.toK hK4 ?_
  refine Hd.ret ?_
  clear hK1 hK2 hK3 hK4
  refine Hd.mkPair (b := b3) (L' := L) (by exact Pick.here) ?_
  exact Hd.ret1 rfl b3 rfl (Ent.sep enn)
end Pa
end Go.Proofs.Ytgifpkpkkgkfeaa
