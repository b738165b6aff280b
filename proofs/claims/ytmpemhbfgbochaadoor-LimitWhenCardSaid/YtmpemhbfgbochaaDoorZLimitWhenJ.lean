/- At When there is leave, and a tick earlier there is not: the law LimitWhen answers true, whatever its input, the table of flags being what the program's text lays. No other condition. -/
import Derived.Test.YtmpemhbfgbochaaDoorCards
import Derived.Test.YtmpemhbfgbochaaDoorTie
import Derived.OpenShut
import Derived.Deep.DeepHandedRow
import Derived.Lib.LaidTab
import Derived.Lib.SmallJoins
import Derived.Test.YtmpemhbfgbochaaDoorZLimitWhenI
namespace Go.Proofs.YtmpemhbfgbochaaDoor
set_option linter.unusedSimpArgs false
set_option linter.unusedVariables false
set_option linter.unnecessarySimpa false
open Go.RX Fx
namespace Lm
open Bu Wo
set_option maxRecDepth 8000
theorem Ct.cases {P : Program} {f : FuncId} {vs : Array Value} {L : List SP} {ι : Type} {val : ι → Value} {post : ι → List SP} (c : Bool) (h1 : c = true → Ct P f vs L val post) (h2 : c = false → Ct P f vs L val post) : Ct P f vs L val post := by
  cases c
  · exact h2 rfl
  · exact h1 rfl
theorem lsetN_ct (L : List SP) (lb b : Nat) (r : Nat → RtA) (now : Int) (hn : InK .u64 now) : Ct Tryd.prog 9 #[.pointer (some ⟨lb, 0, none⟩), .int .u64 now, .agg (encRt (r 0)).toArray, .agg (encRt (r 1)).toArray] (LmH lb ⟨b, noS, none⟩ :: L)
    (fun _ : Nat → Option Nat => .int .i64 (if mayB r = true then 0 else 80)) (fun s => pu (∀ j, j < 2 → (s j).isSome = (mayB r && !rz (r j))) :: LmH lb ⟨b, s, none⟩ :: SlB (s 0) (gvX noS dmX now r 0) :: SlB (s 1) (gvX noS dmX now r 1) :: L) := by
  refine Ct.cases (mayB r) (fun h => ?_) (fun h => ?_)
  · refine Ct.imp (lset_ct L lb ⟨b, noS, none⟩ dmX (fun _ => dum_ok) r h now hn) (fun k s => ?_) (fun s => ⟨s, by rw [if_pos h], fun k q => ?_⟩)
    · have t2 := sl_no (x := dmX) k s
      exact Ent.sep enn k t2
    · rw [h]; simp only [Bool.true_and]; exact q
  · refine Ct.imp (lset_bad L lb ⟨b, noS, none⟩ r h now) (fun k s => s) (fun _ => ⟨noS, by rw [h]; rfl, fun k q => ?_⟩)
    rw [h]
    have t2 := sl_no (x := gvX noS dmX now r) k q
    exact Ent.sep (.pure (fun j _ => rfl) enn) k t2
theorem wants_run {x : BfA} (on : ∀ k, k < 2 → (x.s k).on = true) (run : ∀ k, k < 2 → (x.s k).ended = false) (high : (x.s 0).high = 0) : wantsA x = if (x.s 1).c = [] then 2 else 6 := by
  have h0 : wantK x 0 = true := by unfold wantK; rw [run 0 (by omega), high]; rfl
  have h1 : wantK x 1 = decide (((x.s 1).c.length : Int) > 0) := by unfold wantK; rw [run 1 (by omega)]; simp
  have s6 : sidesA 6 = [0, 1] := by decide +kernel
  have o6 : bits .or .i64 (bits .or .i64 0 (flagA 0)) (flagA 1) = 6 := by decide +kernel
  have on6 : onM x (sidesA 6) = 6 := by
    rw [s6]; unfold onM
    simp only [List.foldl_cons, List.foldl_nil]
    rw [if_pos (on 0 (by omega)), if_pos (on 1 (by omega))]; exact o6
  unfold wantsA
  rw [on6, s6]
  unfold waM
  simp only [List.foldl_cons, List.foldl_nil]
  rw [h0, if_pos rfl, h1]
  by_cases hc : (x.s 1).c = []
  · rw [if_pos hc, hc]; decide +kernel
  · have hl : (x.s 1).c.length > 0 := List.length_pos_iff.2 hc
    rw [if_neg hc, if_pos (by simp; omega)]; exact o6
theorem stT_io (x : BfA) (got went : List UInt8) : (stT2 x went (stT1 x got noT)).i = (got.length : Int) ∧ (stT2 x went (stT1 x got noT)).o = (went.length : Int) := by
  unfold stT2 stT1
  split <;> split
  · rename_i h1 h2; subst h1; subst h2; exact ⟨rfl, rfl⟩
  · rename_i h1 h2; subst h1; exact ⟨rfl, rfl⟩
  · rename_i h1 h2; subst h2; exact ⟨rfl, rfl⟩
  · exact ⟨rfl, rfl⟩
theorem stG_max (x : BfA) (l : Nat → List UInt8) (flags most : Int) : (stG x l flags most).length ≤ 4096 ∧ ((stG x l flags most).length : Int) ≤ max 0 most := by
  have hn := rdN_le (x.s 0) most
  unfold stG
  split
  · unfold gotB
    rw [List.length_take]; omega
  · simp only [List.length_nil]; omega
theorem stW_max (n : Nat) (x : BfA) (l : Nat → List UInt8) (flags much : Int) : (stW n x l flags much).length ≤ (x.s 1).c.length := by
  have h := congrArg List.length (stW_pre n x l flags much)
  rw [List.length_append] at h; omega
structure RnI (n : Nat) (X : BfA) (w : WA) (l : Nat → List UInt8) : Prop where
  ok : BOk X
  fd : X.fd = 0
  on : ∀ k, k < 2 → (X.s k).on = true
  run : ∀ k, k < 2 → (X.s k).ended = false
  high : (X.s 0).high = 0
  out : (X.s 1).c = []
  w : PrW n w l
theorem RnI.wants {n : Nat} {X : BfA} {w : WA} {l : Nat → List UInt8} (h : RnI n X w l) : wantsA X = 2 := by rw [wants_run h.on h.run h.high, if_pos h.out]
theorem RnI.step {n : Nat} {X : BfA} {w : WA} {l : Nat → List UInt8} (h : RnI n X w l) {now : Int} (hn : InK .u64 now) (flags most much : Int) :
    RnI n (stepS X w now flags most much).x (stepS X w now flags most much).w (mvL l (stG X l flags most) (stW n X l flags much)) ∧ (stepS X w now flags most much).t.i = ((stG X l flags most).length : Int) ∧ (stepS X w now flags most much).t.o = 0 := by
  have hs := step_pr h.w h.fd now flags most much
  have hwl := stW_max n X l flags much
  rw [h.out] at hwl
  have hw0 : stW n X l flags much = [] := List.length_eq_zero_iff.1 (by simpa using hwl)
  have hio := stT_io X (stG X l flags most) (stW n X l flags much)
  refine ⟨⟨bok_step h.ok hn w flags most much, hs.fd.trans h.fd, fun k hk => ?_, fun k hk => ?_, hs.s0.2.2.2.2.1.trans h.high, ?_, hs.w⟩, by rw [hs.t]; exact hio.1, by rw [hs.t, hio.2, hw0]; rfl⟩
  · rcases (show k = 0 ∨ k = 1 by omega) with rfl | rfl
    · exact hs.s0.2.1.trans (h.on 0 hk)
    · exact hs.s1.2.1.trans (h.on 1 hk)
  · rcases (show k = 0 ∨ k = 1 by omega) with rfl | rfl
    · exact hs.s0.2.2.1.trans (h.run 0 hk)
    · exact hs.s1.2.2.1.trans (h.run 1 hk)
  · rw [hs.s1.1, h.out, List.drop_nil]
theorem RnI.read {n : Nat} {X : BfA} {w : WA} {l : Nat → List UInt8} (h : RnI n X w l) (m : Int) : RnI n (readB X m) w l := by
  have hk : (readB X m).fd = X.fd ∧ (∀ k, ((readB X m).s k).on = (X.s k).on ∧ ((readB X m).s k).ended = (X.s k).ended ∧ ((readB X m).s k).high = (X.s k).high) ∧ ((readB X m).s 1).c = (X.s 1).c := by
    unfold readB
    split
    · exact ⟨rfl, fun _ => ⟨rfl, rfl, rfl⟩, rfl⟩
    · refine ⟨rfl, fun k => ?_, by rw [bup_ne _ _ (by decide)]⟩
      by_cases e : k = 0
      · subst e; rw [bup_at]; exact ⟨rfl, rfl, rfl⟩
      · rw [bup_ne _ _ e]; exact ⟨rfl, rfl, rfl⟩
  exact ⟨bok_get h.ok m, hk.1.trans h.fd, fun k hk2 => ((hk.2.1 k).1).trans (h.on k hk2), fun k hk2 => ((hk.2.1 k).2.1).trans (h.run k hk2), ((hk.2.1 0).2.2).trans h.high, hk.2.2.trans h.out, h.w⟩
theorem RnI.put {n : Nat} {X : BfA} {w : WA} {l : Nat → List UInt8} (h : RnI n X w l) (bs : List UInt8) : RnI n X (writeR w 1 bs).2 (updL l 0 (l 0 ++ bs.take (n - (l 0).length))) :=
  { h with w := (writeR_pr h.w (k := 1) (by omega) bs).2 }
theorem rn_new {n : Nat} {w : WA} {l : Nat → List UInt8} (hw : PrW n w l) : RnI n frX w l := by
  have h0 : frX.s 0 = ⟨[], true, false, 0, 0, 0, NV⟩ := by rfl
  have h1 : frX.s 1 = ⟨[], true, false, 0, 0, 0, NV⟩ := by rfl
  refine ⟨ex_b0, rfl, fun k hk => ?_, fun k hk => ?_, by rw [h0], by rw [h1], hw⟩
  · rcases (show k = 0 ∨ k = 1 by omega) with rfl | rfl
    · rw [h0]
    · rw [h1]
  · rcases (show k = 0 ∨ k = 1 by omega) with rfl | rfl
    · rw [h0]
    · rw [h1]
theorem come_0 {x : BkA} (h : x.clk = 0) : come x 0 = x := if_pos (by omega)
theorem tak_0 {x : BkA} (h : x.clk = 0) (n : Int) : (tak x 0 n).clk = 0 ∧ (tak x 0 n).r = x.r := by
  unfold tak; rw [come_0 h]; split <;> exact ⟨h, rfl⟩
theorem lvB_tf (X Y : BkA) : lvB true false X Y = if min 4096 X.have_ < 1 then 0 else min 4096 X.have_ := rfl
structure LwI (n : Nat) (r : RtA) (x y : Nat → BkA) (X : BfA) (w : WA) (l : Nat → List UInt8) : Prop where
  c : ConOk x y
  clk : (x 0).clk = 0
  r : (x 0).r = r
  n : RnI n X w l
theorem LwI.come {n : Nat} {r : RtA} {x y : Nat → BkA} {X : BfA} {w : WA} {l : Nat → List UInt8} (h : LwI n r x y X w l) : LwI n r (cmA 0 x) (cmA 0 y) X w l :=
  ⟨⟨cmA_ok h.c.x in0, cmA_ok h.c.y in0⟩, by show (Lm.come (x 0) 0).clk = 0; rw [come_0 h.clk]; exact h.clk, by show (Lm.come (x 0) 0).r = r; rw [come_0 h.clk]; exact h.r, h.n⟩
theorem LwI.take {n : Nat} {r : RtA} {x y : Nat → BkA} {X X' : BfA} {w w' : WA} {l l' : Nat → List UInt8} (h : LwI n r x y X w l) (t : ToA) (hn : RnI n X' w' l') : LwI n r (stX 0 t x) (stX 0 t y) X' w' l' :=
  ⟨⟨stX_ok h.c.x in0 t, stX_ok h.c.y in0 t⟩, (tak_0 h.clk _).1, (tak_0 h.clk _).2.trans h.r, hn⟩
theorem tms_1 {X : BkA} (h : RtOk X.r) : tms X 1 = 1 := by
  have h1 := h.m1
  unfold tms
  rw [show 1 + X.r.many - 1 = X.r.many by omega]
  exact Int.ediv_self (by omega)
theorem whn_0 {X : BkA} (h : BkOk X) (hc : X.clk = 0) (hh : X.have_ = 0) : whn X 0 1 = X.r.every := by
  have h1 := h.r.m1
  have h2 := h.r.b1
  have h3 := h.r.e1
  have h4 := h.r.e2
  unfold whn
  rw [come_0 hc, hh, if_neg (by omega), if_neg (by omega), hc, show (1 : Int) - 0 = 1 by omega, tms_1 h.r, Int.one_mul]
  unfold dl
  rw [if_neg (by omega)]; omega
theorem come_early {X : BkA} (h : BkOk X) (hc : X.clk = 0) (hh : X.have_ = 0) : (come X (X.r.every - 1)).have_ = 0 := by
  have h1 := h.r.m1
  have h2 := h.r.b1
  have h3 := h.r.e1
  unfold come
  split
  · exact hh
  · have hp : per X (X.r.every - 1) = 0 := by
      unfold per; rw [hc]
      exact Int.ediv_eq_zero_of_lt (by omega) (by omega)
    have hf := (fil_b h 0 (by omega)).1
    rw [hp, hh, show min (0 : Int) (fil X + 1) = 0 by omega, Int.zero_mul]
    show min X.r.burst (0 + 0) = 0
    omega
theorem come_same {X : BkA} (h : BkOk X) (hc : X.clk = 0) (hh : X.have_ = 0) {now : Int} (hnow : now = X.r.every - 1) : come X now = X := by
  have h1 := h.r.m1
  have h2 := h.r.b1
  have h3 := h.r.e1
  subst hnow
  unfold come
  split
  · rfl
  · have hp : per X (X.r.every - 1) = 0 := by
      unfold per; rw [hc]
      exact Int.ediv_eq_zero_of_lt (by omega) (by omega)
    have hf := (fil_b h 0 (by omega)).1
    rw [hp, hh, show min (0 : Int) (fil X + 1) = 0 by omega, Int.zero_mul, Int.zero_mul, hc]
    obtain ⟨r, hv, c⟩ := X
    obtain rfl : hv = 0 := hh
    obtain rfl : c = 0 := hc
    show BkA.mk r (min r.burst (0 + 0)) (0 + 0) = _
    congr 1
    have h1' : 1 ≤ r.many := h1
    have h2' : r.many ≤ r.burst := h2
    omega
theorem come_then {X : BkA} (h : BkOk X) (hc : X.clk = 0) (hh : X.have_ = 0) : 1 ≤ (come X X.r.every).have_ := by
  have h1 := h.r.m1
  have h2 := h.r.b1
  have h3 := h.r.e1
  unfold come
  rw [if_neg (by omega)]
  have hp : per X X.r.every = 1 := by
    unfold per; rw [hc, show X.r.every - 0 = X.r.every by omega]
    exact Int.ediv_self (by omega)
  have hf := (fil_b h 0 (by omega)).1
  rw [hp, hh, show min (1 : Int) (fil X + 1) = 1 by omega, Int.one_mul]
  show 1 ≤ min X.r.burst (0 + X.r.many)
  omega
theorem lw_0 : lwB 0 4096 2 = 0 := by decide +kernel
theorem lw_1 {v : Int} (h : ¬ v = 0) : lwB v 4096 2 = 2 := by unfold lwB; rw [if_neg (by decide), if_neg h]
theorem b24 : bits .and .i64 2 4 = 0 := by decide +kernel
theorem b22 : ¬ bits .and .i64 2 2 = 0 := by decide +kernel
theorem lvB_ff (X Y : BkA) : lvB false false X Y = 4096 := rfl
set_option maxHeartbeats 2000000 in
theorem lwhenlaw_ct (L : List SP) (hF : Rd L 0 0 flV) (r : RtA) (hr : InK .u64 r.every) (nn : Int) (hnn : InK .u16 nn) : Ct Tryd.prog 3 #[.agg (encRt r).toArray, .int .u16 nn] (L) (fun _ : Unit => .bool true) (fun _ : Unit => L) := by
  refine Ct.of (vs := [.agg (encRt r).toArray, .int .u16 nn]) Tryd.func3 rfl rfl [(0, .agg (encRt r).toArray), (1, .int .u16 nn)] (by repeat (first | exact trivial | refine ⟨rfl, ?_⟩)) ?_
  intro E
  show Hd E 123 _ _ _ _
  simp only [InK] at hnn
  refine Hd.seq (fun K1 hK1 => ?_)
  refine Hd.region ?_
  refine Hd.box rfl rfl (fun b2 => ?_)
  refine Hd.yv (y_assign rfl) ?_
  refine Hd.nil ?_
  refine Hd.slots [(1, _), (2, _)] ⟨rfl, rfl, trivial⟩ ?_
  refine Hd.toK hK1 ?_
  refine Hd.seq (fun K2 hK2 => ?_)
  refine Hd.region ?_
  refine Hd.callE rfl fk7 (alive27_ct _ ?hF) (Ent.sep enn) ?_
  case hF => exact Rd.mono hF (Ent.sep enn)
  intro _
  refine Hd.yv (y_assign rfl) ?_
  refine Hd.nil ?_
  refine Hd.slots [(1, _), (2, _), (5, _)] ⟨rfl, rfl, rfl, trivial⟩ ?_
  refine Hd.toK hK2 ?_
  refine Hd.seq (fun K3 hK3 => ?_)
  refine Hd.region ?_
  refine Hd.callE rfl fk8 (few_ct _ 60000 0 (by decide) (by decide) (by decide)) (Ent.sep enn) ?_
  rintro ⟨wb, b, lb⟩
  dsimp only
  refine Hd.yv (y_move rfl) ?_
  refine Hd.yv (y_extract rfl rfl) ?_
  refine Hd.yv (y_extract rfl rfl) ?_
  refine Hd.yv (y_extract rfl rfl) ?_
  refine Hd.yv (y_assign rfl) ?_
  refine Hd.yv (y_assign rfl) ?_
  refine Hd.yv (y_assign rfl) ?_
  refine Hd.nil ?_
  refine Hd.slots [(1, _), (2, _), (5, _), (6, _), (7, _), (8, _)] ⟨rfl, rfl, rfl, rfl, rfl, rfl, trivial⟩ ?_
  refine Hd.toK hK3 ?_
  refine Hd.seq (fun K4 hK4 => ?_)
  refine Hd.region ?_
  refine Hd.yv (y_move rfl) ?_
  first | (refine Hd.yv (y_convn rfl Tryd.underlying25 Tryd.underlying3 (by simp only [InK]; omega)) ?_) | (refine Hd.yv (y_conv rfl Tryd.underlying25 Tryd.underlying3) ?_)
  refine Hd.yv (y_remn rfl rfl (by omega) (by omega)) ?_
  refine Hd.yv (y_assign rfl) ?_
  refine Hd.nil ?_
  refine Hd.slots [(2, _), (5, _), (6, _), (7, _), (8, _), (9, _)] ⟨rfl, rfl, rfl, rfl, rfl, rfl, trivial⟩ ?_
  refine Hd.toK hK4 ?_
  refine Hd.seq (fun K5 hK5 => ?_)
  refine Hd.region ?_
  refine Hd.yv (y_move rfl) ?_
  first | (refine Hd.yv (y_loadn (us := [_, _, _]) ag24 rfl (Rd.pt pkk (by (first | (intro j v e; rcases j with _|_|_|_|_|_|_|_|_|_|_|_|j <;> first | exact e | exact absurd e (by simp))))) (by exact sz24)) ?_) | (refine Hd.yv (y_loadn (us := [_, _, _]) ag24 rfl (Rd.seg pkk (by (first | (intro j v e; rcases j with _|_|_|_|_|_|_|_|_|_|_|_|j <;> first | exact e | exact absurd e (by simp))))) (by exact sz24)) ?_) | (refine Hd.yv (y_loadRn ag24 rfl (by (first | exact RdS.own pkk)) (by (first | (intro j v e; rcases j with _|_|_|_|_|_|_|_|_|_|_|_|j <;> first | exact e | exact absurd e (by simp)))) (by exact sz24) (by simp)) ?_)
  refine Hd.yv (y_build (vs := []) rfl (by first | exact bd3_29 .. | kernel_rfl)) ?_
  refine Hd.callE rfl fk9 (lsetN_ct _ lb b (rts r r0) 0 in0) (Ent.sep enn) ?_
  intro s
  refine Hd.pure (fun hs => ?_)
  refine Hd.yv (y_assign rfl) ?_
  refine Hd.nil ?_
  refine Hd.slots [(2, _), (5, _), (6, _), (7, _), (8, _), (9, _), (10, _)] ⟨rfl, rfl, rfl, rfl, rfl, rfl, rfl, trivial⟩ ?_
  refine Hd.toK hK5 ?_
  refine Hd.seq (fun K6 hK6 => ?_)
  refine Hd.seq (fun K7 hK7 => ?_)
  refine Hd.region ?_
  refine Hd.yv (y_move rfl) ?_
  refine Hd.yv (y_not rfl) ?_
  refine Hd.yv (y_move rfl) ?_
  apply Hd.org 3 33 36 [(2, _), (5, _), (6, _), (7, _), (8, _), (9, _), (10, _)] rfl ⟨rfl, rfl, rfl, rfl, rfl, rfl, rfl, trivial⟩
  · intro hg5_33
    try simp only [decide_eq_true_eq, decide_eq_false_iff_not, Bool.and_eq_true, Bool.or_eq_true, Bool.and_eq_false_iff, Bool.or_eq_false_iff, Bool.not_eq_true', Bool.not_eq_false', Bool.not_eq_true, Bool.not_eq_false, Int.not_lt, Int.not_le, Decidable.not_not, ne_eq] at hg5_33
    simp only [List.take]
    refine Hd.ng rfl rfl rfl ?_
    refine Hd.ng rfl rfl rfl ?_
    first | (refine Hd.yv (y_pickT rfl rfl) ?_) | (refine Hd.yv (y_pickF rfl rfl) ?_) | (refine Hd.yv (y_pickb rfl rfl rfl) ?_) | (refine Hd.yv (y_pick rfl rfl rfl) ?_)
    refine Hd.nil ?_
    exact Hd.mend (by repeat (first | exact trivial | refine ⟨rfl, ?_⟩)) (Ent.sep enn)
  · intro hg5_33
    try simp only [decide_eq_true_eq, decide_eq_false_iff_not, Bool.and_eq_true, Bool.or_eq_true, Bool.and_eq_false_iff, Bool.or_eq_false_iff, Bool.not_eq_true', Bool.not_eq_false', Bool.not_eq_true, Bool.not_eq_false, Int.not_lt, Int.not_le, Decidable.not_not, ne_eq] at hg5_33
    simp only [List.take]
    refine Hd.yg rfl rfl (y_move rfl) ?_
    refine Hd.yg rfl rfl (y_neq rfl rfl) ?_
    first | (refine Hd.yv (y_pickT rfl rfl) ?_) | (refine Hd.yv (y_pickF rfl rfl) ?_) | (refine Hd.yv (y_pickb rfl rfl rfl) ?_) | (refine Hd.yv (y_pick rfl rfl rfl) ?_)
    refine Hd.nil ?_
    exact Hd.mend (by repeat (first | exact trivial | refine ⟨rfl, ?_⟩)) (Ent.sep enn)
  simp only [List.drop]
  refine Hd.yv (y_move rfl) ?_
  apply Hd.org 4 37 41 [(5, _), (6, _), (7, _), (8, _), (9, _), (10, _)] rfl ⟨rfl, rfl, rfl, rfl, rfl, rfl, trivial⟩
  · intro hg5_37
    try simp only [decide_eq_true_eq, decide_eq_false_iff_not, Bool.and_eq_true, Bool.or_eq_true, Bool.and_eq_false_iff, Bool.or_eq_false_iff, Bool.not_eq_true', Bool.not_eq_false', Bool.not_eq_true, Bool.not_eq_false, Int.not_lt, Int.not_le, Decidable.not_not, ne_eq] at hg5_37
    simp only [List.take]
    refine Hd.ng rfl rfl rfl ?_
    refine Hd.ng rfl rfl rfl ?_
    refine Hd.ng rfl rfl rfl ?_
    first | (refine Hd.yv (y_pickT rfl rfl) ?_) | (refine Hd.yv (y_pickF rfl rfl) ?_) | (refine Hd.yv (y_pickb rfl rfl rfl) ?_) | (refine Hd.yv (y_pick rfl rfl rfl) ?_)
    refine Hd.nil ?_
    exact Hd.mend (by repeat (first | exact trivial | refine ⟨rfl, ?_⟩)) (Ent.sep enn)
  · intro hg5_37
    try simp only [decide_eq_true_eq, decide_eq_false_iff_not, Bool.and_eq_true, Bool.or_eq_true, Bool.and_eq_false_iff, Bool.or_eq_false_iff, Bool.not_eq_true', Bool.not_eq_false', Bool.not_eq_true, Bool.not_eq_false, Int.not_lt, Int.not_le, Decidable.not_not, ne_eq] at hg5_37
    simp only [List.take]
    first | (refine Hd.yg rfl rfl (y_field' (q := 1) (ft := 22) Tryd.underlying24 rfl sz22 rfl rfl) ?_) | (refine Hd.yg rfl rfl (y_fieldR (q := 1) (ft := 22) Tryd.underlying24 rfl sz22 rfl rfl) ?_)
    first | (refine Hd.yg rfl rfl (y_load1 ag22 rfl (Rd.pt1 pkk (by (first | rfl)))) ?_) | (refine Hd.yg rfl rfl (y_load1 ag22 rfl (Rd.seg1 pkk (by (first | rfl)))) ?_) | (refine Hd.yg rfl rfl (y_load1 ag22 rfl (Rd.segK1 pkk (by decide) (by (first | rfl)))) ?_) | (refine Hd.yg rfl rfl (y_loadR1 ag22 rfl (by (first | exact RdS.own pkk)) (by (first | rfl))) ?_)
    first | (refine Hd.yg rfl rfl (y_eqlT rfl rfl) ?_) | (refine Hd.yg rfl rfl (y_eql rfl rfl) ?_)
    first | (refine Hd.yv (y_pickT rfl rfl) ?_) | (refine Hd.yv (y_pickF rfl rfl) ?_) | (refine Hd.yv (y_pickb rfl rfl rfl) ?_) | (refine Hd.yv (y_pick rfl rfl rfl) ?_)
    refine Hd.nil ?_
    exact Hd.mend (by repeat (first | exact trivial | refine ⟨rfl, ?_⟩)) (Ent.sep enn)
  simp only [List.drop]
  refine Hd.yv (y_move rfl) ?_
  apply Hd.org 3 42 45 [(5, _), (6, _), (7, _), (8, _), (9, _), (10, _)] rfl ⟨rfl, rfl, rfl, rfl, rfl, rfl, trivial⟩
  · intro hg5_42
    try simp only [decide_eq_true_eq, decide_eq_false_iff_not, Bool.and_eq_true, Bool.or_eq_true, Bool.and_eq_false_iff, Bool.or_eq_false_iff, Bool.not_eq_true', Bool.not_eq_false', Bool.not_eq_true, Bool.not_eq_false, Int.not_lt, Int.not_le, Decidable.not_not, ne_eq] at hg5_42
    simp only [List.take]
    refine Hd.ng rfl rfl rfl ?_
    refine Hd.ng rfl rfl rfl ?_
    first | (refine Hd.yv (y_pickT rfl rfl) ?_) | (refine Hd.yv (y_pickF rfl rfl) ?_) | (refine Hd.yv (y_pickb rfl rfl rfl) ?_) | (refine Hd.yv (y_pick rfl rfl rfl) ?_)
    refine Hd.nil ?_
    exact Hd.mend (by repeat (first | exact trivial | refine ⟨rfl, ?_⟩)) (Ent.sep enn)
  · intro hg5_42
    try simp only [decide_eq_true_eq, decide_eq_false_iff_not, Bool.and_eq_true, Bool.or_eq_true, Bool.and_eq_false_iff, Bool.or_eq_false_iff, Bool.not_eq_true', Bool.not_eq_false', Bool.not_eq_true, Bool.not_eq_false, Int.not_lt, Int.not_le, Decidable.not_not, ne_eq] at hg5_42
    simp only [List.take]
    refine Hd.yg rfl rfl (y_move rfl) ?_
    refine Hd.yg rfl rfl (y_not rfl) ?_
    first | (refine Hd.yv (y_pickT rfl rfl) ?_) | (refine Hd.yv (y_pickF rfl rfl) ?_) | (refine Hd.yv (y_pickb rfl rfl rfl) ?_) | (refine Hd.yv (y_pick rfl rfl rfl) ?_)
    refine Hd.nil ?_
    exact Hd.mend (by repeat (first | exact trivial | refine ⟨rfl, ?_⟩)) (Ent.sep enn)
  simp only [List.drop]
  refine Hd.nil ?_
  refine Hd.slots [(5, _), (6, _), (7, _), (8, _), (9, _), (10, _), (45, _)] ⟨rfl, rfl, rfl, rfl, rfl, rfl, rfl, trivial⟩ ?_
  refine Hd.toK hK7 ?_
  refine Hd.cond rfl (fun hc0 => ?_) (fun hc0 => ?_)
  ·
    try simp only [decide_eq_true_eq, decide_eq_false_iff_not, Bool.and_eq_true, Bool.or_eq_true, Bool.and_eq_false_iff, Bool.or_eq_false_iff, Bool.not_eq_true', Bool.not_eq_false', Bool.not_eq_true, Bool.not_eq_false, Int.not_lt, Int.not_le, Decidable.not_not, ne_eq] at hc0
    have hcc := hc0
    refine Hd.seq (fun K8 hK8 => ?_)
    refine Hd.region ?_
    refine Hd.yv (y_move rfl) ?_
    refine Hd.yv (y_move rfl) ?_
    refine Hd.yg rfl rfl (y_move rfl) ?_
    first | (refine Hd.yv (y_pickT rfl rfl) ?_) | (refine Hd.yv (y_pickF rfl rfl) ?_) | (refine Hd.yv (y_pickb rfl rfl rfl) ?_) | (refine Hd.yv (y_pick rfl rfl rfl) ?_)
    refine Hd.yv (y_move rfl) ?_
    refine Hd.yg rfl rfl (y_move rfl) ?_
    first | (refine Hd.yg rfl rfl (y_eqlT rfl rfl) ?_) | (refine Hd.yg rfl rfl (y_eql rfl rfl) ?_)
    refine Hd.yg rfl rfl (y_move rfl) ?_
    apply Hd.org 3 53 56 [(50, _)] rfl ⟨rfl, trivial⟩
    · intro hg6_53
      try simp only [decide_eq_true_eq, decide_eq_false_iff_not, Bool.and_eq_true, Bool.or_eq_true, Bool.and_eq_false_iff, Bool.or_eq_false_iff, Bool.not_eq_true', Bool.not_eq_false', Bool.not_eq_true, Bool.not_eq_false, Int.not_lt, Int.not_le, Decidable.not_not, ne_eq] at hg6_53
      simp only [List.take]
      refine Hd.ng rfl rfl rfl ?_
      refine Hd.ng rfl rfl rfl ?_
      first | (refine Hd.yg rfl rfl (y_pickT rfl rfl) ?_) | (refine Hd.yg rfl rfl (y_pickF rfl rfl) ?_) | (refine Hd.yg rfl rfl (y_pickb rfl rfl rfl) ?_) | (refine Hd.yg rfl rfl (y_pick rfl rfl rfl) ?_)
      refine Hd.nil ?_
      exact Hd.mend (by repeat (first | exact trivial | refine ⟨rfl, ?_⟩)) (Ent.sep enn)
    · intro hg6_53
      try simp only [decide_eq_true_eq, decide_eq_false_iff_not, Bool.and_eq_true, Bool.or_eq_true, Bool.and_eq_false_iff, Bool.or_eq_false_iff, Bool.not_eq_true', Bool.not_eq_false', Bool.not_eq_true, Bool.not_eq_false, Int.not_lt, Int.not_le, Decidable.not_not, ne_eq] at hg6_53
      simp only [List.take]
      refine Hd.yg rfl rfl (y_move rfl) ?_
      first | (refine Hd.yg rfl rfl (y_eqlT rfl rfl) ?_) | (refine Hd.yg rfl rfl (y_eql rfl rfl) ?_)
      first | (refine Hd.yg rfl rfl (y_pickT rfl rfl) ?_) | (refine Hd.yg rfl rfl (y_pickF rfl rfl) ?_) | (refine Hd.yg rfl rfl (y_pickb rfl rfl rfl) ?_) | (refine Hd.yg rfl rfl (y_pick rfl rfl rfl) ?_)
      refine Hd.nil ?_
      exact Hd.mend (by repeat (first | exact trivial | refine ⟨rfl, ?_⟩)) (Ent.sep enn)
    simp only [List.drop]
    first | (refine Hd.yv (y_to (v' := .bool true) (y_pickT rfl rfl) (by (cases hmB : mayB (rts r r0) <;> rfl))) ?_) | (refine Hd.yv (y_to (v' := .bool true) (y_pickF rfl rfl) (by (cases hmB : mayB (rts r r0) <;> rfl))) ?_) | (refine Hd.yv (y_to (v' := .bool true) (y_pickb rfl rfl rfl) (by (cases hmB : mayB (rts r r0) <;> rfl))) ?_) | (refine Hd.yv (y_to (v' := .bool true) (y_pick rfl rfl rfl) (by (cases hmB : mayB (rts r r0) <;> rfl))) ?_)
    refine Hd.yv (y_assign rfl) ?_
    refine Hd.nil ?_
    refine Hd.slots [(4, _)] ⟨rfl, trivial⟩ ?_
    refine Hd.toK hK8 ?_
    refine Hd.ret ?_
    refine Hd.thenRet ?_
    clear hK1 hK2 hK3 hK4 hK5 hK6 hK7 hK8
    exact Hd.ret1 rfl () (by first | rfl | (simp only [*]; done) | (simp [*]; done)) (Ent.sep enn)
  ·
    try simp only [decide_eq_true_eq, decide_eq_false_iff_not, Bool.and_eq_true, Bool.or_eq_true, Bool.and_eq_false_iff, Bool.or_eq_false_iff, Bool.not_eq_true', Bool.not_eq_false', Bool.not_eq_true, Bool.not_eq_false, Int.not_lt, Int.not_le, Decidable.not_not, ne_eq] at hc0
    have hmB : mayB (rts r r0) = true := by
      cases hm : mayB (rts r r0) with
      | true => rfl
      | false => rw [hm] at hc0; simp at hc0
    have hev : ¬ r.every = 0 := by omega
    have hrz : rz r = false := by unfold rz; simp [hev]
    have hro : RtOk r := mayB_at (r := rts r r0) hmB (k := 0) (by decide) hrz
    have h0 : (s 0).isSome = true := by have := hs 0 (by decide); rw [hmB] at this; rw [this]; show (true && !rz r) = true; rw [hrz]; rfl
    have h1 : (s 1).isSome = false := by have := hs 1 (by decide); rw [hmB] at this; rw [this]; rfl
    have hl0 : ∀ x y : Nat → BkA, lvA ⟨b, s, none⟩ G0 x y 0 = lvB true false (x 0) (y 0) := lv0_b h0 rfl
    have hl1 : ∀ x y : Nat → BkA, lvA ⟨b, s, none⟩ G0 x y 1 = lvB false false (x 1) (y 1) := lv0_b h1 rfl
    have hit : itS (s 0) (gsl none G0 0) = [0] := by unfold itS; rw [h0]; rfl
    have hx0 : gvX noS dmX 0 (rts r r0) 0 = newK r 0 := by unfold gvX; rw [if_neg (by show ¬ rz r = true; rw [hrz]; simp)]; rfl
    obtain ⟨lz, hI0⟩ : ∃ lz, LwI 60000 r (gvX noS dmX 0 (rts r r0)) dmX frX (frW 60000 0) lz := ⟨_, ⟨gv_con (fun _ => dum_ok) in0 hmB (rts_far _ _), fun _ => dum_ok⟩, by rw [hx0], by rw [hx0], rn_new (writeR_pr (pr_new 60000) (k := 1) (by omega) (List.replicate 0 0)).2⟩
    refine Hd.skip ?_
    refine Hd.toK hK6 ?_
    refine Hd.seq (fun K9 hK9 => ?_)
    refine Hd.heap (LgL lb ⟨b, s, none⟩ G0 (gvX noS dmX 0 (rts r r0)) dmX (BufP b wb frX :: WorldP wb (frW 60000 0) :: L)) (fun q t => lg_ng rfl G0 dmX q (Ent.sep enn q t)) ?_
    refine Hd.region ?_
    refine Hd.yv (y_move rfl) ?_
    refine Hd.mkslice (m := 60000) (cap := 60000) Tryd.underlying35 ty5 zr5 rfl rfl rfl rfl (by decide) (by decide) (by decide) (fun b59 cs59 hcs59 => ?_)
    obtain ⟨zs, hz, hzl⟩ : ∃ zs : List UInt8, cs59 = bsl zs ∧ zs.length = 60000 := ⟨List.replicate 60000 0, by rw [hcs59]; exact noughts_cells 60000, List.length_replicate⟩
    clear hcs59
    subst hz
    refine Hd.ptOwn (b := b59) (m := 60000) pkk (by rw [List.length_map, hzl]) (by decide) ?_
    obtain ⟨l1, hI1⟩ : ∃ l1, LwI 60000 r (gvX noS dmX 0 (rts r r0)) dmX frX (writeR (frW 60000 0) 1 zs).2 l1 := ⟨_, hI0.c, hI0.clk, hI0.r, hI0.n.put zs⟩
    refine Hd.callE rfl fk10 (wwrite_ct _ wb (frW 60000 0) 1 (some ⟨b59, 0, none⟩) 60000 60000 zs hzl ?hD (by decide) (Nat.le_refl _)) (Ent.sep enn) ?_
    case hD => exact RdS.own pkk
    intro _
    refine Hd.nil ?_
    refine Hd.slots [(5, _), (6, _), (7, _), (9, _)] ⟨rfl, rfl, rfl, rfl, trivial⟩ ?_
    refine Hd.toK hK9 ?_
    refine Hd.cutK (ι := (Nat → BkA) × (Nat → BkA) × BfA × WA × (Nat → List UInt8)) [(5, _), (7, _)] (fun _ => []) (fun j => pu (LwI 60000 r j.1 j.2.1 j.2.2.1 j.2.2.2.1 j.2.2.2.2) :: LgL lb ⟨b, s, none⟩ G0 j.1 j.2.1 (BufP b wb j.2.2.1 :: WorldP wb j.2.2.2.1 :: L)) ?_ ?_ ⟨rfl, rfl, trivial⟩
    ·
      refine Hd.seq (fun K10 hK10 => ?_)
      refine Hd.region ?_
      refine Hd.yv (y_assign rfl) ?_
      refine Hd.nil ?_
      refine Hd.slots [(5, _), (6, _), (7, _), (9, _), (11, _)] ⟨rfl, rfl, rfl, rfl, rfl, trivial⟩ ?_
      refine Hd.toK hK10 ?_
      refine Hd.block ?_
      refine Hd.loopK (ι := Nat × (Nat → BkA) × (Nat → BkA) × BfA × WA × (Nat → List UInt8)) [(5, _), (6, _), (7, _), (9, _)] (fun q_ => [(11, .int .i64 (q_.1 : Int))]) (fun q_ => pu (LwI 60000 r q_.2.1 q_.2.2.1 q_.2.2.2.1 q_.2.2.2.2.1 q_.2.2.2.2.2 ∧ (q_.1 : Int) ≤ 65535) :: LgL lb ⟨b, s, none⟩ G0 q_.2.1 q_.2.2.1 (BufP b wb q_.2.2.2.1 :: WorldP wb q_.2.2.2.2.1 :: L)) (fun q_ => 65536 - q_.1) (0, gvX noS dmX 0 (rts r r0), dmX, frX, (writeR (frW 60000 0) 1 zs).2, l1) (by repeat (first | exact trivial | refine ⟨rfl, ?_⟩)) (by repeat (first | exact trivial | refine ⟨rfl, ?_⟩)) (Ent.sep (.pure ⟨hI1, by omega⟩ enn)) ?_
      rintro ⟨i, x, y, X, w, l⟩
      try dsimp only
      refine Hd.pure (fun hp0 => ?_)
      try dsimp only at hp0
      refine Hd.seq (fun K11 hK11 => ?_)
      refine Hd.seq (fun K12 hK12 => ?_)
      refine Hd.region ?_
      refine Hd.yv (y_move rfl) ?_
      refine Hd.yv (y_move rfl) ?_
      refine Hd.yv (y_lss rfl rfl) ?_
      refine Hd.nil ?_
      refine Hd.slots [(5, _), (6, _), (7, _), (9, _), (11, _), (63, _)] ⟨rfl, rfl, rfl, rfl, rfl, rfl, trivial⟩ ?_
      refine Hd.toK hK12 ?_
      refine Hd.cond rfl (fun hc1 => ?_) (fun hc1 => ?_)
      ·
        try simp only [decide_eq_true_eq, decide_eq_false_iff_not, Bool.and_eq_true, Bool.or_eq_true, Bool.and_eq_false_iff, Bool.or_eq_false_iff, Bool.not_eq_true', Bool.not_eq_false', Bool.not_eq_true, Bool.not_eq_false, Int.not_lt, Int.not_le, Decidable.not_not, ne_eq] at hc1
        obtain ⟨hI, hi⟩ := hp0
        have hi2 : i < 65535 := by omega
        obtain ⟨σ, hσ⟩ : ∃ σ, lsS ⟨b, s, none⟩ G0 x y X w 0 2 = σ := ⟨_, rfl⟩
        obtain ⟨l2, hn2, hi3, ho3⟩ : ∃ l2, RnI 60000 σ.x σ.w l2 ∧ InK .i64 σ.t.i ∧ InK .i64 σ.t.o := by
          rw [← hσ]
          unfold lsS
          obtain ⟨q1, q2, q3⟩ := hI.n.step in0 (bits .and .i64 2 (lwK ⟨b, s, none⟩ G0 (cmA 0 x) (cmA 0 y) (wantsA X) 2)) (lvA ⟨b, s, none⟩ G0 (cmA 0 x) (cmA 0 y) 0) (lvA ⟨b, s, none⟩ G0 (cmA 0 x) (cmA 0 y) 1)
          refine ⟨_, q1, ?_, ?_⟩
          · rw [q2]
            have := (stG_max X l (bits .and .i64 2 (lwK ⟨b, s, none⟩ G0 (cmA 0 x) (cmA 0 y) (wantsA X) 2)) (lvA ⟨b, s, none⟩ G0 (cmA 0 x) (cmA 0 y) 0)).1
            simp only [InK]; omega
          · rw [q3]; simp [InK]
        have hT := hI.take σ.t ((hn2.read 5000))
        refine Hd.skip ?_
        refine Hd.toK hK11 ?_
        refine Hd.seq (fun K13 hK13 => ?_)
        refine Hd.block ?_
        refine Hd.seq (fun K14 hK14 => ?_)
        refine Hd.region ?_
        refine Hd.yv (y_move rfl) ?_
        refine Hd.callE rfl fk11 (lstep_ct _ lb wb ⟨b, s, none⟩ G0 x y hI.c X hI.n.ok w 0 2 in0 ?hF σ hσ hi3 ho3) (Ent.sep enn) ?_
        case hF => exact Rd.mono hF (Ent.sep enn)
        intro _
        refine Hd.nil ?_
        refine Hd.slots [(5, _), (6, _), (7, _), (9, _), (11, _)] ⟨rfl, rfl, rfl, rfl, rfl, trivial⟩ ?_
        refine Hd.toK hK14 ?_
        refine Hd.seq (fun K15 hK15 => ?_)
        refine Hd.region ?_
        refine Hd.yv (y_move rfl) ?_
        refine Hd.callE rfl fk12 (lbuf_ct _ lb ⟨b, s, none⟩) (Ent.sep enn) ?_
        intro _
        refine Hd.callE rfl fk13 (bread_ct _ b wb σ.x 5000 (by decide)) (Ent.sep enn) ?_
        rintro ⟨a5, c5⟩
        dsimp only
        refine Hd.nil ?_
        refine Hd.slots [(5, _), (6, _), (7, _), (9, _), (11, _)] ⟨rfl, rfl, rfl, rfl, rfl, trivial⟩ ?_
        refine Hd.toK hK15 ?_
        refine Hd.seq (fun K16 hK16 => ?_)
        refine Hd.region ?_
        refine Hd.yv (y_move rfl) ?_
        refine Hd.mkslice (m := 5000) (cap := 5000) Tryd.underlying35 ty5 zr5 rfl rfl rfl rfl (by decide) (by decide) (by decide) (fun b72 cs72 hcs72 => ?_)
        obtain ⟨ys, hy, hyl⟩ : ∃ ys : List UInt8, cs72 = bsl ys ∧ ys.length = 5000 := ⟨List.replicate 5000 0, by rw [hcs72]; exact noughts_cells 5000, List.length_replicate⟩
        clear hcs72
        subst hy
        refine Hd.ptOwn (b := b72) (m := 5000) pkk (by rw [List.length_map, hyl]) (by decide) ?_
        obtain ⟨l3, hC⟩ : ∃ l3, LwI 60000 r (cmA 0 (stX 0 σ.t x)) (cmA 0 (stX 0 σ.t y)) (readB σ.x 5000) (writeR σ.w 1 ys).2 l3 := ⟨_, (hI.take σ.t ((hn2.read 5000).put ys)).come⟩
        refine Hd.callE rfl fk10 (wwrite_ct _ wb σ.w 1 (some ⟨b72, 0, none⟩) 5000 5000 ys hyl ?hD (by decide) (Nat.le_refl _)) (Ent.sep enn) ?_
        case hD => exact RdS.own pkk
        intro _
        refine Hd.nil ?_
        refine Hd.slots [(5, _), (6, _), (7, _), (9, _), (11, _)] ⟨rfl, rfl, rfl, rfl, rfl, trivial⟩ ?_
        refine Hd.toK hK16 ?_
        refine Hd.seq (fun K17 hK17 => ?_)
        refine Hd.region ?_
        refine Hd.yv (y_move rfl) ?_
        refine Hd.callE rfl fk14 (leaves_ct _ lb ⟨b, s, none⟩ G0 (stX 0 σ.t x) (stX 0 σ.t y) hT.c 0 in0) (Ent.sep enn) ?_
        intro _
        refine Hd.yv (y_move rfl) ?_
        refine Hd.yv (y_extract rfl rfl) ?_
        refine Hd.yv (y_extract rfl rfl) ?_
        refine Hd.yv (y_assign rfl) ?_
        refine Hd.yv (y_assign rfl) ?_
        refine Hd.nil ?_
        refine Hd.slots [(5, _), (6, _), (7, _), (9, _), (11, _), (12, _)] ⟨rfl, rfl, rfl, rfl, rfl, rfl, trivial⟩ ?_
        refine Hd.toK hK17 ?_
        refine Hd.seq (fun K18 hK18 => ?_)
        refine Hd.region ?_
        refine Hd.yv (y_move rfl) ?_
        first | (refine Hd.yv (y_eqlT rfl rfl) ?_) | (refine Hd.yv (y_eql rfl rfl) ?_)
        refine Hd.nil ?_
        refine Hd.slots [(5, _), (6, _), (7, _), (9, _), (11, _), (80, _)] ⟨rfl, rfl, rfl, rfl, rfl, rfl, trivial⟩ ?_
        refine Hd.toK hK18 ?_
        refine Hd.cond rfl (fun hc2 => ?_) (fun hc2 => ?_)
        ·
          try simp only [decide_eq_true_eq, decide_eq_false_iff_not, Bool.and_eq_true, Bool.or_eq_true, Bool.and_eq_false_iff, Bool.or_eq_false_iff, Bool.not_eq_true', Bool.not_eq_false', Bool.not_eq_true, Bool.not_eq_false, Int.not_lt, Int.not_le, Decidable.not_not, ne_eq] at hc2
          refine Hd.exit ?_
          refine Hd.inBexit' rfl ?_
          refine Hd.thenExit ?_
          refine Hd.thenExit ?_
          refine Hd.inBexit ?_
          clear hK1 hK2 hK3 hK4 hK5 hK6 hK7 hK9 hK10 hK11 hK12 hK13 hK14 hK15 hK16 hK17 hK18
          refine Hd.thenN ?_
          exact Hd.meet (cmA 0 (stX 0 σ.t x), cmA 0 (stX 0 σ.t y), readB σ.x 5000, (writeR σ.w 1 ys).2, l3) (by repeat (first | exact trivial | refine ⟨rfl, ?_⟩)) (Ent.sep (.pure hC enn))
        ·
          try simp only [decide_eq_true_eq, decide_eq_false_iff_not, Bool.and_eq_true, Bool.or_eq_true, Bool.and_eq_false_iff, Bool.or_eq_false_iff, Bool.not_eq_true', Bool.not_eq_false', Bool.not_eq_true, Bool.not_eq_false, Int.not_lt, Int.not_le, Decidable.not_not, ne_eq] at hc2
          refine Hd.skip ?_
          refine Hd.inB ?_
          refine Hd.toK hK13 ?_
          refine Hd.region ?_
          refine Hd.yv (y_move rfl) ?_
          first | (refine Hd.yv (y_addn rfl rfl (by simp only [InK]; omega)) ?_) | (refine Hd.yv (y_add rfl rfl) ?_)
          refine Hd.yv (y_assign rfl) ?_
          refine Hd.nil ?_
          refine Hd.slots [(5, _), (6, _), (7, _), (9, _), (11, _)] ⟨rfl, rfl, rfl, rfl, rfl, trivial⟩ ?_
          clear hK1 hK2 hK3 hK4 hK5 hK6 hK7 hK9 hK10 hK11 hK12 hK13 hK14 hK15 hK16 hK17 hK18
          refine Hd.thenN ?_
          exact Hd.again (i + 1, cmA 0 (stX 0 σ.t x), cmA 0 (stX 0 σ.t y), readB σ.x 5000, (writeR σ.w 1 ys).2, l3) (by show 65536 - (i + 1) < 65536 - i; omega) (by repeat (first | exact trivial | refine ⟨rfl, ?_⟩)) (Ent.sep (.pure ⟨hC, by show ((i + 1 : Nat) : Int) ≤ 65535; omega⟩ enn))
      ·
        try simp only [decide_eq_true_eq, decide_eq_false_iff_not, Bool.and_eq_true, Bool.or_eq_true, Bool.and_eq_false_iff, Bool.or_eq_false_iff, Bool.not_eq_true', Bool.not_eq_false', Bool.not_eq_true, Bool.not_eq_false, Int.not_lt, Int.not_le, Decidable.not_not, ne_eq] at hc1
        refine Hd.exit ?_
        refine Hd.thenExit ?_
        refine Hd.thenExit ?_
        refine Hd.inBexit ?_
        clear hK1 hK2 hK3 hK4 hK5 hK6 hK7 hK9 hK10 hK11 hK12
        refine Hd.thenN ?_
        exact Hd.meet (x, y, X, w, l) (by repeat (first | exact trivial | refine ⟨rfl, ?_⟩)) (Ent.sep (.pure hp0.1 enn))
    ·
      rintro ⟨x, y, X, w, l⟩
      dsimp only
      refine Hd.pure (fun hI => ?_)
      refine Hd.seq (fun K19 hK19 => ?_)
      refine Hd.region ?_
      refine Hd.yv (y_move rfl) ?_
      refine Hd.callE rfl fk14 (leaves_ct _ lb ⟨b, s, none⟩ G0 x y hI.c 0 in0) (Ent.sep enn) ?_
      intro _
      have hJ := hI.come
      have hJ2 := hJ.come
      have hbo : BkOk (cmA 0 x 0) := hJ.c.x 0
      have hv0 : lvS (LmA.b ⟨b, s, none⟩ 0) (gsl (LmA.g ⟨b, s, none⟩) G0 0) (cmA 0 x 0) (cmA 0 y 0) = if min 4096 (cmA 0 x 0).have_ < 1 then 0 else min 4096 (cmA 0 x 0).have_ := hl0 (cmA 0 x) (cmA 0 y)
      have hcc : cmA 0 (cmA 0 x) = cmA 0 x := cmA_idem hI.c.x in0
      have hcy : cmA 0 (cmA 0 y) = cmA 0 y := cmA_idem hI.c.y in0
      have hbh := hbo.h0
      rw [hv0]
      refine Hd.yv (y_move rfl) ?_
      refine Hd.yv (y_extract rfl rfl) ?_
      refine Hd.yv (y_extract rfl rfl) ?_
      refine Hd.yv (y_assign rfl) ?_
      refine Hd.yv (y_assign rfl) ?_
      refine Hd.nil ?_
      refine Hd.slots [(5, _), (7, _), (14, _)] ⟨rfl, rfl, rfl, trivial⟩ ?_
      refine Hd.toK hK19 ?_
      refine Hd.seq (fun K20 hK20 => ?_)
      refine Hd.region ?_
      refine Hd.yv (y_move rfl) ?_
      refine Hd.callE rfl fk15 (lwhen_ct _ lb wb ⟨b, s, none⟩ G0 (cmA 0 x) (cmA 0 y) hJ.c X 0 in0 ?hF) (Ent.sep enn) ?_
      case hF => exact Rd.mono hF (Ent.sep enn)
      intro _
      rw [hcc, hcy, hI.n.wants, whK_2, hl0, hl1, hit, if_pos (.inl b24), lvB_tf]
      refine Hd.yv (y_assign rfl) ?_
      refine Hd.nil ?_
      refine Hd.slots [(5, _), (7, _), (14, _), (16, _)] ⟨rfl, rfl, rfl, rfl, trivial⟩ ?_
      refine Hd.toK hK20 ?_
      refine Hd.seq (fun K21 hK21 => ?_)
      refine Hd.seq (fun K22 hK22 => ?_)
      refine Hd.region ?_
      refine Hd.yv (y_move rfl) ?_
      refine Hd.yv (y_gtr rfl rfl) ?_
      refine Hd.nil ?_
      refine Hd.slots [(5, _), (7, _), (16, _), (89, _)] ⟨rfl, rfl, rfl, rfl, trivial⟩ ?_
      refine Hd.toK hK22 ?_
      refine Hd.cond rfl (fun hc3 => ?_) (fun hc3 => ?_)
      ·
        try simp only [decide_eq_true_eq, decide_eq_false_iff_not, Bool.and_eq_true, Bool.or_eq_true, Bool.and_eq_false_iff, Bool.or_eq_false_iff, Bool.not_eq_true', Bool.not_eq_false', Bool.not_eq_true, Bool.not_eq_false, Int.not_lt, Int.not_le, Decidable.not_not, ne_eq] at hc3
        have hpos : 0 < (if min 4096 (cmA 0 x 0).have_ < 1 then 0 else min 4096 (cmA 0 x 0).have_) := hc3
        rw [if_pos (.inr hpos)]
        refine Hd.seq (fun K23 hK23 => ?_)
        refine Hd.region ?_
        refine Hd.yv (y_move rfl) ?_
        refine Hd.yv (y_move rfl) ?_
        refine Hd.yg rfl rfl (y_move rfl) ?_
        first | (refine Hd.yg rfl rfl (y_to (y_eqlT rfl rfl) (congrArg Value.bool (decide_eq_true (rfl)))) ?_) | (refine Hd.yg rfl rfl (y_to (y_eql rfl rfl) (congrArg Value.bool (decide_eq_true (rfl)))) ?_)
        first | (refine Hd.yv (y_pickT rfl rfl) ?_) | (refine Hd.yv (y_pickF rfl rfl) ?_) | (refine Hd.yv (y_pickb rfl rfl rfl) ?_) | (refine Hd.yv (y_pick rfl rfl rfl) ?_)
        refine Hd.yv (y_move rfl) ?_
        refine Hd.yg rfl rfl (y_move rfl) ?_
        refine Hd.unguard rfl rfl ?_
        refine Hd.callE rfl fk16 (lwants_ct _ lb wb ⟨b, s, none⟩ G0 (cmA 0 x) (cmA 0 y) hJ.c X 0 in0 ?hF) (Ent.sep enn) ?_
        case hF => exact Rd.mono hF (Ent.sep enn)
        intro _
        rw [hcc, hcy, lwK_b, hl0, hl1, lvB_tf, lvB_ff, hI.n.wants, lw_1 (by omega)]
        first | (refine Hd.yg rfl rfl (y_to (y_eqlT rfl rfl) (congrArg Value.bool (decide_eq_true (rfl)))) ?_) | (refine Hd.yg rfl rfl (y_to (y_eql rfl rfl) (congrArg Value.bool (decide_eq_true (rfl)))) ?_)
        first | (refine Hd.yv (y_pickT rfl rfl) ?_) | (refine Hd.yv (y_pickF rfl rfl) ?_) | (refine Hd.yv (y_pickb rfl rfl rfl) ?_) | (refine Hd.yv (y_pick rfl rfl rfl) ?_)
        refine Hd.yv (y_assign rfl) ?_
        refine Hd.nil ?_
        refine Hd.slots [(4, _)] ⟨rfl, trivial⟩ ?_
        refine Hd.toK hK23 ?_
        refine Hd.ret ?_
        refine Hd.thenRet ?_
        clear hK1 hK2 hK3 hK4 hK5 hK6 hK7 hK9 hK19 hK20 hK21 hK22 hK23
        exact Hd.ret1 rfl () (by first | rfl | (simp only [*]; done) | (simp [*]; done)) (Ent.sep enn)
      ·
        try simp only [decide_eq_true_eq, decide_eq_false_iff_not, Bool.and_eq_true, Bool.or_eq_true, Bool.and_eq_false_iff, Bool.or_eq_false_iff, Bool.not_eq_true', Bool.not_eq_false', Bool.not_eq_true, Bool.not_eq_false, Int.not_lt, Int.not_le, Decidable.not_not, ne_eq] at hc3
        have hnp : ¬ 0 < (if min 4096 (cmA 0 x 0).have_ < 1 then 0 else min 4096 (cmA 0 x 0).have_) := by omega
        have hh : (cmA 0 x 0).have_ = 0 := by
          by_cases h : min 4096 (cmA 0 x 0).have_ < 1
          · omega
          · rw [if_neg h] at hnp; omega
        have hwv : mV (cmA 0 x 0) (cmA 0 y 0) 0 [0] = r.every := by
          show max 0 (whn (cmA 0 x 0) 0 1) = _
          rw [whn_0 hbo hJ.clk hh, hJ.r]
          have := hro.e1
          omega
        have he1 := hro.e1
        have he2 := hro.e2
        have hmn : min NV r.every = r.every := by show min (18446744073709551615 : Int) r.every = r.every; omega
        have hr2 : (cmA 0 x 0).r = r := hJ.r
        have hea : (cmA (r.every - 1) (cmA 0 x) 0).have_ = 0 := by have := come_early hbo hJ.clk hh; rw [hr2] at this; exact this
        have hin1 : InK .u64 (r.every - 1) := by simp only [InK]; omega
        have hD : ConOk (cmA (r.every - 1) (cmA 0 x)) (cmA (r.every - 1) (cmA 0 y)) := ⟨cmA_ok hJ.c.x hin1, cmA_ok hJ.c.y hin1⟩
        have hth : 1 ≤ (cmA r.every (cmA (r.every - 1) (cmA 0 x)) 0).have_ := by
          have hs1 : come (cmA 0 x 0) (r.every - 1) = cmA 0 x 0 := come_same hbo hJ.clk hh (by rw [hr2])
          have e : cmA r.every (cmA (r.every - 1) (cmA 0 x)) 0 = come (cmA 0 x 0) r.every := by
            show come (come (cmA 0 x 0) (r.every - 1)) r.every = _
            rw [hs1]
          rw [e]
          have := come_then hbo hJ.clk hh
          rwa [hr2] at this
        rw [if_neg (fun h => h.elim b22 hnp), hwv, hmn]
        refine Hd.skip ?_
        refine Hd.toK hK21 ?_
        refine Hd.seq (fun K24 hK24 => ?_)
        refine Hd.region ?_
        refine Hd.yv (y_move rfl) ?_
        refine Hd.yv (y_move rfl) ?_
        first | (refine Hd.yv (y_subn rfl rfl (by simp only [InK]; omega)) ?_) | (refine Hd.yv (y_sub rfl rfl) ?_)
        refine Hd.callE rfl fk16 (lwants_ct _ lb wb ⟨b, s, none⟩ G0 (cmA 0 x) (cmA 0 y) hJ.c X (r.every - 1) hin1 ?hF) (Ent.sep enn) ?_
        case hF => exact Rd.mono hF (Ent.sep enn)
        intro _
        rw [lwK_b, hl0, hl1, lvB_tf, lvB_ff, hI.n.wants, hea, if_pos (by omega), lw_0]
        refine Hd.yv (y_assign rfl) ?_
        refine Hd.nil ?_
        refine Hd.slots [(5, _), (7, _), (16, _), (17, _)] ⟨rfl, rfl, rfl, rfl, trivial⟩ ?_
        refine Hd.toK hK24 ?_
        refine Hd.seq (fun K25 hK25 => ?_)
        refine Hd.region ?_
        refine Hd.yv (y_move rfl) ?_
        refine Hd.yv (y_move rfl) ?_
        refine Hd.yg rfl rfl (y_move rfl) ?_
        refine Hd.yg rfl rfl (y_to (y_gtr rfl rfl) (congrArg Value.bool (decide_eq_true ((by omega))))) ?_
        first | (refine Hd.yv (y_pickT rfl rfl) ?_) | (refine Hd.yv (y_pickF rfl rfl) ?_) | (refine Hd.yv (y_pickb rfl rfl rfl) ?_) | (refine Hd.yv (y_pick rfl rfl rfl) ?_)
        refine Hd.yv (y_move rfl) ?_
        refine Hd.yg rfl rfl (y_move rfl) ?_
        refine Hd.yg rfl rfl (y_to (y_neq rfl rfl) (congrArg Value.bool (decide_eq_true ((by omega))))) ?_
        first | (refine Hd.yv (y_pickT rfl rfl) ?_) | (refine Hd.yv (y_pickF rfl rfl) ?_) | (refine Hd.yv (y_pickb rfl rfl rfl) ?_) | (refine Hd.yv (y_pick rfl rfl rfl) ?_)
        refine Hd.yv (y_move rfl) ?_
        refine Hd.yg rfl rfl (y_move rfl) ?_
        first | (refine Hd.yg rfl rfl (y_to (y_eqlT rfl rfl) (congrArg Value.bool (decide_eq_true (rfl)))) ?_) | (refine Hd.yg rfl rfl (y_to (y_eql rfl rfl) (congrArg Value.bool (decide_eq_true (rfl)))) ?_)
        first | (refine Hd.yv (y_pickT rfl rfl) ?_) | (refine Hd.yv (y_pickF rfl rfl) ?_) | (refine Hd.yv (y_pickb rfl rfl rfl) ?_) | (refine Hd.yv (y_pick rfl rfl rfl) ?_)
        refine Hd.yv (y_move rfl) ?_
        refine Hd.yg rfl rfl (y_move rfl) ?_
        refine Hd.yg rfl rfl (y_move rfl) ?_
        refine Hd.unguard rfl rfl ?_
        refine Hd.callE rfl fk16 (lwants_ct _ lb wb ⟨b, s, none⟩ G0 (cmA (r.every - 1) (cmA 0 x)) (cmA (r.every - 1) (cmA 0 y)) hD X r.every hr ?hF) (Ent.sep enn) ?_
        case hF => exact Rd.mono hF (Ent.sep enn)
        intro _
        rw [lwK_b, hl0, hl1, lvB_tf, lvB_ff, hI.n.wants, if_neg (by omega), lw_1 (by omega)]
        first | (refine Hd.yg rfl rfl (y_to (y_eqlT rfl rfl) (congrArg Value.bool (decide_eq_true (rfl)))) ?_) | (refine Hd.yg rfl rfl (y_to (y_eql rfl rfl) (congrArg Value.bool (decide_eq_true (rfl)))) ?_)
        first | (refine Hd.yv (y_pickT rfl rfl) ?_) | (refine Hd.yv (y_pickF rfl rfl) ?_) | (refine Hd.yv (y_pickb rfl rfl rfl) ?_) | (refine Hd.yv (y_pick rfl rfl rfl) ?_)
        refine Hd.yv (y_assign rfl) ?_
        refine Hd.nil ?_
        refine Hd.slots [(4, _)] ⟨rfl, trivial⟩ ?_
        refine Hd.toK hK25 ?_
        refine Hd.ret ?_
        clear hK1 hK2 hK3 hK4 hK5 hK6 hK7 hK9 hK19 hK20 hK21 hK22 hK24 hK25
        exact Hd.ret1 rfl () (by first | rfl | (simp only [*]; done) | (simp [*]; done)) (Ent.sep enn)
end Lm
end Go.Proofs.YtmpemhbfgbochaaDoor
namespace Go.Proofs.YtmpemhbfgbochaaDoor
set_option linter.unusedSimpArgs false
set_option linter.unusedVariables false
set_option linter.unnecessarySimpa false
open Go.RX Go.ChangeShapes Go.WideShapes Go.ChangeAt Go.RowKit
theorem Tryd.own : ownKnob Tryd.prog.godebug = none := by kernel_rfl
theorem Tryd.laidOut : laidOutB Tryd.prog = true := by kernel_rfl
theorem gTab : Tryd.prog.globalNamed "roundhouse/limit.flags" = some 0 := by kernel_rfl
theorem gTabType : (Tryd.prog.globals[0]?).map (·.type) = some 107 := by kernel_rfl
theorem cellsT : Tryd.prog.cellsOf 107 = 2 := by kernel_rfl
theorem cellsE : Tryd.prog.cellsOf 3 = 1 := by kernel_rfl
theorem LimitWhen_tab {W : World} (h : laidMetH Tryd.prog Rows.limitWhenRow.laid W) : Lib.TabIs Tryd.prog W "roundhouse/limit.flags" .i64 [2, 4] :=
  Lib.tabIs_of_head (rest := []) gTab gTabType Tryd.underlying107 Tryd.underlying3 cellsE cellsT h
theorem LimitWhen_rd {W : World} (h : laidMetH Tryd.prog Rows.limitWhenRow.laid W) : Rd [Old W] 0 0 Lm.flV := Rd.old .here (fun j v e => by
  rcases j with _ | _ | j
  · simp at e; subst e; exact (LimitWhen_tab h).cell gTab 0 (by decide)
  · simp at e; subst e; exact (LimitWhen_tab h).cell gTab 1 (by decide)
  · simp at e)
noncomputable def laidWorld (os : Os) : World :=
  { World.holding Tryd.prog os ⟨#[], #[], []⟩ with heap := (World.holding Tryd.prog os ⟨#[], #[], []⟩).heap.modify 0 fun
      | .cells _ t frozen => .cells #[.int .i64 2, .int .i64 4] t frozen
      | o => o }
theorem laid_met (os : Os) : laidMet Tryd.prog Rows.limitWhenRow.laid ((laidWorld os).forCall (fun _ _ => 0) ⟨#[], #[.agg #[.int .i64 0, .int .u64 0, .int .i64 0], .int .u16 0], []⟩).memory :=
  laidMet_of_run' 8 (by kernel_rfl) (by kernel_rfl)
set_option maxRecDepth 100000 in
theorem LimitWhen_contract (H : Type) (enc : TypeId × Value → H) (W : World) (base : Nat) (args : Array Value) (ds gs : List (DataW H)) (before : List MemPlace)
    (hval : ∀ (j : Nat) t v, Tryd.f3.params[j]? = some t → args[j]? = some v → Value.okWide Tryd.prog W .any base t v)
    (hW : DataW.Whole enc Tryd.prog Tryd.f3.params.toList Rows.limitWhenSpec.vars false W args.toList ds gs before) (hL : laidMetH Tryd.prog Rows.limitWhenRow.laid W) :
    Calls Tryd.prog 3 args W fun e W' => ∃ v, e = .returned v ∧ Rows.limitWhenSpec.post enc Tryd.prog Tryd.f3 false true false false W args v W' := by
  have hW' := hW
  obtain ⟨p, q, hA0, hV, rfl, hfz, hnd⟩ := hW
  have hA : DataW.TrodAll enc Tryd.prog W 0 (fun _ => true) true Tryd.f3.params.toList args.toList ds p := hA0
  obtain ⟨rfl, rfl⟩ := trodVars_none hV
  simp only [List.append_nil] at hW'
  have hA1 := hA
  rw [Tryd.params3] at hA hval
  obtain ⟨v0, l0, d0, ds0, p0, q0, ha0, rfl, rfl, h0, hA⟩ := trodAll_cons hA
  obtain ⟨v1, l1, d1, ds1, p1, q1, rfl, rfl, rfl, h1, hA⟩ := trodAll_cons hA
  obtain ⟨rfl, rfl, rfl⟩ := trodAll_nil hA
  obtain rfl : args = #[v0, v1] := by cases args; simp_all
  obtain ⟨x0, e0, o0⟩ := open_arg (s := .struct (.fld (.int .i64) (.fld (.int .u64) (.fld (.int .i64) .nil)))) (by kernel_rfl) (hval 0 _ _ rfl rfl) h0
  have e0 := okW_agg (l := (.fld (.int .i64) (.fld (.int .u64) (.fld (.int .i64) .nil)))) (by kernel_rfl) (hval 0 _ _ rfl rfl) e0
  subst e0
  obtain ⟨x1, e1, o1⟩ := open_arg (s := .int .u16) (by kernel_rfl) (hval 1 _ _ rfl rfl) h1
  have e1 := okW_one (s := .int .u16) (by kernel_rfl) rfl (hval 1 _ _ rfl rfl) e1
  simp only [Sh.enc, List.cons.injEq, and_true] at e1
  subst e1
  have hF := LimitWhen_rd hL
  refine (law_calls (Lm.lwhenlaw_ct [Old W] hF ⟨x0.1, x0.2.1, x0.2.2.1⟩ o0.2.1 x1 o1)).mono fun e W' ⟨he, hb⟩ => ?_
  subst he
  exact ⟨_, rfl, law_post Tryd.laidOut rfl Tryd.underlying4 rfl rfl (of_decide_eq_true (by kernel_rfl)) hW' hA1 hb⟩
set_option maxRecDepth 100000 in
theorem LimitWhen_lifted (os : Os) (started : os.Started) (H : Type) (enc : TypeId × Value → H) (F : Stop.Interp) :
    ReturnsInHanded {} Tryd.checked os 3 .any ((OpenSpec.ofChange Rows.limitWhenSpec).preRow enc Tryd.prog Tryd.f3 Rows.limitWhenRow.domain false Rows.limitWhenRow.laid) (((OpenSpec.ofChange Rows.limitWhenSpec).at F).post enc Tryd.prog Tryd.f3 false true false false) := by
  have hsome : (DataW.whole enc Tryd.prog ((laidWorld os).forCall (fun _ _ => 0) ⟨#[], #[.agg #[.int .i64 0, .int .u64 0, .int .i64 0], .int .u16 0], []⟩).memory Tryd.f3.params.toList Rows.limitWhenSpec.vars false (#[.agg #[.int .i64 0, .int .u64 0, .int .i64 0], .int .u16 0] : Array Value).toList 8).isSome = true := by kernel_rfl
  obtain ⟨x0, hx⟩ := Option.isSome_iff_exists.1 hsome
  refine returnsInHanded_of_row (C := Tryd.checked) (s := OpenSpec.ofChange Rows.limitWhenSpec) Tryd.own started (by kernel_rfl) Tryd.func3
    (witness_row_at (enc := enc) (C := Tryd.checked) false (laidWorld os) #[.agg #[.int .i64 0, .int .u64 0, .int .i64 0], .int .u16 0] rfl (by kernel_rfl) (by kernel_rfl) (by kernel_rfl)
      (OpenSpec.preRow_of_cond 8 hx rfl (fun k hk => by cases hk) (by kernel_rfl) (laid_met os))) ?_
  intro W base args ds gs before hval hW _ _ _ hL _ _
  exact LimitWhen_contract H enc W base args ds gs before hval hW hL
theorem LimitWhen_said : Rows.LimitWhenSaid :=
  OpenClaim.holds_of_cond 3 Tryd.f3 rfl rfl rfl rfl rfl rfl rfl ⟨rfl, rfl, rfl, rfl, rfl⟩ rfl rfl rfl rfl rfl (by kernel_rfl) Tryd.func3 (by kernel_rfl)
    (of_decide_eq_true (by kernel_rfl)) (by unfold Func.isWrapper; first | (rw [if_pos (by decide +kernel)]; kernel_rfl) | (rw [if_neg (by decide +kernel)]; exact ⟨rfl, rfl⟩))
    (fun os started H enc _ F => by rw [OpenClaim.pre_eq_preRow]; exact LimitWhen_lifted os started H enc F)
theorem LimitWhen_plain (f : FuncId) (fn : Func) (hf : Tryd.pinned.checked.prog.funcNamed "roundhouse/roundhouselaw27.LimitWhen" = some f) (hfn : Tryd.pinned.checked.prog.funcs[f]? = some fn) :
    false = Tryd.pinned.checked.prog.looks [] ∧ ∀ (j : Nat) t, fn.params[j]? = some t → Tryd.pinned.checked.prog.wantsStandIn t = false := by
  obtain rfl : f = 3 := Option.some.inj ((show Tryd.prog.funcNamed "roundhouse/roundhouselaw27.LimitWhen" = some 3 by kernel_rfl).symm.trans hf) |>.symm
  obtain rfl : fn = Tryd.f3 := (Option.some.inj (Tryd.func3.symm.trans hfn)).symm
  refine ⟨by kernel_rfl, fun j t ht => ?_⟩
  have hall : Tryd.f3.params.all (fun t => !Tryd.prog.wantsStandIn t) = true := by kernel_rfl
  have := Array.all_eq_true.1 hall j (Array.getElem?_eq_some_iff.1 ht).1
  rw [(Array.getElem?_eq_some_iff.1 ht).2] at this
  have h2 : Tryd.prog.wantsStandIn t = false := by simpa using this
  exact h2
theorem LimitWhen_holds : Rows.LimitWhenCardSaid :=
  Claim7.holds_tied_plain_at .later [] _ _ _ _ LimitWhen_said (fun _ h => by cases h) (by kernel_rfl) (fun _ h => by cases h) limitWhen_row_tie rfl ⟨rfl, rfl⟩ (by kernel_rfl) rfl LimitWhen_plain (by kernel_rfl)
end Go.Proofs.YtmpemhbfgbochaaDoor
