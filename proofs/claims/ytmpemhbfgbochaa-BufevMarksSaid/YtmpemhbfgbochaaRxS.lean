/-
  Parts of slices, bytes and strings, made slices, over Rx1's judgement. No program is named here.
-/
import Derived.Test.YtmpemhbfgbochaaRxI
import Derived.Lib.ConvBytes
import Derived.Lib.AppendZerosOnto
import Derived.Laws.BytesString
import Derived.Laws.IdiomStrings
import Derived.Laws.MakeOwn
namespace Go.RX
set_option linter.unusedSimpArgs false
set_option linter.unusedVariables false
set_option linter.unnecessarySimpa false
section
variable {E : World} {n : Nat} {ds : List Deferred} {st st' : List (Nat × Value)} {L L' : List SP} {r : Option Nat} {P : Program} {Q : Exit → Act → World → Prop} {ops : Array Oper} {rest : List Oper}
variable {d : Nat} {ty t t2 : TypeId} {pos : String} {af : Array Edge} {g : Option (Nat × Bool)} {x y z : Operand} {v u : Value} {k k2 k3 : IntKind} {p q : Bool}

/-! ### Loops that keep slots -/
theorem sub_append {a : List (Nat × Value)} : ∀ {b c : List (Nat × Value)}, sub a b → sub a c → sub a (b ++ c)
  | [], _, _, h => h
  | _ :: _, _, ⟨h1, h2⟩, h => ⟨h1, sub_append h2 h⟩
theorem Hd.loopK {c : Code} {ι : Type} (keep : List (Nat × Value)) (S : ι → List (Nat × Value)) (H : ι → List SP) (μ : ι → Nat) (i0 : ι) (hk : sub st keep) (hs : sub st (S i0)) (hh : ∀ k, sep L k → sep (H i0) k)
    (round : ∀ i, Hd E n ds (S i ++ keep) (H i) (CW r P c (Exit.then (fun a w => ∃ j, μ j < μ i ∧ Fr n ds (S j ++ keep) a ∧ Sat E (H j) w) Q))) :
    Hd E n ds st L (CW r P (.loop c) Q) := Hd.loop (fun i => S i ++ keep) H μ i0 (sub_append hs hk) hh round
theorem Hd.cutK {x y : Code} {ι : Type} (keep : List (Nat × Value)) (S : ι → List (Nat × Value)) (H : ι → List SP)
    (hx : Hd E n ds st L (CW r P x (Exit.then (fun a w => ∃ j, Fr n ds (S j ++ keep) a ∧ Sat E (H j) w) Q)))
    (hy : ∀ j, Hd E n ds (S j ++ keep) (H j) (CW r P y Q)) (_hk : sub st keep) : Hd E n ds st L (CW r P (.seq x y) Q) := Hd.cut (fun j => S j ++ keep) H hx hy

/-! ### Parts of slices -/
/-- where a slice's part begins: l elements of sz cells on, unless it has no room -/
def cutA (ad : Option Addr) (sz l m : Nat) : Option Addr := if m = l then ad else ad.map (·.add (l * sz))
theorem cutA_zero (ad : Option Addr) (sz m : Nat) : cutA ad sz 0 m = ad := by
  unfold cutA; split
  · rfl
  · cases ad <;> simp [Addr.add]
theorem run_bound {a : Int} {m : Nat} {c : BoundsCode} (h0 : 0 ≤ a) (h1 : a ≤ m) (w : World) : (Instr.sliceBound (.int k a) m c).run P w = .ok a.toNat w := by
  simp [Instr.sliceBound, asIntOf, h0, h1]
theorem y_slo_oxx {e sz m cap : Nat} {ad : Option Addr} {a : Int} (hu : P.underlying t = some (.slice e)) (hs : szk P e = some sz) (hx : evo st x = some (.slice ad m cap)) (hy : evo st y = some (.int k a)) (h0 : 0 ≤ a) (h1 : a ≤ m) :
    Yv E n ds st L P ⟨some d, .slice t x (some y) none none, ty, pos, af, g⟩ (.slice (cutA ad sz a.toNat cap) (m - a.toNat) (cap - a.toNat)) := fun ac w f _ => by
  simp only [execOp, f.ev hx, Option.map_some, f.ev hy, Option.map_none]
  simp [Instr.sliceAt, Instr.slice, run_underlying hu, Instr.sliceBounds, run_bound h0 h1, run_sizeOf' hs, cutA]
theorem y_slo_xox {e sz m cap : Nat} {ad : Option Addr} {a : Int} (hu : P.underlying t = some (.slice e)) (hs : szk P e = some sz) (hx : evo st x = some (.slice ad m cap)) (hy : evo st y = some (.int k a)) (h0 : 0 ≤ a) (h1 : a ≤ cap) :
    Yv E n ds st L P ⟨some d, .slice t x none (some y) none, ty, pos, af, g⟩ (.slice ad a.toNat cap) := fun ac w f _ => by
  have := cutA_zero ad sz cap
  unfold cutA at this
  simp only [execOp, f.ev hx, Option.map_some, f.ev hy, Option.map_none]
  simp [Instr.sliceAt, Instr.slice, run_underlying hu, Instr.sliceBounds, run_bound h0 h1, run_sizeOf' hs]
  simpa using this
theorem y_slo_oox {e sz m cap : Nat} {ad : Option Addr} {a b : Int} (hu : P.underlying t = some (.slice e)) (hs : szk P e = some sz) (hx : evo st x = some (.slice ad m cap)) (hy : evo st y = some (.int k a)) (hz : evo st z = some (.int k2 b)) (h0 : 0 ≤ a) (h1 : a ≤ b) (h2 : b ≤ cap) :
    Yv E n ds st L P ⟨some d, .slice t x (some y) (some z) none, ty, pos, af, g⟩ (.slice (cutA ad sz a.toNat cap) (b.toNat - a.toNat) (cap - a.toNat)) := fun ac w f _ => by
  have hb := run_bound (P := P) (k := k2) (c := .sliceAcap) (Int.le_trans h0 h1) h2 w
  have ha := run_bound (P := P) (k := k) (c := .sliceB) (m := b.toNat) h0 (by omega) w
  simp only [execOp, f.ev hx, Option.map_some, f.ev hy, f.ev hz, Option.map_none]
  simp [Instr.sliceAt, Instr.slice, run_underlying hu, Instr.sliceBounds, hb, ha, run_sizeOf' hs, cutA]
theorem y_slo_xoo {e sz m cap : Nat} {ad : Option Addr} {a b : Int} (hu : P.underlying t = some (.slice e)) (hs : szk P e = some sz) (hx : evo st x = some (.slice ad m cap)) (hy : evo st y = some (.int k a)) (hz : evo st z = some (.int k2 b)) (h0 : 0 ≤ a) (h1 : a ≤ b) (h2 : b ≤ cap) :
    Yv E n ds st L P ⟨some d, .slice t x none (some y) (some z), ty, pos, af, g⟩ (.slice ad a.toNat b.toNat) := fun ac w f _ => by
  have hb := run_bound (P := P) (k := k2) (c := .slice3Acap) (Int.le_trans h0 h1) h2 w
  have ha := run_bound (P := P) (k := k) (c := .slice3B) (m := b.toNat) h0 (by omega) w
  have := cutA_zero ad sz b.toNat
  unfold cutA at this
  simp only [execOp, f.ev hx, Option.map_some, f.ev hy, f.ev hz, Option.map_none]
  simp [Instr.sliceAt, Instr.slice, run_underlying hu, Instr.sliceBounds, hb, ha, run_sizeOf' hs]
  simpa using this
theorem y_slo_ooo {e sz m cap : Nat} {ad : Option Addr} {a b c : Int} {y' : Operand} (hu : P.underlying t = some (.slice e)) (hs : szk P e = some sz) (hx : evo st x = some (.slice ad m cap)) (hy : evo st y = some (.int k a)) (hz : evo st z = some (.int k2 b)) (hy' : evo st y' = some (.int k3 c)) (h0 : 0 ≤ a) (h1 : a ≤ b) (h2 : b ≤ c) (h3 : c ≤ cap) :
    Yv E n ds st L P ⟨some d, .slice t x (some y) (some z) (some y'), ty, pos, af, g⟩ (.slice (cutA ad sz a.toNat c.toNat) (b.toNat - a.toNat) (c.toNat - a.toNat)) := fun ac w f _ => by
  have hc := run_bound (P := P) (k := k3) (c := .slice3Acap) (a := c) (by omega) h3 w
  have hb := run_bound (P := P) (k := k2) (c := .slice3B) (m := c.toNat) (a := b) (by omega) (by omega) w
  have ha := run_bound (P := P) (k := k) (c := .slice3C) (m := b.toNat) h0 (by omega) w
  simp only [execOp, f.ev hx, Option.map_some, f.ev hy, f.ev hz, f.ev hy', Option.map_none]
  simp [Instr.sliceAt, Instr.slice, run_underlying hu, Instr.sliceBounds, hb, ha, hc, run_sizeOf' hs, cutA]
theorem y_slo_oxxN {e sz m cap j : Nat} {ad : Option Addr} (hu : P.underlying t = some (.slice e)) (hs : szk P e = some sz) (hx : evo st x = some (.slice ad m cap)) (hy : evo st y = some (.int k (Int.ofNat j))) (h1 : j ≤ m) :
    Yv E n ds st L P ⟨some d, .slice t x (some y) none none, ty, pos, af, g⟩ (.slice (cutA ad sz j cap) (m - j) (cap - j)) :=
  y_slo_oxx hu hs hx hy (Int.natCast_nonneg j) (Int.ofNat_le.2 h1)
theorem y_slo_xoxN {e sz m cap j : Nat} {ad : Option Addr} (hu : P.underlying t = some (.slice e)) (hs : szk P e = some sz) (hx : evo st x = some (.slice ad m cap)) (hy : evo st y = some (.int k (Int.ofNat j))) (h1 : j ≤ cap) :
    Yv E n ds st L P ⟨some d, .slice t x none (some y) none, ty, pos, af, g⟩ (.slice ad j cap) :=
  y_slo_xox hu hs hx hy (Int.natCast_nonneg j) (Int.ofNat_le.2 h1)
theorem y_slo_ooxN {e sz m cap i j : Nat} {ad : Option Addr} (hu : P.underlying t = some (.slice e)) (hs : szk P e = some sz) (hx : evo st x = some (.slice ad m cap)) (hy : evo st y = some (.int k (Int.ofNat i))) (hz : evo st z = some (.int k2 (Int.ofNat j))) (h1 : i ≤ j) (h2 : j ≤ cap) :
    Yv E n ds st L P ⟨some d, .slice t x (some y) (some z) none, ty, pos, af, g⟩ (.slice (cutA ad sz i cap) (j - i) (cap - i)) :=
  y_slo_oox hu hs hx hy hz (Int.natCast_nonneg i) (Int.ofNat_le.2 h1) (Int.ofNat_le.2 h2)
theorem y_slo_xooN {e sz m cap i j : Nat} {ad : Option Addr} (hu : P.underlying t = some (.slice e)) (hs : szk P e = some sz) (hx : evo st x = some (.slice ad m cap)) (hy : evo st y = some (.int k (Int.ofNat i))) (hz : evo st z = some (.int k2 (Int.ofNat j))) (h1 : i ≤ j) (h2 : j ≤ cap) :
    Yv E n ds st L P ⟨some d, .slice t x none (some y) (some z), ty, pos, af, g⟩ (.slice ad i j) :=
  y_slo_xoo hu hs hx hy hz (Int.natCast_nonneg i) (Int.ofNat_le.2 h1) (Int.ofNat_le.2 h2)
theorem y_slo_oooN {e sz m cap i j q : Nat} {ad : Option Addr} {y' : Operand} (hu : P.underlying t = some (.slice e)) (hs : szk P e = some sz) (hx : evo st x = some (.slice ad m cap)) (hy : evo st y = some (.int k (Int.ofNat i))) (hz : evo st z = some (.int k2 (Int.ofNat j))) (hy' : evo st y' = some (.int k3 (Int.ofNat q))) (h1 : i ≤ j) (h2 : j ≤ q) (h3 : q ≤ cap) :
    Yv E n ds st L P ⟨some d, .slice t x (some y) (some z) (some y'), ty, pos, af, g⟩ (.slice (cutA ad sz i q) (j - i) (q - i)) :=
  y_slo_ooo hu hs hx hy hz hy' (Int.natCast_nonneg i) (Int.ofNat_le.2 h1) (Int.ofNat_le.2 h2) (Int.ofNat_le.2 h3)
theorem y_cap {ad : Option Addr} {len cap : Nat} {e : TypeId} (hu : P.underlying t = some (.slice e)) (hx : evo st x = some (.slice ad len cap)) :
    Yv E n ds st L P ⟨some d, .call ⟨.builtin .cap, #[x], #[t]⟩, ty, pos, af, g⟩ (.int .i64 (cap : Int)) := fun a w f _ => by
  simp only [execOp, resolve, List.map_toArray, List.map_cons, List.map_nil, f.ev hx]
  simp [invoke, builtin, Builtin.cap_, run_underlying hu, goInt, go_sem]

/-! ### What of a slice is owned by its parts -/
theorem own_none {e sz m cap : Nat} {us : List Value} {h : PH} (o : own e sz none m cap us h) : m = 0 ∧ cap = 0 := by
  rcases o.2 with h | ⟨b, off, sp, hh, _⟩
  · exact h
  · cases hh
/-- s[:l:l] and s[l:] -/
theorem own_split {e sz m cap l : Nat} {ad : Option Addr} {us1 us2 : List Value} {h : PH} (hl : l ≤ m) (h1 : us1.length = l * sz) (s : sep (own e sz ad m cap (us1 ++ us2) :: L) h) :
    sep (own e sz ad l l us1 :: own e sz (cutA ad sz l cap) (m - l) (cap - l) us2 :: L) h := by
  obtain ⟨g1, g2, d, a, b, ⟨hlen, hv⟩, y⟩ := s
  rcases hv with ⟨rfl, rfl⟩ | ⟨bl, off, sp, rfl, hmc, hcm, hsp, hsg⟩
  · have hl0 : l = 0 := by omega
    subst hl0
    have e1 : us1 = [] := List.eq_nil_of_length_eq_zero (by simpa using h1)
    have e2 : us2 = [] := List.eq_nil_of_length_eq_zero (by simpa [e1] using hlen)
    subst e1; subst e2
    exact sep_own_nil e sz _ (sep_own_nil e sz _ (y.up b))
  · have h2 : us2.length = (m - l) * sz := by rw [Nat.sub_mul]; simp at hlen; omega
    have s2 : sep (seg bl off (us1 ++ (us2 ++ sp)) :: L) h := ⟨g1, g2, d, a, b, by rw [← List.append_assoc]; exact hsg, y⟩
    have s3 := seg_split s2
    refine sep_head (A := seg bl off us1) (Ent.imp' (A := seg bl (off + us1.length) (us2 ++ sp)) (.there .here) (fun k hk => ?_) (fun _ x => x) s3 |> fun x => Pick.sep (.there .here) x) fun k hk => ?_
    · refine ⟨h2, ?_⟩
      by_cases hc : cap = l
      · left; constructor <;> omega
      · right
        refine ⟨bl, off + us1.length, sp, ?_, by omega, by omega, by rw [hsp]; congr 1; omega, hk⟩
        simp [cutA, hc, add_flat, h1]
    · refine ⟨h1, .inr ⟨bl, off, [], rfl, Nat.le_refl _, by omega, by simp, by simpa using hk⟩⟩
/-- s[l:] -/
theorem own_drop {e sz m cap l : Nat} {ad : Option Addr} {us1 us2 : List Value} {h : PH} (hl : l ≤ m) (h1 : us1.length = l * sz) (s : sep (own e sz ad m cap (us1 ++ us2) :: L) h) :
    sep (own e sz (cutA ad sz l cap) (m - l) (cap - l) us2 :: L) h := by
  obtain ⟨_, _, _, _, b, _, y⟩ := own_split hl h1 s
  exact y.up b
/-- s[:l] -/
theorem own_take {e sz m cap l : Nat} {ad : Option Addr} {us1 us2 : List Value} {h : PH} (hl : l ≤ m) (h1 : us1.length = l * sz) (o : own e sz ad m cap (us1 ++ us2) h) : own e sz ad l cap us1 h := by
  obtain ⟨hlen, hv⟩ := o
  refine ⟨h1, ?_⟩
  rcases hv with ⟨rfl, rfl⟩ | ⟨bl, off, sp, rfl, hmc, hcm, hsp, hsg⟩
  · left; constructor <;> omega
  · right
    refine ⟨bl, off, us2 ++ sp, rfl, by omega, hcm, ?_, by rw [← List.append_assoc]; exact hsg⟩
    have h2 : us2.length = (m - l) * sz := by rw [Nat.sub_mul]; simp at hlen; omega
    rw [List.length_append, h2, hsp, ← Nat.add_mul]; congr 1; omega
/-- a part can be read -/
theorem RdS.part {sz m l h mx : Nat} {ad : Option Addr} {us : List Value} (hR : RdS L sz ad m us) (hlh : l ≤ h) (hm : h ≤ m) (hmx : h ≤ mx) : RdS L sz (cutA ad sz l mx) (h - l) ((us.drop (l * sz)).take ((h - l) * sz)) := fun k s => by
  obtain ⟨hl, hv⟩ := hR k s
  refine ⟨?_, ?_⟩
  · have : (h - l) * sz ≤ (m - l) * sz := Nat.mul_le_mul_right _ (by omega)
    rw [List.length_take, List.length_drop, hl, ← Nat.sub_mul]; omega
  · by_cases h0 : h - l = 0
    · exact .inl h0
    · right
      rcases hv with h1 | ⟨b, o, rfl, hc⟩
      · omega
      · refine ⟨b, o + l * sz, by simp [cutA, show mx ≠ l by omega, add_flat], fun j v hj => ?_⟩
        have hj2 : us[l * sz + j]? = some v := by
          rw [List.getElem?_take] at hj
          split at hj
          · rwa [List.getElem?_drop] at hj
          · cases hj
        have := hc _ v hj2
        rwa [← Nat.add_assoc] at this
theorem RdS.tail {sz m l mx : Nat} {ad : Option Addr} {us : List Value} (hR : RdS L sz ad m us) (hl : l ≤ m) (hmx : m ≤ mx) : RdS L sz (cutA ad sz l mx) (m - l) (us.drop (l * sz)) := fun k s => by
  have h1 := RdS.part (mx := mx) hR hl (Nat.le_refl m) hmx k s
  have h2 := (hR k s).1
  rwa [List.take_of_length_le (by rw [List.length_drop, h2, ← Nat.sub_mul]; exact Nat.le_refl _)] at h1
theorem RdS.head {sz m l : Nat} {ad : Option Addr} {us : List Value} (hR : RdS L sz ad m us) (hl : l ≤ m) : RdS L sz ad l (us.take (l * sz)) := by
  have := RdS.part (mx := l) (l := 0) hR (Nat.zero_le _) hl (Nat.le_refl _)
  rw [cutA_zero] at this
  simpa using this

/-! ### Some cells of a block -/
/-- a block's kind, apart from its cells -/
structure kd (b m : Nat) (e : TypeId) (h : PH) : Prop where
  kind : h (b, none) = some (.blk m e (0, 0))
theorem pt_open {b : Nat} {cs : List Value} {e : TypeId} {h : PH} (s : sep (pt b cs e :: L) h) : sep (seg b 0 cs :: kd b cs.length e :: L) h := by
  obtain ⟨g1, g2, d, a, b', x, y⟩ := s
  have hd : Dis (res g1 fun _ _ => true) (fun k => match k.2 with | none => g1 k | some _ => none) := fun k => by
    obtain ⟨kb, ki⟩ := k
    cases ki with
    | none => left; rfl
    | some i => right; rfl
  have hs2 : Sub (fun k => match k.2 with | none => g1 k | some _ => none) g1 := fun k c hk => by
    obtain ⟨kb, ki⟩ := k
    cases ki with
    | none => exact hk
    | some i => cases hk
  exact ⟨res g1 fun _ _ => true, uni _ g2, (Dis.uniL hd.sym (d.subL res_sub).sym).sym, res_sub.tr a, Sub.uni (hs2.tr a) b', fun i v hi => by simp only [res, if_true]; rw [Nat.zero_add]; exact x.cell i v hi,
    _, g2, d.subL hs2, Sub.uniL, Sub.uniR (d.subL hs2), ⟨x.kind⟩, y⟩
theorem pt_close {b : Nat} {cs : List Value} {e : TypeId} {h : PH} (s : sep (seg b 0 cs :: kd b cs.length e :: L) h) : sep (pt b cs e :: L) h := by
  obtain ⟨g1, g2, d, a, b', x, k1, k2, d', a', b2, x', y⟩ := s
  exact ⟨uni g1 k1, k2, Dis.uniL (d.subR b2) d', Sub.uni a (a'.tr b'), b2.tr b', ⟨Sub.uniR (d.subR a') _ _ x'.kind, fun i v hi => Sub.uniL _ _ (by have := x i v hi; rwa [Nat.zero_add] at this)⟩, y⟩
theorem Hd.openPt {b : Nat} {cs : List Value} {e : TypeId} {K : Act → World → Prop} (p : Pick L (pt b cs e) L') (h : Hd E n ds st (seg b 0 cs :: kd b cs.length e :: L') K) : Hd E n ds st L K :=
  Hd.heap _ (fun _ s => pt_open (p.sep s)) h
theorem seg_eq {b o : Nat} {cs cs' : List Value} (h : cs = cs') : seg b o cs = seg b o cs' := by rw [h]
theorem Rd.seg1 {b o m : Nat} {cs : List Value} (p : Pick L (RX.seg b o cs) L') (h : cs[m]? = some v) : Rd L b (o + m) [v] := Rd.seg p fun j u e => by
  cases j with
  | zero => simp at e; subst e; simpa using h
  | succ j => simp at e
theorem Hd.storeG {b o q : Nat} {cs us : List Value} (hz : szk P t = some us.length) (hx : evo st x = some (.pointer (some ⟨b, o + q, none⟩))) (hy : evo st y = some v) (hv : v.cells = us.toArray)
    (h1 : ∀ u ∈ us, u.oneCell' = true) (hp : Pick L (seg b o cs) L') (hl : q + us.length ≤ cs.length) (hne : 0 < us.length)
    (K : Hd E n ds st (seg b o (cs.take q ++ us ++ cs.drop (q + us.length)) :: L') (LW r P ops Q rest)) : Hd E n ds st L (LW r P ops Q (⟨none, .store t x y, ty, pos, af, none⟩ :: rest)) :=
  Hd.opu rfl (by simp) fun a w f s => by
    have s' : Sat E (seg b o cs :: L') w := s.mp fun _ k => hp.sep k
    obtain ⟨w', hst, s2'⟩ := Sat.storeSeg (P := P) (q := q) (vs := us) s' hl (by omega) h1
    refine ⟨w', ?_, K _ _ f s2'⟩
    simp only [execOp, f.ev hx, f.ev hy, Instr.storeAt, Instr.sureAddr, pure_bind, storeVar, Sem.run_bind, run_sizeOf' hz, Result.andThen, hv]
    simp [hst]
theorem Hd.storeG1 {b o q : Nat} {cs : List Value} (hz : szk P t = some 1) (hx : evo st x = some (.pointer (some ⟨b, o + q, none⟩))) (hy : evo st y = some v)
    (h1 : v.oneCell' = true) (hp : Pick L (seg b o cs) L') (hl : q < cs.length)
    (K : Hd E n ds st (seg b o (cs.set q v) :: L') (LW r P ops Q rest)) : Hd E n ds st L (LW r P ops Q (⟨none, .store t x y, ty, pos, af, none⟩ :: rest)) :=
  Hd.storeG (us := [v]) hz hx hy (by cases v <;> simp_all [Value.cells, Value.oneCell']) (by simpa using h1) hp (by simp; omega) (by simp) (by rw [one_set hl]; exact K)
/-- two places that are not one -/
def NeP (P : Program) (L : List SP) (a1 a2 : Addr) : Prop := ∀ E w, Sat E L w → (sameAddr a1 a2).run P w = .ok false w
theorem y_eql_ne {a1 a2 : Addr} {m : Nat} {e : TypeId} (hu : P.underlying t = some (.pointer e)) (hs : szk P e = some m) (hm : Nat.beq m 0 = false) (hx : evo st x = some (.pointer (some a1))) (hy : evo st y = some (.pointer (some a2))) (hn : NeP P L a1 a2) :
    Yv E n ds st L P ⟨some d, .binOp .eql t x y t2, ty, pos, af, g⟩ (.bool false) := fun ac w f s => by
  have hm' : m ≠ 0 := by intro e; subst e; cases hm
  have key : (Op.equal t (.pointer (some a1)) (.pointer (some a2))).run P w = .ok false w := by
    have : ∀ q, (Op.equalIn (q + 1) t (.pointer (some a1)) (.pointer (some a2))).run P w = .ok false w := fun q => by
      rw [Op.equalIn]
      simp [run_underlying hu, run_sizeOf' hs, hm', hn E w s]
    exact this 9999
  simp only [execOp, f.ev hx, f.ev hy, show ∀ (a b : Option Addr), binOp .eql t (.pointer a) (.pointer b) = (do pure (.bool (← Op.equal t (.pointer a) (.pointer b)))) from fun _ _ => rfl]
  simp [eqGuard, key]
theorem y_eql_one {a1 : Addr} {m : Nat} {e : TypeId} (hu : P.underlying t = some (.pointer e)) (hs : szk P e = some m) (hm : Nat.beq m 0 = false) (hx : evo st x = some (.pointer (some a1))) (hy : evo st y = some (.pointer (some a1))) :
    Yv E n ds st L P ⟨some d, .binOp .eql t x y t2, ty, pos, af, g⟩ (.bool true) := fun ac w f s => by
  have hm' : m ≠ 0 := by intro e; subst e; cases hm
  have key : (Op.equal t (.pointer (some a1)) (.pointer (some a1))).run P w = .ok true w := by
    have : ∀ q, (Op.equalIn (q + 1) t (.pointer (some a1)) (.pointer (some a1))).run P w = .ok true w := fun q => by
      rw [Op.equalIn]
      simp [run_underlying hu, run_sizeOf' hs, hm', sameAddr]
    exact this 9999
  simp only [execOp, f.ev hx, f.ev hy, show ∀ (a b : Option Addr), binOp .eql t (.pointer a) (.pointer b) = (do pure (.bool (← Op.equal t (.pointer a) (.pointer b)))) from fun _ _ => rfl]
  simp [eqGuard, key]
theorem NeP.same {b o1 o2 : Nat} (h : o1 ≠ o2) : NeP P L ⟨b, o1, none⟩ ⟨b, o2, none⟩ := fun E w s => by
  simp [sameAddr, h]
theorem kd_at {w : World} {h1 : PH} {b m : Nat} {e : TypeId} (s : Sub h1 (hp w)) (x : kd b m e h1) : ∃ cs, w.heap[b]? = some (.cells cs e (0, 0)) := by
  obtain ⟨cs, h, _⟩ := hpo_blk (s _ _ x.kind)
  exact ⟨cs, h⟩
theorem NeP.kds {b1 b2 o1 o2 m1 m2 : Nat} {e1 e2 : TypeId} {L2 : List SP} (p1 : Pick L (kd b1 m1 e1) L') (p2 : Pick L' (kd b2 m2 e2) L2) : NeP P L ⟨b1, o1, none⟩ ⟨b2, o2, none⟩ := fun E w s => by
  obtain ⟨g1, g2, d, a, b, x, y⟩ := p1.sep s.2.2.2
  obtain ⟨h1, s1, x2⟩ := sep.one p2 y
  obtain ⟨c1, hb1⟩ := kd_at a x
  obtain ⟨c2, hb2⟩ := kd_at (s1.tr b) x2
  have hne : b1 ≠ b2 := by
    rintro rfl
    rcases d (b1, none) with e | e
    · rw [x.kind] at e; cases e
    · rw [s1 _ _ x2.kind] at e; cases e
  simp [sameAddr, hne, noView, viewAt, getObj, hb1, hb2, mayBeOne, stringish, World.frozen?, World.shape?]

/-- a call of a function's value, of what the list holds what the callee wants -/
theorem Hd.callvE {fid : FuncId} {cap : List Value} {xs : List Operand} {vs : List Value} {tys : Array TypeId} {ι : Type} {val : ι → Value} {post : ι → List SP} {L2 : List SP} (hx : evo st x = some (.func (.func fid) #[] cap.toArray)) (hv : xs.map (evo st) = vs.map some) (hf : fnk P fid = true)
    (hc : Ct P fid (vs ++ cap).toArray L2 val post) (he : ∀ k, sep L k → sep L2 k) (K : ∀ i, Hd E n ds ((d, val i) :: st) (post i) (LW r P ops Q rest)) (hd : d < n := by decide) :
    Hd E n ds st L (LW r P ops Q (⟨some d, .call ⟨.value x, xs.toArray, tys⟩, ty, pos, af, none⟩ :: rest)) := Hd.callv hx hv hf (fun E w s => hc E w (s.mp he)) K hd

/-! ### Bytes and strings -/
abbrev B (b : UInt8) : Value := .int .u8 (b.toNat : Int)
@[reducible] def str (l : List UInt8) : ByteArray := ⟨l.toArray⟩
theorem str_size (l : List UInt8) : (str l).size = l.length := by simp [ByteArray.size]
theorem str_inj {a b : List UInt8} : str a = str b ↔ a = b := by
  constructor
  · intro h; have := congrArg (fun s => s.data.toList) h; simpa using this
  · intro h; rw [h]
theorem str_of (s : ByteArray) : s = str s.data.toList := by cases s; simp
theorem B_one {l : List UInt8} : ∀ u ∈ l.map B, u.oneCell' = true := by simp [Value.oneCell']
def u8t (P : Program) (t : TypeId) : Bool := match P.underlying t with
  | some (.slice e) => (match P.underlying e with | some (.int .u8) => true | _ => false)
  | _ => false
theorem u8t_parts (h : u8t P t = true) : ∃ e, P.underlying t = some (.slice e) ∧ P.underlying e = some (.int .u8) := by
  unfold u8t at h
  split at h
  · rename_i e hu
    refine ⟨e, hu, ?_⟩
    split at h
    · assumption
    · cases h
  · cases h
theorem y_strOf {ad : Option Addr} {m cap : Nat} {l : List UInt8} (hu : u8t P t = true) (hd : P.underlying t2 = some .string) (hx : evo st x = some (.slice ad m cap)) (hR : RdS L 1 ad m (l.map B)) :
    Yv E n ds st L P ⟨some d, .convert t t2 x, ty, pos, af, g⟩ (.string (str l)) := fun a w f s => by
  obtain ⟨e, h1, h2⟩ := u8t_parts hu
  obtain ⟨hl, hv⟩ := hR _ s.2.2.2
  have hl' : l.length = m := by simpa using hl
  subst hl'
  simp only [execOp, f.ev hx]
  cases ad with
  | none =>
    have h0 : l = [] := by
      rcases hv with h | ⟨b, o, h, _⟩
      · exact List.eq_nil_of_length_eq_zero h
      · cases h
    subst h0
    rw [show (convert t t2 (.slice none ([] : List UInt8).length cap)) = _ from rfl]
    simp [run_convert_bytes_string w t t2 e none 0 cap h1 h2 hd, Conv.bytesToString]
    rfl
  | some a' =>
    have := run_convert_bytes_back (P := P) w t t2 e a' cap l h1 h2 hd (fun j hj => by
      rcases hv with h | ⟨b, o, h, hc⟩
      · omega
      · simp only [Option.some.injEq] at h
        subst h
        obtain ⟨fr, hh⟩ := hc j (B l[j]) (by simp [hj])
        rw [add_flat]; exact cell_hp hh)
    simp [this]
/-- what stands in a new block, apart from its kind -/
theorem blk_seg {b : Nat} {cs : List Value} {e : TypeId} {fz : Nat × Nat} {k : PH} (hk : blkof b (.cells cs.toArray e fz) k) (hf : ∀ i, i < cs.length → (decide (fz.1 ≤ i) && decide (i < fz.2)) = false) : seg b 0 cs k := fun i v hi => by
  rw [Nat.zero_add, hk (some i)]
  simp only [hpo, List.getElem?_toArray, hi, Option.map_some, hf i (List.getElem?_eq_some_iff.1 hi).1]
/-- []byte(s) -/
theorem Hd.bytesOf {e : TypeId} {l : List UInt8} {ut : TypeDesc} (hs : P.underlying t = some ut) (hu : P.underlying t2 = some (.slice e)) (he : P.underlying e = some (.int .u8)) (hx : evo st x = some (.string (str l))) (hb : l.length ≤ maxLen)
    (K : ∀ ad cap, Hd E n ds ((d, .slice ad l.length cap) :: st) (own e 1 ad l.length cap (l.map B) :: L) (LW r P ops Q rest)) (hd : d < n := by decide) :
    Hd E n ds st L (LW r P ops Q (⟨some d, .convert t t2 x, ty, pos, af, none⟩ :: rest)) :=
  Hd.op rfl (by simp) fun a w f s => by
    refine ⟨_, Lib.bytesWorld w e (str l), ?_, K (some ⟨w.heap.size, 0, none⟩) (grownCap w l.length 0 e) _ _ (f.put hd _) ?_⟩
    · simp only [execOp, f.ev hx]
      have := Lib.run_convert_string_bytes (P := P) w t t2 e (str l) hs hu he
      simp only [str_size] at this
      simp [this]
    · have hge := grownCap_ge w l.length 0 e
      have hcm : grownCap w l.length 0 e ≤ maxLen := grownCap_le_maxLen w l.length 0 e hb
      have hcs : Lib.bytesCells w e (str l) = (l.map B ++ List.replicate (grownCap w l.length 0 e - l.length) (Value.int .u8 0)).toArray := by
        apply Array.ext'
        simp [Lib.bytesCells, str_size, B]
      have hn := s.draw.newB (w := { w with drawn := w.drawn + 1 }) (.cells (Lib.bytesCells w e (str l)) e ((Lib.bytesCells w e (str l)).size, (Lib.bytesCells w e (str l)).size + 1))
      have hw : ∀ k, (Lib.bytesWorld w e (str l)).heap[k]? = (w.heap.push (.cells (Lib.bytesCells w e (str l)) e ((Lib.bytesCells w e (str l)).size, (Lib.bytesCells w e (str l)).size + 1)))[k]? := fun k => by
        rcases Nat.lt_trichotomy k w.heap.size with h | h | h
        · rw [Lib.bytesWorld_at_old w e _ k h, Array.getElem?_push_lt h, Array.getElem?_eq_getElem h]
        · subst h; rw [Lib.bytesWorld_at_new]; simp
        · rw [Array.getElem?_eq_none (by rw [Lib.bytesWorld_size]; omega), Array.getElem?_eq_none (by simp; omega)]
      have hsep : sep (blkof w.heap.size (.cells (Lib.bytesCells w e (str l)) e ((Lib.bytesCells w e (str l)).size, (Lib.bytesCells w e (str l)).size + 1)) :: L) (hp (Lib.bytesWorld w e (str l))) := by
        have := hn.2.2.2
        have he : hp (Lib.bytesWorld w e (str l)) = hp { w with drawn := w.drawn + 1, heap := w.heap.push (.cells (Lib.bytesCells w e (str l)) e ((Lib.bytesCells w e (str l)).size, (Lib.bytesCells w e (str l)).size + 1)) } := by
          funext k; unfold hp; simp only [hw]
        rw [he]; exact this
      refine ⟨?_, ?_, ?_, sep_head hsep fun k hk => ?_⟩
      · exact ⟨s.1.1, Nat.le_succ_of_le s.1.2⟩
      · exact s.2.1
      · exact s.2.2.1
      · refine ⟨by simp, .inr ⟨w.heap.size, 0, List.replicate (grownCap w l.length 0 e - l.length) (Value.int .u8 0), rfl, hge, hcm, by simp, ?_⟩⟩
        rw [hcs] at hk
        refine blk_seg hk fun i hi => ?_
        simp at hi ⊢; omega
theorem y_to {o : Oper} {v v' : Value} (h : Yv E n ds st L P o v) (e : v = v') : Yv E n ds st L P o v' := e ▸ h
/-- []byte of a constant: the block is marked, its cells stay -/
theorem Hd.convSS {b m : Nat} {cs : List Value} {e e' : TypeId} (hu : u8t P t = true) (hx : evo st x = some (.slice (some ⟨b, 0, none⟩) m m)) (hp : Pick L (pt b cs e') L') (hl : cs.length = m) (hm : m ≤ maxLen)
    (K : Hd E n ds ((d, .slice (some ⟨b, 0, none⟩) m m) :: st) (own e 1 (some ⟨b, 0, none⟩) m m cs :: L') (LW r P ops Q rest)) (hd : d < n := by decide) :
    Hd E n ds st L (LW r P ops Q (⟨some d, .convert t t x, ty, pos, af, none⟩ :: rest)) :=
  Hd.op rfl (by simp) fun a w f s => by
    obtain ⟨e2, h1, h2⟩ := u8t_parts hu
    have hb := s.pt_at hp
    have hsh : w.shape? b = some (e', cs.length) := by simp [World.shape?, hb]
    refine ⟨_, w.freeze ⟨b, cs.length, none⟩ 1, ?_, K _ _ (f.put hd _) ?_⟩
    · simp only [execOp, f.ev hx]
      simp [convert, run_underlying h1, run_underlying h2, markStringish, hsh]
    · have hk : ∀ x, x ≠ b → (w.freeze ⟨b, cs.length, none⟩ 1).heap[x]? = w.heap[x]? := fun x hx => by
        simp [World.freeze, Array.getElem?_modify, Ne.symm hx]
      have hb' : (w.freeze ⟨b, cs.length, none⟩ 1).heap[b]? = some (.cells cs.toArray e' (cs.length, cs.length + 1)) := by
        simp [World.freeze, Array.getElem?_modify, hb]
      refine ⟨by simpa [World.freeze] using s.1, by simpa [World.freeze] using s.2.1, by simpa [World.freeze] using s.2.2.1, ?_⟩
      have hsep : sep (seg b 0 cs :: L') (RX.hp (w.freeze ⟨b, cs.length, none⟩ 1)) := by
        refine sep_upd (hp.sep s.2.2.2) fun h1 x s1 => ⟨fun z hz => ?_, fun i v hi => ?_⟩
        · obtain ⟨zb, zi⟩ := z
          by_cases hzb : zb = b
          · subst hzb
            cases zi with
            | none => rw [x.kind] at hz; cases hz
            | some i =>
              have hi : cs.length ≤ i := by
                rcases Nat.lt_or_ge i cs.length with hi | hi
                · rw [x.cell i cs[i] (List.getElem?_eq_getElem hi)] at hz; cases hz
                · exact hi
              show hpo (w.freeze ⟨zb, cs.length, none⟩ 1).heap[zb]? _ = hpo w.heap[zb]? _
              rw [hb', hb]
              simp only [hpo]
              rw [Array.getElem?_eq_none (by simpa using hi)]; rfl
          · show hpo _ _ = hpo _ _
            rw [hk zb hzb]
        · rw [Nat.zero_add]
          have hi' : i < cs.length := (List.getElem?_eq_some_iff.1 hi).1
          show (if (h1 (b, some i)).isSome then RX.hp (w.freeze ⟨b, cs.length, none⟩ 1) (b, some i) else none) = _
          rw [x.cell i v hi]
          show hpo (w.freeze ⟨b, cs.length, none⟩ 1).heap[b]? (some i) = _
          rw [hb']
          simp [hpo, hi]
          omega
      exact sep_head hsep fun k x => ⟨by rw [hl]; simp, .inr ⟨b, 0, [], rfl, Nat.le_refl _, hm, by simp, by simpa using x⟩⟩
theorem y_addstr {a b : List UInt8} (hx : evo st x = some (.string (str a))) (hy : evo st y = some (.string (str b))) (hb : a.length + b.length ≤ 9223372036854775807) : Yv E n ds st L P ⟨some d, .binOp .add t x y t2, ty, pos, af, g⟩ (.string (str (a ++ b))) := fun ac w f _ => by
  simp only [execOp, f.ev hx, f.ev hy]
  have h1 : ¬ ((((str a).size + (str b).size : Nat) : Int) > IntKind.i64.max) := by
    have e : IntKind.i64.max = 9223372036854775807 := by decide
    rw [str_size, str_size, e]; omega
  have h2 : str a ++ str b = str (a ++ b) := by
    apply ByteArray.ext
    simp
  simp only [str_size] at h1
  simp [eqGuard, binOp, Op.stringOp, h2, str_size, h1]
  omega
theorem toList_str (l : List UInt8) : (str l).toList = l := by
  have h : ∀ (s : ByteArray), s.toList = s.data.toList := fun s => by exact ByteArray.toList_eq s
  rw [h]
theorem y_eqlstr {a b : List UInt8} (hx : evo st x = some (.string (str a))) (hy : evo st y = some (.string (str b))) : Yv E n ds st L P ⟨some d, .binOp .eql t x y t2, ty, pos, af, g⟩ (.bool (decide (a = b))) := fun ac w f _ => by
  simp only [execOp, f.ev hx, f.ev hy]
  simp [eqGuard, binOp, Op.stringOp, toList_str]
  rw [Bool.eq_iff_iff]; simp
theorem y_neqstr {a b : List UInt8} (hx : evo st x = some (.string (str a))) (hy : evo st y = some (.string (str b))) : Yv E n ds st L P ⟨some d, .binOp .neq t x y t2, ty, pos, af, g⟩ (.bool (decide (a ≠ b))) := fun ac w f _ => by
  simp only [execOp, f.ev hx, f.ev hy]
  simp [eqGuard, binOp, Op.stringOp, toList_str, bne]
  rw [Bool.eq_iff_iff]; simp
theorem y_lenStr {l : List UInt8} (hu : P.underlying t = some .string) (hx : evo st x = some (.string (str l))) :
    Yv E n ds st L P ⟨some d, .call ⟨.builtin .len, #[x], #[t]⟩, ty, pos, af, g⟩ (.int .i64 (l.length : Int)) := by
  have h := y_lenS (P := P) (L := L) (E := E) (ds := ds) (n := n) (d := d) (ty := ty) (pos := pos) (af := af) (g := g) hu hx
  rwa [str_size] at h

/-! ### Slices of noughts -/
theorem Hd.mkslice {e sz bytes m cap : Nat} {zs : List Value} {a b : Int} (ht : P.underlying t = some (.slice e)) (hi : tyr P e = some (sz, bytes, sz)) (hz : zrk P e = some zs) (hx : evo st x = some (.int k a)) (hy : evo st y = some (.int k2 b)) (ha : a = (m : Int)) (hb : b = (cap : Int)) (hmc : m ≤ cap) (hbytes : bytes * cap ≤ 281474976710656) (h63 : cap ≤ maxLen)
    (K : ∀ bl cs, cs = (List.range (cap * sz)).map (fun i => zs.getD (i % sz) (.bool false)) → Hd E n ds ((d, .slice (some ⟨bl, 0, none⟩) m cap) :: st) (pt bl cs e :: L) (LW r P ops Q rest)) (hd : d < n := by decide) :
    Hd E n ds st L (LW r P ops Q (⟨some d, .makeSlice t x y, ty, pos, af, none⟩ :: rest)) :=
  Hd.op rfl (by simp) fun ac w f s => by
    subst ha; subst hb
    obtain ⟨i, zv, h1', h2', h3', h4', h5'⟩ := tyr_parts hi
    have hzs : zv.cells.toList = zs := by
      unfold zrk at hz; simp [h1', h2'] at hz; exact hz
    have h63' : (cap : Int) ≤ 9223372036854775807 := by simp only [maxLen] at h63; omega
    have hb' : (i.bytes : Int) * (cap : Int) ≤ 281474976710656 := by
      have h : ((i.bytes * cap : Nat) : Int) ≤ 281474976710656 := by rw [h4']; omega
      rwa [Int.natCast_mul] at h
    have hr := run_make (P := P) w t e i zv ht h1' h2' k k2 m cap (by omega) (by omega) hb' h63'
    simp only [Int.toNat_natCast] at hr
    refine ⟨_, _, ?_, K w.heap.size (madeCells zv.cells (cap * i.size)).toList ?_ _ _ (f.put hd _) (s.newPt _ _)⟩
    · simp only [execOp, f.ev hx, f.ev hy, Sem.run_bind, hr, Result.andThen_ok]
      rfl
    · simp only [madeCells, h3', Array.toList_map, Array.toList_range]
      apply List.map_congr_left
      intro j hj
      have hpos : 0 < sz := by
        have := List.mem_range.1 hj
        rcases Nat.eq_zero_or_pos sz with h | h
        · rw [h] at this; omega
        · exact h
      rw [h5', ← hzs]
      have hlt : j % sz < zv.cells.size := by rw [h5']; exact Nat.mod_lt _ hpos
      simp [List.getD, hlt]
/-- append(s, make([]T, n)...) behind a slice that has no room -/
theorem Hd.appendZ {e bytes m cap j : Nat} {z : Value} {ad : Option Addr} {us : List Value} {kn : IntKind} {a : Int} (ht : P.underlying t = some (.slice e)) (htn : P.underlying t2 = some (.int kn)) (hi : tyr P e = some (1, bytes, 1)) (hz : zrk P e = some [z])
    (hx : evo st x = some (.slice ad m cap)) (hy : evo st y = some (.int k a)) (ha : a = (j : Int)) (hp : Pick L (own e 1 ad m cap us) L')
    (h0 : 0 < j) (hg : cap < m + j) (h63 : m + j ≤ maxLen) (hbytes : (m + j) * bytes ≤ 140737488355328)
    (K : ∀ ad' cap', Hd E n ds ((d, .slice ad' (m + j) cap') :: st) (own e 1 ad' (m + j) cap' (us ++ List.replicate j z) :: L') (LW r P ops Q rest)) (hd : d < n := by decide) :
    Hd E n ds st L (LW r P ops Q (⟨some d, .call ⟨.builtin .append, #[x, y], #[t, t2]⟩, ty, pos, af, none⟩ :: rest)) :=
  Hd.op rfl (by simp) fun ac w f s => by
    subst ha
    obtain ⟨i, zv, h1', h2', h3', h4', h5'⟩ := tyr_parts hi
    have hzs : zv.cells.toList = [z] := by
      unfold zrk at hz; simp [h1', h2'] at hz; exact hz
    have hzc : zv.cells = #[z] := by apply Array.ext'; simpa using hzs
    have s' : Sat E (own e 1 ad m cap us :: L') w := s.mp fun _ k => hp.sep k
    obtain ⟨hos, htp, hou, g1, g2, dd, s1, s2, ⟨hul, hv⟩, hL⟩ := s'
    have hold : (Builtin.firstCells i.size m (.slice ad m cap)).run P w.drew = .ok us.toArray w.drew := by
      rcases hv with ⟨rfl, rfl⟩ | ⟨b, off, sp, rfl, hmc, hcm, hsp, hsg⟩
      · have : us = [] := List.eq_nil_of_length_eq_zero (by simpa using hul)
        subst this
        cases ad <;> simp [Builtin.firstCells, loadCells, loadCellsFrom]
      · refine run_firstCells_some (P := P) w.drew i.size m ⟨b, off, none⟩ m cap us (by rw [h3']; exact hul) fun q u hq => ?_
        rw [add_flat]
        have hql : q < us.length := (List.getElem?_eq_some_iff.1 hq).1
        exact cell_hp (s1 _ _ (hsg q u (by rw [List.getElem?_append_left hql]; exact hq)))
    have hbj : j * i.bytes ≤ 281474976710656 := by
      have := Nat.mul_le_mul_right i.bytes (show j ≤ m + j by omega)
      rw [h4'] at this ⊢; omega
    have hr := Lib.run_append_grow_zeros (P := P) w t t2 ty e i zv k kn ht htn h1' h2' ad m cap us hold j h0 (by omega) hg (by simp only [maxLen] at h63; omega) hbj (growslice_fits (by omega) (by rw [h4']; exact hbytes))
    have hge := grownCap_ge w (m + j) cap e
    have hcm : grownCap w (m + j) cap e ≤ maxLen := grownCap_le_maxLen w (m + j) cap e h63
    refine ⟨_, w.drew.alloc (.cells (us.toArray ++ Builtin.zeroCells zv.cells j ++ Builtin.zeroCells zv.cells (grownCap w (m + j) cap e - (m + j))) e), ?_, K (some ⟨w.heap.size, 0, none⟩) (grownCap w (m + j) cap e) _ _ (f.put hd _) ?_⟩
    · simp only [execOp, resolve, List.map_toArray, List.map_cons, List.map_nil, f.ev hx, f.ev hy, invoke, builtin, Sem.run_bind, Sem.run_pure, Result.andThen_ok, hr]
    · have hzc2 : ∀ q, (Builtin.zeroCells zv.cells q).toList = List.replicate q z := fun q => by
        rw [hzc]
        simp only [Builtin.zeroCells, Array.toList_map, Array.toList_range, List.size_toArray, List.length_cons, List.length_nil, Nat.zero_add, Nat.mul_one, Nat.mod_one]
        apply List.ext_getElem?
        intro i
        simp [List.getElem?_replicate]
        split <;> simp_all
      have sL : Sat E L' w.drew := ⟨⟨hos.1, Nat.le_succ_of_le hos.2⟩, htp, hou, hL.up s2⟩
      have sn := sL.newPt (us ++ List.replicate j z ++ List.replicate (grownCap w (m + j) cap e - (m + j)) z) e
      have e0 : (us ++ List.replicate j z ++ List.replicate (grownCap w (m + j) cap e - (m + j)) z).toArray = us.toArray ++ Builtin.zeroCells zv.cells j ++ Builtin.zeroCells zv.cells (grownCap w (m + j) cap e - (m + j)) := by
        apply Array.ext'; simp [hzc2]
      rw [e0] at sn
      exact sn.mp fun h hh => sep_head hh fun k x => own_pt (by simp at hul ⊢; omega) hge hcm (by simp) x

end
end Go.RX
