/-
  Slices over Rx1's judgement: built, appended to, cut; structs built; regions that draw their order and only read. No program is named here.
-/
import Derived.Test.YtkgkfjhfedjnpaaRx3
namespace Go.RX
set_option linter.unusedSimpArgs false
set_option linter.unusedVariables false
set_option linter.unnecessarySimpa false
section
variable {E : World} {n : Nat} {ds : List Deferred} {st st' : List (Nat × Value)} {L L' : List SP} {r : Option Nat} {P : Program} {Q : Exit → Act → World → Prop} {ops : Array Oper} {rest : List Oper}
variable {d : Nat} {ty t t2 : TypeId} {pos : String} {af : Array Edge} {g : Option (Nat × Bool)} {x y z : Operand} {v u : Value} {k : IntKind} {p q : Bool}

/-! ### Structs and arrays built -/
theorem parts_map {ac : Act} (f : Fr n ds st ac) : ∀ {xs : List (Nat × Operand)} {vs : List (Nat × Value)}, xs.map (fun p => (p.1, evo st p.2)) = vs.map (fun p => (p.1, some p.2)) → xs.map (fun p => (p.1, ac.eval p.2)) = vs
  | [], [], _ => rfl
  | [], _ :: _, h => by simp at h
  | _ :: _, [], h => by simp at h
  | (i, x) :: xs, (j, v) :: vs, h => by
    simp only [List.map_cons, List.cons.injEq, Prod.mk.injEq] at h
    rw [List.map_cons, f.ev h.1.2, parts_map f h.2, h.1.1]
theorem y_build {xs : List (Nat × Operand)} {vs : List (Nat × Value)} {cs : Array Value} (hv : xs.map (fun p => (p.1, evo st p.2)) = vs.map (fun p => (p.1, some p.2))) (hb : P.built t vs = some cs) :
    Yv E n ds st L P ⟨some d, .build t xs.toArray, ty, pos, af, g⟩ (.agg cs) := fun a w f _ => by
  have h1 : (Array.map (fun p : Nat × Operand => (p.1, a.eval p.2)) xs.toArray).toList = vs := by simp [parts_map f hv]
  have h2 := run_build (P := P) w t (Array.map (fun p : Nat × Operand => (p.1, a.eval p.2)) xs.toArray) cs (by rw [h1]; exact hb)
  simp only [execOp, Sem.run_bind]
  show Result.andThen ((Instr.build t (Array.map (fun p : Nat × Operand => (p.1, a.eval p.2)) xs.toArray)).run P w) _ = _
  rw [h2]; rfl
def bltS (P : Program) (t : TypeId) (len : Nat) (parts : List (Nat × Value)) : Option (TypeId × List Value) :=
  match P.underlying t with
  | some (.slice e) =>
    match P.info? e with
    | some ie =>
      match ie.zero with
      | some zv => bif Nat.ble (len * ie.size) 16777216 then (Instr.fill (fun i => some (i * ie.size, ie.size)) ((Array.range (len * ie.size)).map (zv.cells[· % zv.cells.size]!)) parts).map (fun cs => (e, cs.toList)) else none
      | none => none
    | none => none
  | _ => none
theorem run_bltS {len : Nat} {vs : List (Nat × Value)} {e : TypeId} {cs : List Value} (h : bltS P t len vs = some (e, cs)) (w : World) :
    (Instr.buildSlice t len vs.toArray).run P w = .ok (.slice (some ⟨w.heap.size, 0, none⟩) len len) { w with heap := w.heap.push (.cells cs.toArray e) } := by
  unfold bltS at h
  cases hu : P.underlying t with
  | none => simp [hu] at h
  | some ud =>
    cases ud <;> simp only [hu] at h <;> try cases h
    rename_i e'
    cases hi : P.info? e' with
    | none => simp [hi] at h
    | some ie =>
      cases hz : ie.zero with
      | none => simp [hi, hz] at h
      | some zv =>
        simp only [hi, hz] at h
        cases hb : Nat.ble (len * ie.size) 16777216 with
        | false => simp [hb] at h
        | true =>
          have hle : len * ie.size ≤ 16777216 := Nat.le_of_ble_eq_true hb
          have hle' : ¬ (16777216 < len * ie.size) := by omega
          simp only [hb, cond_true] at h
          obtain ⟨cs', hc, hcs⟩ := Option.map_eq_some_iff.1 h
          simp only [Prod.mk.injEq] at hcs
          obtain ⟨rfl, rfl⟩ := hcs
          by_cases h0 : len * ie.size = 0
          · have hc' : Instr.fill (fun i => some (i * ie.size, ie.size)) #[] vs = some cs' := by
              rw [h0] at hc
              have he : Array.map (fun x => zv.cells[x % zv.cells.size]!) (Array.range 0) = #[] := Array.eq_empty_of_size_eq_zero (by simp)
              rwa [he] at hc
            have hr0 : ∀ f : Nat → Value, Array.map f (Array.range 0) = #[] := fun f => Array.eq_empty_of_size_eq_zero (by simp)
            simp [Instr.buildSlice, run_underlying hu, sizeOf, typeInfo, hi, h0, hr0, hc', newRow, newObj, Sem.run]
          · simp [Instr.buildSlice, run_underlying hu, sizeOf, typeInfo, zeroValue, hi, hz, hle', h0, hc, newRow, newObj, Sem.run]
theorem Hd.bslice {len : Nat} {xs : List (Nat × Operand)} {vs : List (Nat × Value)} {e : TypeId} {cs : List Value} (hv : xs.map (fun p => (p.1, evo st p.2)) = vs.map (fun p => (p.1, some p.2))) (hb : bltS P t len vs = some (e, cs))
    (K : ∀ b, Hd E n ds ((d, .slice (some ⟨b, 0, none⟩) len len) :: st) (pt b cs e :: L) (LW r P ops Q rest)) (hd : d < n := by decide) :
    Hd E n ds st L (LW r P ops Q (⟨some d, .buildSlice t len xs.toArray, ty, pos, af, none⟩ :: rest)) :=
  Hd.op rfl (by simp) fun a w f s => by
    refine ⟨_, _, ?_, K w.heap.size _ _ (f.put hd _) (s.new _)⟩
    have h1 : Array.map (fun p : Nat × Operand => (p.1, a.eval p.2)) xs.toArray = vs.toArray := by simp [parts_map f hv]
    simp only [execOp, Sem.run_bind]
    show Result.andThen ((Instr.buildSlice t len (Array.map (fun p : Nat × Operand => (p.1, a.eval p.2)) xs.toArray)).run P w) _ = _
    rw [h1, run_bltS hb]; rfl

/-! ### Slices that own their block -/
/-- The slice '.slice ad m cap', of m elements of sz cells each, owns its block; its cells are us (a slice without room may point anywhere). -/
def own (e sz : Nat) (ad : Option Addr) (m cap : Nat) (us : List Value) : SP := fun h => us.length = m * sz ∧
  ((m = 0 ∧ cap = 0) ∨
   ∃ b pre sp, ad = some ⟨b, pre.length, none⟩ ∧ m ≤ cap ∧ cap ≤ maxLen ∧ sp.length = (cap - m) * sz ∧ pt b (pre ++ us ++ sp) e h)
theorem own_nil (e sz : Nat) (ad : Option Addr) (h : PH) : own e sz ad 0 0 [] h := ⟨by simp, .inl ⟨rfl, rfl⟩⟩
/-- a slice without room owns nothing: it may be laid wherever one is wanted -/
theorem sep_own_nil (e sz : Nat) (ad : Option Addr) {h : PH} (s : sep L h) : sep (own e sz ad 0 0 [] :: L) h :=
  ⟨fun _ => none, h, fun _ => .inl rfl, (fun _ _ e => by cases e), Sub.rfl', own_nil e sz ad _, s⟩
theorem Hd.ownNil {K : Act → World → Prop} (e sz : Nat) (ad : Option Addr) (h : Hd E n ds st (own e sz ad 0 0 [] :: L) K) : Hd E n ds st L K := Hd.heap _ (fun _ s => sep_own_nil e sz ad s) h
theorem own_le {e sz m cap : Nat} {ad : Option Addr} {us : List Value} {h : PH} (o : own e sz ad m cap us h) : m ≤ cap ∧ us.length = m * sz := by
  rcases o.2 with ⟨rfl, rfl⟩ | ⟨b, pre, sp, rfl, hc, _⟩
  · exact ⟨Nat.le_refl _, o.1⟩
  · exact ⟨hc, o.1⟩
def adr (ad : Option Addr) : Addr := ad.getD ⟨0, 0, none⟩
/-- The cells of a slice stand there, whichever heap bears the list. -/
def RdS (L : List SP) (sz : Nat) (ad : Option Addr) (m : Nat) (us : List Value) : Prop := ∀ h, sep L h → us.length = m * sz ∧
  (m = 0 ∨ ∃ b o cs e fz, ad = some ⟨b, o, none⟩ ∧ h b = some (.cells cs e fz) ∧ ∀ j v, us[j]? = some v → cs[o + j]? = some v)
theorem RdS.mono {M : List SP} {sz m : Nat} {ad : Option Addr} {us : List Value} (h : RdS L sz ad m us) (hm : ∀ k, sep M k → sep L k) : RdS M sz ad m us := fun k s => h k (hm k s)
theorem RdS.own {e sz m cap : Nat} {ad : Option Addr} {us : List Value} (p : Pick L (RX.own e sz ad m cap us) L') : RdS L sz ad m us := fun k s => by
  obtain ⟨h1, s1, x⟩ := sep.one p s
  refine ⟨x.1, ?_⟩
  rcases x.2 with ⟨rfl, rfl⟩ | ⟨b, pre, sp, hb, _, _, _, hpt⟩
  · exact .inl rfl
  · refine .inr ⟨b, pre.length, _, _, _, hb, s1 _ _ hpt, fun j v e => ?_⟩
    have hj : j < us.length := (List.getElem?_eq_some_iff.1 e).1
    simp only [List.getElem?_toArray, List.append_assoc]
    rw [List.getElem?_append_right (by omega), Nat.add_sub_cancel_left, List.getElem?_append_left hj]; exact e
theorem RdS.none (L : List SP) (sz : Nat) (ad : Option Addr) : RdS L sz ad 0 [] := fun _ _ => ⟨by simp, .inl rfl⟩
theorem RdS.rd {b o sz m : Nat} {us : List Value} (h : Rd L b o us) (hl : us.length = m * sz) : RdS L sz (some ⟨b, o, Option.none⟩) m us := fun k s => by
  obtain ⟨cs, e, fz, hb, hc⟩ := h k s
  exact ⟨hl, .inr ⟨b, o, cs, e, fz, rfl, hb, hc⟩⟩
theorem RdS.cell {sz m : Nat} {ad : Option Addr} {us : List Value} {w : World} (h : RdS L sz ad m us) (s : Sat E L w) {j : Nat} (hj : us[j]? = some v) : ∃ b o, ad = some ⟨b, o, Option.none⟩ ∧ w.cell? ⟨b, o + j, Option.none⟩ = some v := by
  obtain ⟨hl, h0 | ⟨b, o, cs, e, fz, had, hb, hc⟩⟩ := h _ s.2.2.2
  · subst h0; have : us = [] := List.eq_nil_of_length_eq_zero (by simpa using hl)
    subst this; simp at hj
  · have hb' : w.heap[b]? = some (.cells cs e fz) := hb
    exact ⟨b, o, had, by simp [World.cell?, hb', hc j v hj]⟩
theorem y_idxR {sz j m cap : Nat} {e : TypeId} {ad : Option Addr} {us : List Value} (hu : P.underlying t = some (.slice e)) (hs : szk P e = some sz) (hx : evo st x = some (.slice ad m cap))
    (hy : evo st y = some (.int k (Int.ofNat j))) (hj : j < m) (hR : RdS L sz ad m us) : Yv E n ds st L P ⟨some d, .indexAddr t x y, ty, pos, af, g⟩ (.pointer (some ((adr ad).add (j * sz)))) := fun a w f s => by
  obtain ⟨hl, h0 | ⟨b, o, cs, e', fz, had, hb, hc⟩⟩ := hR _ s.2.2.2
  · omega
  subst had
  simp only [execOp, f.ev hx, f.ev hy]
  simp only [Instr.indexAt, asIntOf, Sem.run_bind, run_underlying hu, Result.andThen, Instr.sureAddr, go_sem]
  simp [run_sizeOf' hs, add_flat, hj, adr]
theorem y_loadR1 {sz m q : Nat} {ad : Option Addr} {us : List Value} (ha : agk P t = some false) (hx : evo st x = some (.pointer (some ((adr ad).add q)))) (hR : RdS L sz ad m us) (hq : us[q]? = some v) :
    Yv E n ds st L P ⟨some d, .load t x, ty, pos, af, g⟩ v := fun a w f s => by
  obtain ⟨b, o, had, hc⟩ := hR.cell s hq
  subst had
  have hx' : evo st x = some (.pointer (some ⟨b, o + q, Option.none⟩)) := by rw [hx]; simp [adr, add_flat]
  simp only [execOp, f.ev hx', Instr.loadAt, Instr.sureAddr]
  simp [loadVar, run_isAgg ha, hc, go_sem]
theorem y_loadRn {sz m q : Nat} {ad : Option Addr} {us vs : List Value} (ha : agk P t = some true) (hx : evo st x = some (.pointer (some ((adr ad).add q)))) (hR : RdS L sz ad m us)
    (hq : ∀ j v, vs[j]? = some v → us[q + j]? = some v) (hz : szk P t = some vs.length) (hne : vs ≠ []) : Yv E n ds st L P ⟨some d, .load t x, ty, pos, af, g⟩ (.agg vs.toArray) := fun a w f s => by
  obtain ⟨v0, l0, rfl⟩ := List.exists_cons_of_ne_nil hne
  obtain ⟨b, o, had, hc0⟩ := hR.cell s (hq 0 v0 rfl)
  subst had
  have hx' : evo st x = some (.pointer (some ⟨b, o + q, Option.none⟩)) := by rw [hx]; simp [adr, add_flat]
  have hc : (loadCells ⟨b, o + q, Option.none⟩ (v0 :: l0).length).run P w = .ok (v0 :: l0).toArray w := run_loadCells_list w _ (v0 :: l0) fun j v e => by
    rw [add_flat]
    obtain ⟨b', o', hbo, hcj⟩ := hR.cell s (hq j v e)
    simp only [Option.some.injEq, Addr.mk.injEq, and_true] at hbo
    obtain ⟨rfl, rfl⟩ := hbo
    rw [Nat.add_assoc]; exact hcj
  simp only [execOp, f.ev hx', Instr.loadAt, Instr.sureAddr]
  simp only [pure_bind, loadVar, Sem.run_bind, run_isAgg ha, Result.andThen, if_true, run_sizeOf' hz, hc]
  rfl
theorem run_storeCells_o {b o : Nat} {cs : List Value} {e : TypeId} {w : World} (hb : w.heap[b]? = some (.cells cs.toArray e (0, 0))) (vs : List Value) (h1 : ∀ v ∈ vs, v.oneCell' = true) (hl : o + vs.length ≤ cs.length) :
    (storeCells ⟨b, o, none⟩ vs).run P w = .ok () (w.setRow b (cs.take o ++ vs ++ cs.drop (o + vs.length)).toArray) := oneCell_store hb vs h1 hl
theorem run_append_room' (i : TypeInfo) {e : TypeId} (ht : P.underlying t = some (.slice e)) (hi : P.info? e = some i) {b o m cap : Nat} {w : World} {cs : List Value} (hg : w.heap[b]? = some (.cells cs.toArray e (0, 0)))
    (a : Addr) (m' c : Nat) (news : List Value) (hl : news.length = m' * i.size) (hnews : ∀ j u, news[j]? = some u → w.cell? (a.add j) = some u) (h1 : ∀ u ∈ news, u.oneCell' = true)
    (hroom : m + m' ≤ cap) (hfit : o + m * i.size + news.length ≤ cs.length) :
    (Builtin.append_ #[t, t] ty #[.slice (some ⟨b, o, none⟩) m cap, .slice (some a) m' c]).run P w =
      .ok (.slice (some ⟨b, o, none⟩) (m + m') cap) (w.setRow b (cs.take (o + m * i.size) ++ news ++ cs.drop (o + m * i.size + news.length)).toArray) := by
  have hf := run_firstCells_some (P := P) w i.size m' a m' c news hl hnews
  have hst := run_storeCells_o (P := P) hg news h1 hfit
  simp [Builtin.append_, run_underlying ht, sizeOf, typeInfo, hi, Builtin.lenOf, hroom, hf, add_flat, hst]
theorem seg_room {pre us sp news : List Value} (h : news.length ≤ sp.length) : (pre ++ us ++ sp).take (pre.length + us.length) ++ news ++ (pre ++ us ++ sp).drop (pre.length + us.length + news.length) = pre ++ (us ++ news) ++ sp.drop news.length := by
  rw [show pre.length + us.length = (pre ++ us).length by simp, List.take_left' rfl, ← List.drop_drop, List.drop_left' rfl]
  simp [List.append_assoc]
/-- what an append of these cells does to one's own slice -/
theorem run_append_own' {w : World} {e sz bytes : Nat} {i : TypeInfo} {zv : Value} (ht : P.underlying t = some (.slice e)) (hi : P.info? e = some i) (hz : i.zero = some zv) (hsz : i.size = sz) (hzs : zv.cells.size = sz) (hby : i.bytes = bytes)
    {m cap : Nat} {ad : Option Addr} {us : List Value} (s : Sat E (own e sz ad m cap us :: L) w)
    (a : Addr) (m' c : Nat) (news : List Value) (hl : news.length = m' * sz) (hnews : ∀ j u, news[j]? = some u → w.cell? (a.add j) = some u) (h1 : ∀ u ∈ news, u.oneCell' = true)
    (h63 : m + m' ≤ maxLen) (hbytes : (m + m') * bytes ≤ 140737488355328) :
    ∃ ad' cap' w', (Builtin.append_ #[t, t] ty #[.slice ad m cap, .slice (some a) m' c]).run P w = .ok (.slice ad' (m + m') cap') w' ∧ Sat E (own e sz ad' (m + m') cap' (us ++ news) :: L) w' := by
  subst hsz; subst hby
  have hsmall : m + m' ≤ 9223372036854775807 := by simp only [maxLen] at h63; omega
  obtain ⟨hos, htp, hou, k1, k2, dd, s1, s2, ⟨hul, hv⟩, hL⟩ := s
  have hlen : (us ++ news).length = (m + m') * i.size := by rw [List.length_append, hul, hl, Nat.add_mul]
  have grown : ∀ (cap : Nat) (olds : List Value), olds = us → cap < m + m' → Sat E (own e i.size (some ⟨w.heap.size, 0, none⟩) (m + m') (grownCap w (m + m') cap e) (us ++ news) :: L)
      (w.drew.alloc (.cells (olds.toArray ++ news.toArray ++ Builtin.zeroCells zv.cells (grownCap w (m + m') cap e - (m + m'))) e)) := by
    intro cap olds ho hc
    subst ho
    have hge := grownCap_ge w (m + m') cap e
    have hcm : grownCap w (m + m') cap e ≤ maxLen := grownCap_le_maxLen w (m + m') cap e h63
    have sL : Sat E L w.drew := ⟨hos, htp, hou, hL.up s2⟩
    have sn := sL.new (.cells (olds.toArray ++ news.toArray ++ Builtin.zeroCells zv.cells (grownCap w (m + m') cap e - (m + m'))) e)
    refine sn.mp ?_
    rintro h ⟨h1, h2, d1, a1, a2, x1, x2⟩
    refine ⟨h1, h2, d1, a1, a2, ⟨hlen, .inr ⟨w.heap.size, [], (Builtin.zeroCells zv.cells (grownCap w (m + m') cap e - (m + m'))).toList, rfl, hge, hcm, ?_, ?_⟩⟩, x2⟩
    · simp [Builtin.zeroCells, hzs]
    · unfold ob at x1; unfold pt
      have x1' : h1 w.heap.size = _ := x1
      rw [x1']; congr 2
      apply Array.ext'; simp
  rcases hv with ⟨rfl, rfl⟩ | ⟨b, pre, sp, rfl, hmc, hcm, hsp, hpt⟩
  · have hu : us = [] := List.eq_nil_of_length_eq_zero (by simpa using hul)
    subst hu
    by_cases hm : m' = 0
    · subst hm
      have hn : news = [] := List.eq_nil_of_length_eq_zero (by simpa using hl)
      subst hn
      refine ⟨ad, 0, w, ?_, hos, htp, hou, k1, k2, dd, s1, s2, ⟨by simp, .inl ⟨rfl, rfl⟩⟩, hL⟩
      cases ad with
      | none => simp [Builtin.append_, run_underlying ht, sizeOf, typeInfo, hi, Builtin.lenOf, Builtin.firstCells, loadCells, loadCellsFrom]
      | some ad => simp [Builtin.append_, run_underlying ht, sizeOf, typeInfo, hi, Builtin.lenOf, Builtin.firstCells, loadCells, loadCellsFrom, storeCells]
    · have hgr := grown 0 [] rfl (by omega)
      cases ad with
      | none =>
        have hr := run_append_nil (P := P) w t ty e i zv ht hi hz a m' c news hl hnews (by omega) (by omega) (by have hb := hbytes; simp only [Nat.zero_add] at hb; omega)
        refine ⟨some ⟨w.heap.size, 0, none⟩, grownCap w m' 0 e, _, by rw [Nat.zero_add]; exact hr, ?_⟩
        simpa using hgr
      | some ad =>
        have hr := run_append_grow (P := P) w t ty e i zv ht hi hz ad 0 0 [] (by simp) (by simp) a m' c news hl hnews (by omega) (by omega) (growslice_fits (by omega) hbytes)
        refine ⟨_, _, _, hr, ?_⟩
        simpa using hgr
  · have hg : w.heap[b]? = some (.cells (pre ++ us ++ sp).toArray e (0, 0)) := s1 _ _ hpt
    by_cases hroom : m + m' ≤ cap
    · have hnl : news.length ≤ sp.length := by rw [hl, hsp]; exact Nat.mul_le_mul_right _ (by omega)
      have hfit : pre.length + m * i.size + news.length ≤ (pre ++ us ++ sp).length := by rw [← hul]; simp only [List.length_append]; omega
      have hr := run_append_room' (P := P) (ty := ty) i ht hi hg a m' c news hl hnews h1 hroom hfit
      rw [← hul, seg_room hnl] at hr
      refine ⟨_, _, _, hr, ?_⟩
      have s0 : Sat E (ob b (.cells (pre ++ us ++ sp).toArray e (0, 0)) :: L) w := ⟨hos, htp, hou, k1, k2, dd, s1, s2, hpt, hL⟩
      have sp' := Sat.put (w' := w.setRow b (pre ++ (us ++ news) ++ sp.drop news.length).toArray) s0 Pick.here rfl rfl rfl (fun x hx => setRow_ne hx) (setRow_at hg)
      refine sp'.mp ?_
      rintro h ⟨h1, h2, d1, a1, a2, x1, x2⟩
      refine ⟨h1, h2, d1, a1, a2, ⟨hlen, .inr ⟨b, pre, sp.drop news.length, rfl, hroom, hcm, ?_, x1⟩⟩, x2⟩
      rw [List.length_drop, hsp, hl, ← Nat.sub_mul]; congr 1; omega
    · have holds : ∀ j u, us[j]? = some u → w.cell? ((⟨b, pre.length, none⟩ : Addr).add j) = some u := fun j u e => by
        rw [add_flat]
        have : (pre ++ us ++ sp)[pre.length + j]? = some u := by
          rw [List.append_assoc, List.getElem?_append_right (by omega)]
          have hj : j < us.length := (List.getElem?_eq_some_iff.1 e).1
          rw [Nat.add_sub_cancel_left, List.getElem?_append_left hj]; exact e
        simp only [World.cell?, hg]; simpa using this
      have hr := run_append_grow (P := P) w t ty e i zv ht hi hz ⟨b, pre.length, none⟩ m cap us hul holds a m' c news hl hnews (by omega) (by omega) (growslice_fits (by omega) hbytes)
      exact ⟨_, _, _, hr, grown cap us rfl (by omega)⟩
/-- a type's row: its size in cells, its bytes, whether it has a zero of that size -/
def tyr (P : Program) (t : TypeId) : Option (Nat × Nat × Nat) := (P.info? t).bind fun i => i.zero.map fun z => (i.size, i.bytes, z.cells.size)
theorem tyr_parts {e sz bytes : Nat} (h : tyr P e = some (sz, bytes, sz)) : ∃ i zv, P.info? e = some i ∧ i.zero = some zv ∧ i.size = sz ∧ i.bytes = bytes ∧ zv.cells.size = sz := by
  unfold tyr at h
  cases hi : P.info? e with
  | none => simp [hi] at h
  | some i =>
    cases hz : i.zero with
    | none => simp [hi, hz] at h
    | some zv => simp [hi, hz] at h; exact ⟨i, zv, rfl, hz, h.1, h.2.1, h.2.2⟩
/-- append of the cells of a slice that can be read behind one's own -/
theorem Hd.append {e sz bytes m cap m' c : Nat} {ad ad' : Option Addr} {us news : List Value} (ht : P.underlying t = some (.slice e)) (hi : tyr P e = some (sz, bytes, sz)) (hpos : Nat.ble 1 sz = true)
    (hx : evo st x = some (.slice ad m cap)) (hy : evo st y = some (.slice ad' m' c)) (hp : Pick L (own e sz ad m cap us) L') (hr : RdS L' sz ad' m' news) (h1 : ∀ u ∈ news, u.oneCell' = true)
    (h63 : m + m' ≤ maxLen) (hbytes : (m + m') * bytes ≤ 140737488355328)
    (K : ∀ ad' cap', Hd E n ds ((d, .slice ad' (m + m') cap') :: st) (own e sz ad' (m + m') cap' (us ++ news) :: L') (LW r P ops Q rest)) (hd : d < n := by decide) :
    Hd E n ds st L (LW r P ops Q (⟨some d, .call ⟨.builtin .append, #[x, y], #[t, t]⟩, ty, pos, af, none⟩ :: rest)) :=
  Hd.op rfl (by simp) fun a w f s => by
    obtain ⟨i, zv, h1', h2', h3', h4', h5'⟩ := tyr_parts hi
    have s' : Sat E (own e sz ad m cap us :: L') w := s.mp fun _ k => hp.sep k
    have sL' : sep L' (RX.hp w) := by obtain ⟨_, _, _, _, b2, _, y2⟩ := s'.2.2.2; exact y2.up b2
    obtain ⟨hl, h0 | ⟨b, o, cs, e', fz, had, hb, hc⟩⟩ := hr _ sL'
    · -- nothing is appended
      subst h0
      have : news = [] := List.eq_nil_of_length_eq_zero (by simpa using hl)
      subst this
      refine ⟨.slice ad m cap, w, ?_, K ad cap _ _ (f.put hd _) ?_⟩
      · have hun : (Builtin.append_ #[t, t] ty #[.slice ad m cap, .slice ad' 0 c]).run P w = .ok (.slice ad m cap) w := by
          have hmc : m ≤ cap := by obtain ⟨_, _, _, _, _, x1, _⟩ := s'.2.2.2; exact (own_le x1).1
          cases ad <;> cases ad' <;> simp [Builtin.append_, run_underlying ht, sizeOf, typeInfo, h1', Builtin.lenOf, hmc, Builtin.firstCells, loadCells, loadCellsFrom, storeCells]
        simp only [execOp, resolve, List.map_toArray, List.map_cons, List.map_nil, f.ev hx, f.ev hy, invoke, builtin, Sem.run_bind, Sem.run_pure, Result.andThen_ok, hun]
      · simpa using s'
    · subst had
      have hrd : ∀ j u, news[j]? = some u → w.cell? ((⟨b, o, none⟩ : Addr).add j) = some u := fun j u ej => by
        rw [add_flat]
        have hb' : w.heap[b]? = some (.cells cs e' fz) := hb
        simp [World.cell?, hb', hc j u ej]
      obtain ⟨ad2, cap2, w', e'', s''⟩ := run_append_own' (ty := ty) ht h1' h2' h3' h5' h4' s' ⟨b, o, none⟩ m' c news hl hrd h1 h63 hbytes
      refine ⟨_, w', ?_, K ad2 cap2 _ _ (f.put hd _) s''⟩
      simp only [execOp, resolve, List.map_toArray, List.map_cons, List.map_nil, f.ev hx, f.ev hy, invoke, builtin, Sem.run_bind, Sem.run_pure, Result.andThen_ok, e'']

/-! ### Regions that draw their order and leave the list alone -/
theorem wpIn_of_quiet {C : World → Prop} {o : Oper} {a : Act} {K : Act → Prop} {K' : Act → World → Prop} {Q' : Exit → Act → World → Prop} {w : World} (hw : C w) (h : ∀ a w', C w' → K a → K' a w') (hh : o.quiet P a C K) : o.wpIn (FW r) 0 P a w K' Q' := by
  obtain ⟨v, h1, h2⟩ := hh
  have h3 := h1 w hw
  unfold Oper.quietAt at h3
  refine ⟨fun _ _ => trivial, ?_⟩
  have hse : o.semAt (FW r).round a.eval = execOp a.eval o := by
    refine Oper.semAt_eq _ _ _ fun c hc => ?_
    cases hr : (execOp a.eval o).run P w with
    | ok nx w' =>
      rw [hr] at h3
      unfold execOp at hr
      rw [hc] at hr
      simp only [Sem.run_bind] at hr
      cases h : (resolve a.eval c o.type).run P w with
      | ok d w1 => rw [h] at hr; simp [Result.andThen] at hr; rw [← hr.1] at h3; simp only [Oper.quietUpon] at h3
      | halt x w1 => rw [h] at hr; simp [Result.andThen] at hr
    | halt x w' => rw [hr] at h3; simp only [Oper.quietUpon] at h3
  rw [hse]
  generalize (execOp a.eval o).run P w = rr at *
  cases rr with
  | ok nx w' =>
    cases nx <;> simp only [Oper.quietUpon] at h3 <;> simp only [Oper.uponIn]
    case value u =>
      obtain ⟨e1, e2⟩ := h3
      rw [e1, e2]
      exact h _ _ hw h2
    case skip =>
      obtain ⟨e1, e2⟩ := h3
      rw [e1, ← e2]
      exact h _ _ hw h2
    case enter f args =>
      obtain ⟨e1, hc⟩ := h3
      rw [e1]
      refine ⟨fun h => (by cases h), (callsIn_wide.2 hc).mono fun e w'' ⟨he, hw''⟩ => by subst he; exact h _ _ hw'' h2⟩
  | halt x w' => simp only [Oper.quietUpon] at h3
theorem wpAnyIn_of_quiet {C : World → Prop} {md : Region.Mode} {Q : Act → Prop} {Q' : Exit → Act → World → Prop} (hQ : ∀ a w, C w → Q a → Q' .normal a w) : ∀ (fuel : Nat) (listed : Array Bool) (a : Act) (w : World), C w →
    wpAnyQ P md ops C Q fuel listed a → wpAnyIn (FW r) 0 P md ops Q' fuel listed a w
  | 0, _, _, _, hw, h => ⟨h.1, hQ _ _ hw h.2⟩
  | fuel + 1, listed, a, w, hw, h => ⟨fun h0 => hQ _ _ hw (h.1 h0), fun i hi => by
      have hh := h.2 i hi
      unfold qOp at hh
      unfold wpOpIn
      split
      · rename_i ho; simp only [ho] at hh; exact wpAnyIn_of_quiet hQ fuel _ _ _ hw hh
      · rename_i o ho
        simp only [ho] at hh
        split
        · rename_i hw'; simp only [hw', if_true] at hh; exact wpIn_of_quiet hw (fun a' w' hC' => wpAnyIn_of_quiet hQ fuel _ a' w' hC') hh
        · rename_i hw'; simp only [hw'] at hh; exact ⟨fun _ _ => trivial, wpAnyIn_of_quiet hQ fuel _ _ _ hw hh⟩⟩
/-- the judgement on such a region's list -/
def Hq (n : Nat) (ds : List Deferred) (st : List (Nat × Value)) (K : Act → Prop) : Prop := ∀ a, Fr n ds st a → K a
abbrev QW (P : Program) (ops : Array Oper) (C : World → Prop) (Kq : Act → Prop) (l : List Oper) : Act → Prop := wpQuiet P ops C Kq l
theorem Hd.quiet {id : Nat} {l : List Oper} (hm : P.follows .mixedOrders = true) (hB : Region.lexB .any l.toArray = true)
    (h : Hq n ds st (QW P l.toArray (Sat E L) (fun a' => ∀ w', Sat E L w' → Q .normal a' w') l)) : Hd E n ds st L (CW r P (.region id l.toArray true) Q) := by
  intro a w f s
  simp only [Region.lexB, Bool.and_eq_true] at hB
  refine wpIn_region_any hm (wpAnyIn_of_quiet (C := Sat E L) (Q := fun a' => ∀ w', Sat E L w' → Q .normal a' w') (fun _ w' hw' h => h w' hw') _ _ _ _ s.draw ?_)
  have := wpAnyQ_lex (C := Sat E L) (md := .any) hB.1 l 0 (Array.replicate l.toArray.size false) a (by simp) (by simpa using hB.2) (h a f)
  simpa using this
section quiet
variable {Kq : Act → Prop}
theorem Hq.nil (h : Hd E n ds st L (Q .normal)) : Hq n ds st (QW P ops (Sat E L) (fun a' => ∀ w', Sat E L w' → Q .normal a' w') []) := fun a f w s => h a w f s
theorem Hq.yv {op : Op} (h : Yv E n ds st L P ⟨some d, op, ty, pos, af, none⟩ v) (K : Hq n ds ((d, v) :: st) (QW P ops (Sat E L) Kq rest)) (hd : d < n := by decide) :
    Hq n ds st (QW P ops (Sat E L) Kq (⟨some d, op, ty, pos, af, none⟩ :: rest)) := fun a f => by
  refine wpQuiet_step fun K' hK' => ?_
  rw [if_pos (by simp [Region.wanted])]
  refine ⟨v, fun w s => ?_, hK' _ (K _ (f.put hd v))⟩
  unfold Oper.quietAt
  rw [h a w f s]
  exact ⟨rfl, rfl⟩
theorem Hq.yg {op : Op} {i gd : Nat} (hi : (ops[i]?).bind (·.dst) = some gd) (hv : look st gd = some (.bool p)) (h : Yv E n ds st L P ⟨some d, op, ty, pos, af, some (i, p)⟩ v)
    (K : Hq n ds ((d, v) :: st) (QW P ops (Sat E L) Kq rest)) (hd : d < n := by decide) :
    Hq n ds st (QW P ops (Sat E L) Kq (⟨some d, op, ty, pos, af, some (i, p)⟩ :: rest)) := fun a f => by
  refine wpQuiet_step fun K' hK' => ?_
  rw [if_pos (by simp [Region.wanted, yielded_of hi f hv])]
  refine ⟨v, fun w s => ?_, hK' _ (K _ (f.put hd v))⟩
  unfold Oper.quietAt
  rw [h a w f s]
  exact ⟨rfl, rfl⟩
theorem Hq.ng {op : Op} {i gd : Nat} (hi : (ops[i]?).bind (·.dst) = some gd) (hv : look st gd = some v) (hb : isb v p = false)
    (K : Hq n ds ((d, undef) :: st) (QW P ops (Sat E L) Kq rest)) (hd : d < n := by decide) :
    Hq n ds st (QW P ops (Sat E L) Kq (⟨some d, op, ty, pos, af, some (i, p)⟩ :: rest)) := fun a f => by
  refine wpQuiet_step fun K' hK' => ?_
  rw [if_neg (by simp only [Region.wanted, yielded_of hi f hv]; cases v <;> simp_all [isb])]
  exact hK' _ (K _ (f.put hd undef))
theorem Hq.part {K : Act → Prop} {gd : Nat} (hv : look st gd = some (.bool p)) (hT : p = true → Hq n ds ((gd, .bool true) :: st) K) (hF : p = false → Hq n ds ((gd, .bool false) :: st) K) : Hq n ds st K := by
  intro a f
  have key : ∀ c, p = c → Fr n ds ((gd, .bool c) :: st) a := fun c hc => f.weak fun t u e => by
    simp only [look] at e
    cases hb : Nat.beq gd t with
    | true => rw [hb] at e; have := Nat.eq_of_beq_eq_true hb; subst this; simp at e; rw [hv, hc, e]
    | false => rw [hb] at e; simpa using e
  cases hp : p with
  | true => exact hT hp a (key true hp)
  | false => exact hF hp a (key false hp)
/-- a call that leaves the list as it is and always answers the same -/
theorem Hq.call {fid : FuncId} {xs : List Operand} {vs : List Value} {tys : Array TypeId} (hv : xs.map (evo st) = vs.map some) (hf : fnk P fid = true)
    (hc : Ct P fid vs.toArray L (fun _ : Unit => v) (fun _ => L)) (K : Hq n ds ((d, v) :: st) (QW P ops (Sat E L) Kq rest)) (hd : d < n := by decide) :
    Hq n ds st (QW P ops (Sat E L) Kq (⟨some d, .call ⟨.value (.func fid), xs.toArray, tys⟩, ty, pos, af, none⟩ :: rest)) := fun a f => by
  refine wpQuiet_step fun K' hK' => ?_
  rw [if_pos (by simp [Region.wanted])]
  refine ⟨v, fun w s => ?_, hK' _ (K _ (f.put hd v))⟩
  have e : (execOp a.eval (⟨some d, .call ⟨.value (.func fid), xs.toArray, tys⟩, ty, pos, af, none⟩ : Oper)).run P w = .ok (.enter fid vs.toArray) w := by
    simp only [List.map_toArray, evs_map f hv, go_sem]
    simp [run_call hf]
  unfold Oper.quietAt
  rw [e]
  exact ⟨rfl, (hc E w s).mono fun e w' ⟨_, h1, h2⟩ => ⟨h1, h2⟩⟩
end quiet
end
end Go.RX
