/-
  Kqueue: Due; Poll. Worlds: Outer, Pipe, Listen, Pass, Reset. Worlds: Close. Kqueue: the law's Same, note, changes, polls; calls on none. Kqueue: the laws alive and KquNames (printed by mkkqb.py). Epoll: the keys of a map, collected. Epoll: the keys of a map, rising. Epoll: how it lies in memory; find. Epoll: the descriptors of interests that are not gone. Epoll: DeleteFunc over all's closure. Epoll: all. Epoll: New, none, Interests. Epoll: what is due. Kqueue: what reports leave, as long as nothing happens (plain). The document's world (roundhouseref11): how it lies in memory. Worlds: Accept.
-/
import Derived.Test.YtbfddabjbkohdaaGreatZKquAgainG
namespace Go.Proofs.YtbfddabjbkohdaaGreat
set_option maxHeartbeats 2000000
open Go.RX.Hd (yv y2 n1 fk sk sr tH callE heldK onlyH endH thenN slots)
set_option linter.unusedSimpArgs false
set_option linter.unusedVariables false
set_option linter.unnecessarySimpa false
open Go.RX Fx
namespace Kq
open Wo
set_option maxRecDepth 8000
abbrev vi (l : List Int) : List Value := l.map fun v => Value.int .i64 v
abbrev OutN (b : Nat) (l : List NoA) : SP := RX.ex fun i : Option Addr × Nat => [pt b [.slice i.1 l.length i.2] 67, own 82 4 i.1 l.length i.2 (l.flatMap encNo)]
abbrev seqK (px : Nat) : Value := .func (.func 153) #[] #[.pointer (some ⟨px, 0, none⟩)]
theorem appd_ct (L : List SP) (px qb wb mb : Nat) (f : Ky → Option KnA) (m : Nat) (hm : m ≤ 1000000) (hf : OkK f) (w : WA) : Ct Tryz.prog 156 #[.slice none 0 0, seqK px] (KqM px qb wb mb f m w L) (fun q_ : Option Addr × Nat => .slice q_.1 (dueK f w).length q_.2) (fun q_ : Option Addr × Nat => own 82 4 q_.1 (dueK f w).length q_.2 ((dueK f w).flatMap encNo) :: KqM px qb wb mb f m w L) := by
 refine Ct.o2M Tryz.func156 ?_; intro E
 show Hd E 13 _ _ _ _
 refine sr fun _ hK1 => ?_
 refine Hd.box rfl rfl (fun b2 => ?_); refine yv y_as <| fk [(1, _), (2, _)] hK1 ?_; refine Hd.seq fun _ hK2 => ?_
 refine sr fun _ hK3 => ?_
 refine yv y_mv <| fk [(2, _), (6, _)] hK3 ?_; refine Hd.block <| Hd.rangeF (enc := encNA) (S := fun ys => ys = dueK f w) (Sp := fun ys => ys <+: dueK f w)
  (fun pre => OutN b2 pre :: L) (fun _ _ => [pu False])
  rfl kq (fun _ => rfl) rfl (kdu_it px qb wb mb f m hm hf w) (by refine Ent.sep ?_; refine Ent.ex (none, 0) ?_; refine Ent.eq pkk (pt_eq (by rfl)) ?_; refine Ent.ownNil ?_; exact Ent.swap (L := [_, _, _, _])) ?_ ?_ ?_
 ·intro E l' R pre c N hR hG
  have hdl := dueK_len f w
  have hpl : pre.length + 1 ≤ 1000000 := by have h1 := hG.length_le; simp at h1; omega
  unfold Rnd; simp only [List.cons_append, List.nil_append, pz, encNA]; refine Hd.region <| Hd.alloc zr82 (fun b5 => ?_); refine Hd.storeA (us := encNo c) sz82 rfl rfl rfl (encNo_one _) pkk (by exact rfl) ?_; refine Hd.nil <| slots [(2, _), (5, _)] sbq ?_; refine thenN <| Hd.begin hR pkk ?_; refine Hd.block <| Hd.exs pkk ?_; rintro ⟨a3, c3⟩; simp only [List.cons_append, List.nil_append]; refine Hd.region <| yv (y_l1 ag67 rfl) ?_; refine yv (y_loadn (us := encNo c) ag82 rfl (Rd.pt pkk (fun j v e => by rw [Nat.zero_add]; exact e)) (by exact sz82)) ?_; refine Hd.bslice (vs := [(0, _)]) rfl (by exact bs156_10 ..) (fun b10 => ?_); refine Hd.append Tryz.underlying67 ty82 rfl rfl rfl pkk (by exact RdS.rd (Rd.pt pkk (fun j v e => by simpa using e)) rfl) (by simp [Value.oneCell']; done) (by simp only [maxLen]; omega) (by omega) (fun ad11 cap11 => ?_); refine Hd.store1 sz67 rfl rfl rfl pkk (by simp; done) ?_
  try simp only [List.set_cons_zero, List.set_cons_succ]
  refine Hd.nil <| slots [(2, _)] sbq ?_; refine Hd.inB <| Hd.reN ?_; simp only [List.cons_append, List.nil_append]; exact Ent.sep (.pick pkk (.ex (ad11, cap11) (.eq pkk (pt_eq (by simp)) (.eq pkk (own_eq (by simp) (by simp)) enn))))
 ·intro r0 ys hys
  obtain rfl : ys = dueK f w := hys
  try simp only [List.cons_append, List.nil_append]
  refine Hd.inB <| Hd.toK hK2 ?_; refine Hd.seq fun _ hK4 => ?_
  refine Hd.exs pkk ?_; rintro ⟨a3, c3⟩; simp only [List.cons_append, List.nil_append]; refine Hd.region <| yv (y_l1 ag67 rfl) ?_; refine yv y_as <| fk [(4, _)] hK4 ?_; refine Hd.ret ?_; exact Hd.retM (fun a fr => Lv.mark pkk (Lv.end1 fr rfl (a3, c3) rfl sq))
 ·rintro r0_0 (_ | id0) pre0 hG0
  ·exact Hd.absurd (by exact id)
  ·exact Hd.absurd (by exact id)
theorem colld_ct (L : List SP) (px qb wb mb : Nat) (f : Ky → Option KnA) (m : Nat) (hm : m ≤ 1000000) (hf : OkK f) (w : WA) : Ct Tryz.prog 90 #[seqK px] (KqM px qb wb mb f m w L) (fun q_ : Option Addr × Nat => .slice q_.1 (dueK f w).length q_.2) (fun q_ : Option Addr × Nat => own 82 4 q_.1 (dueK f w).length q_.2 ((dueK f w).flatMap encNo) :: KqM px qb wb mb f m w L) := by
 refine Ct.o1 Tryz.func90 ?_; intro E
 show Hd E 5 _ _ _ _
 refine sr fun _ hK1 => ?_
 refine yv y_as <| fk [(0, _)] hK1 ?_; refine sr fun _ hK2 => ?_
 refine yv y_mv <| callE rfl fk156 (appd_ct L px qb wb mb f m hm hf w) sq ?_; rintro ⟨a2, c2⟩; dsimp only; refine yv y_as <| fk [(2, _)] hK2 ?_; refine Hd.ret ?_; exact Hd.ret1 rfl (a2, c2) rfl sq
def offX (w : WA) (y : KnA) (k : Ky) : KnA := { y with armed := false, seen := riseK k.2 (readyR w k.1) }
def off1 (w : WA) (f : Ky → Option KnA) (x : NoA) : Ky → Option KnA :=
 if bits .and .i64 (oldK f x).flags 32 ≠ 0 then updK (updK f (x.1, x.2.1) (some (offX w (oldK f x) (x.1, x.2.1)))) (x.1, x.2.1) none else updK f (x.1, x.2.1) (some (offX w (oldK f x) (x.1, x.2.1)))
def offK (w : WA) (f : Ky → Option KnA) : List NoA → (Ky → Option KnA)
 | [] => f
 | x :: t => offK w (off1 w f x) t
theorem offK_app (w : WA) (x : NoA) : ∀ (l : List NoA) (f : Ky → Option KnA), offK w f (l ++ [x]) = off1 w (offK w f l) x
 | [], _ => rfl
 | y :: t, f => offK_app w x t _
def polK (f : Ky → Option KnA) (w : WA) (most : Int) (ord : List Int) : List NoA := (Sh.shufTo ord (dueK f w) (dueK f w).length).take most.toNat
theorem polK_len (f : Ky → Option KnA) (w : WA) (most : Int) (ord : List Int) : (polK f w most ord).length = min most.toNat (dueK f w).length := by unfold polK; rw [List.length_take, Sh.shuf_len]
theorem kpoll_ct (L : List SP) (qb wb mb : Nat) (f : Ky → Option KnA) (m : Nat) (hm : m ≤ 1000000) (hf : OkK f) (w : WA) (most : Int) (h1 : 1 ≤ most) (ao : Option Addr) (co : Nat) (ord : List Int) (ho : RdS L 1 ao ord.length (vi ord)) (hol : ord.length ≤ 1000000) : Ct Tryz.prog 30 #[.pointer (some ⟨qb, 0, none⟩), .int .i64 most, .slice ao ord.length co] (KqB qb wb mb f m w L) (fun q_ : Option Addr × Nat × Nat => .tuple #[.slice q_.1 (polK f w most ord).length q_.2.1, .int .i64 0]) (fun q_ : Option Addr × Nat × Nat => pu (q_.2.2 ≤ m + (polK f w most ord).length) :: own 82 4 q_.1 (polK f w most ord).length q_.2.1 ((polK f w most ord).flatMap encNo) :: KqB qb wb mb (offK w f (polK f w most ord)) q_.2.2 w L) := by
 refine Ct.o3 Tryz.func30 ?_; intro E
 show Hd E 76 _ _ _ _
 have hdl := dueK_len f w
 refine sr fun _ hK1 => ?_
 refine yv y_as <| yv y_as <| fk [(0, _), (1, _), (2, _)] hK1 ?_; refine Hd.seq fun _ hK2 => ?_
 refine Hd.block <| sr fun _ hK3 => ?_
 refine yv y_mv <| callE rfl fk87 (knone_ct _ qb wb mb) sq ?_; intro _; refine yv y_as <| fk [(0, _), (1, _), (2, _), (13, _)] hK3 ?_; refine Hd.condF rfl ?_; refine sr fun _ hK4 => ?_
 refine yv y_mv <| yv (y_lss rfl rfl) ?_; refine yv y_as <| fk [(0, _), (1, _), (2, _), (16, _)] hK4 ?_; refine Hd.cond rfl (fun hc1 => ?_) (fun hc1 => ?_)
 ·try simp only [hyA, hyB, hyC, ne_eq] at hc1
  omega
 ·try simp only [hyA, hyB, hyC, ne_eq] at hc1
  refine Hd.skip <| Hd.inB <| Hd.toK hK2 ?_; refine sr fun _ hK5 => ?_
  refine yv y_mv <| callE rfl fk88 (kdu_ct _ qb) sq ?_; intro px; refine callE rfl fk90 (colld_ct L px qb wb mb f m hm hf w) sq ?_; rintro ⟨a1, c1⟩; dsimp only; refine yv y_mv <| callE rfl fk89 (Sh.shuffleN_ct _ a1 ao c1 co (dueK f w) ord ?hD ?hO (by omega) hol) sq ?_
  case hD => exact RdS.own pkk
  case hO => exact RdS.mono ho sq
  rintro ⟨a2, c2⟩; dsimp only
  obtain ⟨s, hs⟩ : ∃ s, s = Sh.shufTo ord (dueK f w) (dueK f w).length := ⟨_, rfl⟩
  have hsl : s.length = (dueK f w).length := by rw [hs, Sh.shuf_len]
  obtain ⟨kk, hkk⟩ : ∃ k, k = min most.toNat (dueK f w).length := ⟨_, rfl⟩
  have hpo : polK f w most ord = s.take kk := by
   unfold polK; rw [← hs, hkk, ← hsl]
   rcases Nat.le_total most.toNat s.length with h | h
   ·rw [Nat.min_eq_left h]
   ·rw [Nat.min_eq_right h, List.take_length, List.take_of_length_le h]
  have hpl : (polK f w most ord).length = kk := by rw [polK_len, hkk]
  rw [hpo] at hpl ⊢; rw [hpl, ← hs]; refine Hd.ownCap (e := 82) (ad := a2) (m := (dueK f w).length) (cap := c2) pkk (fun hcap => ?_); refine yv y_as <| fk [(0, _), (1, _), (8, _)] hK5 ?_; refine sr fun _ hK6 => ?_
  refine yv y_mv <| yv y_mv <| yv y_mv <| yv (y_len Tryz.underlying67 rfl) ?_; refine yv (y_to (v' := .int .i64 (kk : Int)) (y_min rfl rfl) (by (congr 1; omega))) ?_; refine yv (y_slo_xoxN Tryz.underlying67 sz82 rfl rfl (by omega)) ?_; refine yv y_as <| fk [(0, _), (8, _)] hK6 ?_; refine Hd.seq fun _ hK7 => ?_
  refine sr fun _ hK8 => ?_
  refine yv y_mv <| yv (y_len Tryz.underlying67 rfl) ?_; refine yv y_mv <| fk [(0, _), (8, _), (30, _), (31, _), (32, _)] hK8 ?_; refine Hd.block <| Hd.loopK (ι := Nat × Nat) [(0, _), (8, _), (30, _), (31, _)] (fun q_ => [(32, .int .i64 (q_.1 : Int))]) (fun q_ => pu (q_.1 ≤ kk ∧ q_.2 ≤ m + q_.1) :: own 82 4 a2 (dueK f w).length c2 (s.flatMap encNo) :: KqB qb wb mb (offK w f (s.take q_.1)) q_.2 w L) (fun q_ => kk - q_.1) (0, m) sbq sbq (Ent.sep (.pure ⟨Nat.zero_le _, Nat.le_refl _⟩ enn)) ?_; rintro ⟨i, m'⟩
  try dsimp only
  refine Hd.pure (fun hp0 => ?_)
  try dsimp only at hp0
  refine sr fun _ hK9 => ?_
  refine yv (y_lss rfl rfl) ?_; refine fk [(0, _), (8, _), (30, _), (31, _), (32, _), (33, _)] hK9 ?_; refine Hd.seq fun _ hK10 => ?_
  refine Hd.cond rfl (fun hc2 => ?_) (fun hc2 => ?_)
  ·try simp only [hyA, hyB, hyC, ne_eq] at hc2
   have hi : i < s.length := by omega
   have hgi : s[i]? = some s[i] := List.getElem?_eq_getElem hi
   have hsc : s.take (i + 1) = s.take i ++ [s[i]] := by rw [List.take_add_one, hgi]; rfl
   obtain ⟨x, hx⟩ : ∃ x, x = s[i] := ⟨_, rfl⟩
   rw [← hx] at hgi hsc
   obtain ⟨g, hg⟩ : ∃ g, g = offK w f (s.take i) := ⟨_, rfl⟩
   have hoa := offK_app w x (s.take i) f
   rw [← hsc, ← hg] at hoa; rw [← hg]; refine Hd.skip <| Hd.toK hK10 ?_; refine Hd.seq fun _ hK11 => ?_
   refine Hd.block <| sr fun _ hK12 => ?_
   refine yv (y_idxR Tryz.underlying67 sz82 rfl rfl (by omega) (by exact RdS.head (RdS.own (ad := a2) (us := s.flatMap encNo) pkk) (by omega))) ?_; refine yv (y_loadRn (vs := encNo x) ag82 rfl (RdS.own (ad := a2) (us := s.flatMap encNo) pkk) (flat_cells encNo 4 (fun _ => rfl) hgi) (by exact sz82) (by simp)) ?_; refine Hd.alloc zr82 (fun b10 => ?_); refine Hd.storeA (us := encNo x) sz82 rfl rfl rfl (encNo_one _) pkk (by exact rfl) ?_; refine fk [(0, _), (8, _), (10, _), (30, _), (31, _), (32, _)] hK12 ?_; refine sr fun _ hK13 => ?_
   refine yv (y_f 0 3 Tryz.underlying82 sz3) ?_; refine yv (y_l1 ag3 rfl) ?_; refine yv (y_f 1 3 Tryz.underlying82 sz3) ?_; refine yv (y_l1 ag3 rfl) ?_; refine yv (y_build (vs := [(0, _), (1, _)]) rfl (by exact bd30_40 ..)) ?_; refine Hd.alloc zr170 (fun b11 => ?_); refine Hd.storeA (us := [.int .i64 x.1, .int .i64 x.2.1]) sz170 rfl rfl rfl (by simp [Value.oneCell']) pkk (by exact rfl) ?_; refine fk [(0, _), (8, _), (11, _), (30, _), (31, _), (32, _)] hK13 ?_; refine Hd.seq fun _ hK14 => ?_
   refine Hd.drawsH ([KqH qb wb mb, pt b11 [.int .i64 x.1, .int .i64 x.2.1] 170, mpP mb .i64 (kmap g) m']) (fun j => !([7].contains j)) mixed ?_; simp only [List.length, Nat.zero_add, Nat.reduceAdd]; refine tH 0 rfl y_mv ?_; refine tH 1 rfl y_np ?_; refine tH 2 rfl (y_f 1 173 Tryz.underlying175 sz173) ?_; refine tH 3 rfl (y_l1 ag173 rfl) ?_; refine tH 4 rfl (y_loadn (us := [_, _]) ag170 rfl (Rd.pt pkk (by (first | (intro j v e; rcases j with _|_|_|_|_|_|_|_|_|_|_|_|j <;> first | exact e | exact absurd e (by simp))))) (by exact sz170)) ?_; refine tH 5 rfl (y_to (v' := .agg (encKn (oldK g x)).toArray) (y_lookupK mapt173 rfl rfl pkk) (by exact kmap_get g (x.1, x.2.1))) ?_; refine onlyH 6 rfl kq ?_; refine Hd.alloc zr172 (fun b12 => ?_); refine Hd.nil <| thenN <| heldK (J := (fun j => !([7].contains j))) (i := 6) sq ?_; refine onlyH 7 rfl kq ?_; refine Hd.storeA (us := encKn (oldK g x)) sz172 rfl rfl rfl (by simp [Value.oneCell']) pkk (by exact rfl) ?_
   refine Hd.nil <| thenN <| Hd.heldN (J := (fun j => !([7].contains j))) (i := 7) rfl ?_; refine endH kq ?_; refine sk [(0, _), (8, _), (11, _), (12, _), (30, _), (31, _), (32, _)] hK14 ?_; refine Hd.seq fun _ hK15 => ?_
   refine Hd.drawsH ([KqH qb wb mb, pt b11 [.int .i64 x.1, .int .i64 x.2.1] 170]) (fun j => !(([1000] : List Nat).contains j)) mixed ?_; simp only [List.length, Nat.zero_add, Nat.reduceAdd]; refine tH 0 rfl (y_f 1 3 Tryz.underlying170 sz3) ?_; refine tH 1 rfl (y_l1 ag3 rfl) ?_; refine tH 2 rfl y_mv ?_; refine tH 3 rfl y_np ?_; refine tH 4 rfl (y_f 0 38 Tryz.underlying175 sz38) ?_; refine tH 5 rfl (y_l1 ag38 rfl) ?_; refine tH 6 rfl (y_f 0 3 Tryz.underlying170 sz3) ?_; refine tH 7 rfl (y_l1 ag3 rfl) ?_; refine tH 10 rfl (y_f 2 4 Tryz.underlying172 sz4) ?_; refine onlyH 8 rfl kq ?_; refine callE rfl fk43 (wready_ct _ wb w x.1) sq ?_; intro _; refine Hd.nil <| thenN <| heldK (J := (fun j => !(([1000] : List Nat).contains j))) (i := 8) sq ?_; refine onlyH 9 rfl kq ?_; refine callE rfl fk91 (krises_ct _ x.2.1 (readyR w x.1)) sq ?_; intro _; refine Hd.nil <| thenN <| heldK (J := (fun j => !(([1000] : List Nat).contains j))) (i := 9) sq ?_
   refine onlyH 11 rfl kq ?_; refine Hd.store1 sz4 rfl rfl rfl pkk (by simp; done) ?_
   try simp only [List.set_cons_zero, List.set_cons_succ]
   refine Hd.nil <| thenN <| heldK (J := (fun j => !(([1000] : List Nat).contains j))) (i := 11) sq ?_; refine tH 12 rfl (y_f 3 30 Tryz.underlying172 sz30) ?_; refine onlyH 13 rfl kq ?_; refine Hd.store1 sz30 rfl rfl rfl pkk (by simp; done) ?_
   try simp only [List.set_cons_zero, List.set_cons_succ]
   refine Hd.nil <| thenN <| heldK (J := (fun j => !(([1000] : List Nat).contains j))) (i := 13) sq ?_; refine endH kq ?_; refine sk [(0, _), (8, _), (11, _), (12, _), (30, _), (31, _), (32, _)] hK15 ?_; refine Hd.seq fun _ hK16 => ?_
   refine Hd.tail 6 mixed kq ?_; simp only [List.take, List.drop]; refine Ht.yv y_mv ?_; refine Ht.yv y_np ?_; refine Ht.yv (y_f 1 173 Tryz.underlying175 sz173) ?_; refine Ht.yv (y_l1 ag173 rfl) ?_; refine Ht.yv (y_loadn (us := [_, _]) ag170 rfl (Rd.pt pkk (by (first | (intro j v e; rcases j with _|_|_|_|_|_|_|_|_|_|_|_|j <;> first | exact e | exact absurd e (by simp))))) (by exact sz170)) ?_; refine Ht.yv (y_loadn (us := [_, _, _, _]) ag172 rfl (Rd.pt pkk (by (first | (intro j v e; rcases j with _|_|_|_|_|_|_|_|_|_|_|_|j <;> first | exact e | exact absurd e (by simp))))) (by exact sz172)) ?_; refine Ht.nil ?_; refine Hd.mapUpdateK mapt173 rfl rfl rfl pkk ?_; refine fk [(0, _), (8, _), (11, _), (12, _), (30, _), (31, _), (32, _)] hK16 ?_; refine sr fun _ hK17 => ?_
   refine yv (y_f 1 3 Tryz.underlying172 sz3) ?_; refine yv (y_l1 ag3 rfl) ?_; refine yv (y_and rfl rfl) ?_; refine yv (y_neq rfl rfl) ?_; refine fk [(0, _), (8, _), (11, _), (30, _), (31, _), (32, _), (68, _)] hK17 ?_; refine Hd.cond rfl (fun hc3 => ?_) (fun hc3 => ?_)
   ·try simp only [hyA, hyB, hyC, ne_eq] at hc3
    refine Hd.tail 5 mixed kq ?_; simp only [List.take, List.drop]; refine Ht.yv y_mv ?_; refine Ht.yv y_np ?_; refine Ht.yv (y_f 1 173 Tryz.underlying175 sz173) ?_; refine Ht.yv (y_l1 ag173 rfl) ?_; refine Ht.yv (y_loadn (us := [_, _]) ag170 rfl (Rd.pt pkk (by (first | (intro j v e; rcases j with _|_|_|_|_|_|_|_|_|_|_|_|j <;> first | exact e | exact absurd e (by simp))))) (by exact sz170)) ?_; refine Ht.nil ?_; refine Hd.mapDelete0K mapt173 rfl rfl pkk ?_; refine Hd.nil <| slots [(0, _), (8, _), (30, _), (31, _), (32, _)] sbq ?_; refine Hd.inB <| Hd.toK hK11 ?_; refine Hd.region <| yv (y_addn rfl rfl (by simp only [InK]; omega)) ?_; refine yv y_mv <| Hd.nil <| slots [(0, _), (8, _), (30, _), (31, _), (32, _)] sbq ?_; refine thenN ?_; exact Hd.again (i + 1, (if (kmap g (x.1, x.2.1)).isSome then m' else m' + 1) - 1) (by omega) sbq (Ent.sep (.pure ⟨by omega, by dsimp only; split <;> omega⟩ (.pick pkk (.pick pkk (.eq pkk (mpP_eq (by rw [hoa]; unfold off1; rw [if_pos hc3, kmap_del, kmap_upd]; rfl) (by simp)) enn)))))
   ·try simp only [hyA, hyB, hyC, ne_eq] at hc3
    refine Hd.skip <| Hd.inB <| Hd.toK hK11 ?_; refine Hd.region <| yv (y_addn rfl rfl (by simp only [InK]; omega)) ?_; refine yv y_mv <| Hd.nil <| slots [(0, _), (8, _), (30, _), (31, _), (32, _)] sbq ?_; refine thenN ?_; exact Hd.again (i + 1, (if (kmap g (x.1, x.2.1)).isSome then m' else m' + 1)) (by omega) sbq (Ent.sep (.pure ⟨by omega, by dsimp only; split <;> omega⟩ (.pick pkk (.pick pkk (.eq pkk (mpP_eq (by rw [hoa]; unfold off1; rw [if_neg (fun h => h hc3), kmap_upd]; rfl) rfl) enn)))))
  ·try simp only [hyA, hyB, hyC, ne_eq] at hc2
   obtain rfl : i = kk := by omega
   refine Hd.exit <| Hd.thenExit <| Hd.thenExit <| Hd.inBexit <| Hd.toK hK7 ?_; refine sr fun _ hK18 => ?_
   refine yv y_mv <| yv y_as <| yv y_as <| fk [(6, _), (7, _)] hK18 ?_; refine Hd.ret <| Hd.ownTake (e := 82) (ad := a2) (m := (dueK f w).length) (cap := c2) pkk i ((s.take i).flatMap encNo) ((s.drop i).flatMap encNo) (by omega) (by rw [← List.flatMap_append, List.take_append_drop]) (by rw [rows_len (k := 4) (fun _ => rfl), List.length_take]; omega) ?_; rw [hpo, hpl]; exact Hd.ret2 rfl (a2, c2, m') rfl rfl rfl (Ent.sep (.pure hp0.2 enn))
end Kq
end Go.Proofs.YtbfddabjbkohdaaGreat
namespace Go.Proofs.YtbfddabjbkohdaaGreat
set_option maxHeartbeats 2000000
open Go.RX.Hd (yv y2 n1 fk sk sr tH callE heldK onlyH endH thenN slots)
set_option linter.unusedSimpArgs false
set_option linter.unusedVariables false
set_option linter.unnecessarySimpa false
open Go.RX Fx
namespace Wo
set_option maxRecDepth 8000
def mkN (w : WA) (k : Nat) : Int := if mkE w k = 0 then (w.ws.length : Int) else 0
theorem mkW_len {w : WA} {k : Nat} {x : WireA} (h : mkE w k = 0) : (mkW w k x).ws.length = w.ws.length + 1 := by
 unfold mkE at h; unfold mkW
 by_cases h1 : mkOk w k = true
 ·rw [if_pos h1]
  show (w.ws ++ [_]).length = _
  rw [List.length_append]; rfl
 ·rw [if_neg h1] at h; exact absurd h (by decide)
theorem outer_mk (L : List SP) (wb : Nat) (w : WA) (n : Nat) (h1 : 1 ≤ n) (h2 : n ≤ 65536) : Ct Tryz.prog 50 #[.pointer (some ⟨wb, 0, none⟩), .int .i64 (n : Int)] (WorldP wb w :: L) (fun _ : Unit => .tuple #[.int .i64 (mkI w 1 0), .int .i64 (mkN w 1), .int .i64 (mkE w 1)]) (fun _ : Unit => WorldP wb (mkW w 1 (connW n)) :: L) := by
 refine Ct.o2 Tryz.func50 ?_; intro E
 show Hd E 35 _ _ _ _
 refine sr fun _ hK1 => ?_
 refine yv y_as <| yv y_as <| yv y_as <| fk [(0, _), (1, _)] hK1 ?_; refine sr fun _ hK2 => ?_
 refine yv y_mv <| callE rfl fk109 (both_ct _ n h1 h2) sq ?_; intro b; refine yv y_as <| fk [(0, _), (1, _), (7, _)] hK2 ?_; refine Hd.seq fun _ hK3 => ?_
 refine Hd.wire pkk 1 (by omega) (fun i hi => ?_); refine Hd.region <| yv y_mv <| yv y_np <| yv (y_f 0 197 Tryz.underlying199 sz197) ?_; refine yv (y_idxA Tryz.underlying197 sz196 rfl rfl (by decide)) ?_; refine yv (y_f 0 3 Tryz.underlying196 sz3) ?_; refine Hd.store1 sz3 rfl rfl rfl pkk (by simp; done) ?_
 try simp only [List.set_cons_zero, List.set_cons_succ]
 refine Hd.nil ?_; rw [show (encW (halfW n 2) i).set (0 + 0 + 1 * 7 + 0) (.int .i64 2) = encW (connW n) i from rfl]; refine Hd.heap (WireP b (connW n) :: WorldP wb w :: L) (fun q s => wire_close (x := halfW n 2) (f := fun e => { e with what := 2 }) (k := 1) (k' := 1) hi (by omega) (fun _ => rfl) (fun _ => rfl) q (Ent.sep enn q s)) ?_; refine sk [(0, _), (1, _), (7, _)] hK3 ?_; refine sr fun _ hK4 => ?_
 refine yv y_mv <| yv y_mv <| yv y_mv <| callE rfl fk110 (make_ct _ wb b w n h1 h2 1 (by omega) (connW n) (conn_new h2)) sq ?_; rintro ⟨ad, c⟩; dsimp only; refine yv y_mv <| yv (y_to (v' := .slice ad (mkF w 1).length c) y_ex (by rfl)) ?_; refine yv (y_to (v' := .int .i64 (mkE w 1)) y_ex (by rfl)) ?_; refine yv y_as <| yv y_as <| fk [(0, _), (6, _), (8, _)] hK4 ?_; refine Hd.seq fun _ hK5 => ?_
 refine sr fun _ hK6 => ?_
 refine yv y_mv <| yv (y_neq rfl rfl) ?_; refine fk [(0, _), (6, _), (8, _), (24, _)] hK6 ?_; refine Hd.cond rfl (fun hc0 => ?_) (fun hc0 => ?_)
 ·try simp only [hyA, hyB, hyC, ne_eq] at hc0
  refine sr fun _ hK7 => ?_
  refine yv y_mv <| yv y_as <| yv y_as <| yv y_as <| fk [(4, _), (5, _), (6, _)] hK7 ?_; refine Hd.ret <| Hd.thenRet ?_
  have h : mkF w 1 = [] := by
   rcases mkF_len (w := w) (k := 1) with h | h
   ·exact absurd h.1 hc0
   ·exact h.2
  rw [show mkI w 1 0 = 0 by unfold mkI; rw [h]; rfl, show mkN w 1 = 0 by unfold mkN; rw [if_neg hc0]]; exact Hd.ret3 rfl () rfl rfl rfl rfl sq
 ·try simp only [hyA, hyB, hyC, ne_eq] at hc0
  have hl : (mkF w 1).length = 1 := by
   rcases mkF_len (w := w) (k := 1) with h | h
   ·exact h.2
   ·rw [h.1] at hc0; exact absurd hc0 (by decide)
  have hg0 : (nats (mkF w 1))[0 * 1]? = some (.int .i64 (mkI w 1 0)) := nats_at (by omega)
  have hwl := mkW_len (x := connW n) hc0
  refine Hd.skip <| Hd.toK hK5 ?_; refine Hd.seq fun _ hK8 => ?_
  refine Hd.world pkk (fun i hw hrs => ?_)
  have hrl : i.rs.length = w.ws.length + 1 := by rw [← hwl, ← hrs, List.length_map]
  have hln : i.rs.length ≤ 1000 := by rw [hrl, ← hwl]; exact hw.len
  refine Hd.quiet mixed kq ?_; refine Hq.yv y_mv ?_; refine Hq.yv (y_idxR Tryz.underlying44 sz3 rfl rfl (by exact (show (0 : Nat) < _ by omega)) (by exact RdS.own pkk)) ?_; refine Hq.yv (y_loadR1 ag3 rfl (RdS.own (ad := ad) (us := nats (mkF w 1)) pkk) hg0) ?_; refine Hq.yv y_mv ?_; refine Hq.yv y_np ?_; refine Hq.yv (y_f 288 208 Tryz.underlying210 sz208) ?_; refine Hq.yv (y_load1 ag208 rfl (Rd.pt1 pkk (by exact woT_at (j := 0) (by omega) rfl))) ?_; refine Hq.yv (y_len Tryz.underlying208 rfl) ?_; refine Hq.yv (y_to (v' := .int .i64 (w.ws.length : Int)) (y_subn rfl rfl (by simp only [InK]; omega)) (by (congr 1; omega))) ?_; refine Hq.yv y_as ?_; refine Hq.yv y_as ?_; refine Hq.yv y_as ?_; refine Hq.nil ?_; refine sk [(4, _), (5, _), (6, _)] hK8 ?_; refine Hd.ret ?_; rw [show mkN w 1 = (w.ws.length : Int) by unfold mkN; rw [if_pos hc0]]; exact Hd.ret3 rfl () rfl rfl (by rw [hc0]; rfl) rfl (Ent.sep (.ex i (.pure ⟨hw, hrs⟩ enn)))
theorem outer_bad (L : List SP) (wb : Nat) (w : WA) (n : Int) (h : n < 1 ∨ 65536 < n) : Ct Tryz.prog 50 #[.pointer (some ⟨wb, 0, none⟩), .int .i64 n] (WorldP wb w :: L) (fun _ : Unit => .tuple #[.int .i64 0, .int .i64 0, .int .i64 2]) (fun _ : Unit => WorldP wb w :: L) := by
 refine Ct.o2 Tryz.func50 ?_; intro E
 show Hd E 35 _ _ _ _
 refine sr fun _ hK1 => ?_
 refine yv y_as <| yv y_as <| yv y_as <| fk [(0, _), (1, _)] hK1 ?_; refine sr fun _ hK2 => ?_
 refine yv y_mv <| callE rfl fk109 (bothbad_ct _ n h) sq ?_; rintro ⟨b, cs⟩; dsimp only; refine Hd.pure (fun hcs => ?_); refine yv y_as <| fk [(0, _), (1, _), (7, _)] hK2 ?_; refine sr fun _ hK3 => ?_
 refine yv y_mv <| yv y_np <| yv (y_f 0 197 Tryz.underlying199 sz197) ?_; refine yv (y_idxA Tryz.underlying197 sz196 rfl rfl (by decide)) ?_; refine yv (y_f 0 3 Tryz.underlying196 sz3) ?_; refine Hd.store1 sz3 rfl rfl rfl pkk (by rw [hcs]; decide) ?_
 try simp only [List.set_cons_zero, List.set_cons_succ]
 refine fk [(0, _), (1, _), (7, _)] hK3 ?_; refine sr fun _ hK4 => ?_
 refine yv y_mv <| yv y_mv <| yv y_mv <| callE rfl fk110 (makebad_ct _ wb b w n h 1) sq ?_; intro _; refine yv y_mv <| yv (y_to (v' := .slice none 0 0) y_ex (by rfl)) ?_; refine yv (y_to (v' := .int .i64 2) y_ex (by rfl)) ?_; refine yv y_as <| yv y_as <| fk [(0, _), (6, _), (8, _)] hK4 ?_; refine Hd.seq fun _ hK5 => ?_
 refine sr fun _ hK6 => ?_
 refine yv y_mv <| yv (y_neq rfl rfl) ?_; refine fk [(0, _), (6, _), (8, _), (24, _)] hK6 ?_; refine Hd.cond rfl (fun hc0 => ?_) (fun hc0 => ?_)
 ·try simp only [hyA, hyB, hyC, ne_eq] at hc0
  refine sr fun _ hK7 => ?_
  refine yv y_mv <| yv y_as <| yv y_as <| yv y_as <| fk [(4, _), (5, _), (6, _)] hK7 ?_; refine Hd.ret <| Hd.thenRet ?_; exact Hd.ret3 rfl () rfl rfl rfl rfl sq
 ·try simp only [hyA, hyB, hyC, ne_eq] at hc0
  exact absurd hc0 (by decide)
def pipeW (n : Nat) : WireA := ((halfW n 2).up 0 fun e => { e with wr := false }).up 1 fun e => { e with rd := false }
theorem pipe_new {n l : Nat} (h : n ≤ 65536) : NewW (pipeW n) l := by
 have e : ∀ k, k < 2 → ((pipeW n).e k).b = [] ∧ ((pipeW n).e k).what = 0 := fun k hk => by
  rcases (show k = 0 ∨ k = 1 by omega) with rfl | rfl <;> exact ⟨rfl, rfl⟩
 refine ⟨⟨fun k hk => ?_, fun k hk => by rw [(e k hk).1]; exact Nat.zero_le _, fun k hk _ => (e k hk).1, h, fun k hk => by rw [(e k hk).2]; decide, ⟨Int.le_refl _, by show (0 : Int) ≤ 64; decide, by show ((0 : Nat) : Int) ≤ 0; decide⟩, fun h1 => absurd h1 (by rw [(e 1 (by omega)).2]; decide)⟩, fun k hk => by rw [(e k hk).2]; decide, rfl⟩
 rcases (show k = 0 ∨ k = 1 by omega) with rfl | rfl <;> rfl
abbrev pwi (i : WI) : WI := ⟨fun j => if j = 0 then i.p 0 else none, i.wa, i.wc⟩
theorem pipe_wire {b n : Nat} {i : WI} {L : List SP} (hi0 : (i.p 0).isSome = true) : ∀ h, sep (pt b (encW (pipeW n) (pwi i)) 199 :: RgO (i.p 0) n [] :: own 3 1 i.wa 0 i.wc [] :: L) h → sep (WireP b (pipeW n) :: L) h := fun h s => by
 refine Ent.sep (Ent.ex (pwi i, 0) (Ent.pure ⟨⟨fun j hj => by
  rcases (show j = 0 ∨ j = 1 by omega) with rfl | rfl
  ·exact hi0
  ·rfl⟩, by omega⟩ ?_)) h s
 show Ent _ (pt b (encW (pipeW n) (pwi i)) 199 :: RgO (i.p 0) n [] :: pu True :: own 3 1 i.wa 0 i.wc [] :: L)
 exact .pick pkk (.pick pkk (.pure trivial enn))
theorem pipe_mk (L : List SP) (wb : Nat) (w : WA) (n : Nat) (h1 : 1 ≤ n) (h2 : n ≤ 65536) : Ct Tryz.prog 54 #[.pointer (some ⟨wb, 0, none⟩), .int .i64 (n : Int)] (WorldP wb w :: L) (fun _ : Unit => .tuple #[.int .i64 (mkI w 2 0), .int .i64 (mkI w 2 1), .int .i64 (mkE w 2)]) (fun _ : Unit => WorldP wb (mkW w 2 (pipeW n)) :: L) := by
 refine Ct.o2 Tryz.func54 ?_; intro E
 show Hd E 37 _ _ _ _
 refine sr fun _ hK1 => ?_
 refine yv y_as <| yv y_as <| yv y_as <| fk [(0, _), (1, _)] hK1 ?_; refine sr fun _ hK2 => ?_
 refine yv y_mv <| callE rfl fk109 (both_ct _ n h1 h2) sq ?_; intro b; refine yv y_as <| fk [(0, _), (1, _), (7, _)] hK2 ?_; refine Hd.seq fun _ hK3 => ?_
 refine Hd.wire pkk 0 (by omega) (fun i hi => ?_)
 have hi0 : (i.p 0).isSome = true := hi.rd 0 (by omega)
 refine Hd.draws mixed ?_; simp only [List.length, Nat.zero_add, Nat.reduceAdd]; refine Hd.take 0 rfl kq kq kq (fun _ => y_move rfl) fq ?_; refine Hd.take 1 rfl kq kq kq (fun _ => y_move rfl) fq ?_; refine Hd.take 2 rfl kq kq kq (fun _ => y_nilp rfl) fq ?_; refine Hd.take 3 rfl kq kq kq (fun _ => y_field' (q := 0) (ft := 197) Tryz.underlying199 rfl sz197 rfl rfl) fq ?_; refine Hd.take 7 rfl kq kq kq (fun _ => y_nilp rfl) fq ?_; refine Hd.take 8 rfl kq kq kq (fun _ => y_field' (q := 0) (ft := 197) Tryz.underlying199 rfl sz197 rfl rfl) fq ?_; refine Hd.tailAt 6 [4, 5] [6, 9, 10, 11] rfl rfl rfl kq ?_; simp only [pk, List.getElem?_cons_zero, List.getElem?_cons_succ]; refine Ht.yv (y_idxA Tryz.underlying197 sz196 rfl rfl (by decide)) ?_; refine Ht.yv (y_f 3 4 Tryz.underlying196 sz4) ?_; refine Ht.nil ?_; refine Hd.store1 sz4 rfl rfl rfl pkk (by simp; done) ?_
 try simp only [List.set_cons_zero, List.set_cons_succ]
 refine yv (y_idxA Tryz.underlying197 sz196 rfl rfl (by decide)) ?_; refine yv (y_f 2 194 Tryz.underlying196 sz194) ?_; refine Hd.store1 sz194 rfl rfl rfl pkk (by simp; done) ?_
 try simp only [List.set_cons_zero, List.set_cons_succ]
 refine Hd.nil <| Hd.noPn ?_; refine Hd.heap (WireP b (pipeW n) :: WorldP wb w :: L) (fun q s => pipe_wire hi0 q (Ent.sep (.eq pkk (pt_eq (by rfl)) (.eq pkk (show RgO (i.p 0) (halfW n 2).cap ((halfW n 2).e 0).b = RgO (i.p 0) n [] from rfl) (.eq pkk (show own 3 1 i.wa (halfW n 2).wt.length i.wc (nats (halfW n 2).wt) = own 3 1 i.wa 0 i.wc [] from rfl) enn))) q s)) ?_; refine sk [(0, _), (1, _), (7, _)] hK3 ?_; refine sr fun _ hK4 => ?_
 refine yv y_mv <| yv y_mv <| yv y_mv <| callE rfl fk110 (make_ct _ wb b w n h1 h2 2 (by omega) (pipeW n) (pipe_new h2)) sq ?_; rintro ⟨ad, c⟩; dsimp only; refine yv y_mv <| yv (y_to (v' := .slice ad (mkF w 2).length c) y_ex (by rfl)) ?_; refine yv (y_to (v' := .int .i64 (mkE w 2)) y_ex (by rfl)) ?_; refine yv y_as <| yv y_as <| fk [(6, _), (8, _)] hK4 ?_; refine Hd.seq fun _ hK5 => ?_
 refine sr fun _ hK6 => ?_
 refine yv y_mv <| yv (y_neq rfl rfl) ?_; refine fk [(6, _), (8, _), (29, _)] hK6 ?_; refine Hd.cond rfl (fun hc0 => ?_) (fun hc0 => ?_)
 ·try simp only [hyA, hyB, hyC, ne_eq] at hc0
  refine sr fun _ hK7 => ?_
  refine yv y_mv <| yv y_as <| yv y_as <| yv y_as <| fk [(4, _), (5, _), (6, _)] hK7 ?_; refine Hd.ret <| Hd.thenRet ?_
  have h : mkF w 2 = [] := by
   rcases mkF_len (w := w) (k := 2) with h | h
   ·exact absurd h.1 hc0
   ·exact h.2
  rw [show mkI w 2 0 = 0 by unfold mkI; rw [h]; rfl, show mkI w 2 1 = 0 by unfold mkI; rw [h]; rfl]; exact Hd.ret3 rfl () rfl rfl rfl rfl sq
 ·try simp only [hyA, hyB, hyC, ne_eq] at hc0
  have hl : (mkF w 2).length = 2 := by
   rcases mkF_len (w := w) (k := 2) with h | h
   ·exact h.2
   ·rw [h.1] at hc0; exact absurd hc0 (by decide)
  have hg0 : (nats (mkF w 2))[0 * 1]? = some (.int .i64 (mkI w 2 0)) := nats_at (by omega)
  have hg1 : (nats (mkF w 2))[1 * 1]? = some (.int .i64 (mkI w 2 1)) := nats_at (by omega)
  refine Hd.skip <| Hd.toK hK5 ?_; refine Hd.seq fun _ hK8 => ?_
  refine Hd.quiet mixed kq ?_; refine Hq.yv y_mv ?_; refine Hq.yv (y_idxR Tryz.underlying44 sz3 rfl rfl (by exact (show (0 : Nat) < _ by omega)) (by exact RdS.own pkk)) ?_; refine Hq.yv (y_loadR1 ag3 rfl (RdS.own (ad := ad) (us := nats (mkF w 2)) pkk) hg0) ?_; refine Hq.yv y_mv ?_; refine Hq.yv (y_idxR Tryz.underlying44 sz3 rfl rfl (by exact (show (1 : Nat) < _ by omega)) (by exact RdS.own pkk)) ?_; refine Hq.yv (y_loadR1 ag3 rfl (RdS.own (ad := ad) (us := nats (mkF w 2)) pkk) hg1) ?_; refine Hq.yv y_as ?_; refine Hq.yv y_as ?_; refine Hq.yv y_as ?_; refine Hq.nil ?_; refine sk [(4, _), (5, _), (6, _)] hK8 ?_; refine Hd.ret ?_; exact Hd.ret3 rfl () rfl rfl (by rw [hc0]; rfl) rfl sq
theorem pipe_bad (L : List SP) (wb : Nat) (w : WA) (n : Int) (h : n < 1 ∨ 65536 < n) : Ct Tryz.prog 54 #[.pointer (some ⟨wb, 0, none⟩), .int .i64 n] (WorldP wb w :: L) (fun _ : Unit => .tuple #[.int .i64 0, .int .i64 0, .int .i64 2]) (fun _ : Unit => WorldP wb w :: L) := by
 refine Ct.o2 Tryz.func54 ?_; intro E
 show Hd E 37 _ _ _ _
 refine sr fun _ hK1 => ?_
 refine yv y_as <| yv y_as <| yv y_as <| fk [(0, _), (1, _)] hK1 ?_; refine sr fun _ hK2 => ?_
 refine yv y_mv <| callE rfl fk109 (bothbad_ct _ n h) sq ?_; rintro ⟨b, cs⟩; dsimp only; refine Hd.pure (fun hcs => ?_); refine yv y_as <| fk [(0, _), (1, _), (7, _)] hK2 ?_; refine Hd.seq fun _ hK3 => ?_
 refine Hd.draws mixed ?_; simp only [List.length, Nat.zero_add, Nat.reduceAdd]; refine Hd.take 0 rfl kq kq kq (fun _ => y_move rfl) fq ?_; refine Hd.take 1 rfl kq kq kq (fun _ => y_move rfl) fq ?_; refine Hd.take 2 rfl kq kq kq (fun _ => y_nilp rfl) fq ?_; refine Hd.take 3 rfl kq kq kq (fun _ => y_field' (q := 0) (ft := 197) Tryz.underlying199 rfl sz197 rfl rfl) fq ?_; refine Hd.take 7 rfl kq kq kq (fun _ => y_nilp rfl) fq ?_; refine Hd.take 8 rfl kq kq kq (fun _ => y_field' (q := 0) (ft := 197) Tryz.underlying199 rfl sz197 rfl rfl) fq ?_; refine Hd.tailAt 6 [4, 5] [6, 9, 10, 11] rfl rfl rfl kq ?_; simp only [pk, List.getElem?_cons_zero, List.getElem?_cons_succ]; refine Ht.yv (y_idxA Tryz.underlying197 sz196 rfl rfl (by decide)) ?_; refine Ht.yv (y_f 3 4 Tryz.underlying196 sz4) ?_; refine Ht.nil ?_; refine Hd.store1 sz4 rfl rfl rfl pkk (by rw [hcs]; decide) ?_
 try simp only [List.set_cons_zero, List.set_cons_succ]
 refine yv (y_idxA Tryz.underlying197 sz196 rfl rfl (by decide)) ?_; refine yv (y_f 2 194 Tryz.underlying196 sz194) ?_; refine Hd.store1 sz194 rfl rfl rfl pkk (by rw [List.length_set, hcs]; decide) ?_
 try simp only [List.set_cons_zero, List.set_cons_succ]
 refine Hd.nil <| Hd.noPn ?_; refine sk [(0, _), (1, _), (7, _)] hK3 ?_; refine sr fun _ hK4 => ?_
 refine yv y_mv <| yv y_mv <| yv y_mv <| callE rfl fk110 (makebad_ct _ wb b w n h 2) sq ?_; intro _; refine yv y_mv <| yv (y_to (v' := .slice none 0 0) y_ex (by rfl)) ?_; refine yv (y_to (v' := .int .i64 2) y_ex (by rfl)) ?_; refine yv y_as <| yv y_as <| fk [(6, _), (8, _)] hK4 ?_; refine Hd.seq fun _ hK5 => ?_
 refine sr fun _ hK6 => ?_
 refine yv y_mv <| yv (y_neq rfl rfl) ?_; refine fk [(6, _), (8, _), (29, _)] hK6 ?_; refine Hd.cond rfl (fun hc0 => ?_) (fun hc0 => ?_)
 ·try simp only [hyA, hyB, hyC, ne_eq] at hc0
  refine sr fun _ hK7 => ?_
  refine yv y_mv <| yv y_as <| yv y_as <| yv y_as <| fk [(4, _), (5, _), (6, _)] hK7 ?_; refine Hd.ret <| Hd.thenRet ?_; exact Hd.ret3 rfl () rfl rfl rfl rfl sq
 ·try simp only [hyA, hyB, hyC, ne_eq] at hc0
  exact absurd hc0 (by decide)
def listW (n : Nat) : WireA := { e := fun _ => blankE, cap := n, rs := false, bl := (n : Int), wt := [] }
theorem list_new {n l : Nat} (h : n ≤ 64) : NewW (listW n) l :=
 ⟨⟨fun k hk => rfl, fun k hk => Nat.zero_le _, fun k hk _ => rfl, by show n ≤ 65536; omega, fun k hk => by show (0 : Int) ≤ 0 ∧ (0 : Int) ≤ 3; decide, ⟨by show (0 : Int) ≤ (n : Int); omega, by show (n : Int) ≤ 64; omega, by show ((0 : Nat) : Int) ≤ (n : Int); omega⟩, fun h1 => absurd (show (0 : Int) = 2 from h1) (by decide)⟩, fun k hk => by show (0 : Int) ≠ 1; decide, rfl⟩
theorem bd_list (n : Int) : Tryz.prog.built 199 [(2, .int .i64 n)] = some ([.int .i64 0, .int .i64 0, .pointer none, .bool false, .bool false, .int .u64 0, .int .u64 0, .int .i64 0, .int .i64 0, .pointer none, .bool false, .bool false, .int .u64 0, .int .u64 0, .bool false, .int .i64 n, .slice none 0 0] : List Value).toArray := by kernel_rfl
theorem listen_mk (L : List SP) (wb : Nat) (w : WA) (n : Nat) (h1 : 1 ≤ n) (h2 : n ≤ 64) : Ct Tryz.prog 56 #[.pointer (some ⟨wb, 0, none⟩), .int .i64 (n : Int)] (WorldP wb w :: L) (fun _ : Unit => .tuple #[.int .i64 (mkI w 1 0), .int .i64 (mkN w 1), .int .i64 (mkE w 1)]) (fun _ : Unit => WorldP wb (mkW w 1 (listW n)) :: L) := by
 refine Ct.o2 Tryz.func56 ?_; intro E
 show Hd E 36 _ _ _ _
 refine Hd.world .here (fun i hw hrs => ?_); refine sr fun _ hK1 => ?_
 refine yv y_as <| yv y_as <| yv y_as <| fk [(0, _), (1, _)] hK1 ?_; refine Hd.seq fun _ hK2 => ?_
 refine sr fun _ hK3 => ?_
 refine yv y_mv <| callE rfl fk113 (wnone_ct _ wb w.at w i.rs.length i) sq ?_; intro _; refine yv (y_not rfl) ?_; refine yv y_mv ?_; apply Hd.andg 3 11 14 [(0, _), (1, _)] rfl sbq
 ·intro _
  simp only [List.take]; refine y2 y_mv <| y2 (y_gtr rfl rfl) ?_; refine yv (y_pickT rfl rfl) ?_; refine Hd.nil ?_; exact Hd.mq
 ·intro _
  simp only [List.take]; refine n1 <| n1 <| yv (y_pickF rfl rfl) ?_; refine Hd.nil ?_; exact Hd.mq
 simp only [List.drop]; refine fk [(0, _), (1, _), (14, _)] hK3 ?_; refine Hd.cond rfl (fun hc0 => ?_) (fun hc0 => ?_)
 ·try simp only [hyA, hyB, hyC, ne_eq] at hc0
  exfalso; omega
 ·try simp only [hyA, hyB, hyC, ne_eq] at hc0
  refine Hd.skip <| Hd.toK hK2 ?_; refine sr fun _ hK4 => ?_
  refine yv y_mv <| yv y_mv <| yv y_mv <| yv (y_build (vs := [(2, _)]) rfl (bd_list (n : Int))) ?_; refine Hd.box (us := [.int .i64 0, .int .i64 0, .pointer none, .bool false, .bool false, .int .u64 0, .int .u64 0, .int .i64 0, .int .i64 0, .pointer none, .bool false, .bool false, .int .u64 0, .int .u64 0, .bool false, .int .i64 (n : Int), .slice none 0 0]) rfl rfl (fun b20 => ?_); refine Hd.heap (WorldP wb w :: WireP b20 (listW n) :: L) (fun q s => Ent.sep (.ex i (.pure ⟨hw, hrs⟩ (.pick pkk (.pick pkk (.pick pkk (.pick pkk (.ex (⟨fun _ => none, none, 0⟩, 0) (.pure ⟨⟨fun j _ => rfl⟩, by omega⟩ (.eq pkk (pt_eq (by rfl)) (.pure trivial (.pure trivial (.ownNil enn)))))))))))) q s) ?_; refine callE rfl fk110 (make_ct _ wb b20 w n h1 (by omega) 1 (by omega) (listW n) (list_new h2)) sq ?_; rintro ⟨ad, c⟩; dsimp only; refine yv y_mv <| yv (y_to (v' := .slice ad (mkF w 1).length c) y_ex (by rfl)) ?_
  refine yv (y_to (v' := .int .i64 (mkE w 1)) y_ex (by rfl)) ?_; refine yv y_as <| yv y_as <| fk [(0, _), (6, _), (7, _)] hK4 ?_; refine Hd.seq fun _ hK5 => ?_
  refine sr fun _ hK6 => ?_
  refine yv y_mv <| yv (y_neq rfl rfl) ?_; refine fk [(0, _), (6, _), (7, _), (25, _)] hK6 ?_; refine Hd.cond rfl (fun hc1 => ?_) (fun hc1 => ?_)
  ·try simp only [hyA, hyB, hyC, ne_eq] at hc1
   refine sr fun _ hK7 => ?_
   refine yv y_mv <| yv y_as <| yv y_as <| yv y_as <| fk [(4, _), (5, _), (6, _)] hK7 ?_; refine Hd.ret <| Hd.thenRet ?_
   have h : mkF w 1 = [] := by
    rcases mkF_len (w := w) (k := 1) with h | h
    ·exact absurd h.1 hc1
    ·exact h.2
   rw [show mkI w 1 0 = 0 by unfold mkI; rw [h]; rfl, show mkN w 1 = 0 by unfold mkN; rw [if_neg hc1]]; exact Hd.ret3 rfl () rfl rfl rfl rfl sq
  ·try simp only [hyA, hyB, hyC, ne_eq] at hc1
   have hl : (mkF w 1).length = 1 := by
    rcases mkF_len (w := w) (k := 1) with h | h
    ·exact h.2
    ·rw [h.1] at hc1; exact absurd hc1 (by decide)
   have hg0 : (nats (mkF w 1))[0 * 1]? = some (.int .i64 (mkI w 1 0)) := nats_at (by omega)
   have hwl := mkW_len (x := listW n) hc1
   refine Hd.skip <| Hd.toK hK5 ?_; refine Hd.seq fun _ hK8 => ?_
   refine Hd.world pkk (fun i hw hrs => ?_)
   have hrl : i.rs.length = w.ws.length + 1 := by rw [← hwl, ← hrs, List.length_map]
   have hln : i.rs.length ≤ 1000 := by rw [hrl, ← hwl]; exact hw.len
   refine Hd.quiet mixed kq ?_; refine Hq.yv y_mv ?_; refine Hq.yv (y_idxR Tryz.underlying44 sz3 rfl rfl (by exact (show (0 : Nat) < _ by omega)) (by exact RdS.own pkk)) ?_; refine Hq.yv (y_loadR1 ag3 rfl (RdS.own (ad := ad) (us := nats (mkF w 1)) pkk) hg0) ?_; refine Hq.yv y_mv ?_; refine Hq.yv y_np ?_; refine Hq.yv (y_f 288 208 Tryz.underlying210 sz208) ?_; refine Hq.yv (y_load1 ag208 rfl (Rd.pt1 pkk (by exact woT_at (j := 0) (by omega) rfl))) ?_; refine Hq.yv (y_len Tryz.underlying208 rfl) ?_; refine Hq.yv (y_to (v' := .int .i64 (w.ws.length : Int)) (y_subn rfl rfl (by simp only [InK]; omega)) (by (congr 1; omega))) ?_; refine Hq.yv y_as ?_; refine Hq.yv y_as ?_; refine Hq.yv y_as ?_; refine Hq.nil ?_; refine sk [(4, _), (5, _), (6, _)] hK8 ?_; refine Hd.ret ?_; rw [show mkN w 1 = (w.ws.length : Int) by unfold mkN; rw [if_pos hc1]]; exact Hd.ret3 rfl () rfl rfl (by rw [hc1]; rfl) rfl (Ent.sep (.ex i (.pure ⟨hw, hrs⟩ enn)))
theorem listen_bad (L : List SP) (wb : Nat) (w : WA) (n : Int) (h : n < 1 ∨ 64 < n) : Ct Tryz.prog 56 #[.pointer (some ⟨wb, 0, none⟩), .int .i64 n] (WorldP wb w :: L) (fun _ : Unit => .tuple #[.int .i64 0, .int .i64 0, .int .i64 2]) (fun _ : Unit => WorldP wb w :: L) := by
 refine Ct.o2 Tryz.func56 ?_; intro E
 show Hd E 36 _ _ _ _
 refine Hd.world .here (fun i hw hrs => ?_); refine sr fun _ hK1 => ?_
 refine yv y_as <| yv y_as <| yv y_as <| fk [(0, _), (1, _)] hK1 ?_; refine Hd.seq fun _ hK2 => ?_
 refine sr fun _ hK3 => ?_
 refine yv y_mv <| callE rfl fk113 (wnone_ct _ wb w.at w i.rs.length i) sq ?_; intro _; refine yv (y_not rfl) ?_; refine yv y_mv ?_; apply Hd.andg 3 11 14 [(0, _), (1, _)] rfl sbq
 ·intro _
  simp only [List.take]; refine y2 y_mv <| y2 (y_gtr rfl rfl) ?_; refine yv (y_pickT rfl rfl) ?_; refine Hd.nil ?_; exact Hd.mq
 ·intro _
  simp only [List.take]; refine n1 <| n1 <| yv (y_pickF rfl rfl) ?_; refine Hd.nil ?_; exact Hd.mq
 simp only [List.drop]; refine fk [(0, _), (1, _), (14, _)] hK3 ?_; refine Hd.cond rfl (fun hc0 => ?_) (fun hc0 => ?_)
 ·try simp only [hyA, hyB, hyC, ne_eq] at hc0
  refine sr fun _ hK4 => ?_
  refine yv y_as <| yv y_as <| yv y_as <| fk [(4, _), (5, _), (6, _)] hK4 ?_; refine Hd.ret <| Hd.thenRet ?_; exact Hd.ret3 rfl () rfl rfl rfl rfl (Ent.sep (.ex i (.pure ⟨hw, hrs⟩ enn)))
 ·try simp only [hyA, hyB, hyC, ne_eq] at hc0
  have hn : n < 1 := by simp at hc0; omega
  refine Hd.heap (WorldP wb w :: L) (Ent.sep (.ex i (.pure ⟨hw, hrs⟩ enn))) ?_; refine Hd.skip <| Hd.toK hK2 ?_; refine sr fun _ hK5 => ?_
  refine yv y_mv <| yv y_mv <| yv y_mv <| yv (y_build (vs := [(2, _)]) rfl (bd_list n)) ?_; refine Hd.box (us := [.int .i64 0, .int .i64 0, .pointer none, .bool false, .bool false, .int .u64 0, .int .u64 0, .int .i64 0, .int .i64 0, .pointer none, .bool false, .bool false, .int .u64 0, .int .u64 0, .bool false, .int .i64 n, .slice none 0 0]) rfl rfl (fun b20 => ?_); refine callE rfl fk110 (makebad_ct _ wb b20 w n (.inl hn) 1) sq ?_; intro _; refine yv y_mv <| yv (y_to (v' := .slice none 0 0) y_ex (by rfl)) ?_; refine yv (y_to (v' := .int .i64 2) y_ex (by rfl)) ?_; refine yv y_as <| yv y_as <| fk [(0, _), (6, _), (7, _)] hK5 ?_; refine Hd.seq fun _ hK6 => ?_
  refine sr fun _ hK7 => ?_
  refine yv y_mv <| yv (y_neq rfl rfl) ?_; refine fk [(0, _), (6, _), (7, _), (25, _)] hK7 ?_; refine Hd.cond rfl (fun hc1 => ?_) (fun hc1 => ?_)
  ·try simp only [hyA, hyB, hyC, ne_eq] at hc1
   refine sr fun _ hK8 => ?_
   refine yv y_mv <| yv y_as <| yv y_as <| yv y_as <| fk [(4, _), (5, _), (6, _)] hK8 ?_; refine Hd.ret <| Hd.thenRet ?_; exact Hd.ret3 rfl () rfl rfl rfl rfl sq
  ·try simp only [hyA, hyB, hyC, ne_eq] at hc1
   exact absurd hc1 (by decide)
def optW : Option (Nat × WireA) → SP
 | none => pu True
 | some p => WireP p.1 p.2
theorem map_optW (rs : List (Nat × WireA)) : (rs.map some).map optW = rs.map fun p => WireP p.1 p.2 := by rw [List.map_map]; rfl
theorem wires_bag {rs : List (Nat × WireA)} {L : List SP} {h : PH} (s : sep (Wires rs :: L) h) : sep (Bag optW (rs.map some) :: L) h := by
 obtain ⟨h1, h2, d, s1, s2, ⟨x⟩, y⟩ := s
 exact ⟨h1, h2, d, s1, s2, ⟨by rw [map_optW]; exact x⟩, y⟩
theorem bag_wires {rs : List (Nat × WireA)} {L : List SP} {h : PH} (s : sep (Bag optW (rs.map some) :: L) h) : sep (Wires rs :: L) h := by
 obtain ⟨h1, h2, d, s1, s2, ⟨x⟩, y⟩ := s
 exact ⟨h1, h2, d, s1, s2, ⟨by rw [← map_optW]; exact x⟩, y⟩
theorem bag_take {os : List (Option (Nat × WireA))} {j b : Nat} {x : WireA} {L : List SP} {h : PH} (hj : os[j]? = some (some (b, x))) (s : sep (Bag optW os :: L) h) : sep (WireP b x :: Bag optW (os.set j none) :: L) h := by
 have h1 := bag_out hj s
 have hl := (List.getElem?_eq_some_iff.1 hj).1
 have h2 : sep (optW none :: Bag optW (os.take j) :: Bag optW (os.drop (j + 1)) :: WireP b x :: L) h := Ent.sep (show Ent (WireP b x :: Bag optW (os.take j) :: Bag optW (os.drop (j + 1)) :: L) (pu True :: Bag optW (os.take j) :: Bag optW (os.drop (j + 1)) :: WireP b x :: L) from .pure trivial enn) h h1
 exact Ent.sep enn h (bag_in hl h2)
theorem bag_give {os : List (Option (Nat × WireA))} {j b : Nat} {x : WireA} {L : List SP} {h : PH} (hj : os[j]? = some none) (s : sep (WireP b x :: Bag optW os :: L) h) : sep (Bag optW (os.set j (some (b, x))) :: L) h := by
 have hl := (List.getElem?_eq_some_iff.1 hj).1
 have h1 : sep (Bag optW os :: WireP b x :: L) h := Ent.sep enn h s
 have h2 := bag_out hj h1
 have h3 : sep (optW (some (b, x)) :: Bag optW (os.take j) :: Bag optW (os.drop (j + 1)) :: L) h := Ent.sep (show Ent (pu True :: Bag optW (os.take j) :: Bag optW (os.drop (j + 1)) :: WireP b x :: L) (WireP b x :: Bag optW (os.take j) :: Bag optW (os.drop (j + 1)) :: L) from enn) h h2
 exact bag_in hl h3
def clo1 (rs : List (Nat × WireA)) (n : Nat) : List (Nat × WireA) := match rs[n]? with
 | some p => rs.set n (p.1, closeW p.2 0)
 | none => rs
def closeL (rs : List (Nat × WireA)) (l : List Nat) : List (Nat × WireA) := l.foldl clo1 rs
theorem closeL_snoc (rs : List (Nat × WireA)) (l : List Nat) (n : Nat) : closeL rs (l ++ [n]) = clo1 (closeL rs l) n := by unfold closeL; rw [List.foldl_append]; rfl
theorem clo1_fst (rs : List (Nat × WireA)) (n : Nat) : (clo1 rs n).map Prod.fst = rs.map Prod.fst := by
 unfold clo1
 split
 ·rename_i p hp
  rw [List.map_set]; apply List.ext_getElem?; intro j
  by_cases e : n = j
  ·subst e
   rw [List.getElem?_set_self (by rw [List.length_map]; exact (List.getElem?_eq_some_iff.1 hp).1), List.getElem?_map, hp]; rfl
  ·rw [List.getElem?_set_ne e]
 ·rfl
theorem closeL_fst : ∀ (l : List Nat) (rs : List (Nat × WireA)), (closeL rs l).map Prod.fst = rs.map Prod.fst
 | [], _ => rfl
 | n :: t, rs => by
  show (closeL (clo1 rs n) t).map Prod.fst = _
  rw [closeL_fst t, clo1_fst]
theorem clo1_snd (rs : List (Nat × WireA)) (n : Nat) : (clo1 rs n).map Prod.snd = match (rs.map Prod.snd)[n]? with | some y => (rs.map Prod.snd).set n (closeW y 0) | none => rs.map Prod.snd := by
 unfold clo1; rw [List.getElem?_map]
 cases h : rs[n]? with
 | none => rfl
 | some p => show (rs.set n _).map Prod.snd = _; rw [List.map_set]; rfl
theorem closeL_snd : ∀ (l : List Nat) (rs : List (Nat × WireA)), (closeL rs l).map Prod.snd = closeAll (rs.map Prod.snd) l
 | [], _ => rfl
 | n :: t, rs => by
  show (closeL (clo1 rs n) t).map Prod.snd = closeAll _ t
  rw [closeL_snd t, clo1_snd]
  try rfl
theorem closeL_len (l : List Nat) (rs : List (Nat × WireA)) : (closeL rs l).length = rs.length := by
 have := congrArg List.length (closeL_fst l rs)
 rwa [List.length_map, List.length_map] at this
theorem closeAll_set : ∀ (l : List Nat) (ws : List WireA) {m : Nat} {X : WireA}, m ∉ l → closeAll (ws.set m X) l = (closeAll ws l).set m X
 | [], _, _, _, _ => rfl
 | n :: t, ws, m, X, h => by
  have hne : m ≠ n := fun e => h (e ▸ List.mem_cons_self)
  have ht : m ∉ t := fun e => h (List.mem_cons_of_mem _ e)
  show closeAll (match (ws.set m X)[n]? with | some y => (ws.set m X).set n (closeW y 0) | none => ws.set m X) t = (closeAll (match ws[n]? with | some y => ws.set n (closeW y 0) | none => ws) t).set m X
  rw [List.getElem?_set_ne hne]
  cases h2 : ws[n]? with
  | none => exact closeAll_set t ws ht
  | some y =>
   show closeAll ((ws.set m X).set n (closeW y 0)) t = (closeAll (ws.set n (closeW y 0)) t).set m X
   rw [List.set_comm _ _ hne, closeAll_set t _ ht]
theorem world_all {wb : Nat} {w w' : WA} {i : WoI} {rs' : List (Nat × WireA)} {t : Int → Option (Nat × Nat)} {L : List SP} (hok : WOk w') (hf : rs'.map Prod.fst = i.rs.map Prod.fst) (hws : rs'.map Prod.snd = w'.ws) (hat : w'.at = t) (hr : w' = { w with ws := w'.ws }) :
  ∀ h, sep (Wires rs' :: WoH wb t w i.rs.length i :: own 191 1 i.wa i.rs.length i.wc (pws i.rs) :: SigP i.sb w.hd w.ct :: L) h → sep (WorldP wb w' :: L) h := by
 intro h s
 have hl : rs'.length = i.rs.length := by have := congrArg List.length hf; rwa [List.length_map, List.length_map] at this
 have hp : pws rs' = pws i.rs := by
  have : ∀ l : List (Nat × WireA), pws l = (l.map Prod.fst).map fun b => ptr (some b) := fun l => by unfold pws; rw [List.map_map]; rfl
  rw [this, this, hf]
 have hsg : SigP i.sb w.hd w.ct = SigP i.sb w'.hd w'.ct := by rw [hr]
 refine Ent.sep (.ex { i with rs := rs' } (.pure ⟨hok, hws⟩ ?_)) h s; exact .eq pkk (pt_eq (show fdC t ++ woT w i.rs.length i = fdC w'.at ++ woT w' rs'.length { i with rs := rs' } by rw [hat, hl, hr])) (.eq pkk (own_eq3 hl.symm rfl hp.symm) (.pick pkk (.eq pkk hsg enn)))
abbrev WoS (wb : Nat) (t : Int → Option (Nat × Nat)) (w : WA) (i : WoI) (L : List SP) : List SP := WoH wb t w i.rs.length i :: own 191 1 i.wa i.rs.length i.wc (pws i.rs) :: SigP i.sb w.hd w.ct :: L
theorem wclose_ct (L : List SP) (wb : Nat) (w : WA) (fd : Int) : Ct Tryz.prog 67 #[.pointer (some ⟨wb, 0, none⟩), .int .i64 fd] (WorldP wb w :: L) (fun _ : Unit => .int .i64 (closeF w fd).1) (fun _ : Unit => WorldP wb (closeF w fd).2 :: L) := by
 refine Ct.o2 Tryz.func67 ?_; intro E
 show Hd E 51 _ _ _ _
 refine Hd.world .here (fun i hw hrs => ?_); refine sr fun _ hK1 => ?_
 refine yv y_as <| fk [(0, _), (1, _)] hK1 ?_; refine sr fun _ hK2 => ?_
 refine yv y_mv <| yv y_mv <| callE rfl fk101 (find_ct _ wb w i hw hrs fd) sq ?_; intro _; refine yv y_mv <| yv y_ex <| yv y_ex <| yv y_ex <| Hd.alloc zr190 (fun b5 => ?_); refine Hd.storeA (us := plc (w.at fd)) (by rw [plc_len]; exact sz190) rfl rfl rfl (plc_one _) pkk (by rw [plc_len]; rfl) ?_; refine yv (y_to (v' := ptr (wfb i (w.at fd))) y_as (by rfl)) ?_; refine yv (y_to (v' := .int .i64 (fdErr (w.at fd))) y_as (by rfl)) ?_; refine fk [(0, _), (1, _), (5, _), (6, _), (7, _)] hK2 ?_; refine Hd.seq fun _ hK3 => ?_
 refine sr fun _ hK4 => ?_
 refine yv y_mv <| yv (y_neq rfl rfl) ?_; refine fk [(0, _), (1, _), (5, _), (6, _), (7, _), (18, _)] hK4 ?_; refine Hd.cond rfl (fun hc0 => ?_) (fun hc0 => ?_)
 ·try simp only [hyA, hyB, hyC, ne_eq] at hc0
  refine sr fun _ hK5 => ?_
  refine yv y_mv <| yv y_as <| fk [(4, _)] hK5 ?_; refine Hd.ret <| Hd.thenRet ?_
  have hno : w.at fd = none := by
   cases h : w.at fd with
   | none => rfl
   | some p => rw [h] at hc0; exact absurd rfl hc0
  rw [show closeF w fd = (110, w) by unfold closeF; rw [hno]]; exact Hd.ret1 rfl () (by rw [hno]; rfl) (Ent.sep (.ex i (.pure ⟨hw, hrs⟩ enn)))
 ·try simp only [hyA, hyB, hyC, ne_eq] at hc0
  obtain ⟨m0, k, hnk⟩ : ∃ m k, w.at fd = some (m, k) := by
   cases h : w.at fd with
   | none => rw [h] at hc0; exact absurd hc0 (by decide)
   | some p => exact ⟨p.1, p.2, rfl⟩
  obtain ⟨hf0, hf1, hk, hn, x, hx, _, _⟩ := hw.at_lt hnk
  obtain ⟨b, hb⟩ := rs_at hrs hx
  have hm0 := hw.ns m0 x hx
  have hcl := closeF_ok hw fd
  have hrd : closeF w fd = (0, { w with ws := closeAll (w.ws.set m0 ((closeW x k).wts [])) x.wt }) := by unfold closeF; rw [hnk]; dsimp only; rw [hx]
  have hml : m0 < i.rs.length := (List.getElem?_eq_some_iff.1 hb).1
  have hwl := wt_le hw hx
  rw [hnk, wfb_eq hb]
  obtain ⟨f, hf⟩ : ∃ f : Nat, fd = (f : Int) := ⟨fd.toNat, by omega⟩
  subst hf
  have hf96 : f < 96 := by omega
  refine Hd.skip <| Hd.toK hK3 ?_; refine sr fun _ hK6 => ?_
  refine yv y_mv <| yv y_mv <| yv (y_build (cs := (plc none).toArray) (vs := []) rfl kq) ?_; refine yv y_np <| yv (y_f 0 207 Tryz.underlying210 sz207) ?_; refine yv (y_idxA Tryz.underlying207 sz190 rfl rfl (by omega)) ?_; refine Hd.store (us := plc none) sz190 rfl rfl rfl (plc_one _) pkk (by rw [List.length_append, fdC_len, plc_len]; omega) ?_; refine Hd.nil ?_; rw [show 0 + 0 + f * 3 = f * 3 by omega, show (plc none).length = 3 from rfl, fdC_set hf96]; refine Hd.heap (WireP b x :: Bag optW ((i.rs.map some).set m0 none) :: pt b5 (plc (some (m0, k))) 190 :: WoS wb (setT w.at f none) w i L) (fun q s => bag_take (by rw [List.getElem?_map, hb]; rfl) (wires_bag (Ent.sep enn q s))) ?_; refine sk [(0, _), (5, _), (6, _)] hK6 ?_; refine sr fun _ hK7 => ?_
  refine yv y_mv <| yv (y_f 2 3 Tryz.underlying190 sz3) ?_; refine yv (y_l1 ag3 rfl) ?_; refine callE rfl fk122 (close_ct _ b x k hk) sq ?_; intro _; refine fk [(0, _), (6, _)] hK7 ?_; refine Hd.seq fun _ hK8 => ?_
  refine Hd.seq fun _ hK9 => ?_
  refine Hd.wire .here k hk (fun i2 hi => ?_); refine Hd.region <| yv y_mv <| yv y_np <| yv (y_f 16 44 Tryz.underlying199 sz44) ?_; refine yv (y_to (v' := .slice i2.wa x.wt.length i2.wc) (y_l1 ag44 rfl) (by rfl)) ?_; refine yv (y_len Tryz.underlying44 rfl) ?_; refine yv y_mv <| fk [(0, _), (6, _), (33, _), (34, _), (35, _)] hK9 ?_; refine Hd.block <| Hd.loopK (ι := Nat) [(0, _), (6, _), (33, _), (34, _)] (fun j => [(35, .int .i64 (j : Int))]) (fun j => pu (j ≤ x.wt.length) :: Bag optW (((closeL i.rs (x.wt.take j)).map some).set m0 none) :: WireH b (closeW x k) i2 :: RgO (i2.p k) (closeW x k).cap ((closeW x k).e k).b :: RgO (i2.p (1 - k)) (closeW x k).cap ((closeW x k).e (1 - k)).b :: own 3 1 i2.wa x.wt.length i2.wc (nats x.wt) :: pt b5 (plc (some (m0, k))) 190 :: WoS wb (setT w.at f none) w i L) (fun j => x.wt.length - j) 0 sbq sbq (Ent.sep (.pure (Nat.zero_le _) (.eq pkk (show Bag optW ((i.rs.map some).set m0 none) = Bag optW (((closeL i.rs (x.wt.take 0)).map some).set m0 none) from rfl) (.pick pkk (.pick pkk (.pick pkk (.eq pkk (show own 3 1 i2.wa (closeW x k).wt.length i2.wc (nats (closeW x k).wt) = own 3 1 i2.wa x.wt.length i2.wc (nats x.wt) from rfl) enn))))))) ?_
  intro j
  try dsimp only
  refine Hd.pure (fun hp0 => ?_)
  try dsimp only at hp0
  refine sr fun _ hK10 => ?_
  refine yv (y_lss rfl rfl) ?_; refine fk [(0, _), (6, _), (33, _), (34, _), (35, _), (36, _)] hK10 ?_; refine Hd.seq fun _ hK11 => ?_
  refine Hd.cond rfl (fun hc1 => ?_) (fun hc1 => ?_)
  ·try simp only [hyA, hyB, hyC, ne_eq] at hc1
   have hj : j < x.wt.length := by omega
   have hgj := nats_at hj
   obtain ⟨n, hn⟩ : ∃ n, n = x.wt.getD j 0 := ⟨_, rfl⟩
   have hnj : x.wt[j]? = some n := by rw [hn, List.getD_eq_getElem?_getD, List.getElem?_eq_getElem hj]; rfl
   have hnm : n ∈ x.wt := List.mem_of_getElem? hnj
   obtain ⟨y0, hy0, _⟩ := hw.wm n (List.mem_flatMap.2 ⟨x, List.mem_of_getElem? hx, hnm⟩)
   obtain ⟨bn, hbn⟩ := rs_at hrs hy0
   have hnl : n < i.rs.length := (List.getElem?_eq_some_iff.1 hbn).1
   have hnm0 : n ≠ m0 := fun e => hm0 (e ▸ hnm)
   obtain ⟨yn, hyn⟩ : ∃ yn, (closeL i.rs (x.wt.take j))[n]? = some (bn, yn) := by
    have h1 : (closeL i.rs (x.wt.take j))[n]? = some ((closeL i.rs (x.wt.take j))[n]'(by rw [closeL_len]; exact hnl)) := List.getElem?_eq_getElem _
    have h2 : ((closeL i.rs (x.wt.take j)).map Prod.fst)[n]? = some bn := by rw [closeL_fst, List.getElem?_map, hbn]; rfl
    rw [List.getElem?_map, h1] at h2; exact ⟨_, by rw [h1]; exact congrArg some (Prod.ext (Option.some.inj h2) rfl)⟩
   have htk : closeL i.rs (x.wt.take (j + 1)) = (closeL i.rs (x.wt.take j)).set n (bn, closeW yn 0) := by
    rw [List.take_add_one, hnj]
    show closeL i.rs (x.wt.take j ++ [n]) = _
    rw [closeL_snoc]; unfold clo1; rw [hyn]
   rw [← hn] at hgj; refine Hd.skip <| Hd.toK hK11 ?_; refine Hd.seq fun _ hK12 => ?_
   refine Hd.block <| sr fun _ hK13 => ?_
   refine yv (y_idxR Tryz.underlying44 sz3 rfl rfl (by omega) (by exact RdS.own pkk)) ?_; refine yv (y_loadR1 ag3 rfl (RdS.own (ad := i2.wa) (us := nats x.wt) pkk) hgj) ?_; refine yv y_as <| fk [(0, _), (6, _), (9, _), (33, _), (34, _), (35, _)] hK13 ?_; refine Hd.region <| yv y_mv <| yv y_np <| yv (y_f 288 208 Tryz.underlying210 sz208) ?_; refine yv (y_load1 ag208 rfl (Rd.pt1 pkk (by exact woT_at (j := 0) (by omega) rfl))) ?_; refine yv y_mv <| yv (y_idxR Tryz.underlying208 sz191 rfl rfl (by omega) (by exact RdS.own pkk)) ?_; refine yv (y_loadR1 ag191 rfl (by exact RdS.own pkk) (by exact pws_at hbn)) ?_; refine Hd.heap (WireP bn yn :: Bag optW ((((closeL i.rs (x.wt.take j)).map some).set m0 none).set n none) :: WireH b (closeW x k) i2 :: RgO (i2.p k) (closeW x k).cap ((closeW x k).e k).b :: RgO (i2.p (1 - k)) (closeW x k).cap ((closeW x k).e (1 - k)).b :: own 3 1 i2.wa x.wt.length i2.wc (nats x.wt) :: pt b5 (plc (some (m0, k))) 190 :: WoS wb (setT w.at f none) w i L) (fun q s => bag_take (by rw [List.getElem?_set_ne (Ne.symm hnm0), List.getElem?_map, hyn]; rfl) (Ent.sep enn q s)) ?_
   refine callE rfl fk122 (close_ct _ bn yn 0 (by omega)) sq ?_; intro _
   refine Hd.heap (Bag optW (((closeL i.rs (x.wt.take (j + 1))).map some).set m0 none) :: WireH b (closeW x k) i2 :: RgO (i2.p k) (closeW x k).cap ((closeW x k).e k).b :: RgO (i2.p (1 - k)) (closeW x k).cap ((closeW x k).e (1 - k)).b :: own 3 1 i2.wa x.wt.length i2.wc (nats x.wt) :: pt b5 (plc (some (m0, k))) 190 :: WoS wb (setT w.at f none) w i L) (fun q s => by
    have h1 := bag_give (j := n) (b := bn) (x := closeW yn 0) (by rw [List.getElem?_set_self (by simp [closeL_len]; exact hnl)]) s
    rw [List.set_set, List.set_comm _ _ (Ne.symm hnm0), show (List.map some (closeL i.rs (x.wt.take j))).set n (some (bn, closeW yn 0)) = (closeL i.rs (x.wt.take (j + 1))).map some by rw [htk, List.map_set]] at h1
    exact h1) ?_
   refine Hd.nil <| slots [(0, _), (6, _), (33, _), (34, _), (35, _)] sbq ?_; refine Hd.inB <| Hd.toK hK12 ?_; refine Hd.region <| yv (y_addn rfl rfl (by simp only [InK]; omega)) ?_; refine yv y_mv <| Hd.nil <| slots [(0, _), (6, _), (33, _), (34, _), (35, _)] sbq ?_; refine thenN ?_; exact Hd.again (j + 1) (by omega) sbq (Ent.sep (.pure (by omega) enn))
  ·try simp only [hyA, hyB, hyC, ne_eq] at hc1
   obtain rfl : j = x.wt.length := by omega
   rw [List.take_length]; refine Hd.exit <| Hd.thenExit <| Hd.thenExit <| Hd.inBexit <| Hd.toK hK8 ?_; refine sr fun _ hK14 => ?_
   refine yv y_mv <| yv y_np <| yv (y_f 16 44 Tryz.underlying199 sz44) ?_; refine Hd.store1 sz44 rfl rfl rfl pkk (by simp; done) ?_
   try simp only [List.set_cons_zero, List.set_cons_succ]
   refine Hd.nil ?_; rw [show (encW (closeW x k) i2).set (0 + 16) (.slice none 0 0) = encW ((closeW x k).wts []) { i2 with wa := none, wc := 0 } from rfl]; refine Hd.heap (WireP b ((closeW x k).wts []) :: Bag optW (((closeL i.rs x.wt).map some).set m0 none) :: WoS wb (setT w.at f none) w i L) (fun q s => wire_fold (x := (closeW x k).wts []) (i := { i2 with wa := none, wc := 0 }) (k := k) ⟨hi.rd⟩ hk q (Ent.sep (show Ent _ (pt b (encW ((closeW x k).wts []) { i2 with wa := none, wc := 0 }) 199 :: RgO (i2.p k) (closeW x k).cap ((closeW x k).e k).b :: RgO (i2.p (1 - k)) (closeW x k).cap ((closeW x k).e (1 - k)).b :: own 3 1 none 0 0 [] :: Bag optW (((closeL i.rs x.wt).map some).set m0 none) :: WoS wb (setT w.at f none) w i L) from .pick pkk (.pick pkk (.pick pkk (.ownNil enn)))) q s)) ?_; refine sk [] hK14 ?_; refine sr fun _ hK15 => ?_
   refine yv y_as <| fk [(4, _)] hK15 ?_; refine Hd.ret ?_
   have hws : ((closeL i.rs x.wt).set m0 (b, (closeW x k).wts [])).map Prod.snd = closeAll (w.ws.set m0 ((closeW x k).wts [])) x.wt := by
    rw [List.map_set, closeL_snd, hrs, closeAll_set _ _ hm0]
   have hfs : ((closeL i.rs x.wt).set m0 (b, (closeW x k).wts [])).map Prod.fst = i.rs.map Prod.fst := by
    rw [List.map_set, closeL_fst]; apply List.ext_getElem?; intro j
    by_cases e : m0 = j
    ·subst e
     rw [List.getElem?_set_self (by rw [List.length_map]; exact hml), List.getElem?_map, hb]; rfl
    ·rw [List.getElem?_set_ne e]
   rw [hrd] at hcl ⊢
   exact Hd.ret1 rfl () rfl (fun q s => world_all hcl.1 hfs hws hcl.2.1 rfl q (bag_wires (by
    have h1 := bag_give (j := m0) (b := b) (x := (closeW x k).wts []) (by rw [List.getElem?_set_self (by simp [closeL_len]; exact hml)]) s
    rw [List.set_set, show (List.map some (closeL i.rs x.wt)).set m0 (some (b, (closeW x k).wts [])) = ((closeL i.rs x.wt).set m0 (b, (closeW x k).wts [])).map some by rw [List.map_set]] at h1
    exact h1)))
end Wo
end Go.Proofs.YtbfddabjbkohdaaGreat
namespace Go.Proofs.YtbfddabjbkohdaaGreat
set_option maxHeartbeats 2000000
open Go.RX.Hd (yv y2 n1 fk sk sr tH callE heldK onlyH endH thenN slots)
set_option linter.unusedSimpArgs false
set_option linter.unusedVariables false
set_option linter.unnecessarySimpa false
open Go.RX Fx
namespace Kq
open Wo
set_option maxRecDepth 8000
theorem same16_ct (L : List SP) (a1 : Option Addr) (c1 : Nat) (xs : List NoA) (h1 : RdS L 4 a1 xs.length (xs.flatMap encNo)) (hb1 : xs.length ≤ 1000000) (a2 : Option Addr) (c2 : Nat) (ys : List NoA) (h2 : RdS L 4 a2 ys.length (ys.flatMap encNo)) (hb2 : ys.length ≤ 1000000) : Ct Tryz.prog 31 #[.slice a1 xs.length c1, .slice a2 ys.length c2] (L) (fun _ : Unit => .bool (decide (xs = ys))) (fun _ : Unit => L) := by
 refine Ct.o2 Tryz.func31 ?_; intro E
 show Hd E 26 _ _ _ _
 refine sr fun _ hK1 => ?_
 refine yv y_as <| fk [(0, _), (1, _)] hK1 ?_; refine Hd.seq fun _ hK2 => ?_
 refine sr fun _ hK3 => ?_
 refine yv y_mv <| yv (y_len Tryz.underlying67 rfl) ?_; refine yv y_mv <| yv (y_len Tryz.underlying67 rfl) ?_; refine yv (y_neq rfl rfl) ?_; refine fk [(0, _), (1, _), (10, _)] hK3 ?_; refine Hd.cond rfl (fun hc0 => ?_) (fun hc0 => ?_)
 ·try simp only [hyA, hyB, hyC, ne_eq] at hc0
  have hne : xs ≠ ys := fun e => hc0 (by rw [e])
  refine sr fun _ hK4 => ?_
  refine yv y_as <| fk [(4, _)] hK4 ?_; refine Hd.ret <| Hd.thenRet ?_; rw [decide_eq_false hne]; exact Hd.ret1 rfl () rfl sq
 ·try simp only [hyA, hyB, hyC, ne_eq] at hc0
  have hl : xs.length = ys.length := by omega
  refine Hd.skip <| Hd.toK hK2 ?_; refine Hd.seq fun _ hK5 => ?_
  refine sr fun _ hK6 => ?_
  refine yv y_as <| fk [(0, _), (1, _), (5, _)] hK6 ?_; refine Hd.block <| Hd.loopK (ι := Nat) [(0, _), (1, _)] (fun i => [(5, .int .i64 (i : Int))]) (fun i => pu (i ≤ xs.length ∧ xs.take i = ys.take i) :: L) (fun i => xs.length - i) 0 sbq sbq (Ent.sep (.pure ⟨Nat.zero_le _, rfl⟩ enn)) ?_; intro i
  try dsimp only
  refine Hd.pure (fun hp0 => ?_)
  try dsimp only at hp0
  refine Hd.seq fun _ hK7 => ?_
  refine sr fun _ hK8 => ?_
  refine yv y_mv <| yv y_mv <| yv (y_len Tryz.underlying67 rfl) ?_; refine yv (y_lss rfl rfl) ?_; refine fk [(0, _), (1, _), (5, _), (14, _)] hK8 ?_; refine Hd.cond rfl (fun hc1 => ?_) (fun hc1 => ?_)
  ·try simp only [hyA, hyB, hyC, ne_eq] at hc1
   have hi : i < xs.length := by omega
   have hi2 : i < ys.length := by omega
   have hgx : xs[i]? = some xs[i] := List.getElem?_eq_getElem hi
   have hgy : ys[i]? = some ys[i] := List.getElem?_eq_getElem hi2
   refine Hd.skip <| Hd.toK hK7 ?_; refine Hd.seq fun _ hK9 => ?_
   refine Hd.block <| Hd.seq fun _ hK10 => ?_
   refine Hd.quiet mixed kq ?_; refine Hq.yv y_mv ?_; refine Hq.yv y_mv ?_; refine Hq.yv (y_idxR Tryz.underlying67 sz82 rfl rfl hi h1) ?_; refine Hq.yv (y_loadRn (vs := encNo xs[i]) ag82 rfl h1 (flat_cells encNo 4 (fun _ => rfl) hgx) (by exact sz82) (by simp)) ?_; refine Hq.yv y_mv ?_; refine Hq.yv y_mv ?_; refine Hq.yv (y_idxR Tryz.underlying67 sz82 rfl rfl hi2 h2) ?_; refine Hq.yv (y_loadRn (vs := encNo ys[i]) ag82 rfl h2 (flat_cells encNo 4 (fun _ => rfl) hgy) (by exact sz82) (by simp)) ?_; refine Hq.yv (y_to (v' := .bool (decide (xs[i] ≠ ys[i]))) (y_neq_agg rfl rfl eqt82 rfl ⟨rfl, rfl⟩) (by (congr 1; simp [allEq, eqv, Prod.ext_iff]))) ?_; refine Hq.nil ?_; refine sk [(0, _), (1, _), (5, _), (25, _)] hK10 ?_; refine Hd.cond rfl (fun hc2 => ?_) (fun hc2 => ?_)
   ·try simp only [hyA, hyB, hyC, ne_eq] at hc2
    refine sr fun _ hK11 => ?_
    refine yv y_as <| fk [(4, _)] hK11 ?_; refine Hd.ret <| Hd.inBret <| Hd.thenRet <| Hd.thenRet <| Hd.inBret <| Hd.thenRet ?_
    have hne : xs ≠ ys := fun e => hc2 (by subst e; rfl)
    rw [decide_eq_false hne]; exact Hd.ret1 rfl () rfl sq
   ·try simp only [hyA, hyB, hyC, ne_eq] at hc2
    refine Hd.skip <| Hd.inB <| Hd.toK hK9 ?_; refine Hd.region <| yv y_mv <| yv (y_addn rfl rfl (by simp only [InK]; omega)) ?_; refine yv y_as <| Hd.nil <| slots [(0, _), (1, _), (5, _)] sbq ?_; refine thenN ?_
    have ht : xs.take (i + 1) = ys.take (i + 1) := by
     rw [List.take_add_one, List.take_add_one, hgx, hgy, hp0.2, hc2]
    exact Hd.again (i + 1) (by omega) sbq (Ent.sep (.pure ⟨hi, ht⟩ enn))
  ·try simp only [hyA, hyB, hyC, ne_eq] at hc1
   refine Hd.exit <| Hd.thenExit <| Hd.thenExit <| Hd.inBexit <| Hd.toK hK5 ?_; refine sr fun _ hK12 => ?_
   refine yv y_as <| fk [(4, _)] hK12 ?_; refine Hd.ret ?_
   have he : xs = ys := by
    have := hp0.2
    rwa [List.take_of_length_le (by omega), List.take_of_length_le (by omega)] at this
   rw [decide_eq_true he]; exact Hd.ret1 rfl () rfl sq
theorem polK_nil (f : Ky → Option KnA) (w : WA) (most : Int) : polK f w most [] = (dueK f w).take most.toNat := by
 unfold polK; rw [Sh.shuf_nil rfl]
theorem note16_ct (L : List SP) (a b c d : Int) : Ct Tryz.prog 35 #[.int .i64 a, .int .i64 b, .int .i64 c, .int .i64 d] (L) (fun _ : Unit => .agg (encNo (a, b, c, d)).toArray) (fun _ : Unit => L) := by
 refine Ct.o4 Tryz.func35 ?_; intro E
 show Hd E 14 _ _ _ _
 refine sr fun _ hK1 => ?_
 refine Hd.alloc zr82 (fun b8 => ?_); refine fk [(0, _), (1, _), (2, _), (3, _), (8, _)] hK1 ?_; refine sr fun _ hK2 => ?_
 refine yv y_mv <| yv y_mv <| yv y_mv <| yv y_mv <| yv (y_build (vs := [(0, _), (1, _), (2, _), (3, _)]) rfl (by exact bd35_13 ..)) ?_; refine Hd.storeA (us := encNo (a, b, c, d)) sz82 rfl rfl rfl (encNo_one _) pkk (by exact rfl) ?_; refine fk [(8, _)] hK2 ?_; refine Hd.ret ?_; exact Hd.retC rfl () ag82 rfl (Rd.pt (us := encNo (a, b, c, d)) pkk (fun j v e => by rw [Nat.zero_add]; exact e)) (by exact sz82) rfl sq
theorem changes_ct (L : List SP) (qb wb mb : Nat) (f : Ky → Option KnA) (m : Nat) (w : WA) (al : Option Addr) (cl : Nat) (xs : List NoA) (h : RdS L 4 al xs.length (xs.flatMap encNo)) (hb : xs.length ≤ 1000000) (aw : Option Addr) (cw : Nat) (ys : List NoA) (h2 : RdS L 4 aw ys.length (ys.flatMap encNo)) (hb2 : ys.length ≤ 1000000) : Ct Tryz.prog 85 #[.pointer (some ⟨qb, 0, none⟩), .slice al xs.length cl, .slice aw ys.length cw] (KqB qb wb mb f m w L) (fun m' : Nat => .bool (decide ((chsK f w xs).1 = ys))) (fun m' : Nat => pu (m' ≤ m + xs.length) :: KqB qb wb mb (chsK f w xs).2 m' w L) := by
 refine Ct.o3 Tryz.func85 ?_; intro E
 show Hd E 22 _ _ _ _
 refine sr fun _ hK1 => ?_
 refine yv y_as <| fk [(0, _), (1, _), (2, _)] hK1 ?_; refine sr fun _ hK2 => ?_
 refine yv y_mv <| yv y_mv <| callE rfl fk33 (kchs_ct L qb wb mb f m w al cl xs h hb) sq ?_; rintro ⟨ad, c, m'⟩; dsimp only; refine Hd.pure (fun hm' => ?_)
 have hcl := chsK_len w xs f
 refine yv y_mv <| yv (y_to (v' := .slice ad (chsK f w xs).1.length c) y_ex (by rfl)) ?_; refine yv (y_to (v' := .int .i64 0) y_ex (by rfl)) ?_; refine yv y_as <| yv y_as <| fk [(2, _), (7, _), (8, _)] hK2 ?_; refine sr fun _ hK3 => ?_
 refine yv y_mv <| yv (y_to (v' := .bool true) (y_eqlT rfl rfl) (by rfl)) ?_; refine yv y_mv <| y2 y_mv <| y2 y_mv <| Hd.unguard rfl rfl ?_; refine callE rfl fk31 (same16_ct _ ad c (chsK f w xs).1 ?hD (by omega) aw cw ys ?hE hb2) sq ?_
 case hD => exact RdS.own pkk
 case hE => exact RdS.mono h2 sq
 intro _; refine yv (y_pickT rfl rfl) ?_; refine yv y_as <| fk [(6, _)] hK3 ?_; refine Hd.ret ?_; exact Hd.ret1 rfl m' rfl (Ent.sep (.pure hm' enn))
theorem polls_ct (L : List SP) (qb wb mb : Nat) (f : Ky → Option KnA) (m : Nat) (hm : m ≤ 1000000) (hf : OkK f) (w : WA) (aw : Option Addr) (cw : Nat) (ys : List NoA) (h2 : RdS L 4 aw ys.length (ys.flatMap encNo)) (hb2 : ys.length ≤ 1000000) : Ct Tryz.prog 86 #[.pointer (some ⟨qb, 0, none⟩), .slice aw ys.length cw] (KqB qb wb mb f m w L) (fun m' : Nat => .bool (decide ((dueK f w).take 99 = ys))) (fun m' : Nat => pu (m' ≤ m + 99) :: KqB qb wb mb (offK w f ((dueK f w).take 99)) m' w L) := by
 refine Ct.o2 Tryz.func86 ?_; intro E
 show Hd E 19 _ _ _ _
 refine sr fun _ hK1 => ?_
 refine yv y_as <| fk [(0, _), (1, _)] hK1 ?_; refine sr fun _ hK2 => ?_
 refine yv y_mv <| callE rfl fk30 (kpoll_ct L qb wb mb f m hm hf w 99 (by decide) none 0 [] ?hO (by simp)) sq ?_
 case hO => exact RdS.none _ _ _
 rintro ⟨ad, c, m'⟩; dsimp only; rw [polK_nil, show (99 : Int).toNat = 99 from rfl]; refine Hd.pure (fun hm' => ?_)
 have hpl : ((dueK f w).take 99).length ≤ 99 := by rw [List.length_take]; omega
 refine yv y_mv <| yv (y_to (v' := .slice ad ((dueK f w).take 99).length c) y_ex (by rfl)) ?_; refine yv (y_to (v' := .int .i64 0) y_ex (by rfl)) ?_; refine yv y_as <| yv y_as <| fk [(1, _), (5, _), (6, _)] hK2 ?_; refine sr fun _ hK3 => ?_
 refine yv y_mv <| yv (y_to (v' := .bool true) (y_eqlT rfl rfl) (by rfl)) ?_; refine yv y_mv <| y2 y_mv <| y2 y_mv <| Hd.unguard rfl rfl ?_; refine callE rfl fk31 (same16_ct _ ad c ((dueK f w).take 99) ?hD (by omega) aw cw ys ?hE hb2) sq ?_
 case hD => exact RdS.own pkk
 case hE => exact RdS.mono h2 sq
 intro _; refine yv (y_pickT rfl rfl) ?_; refine yv y_as <| fk [(4, _)] hK3 ?_; refine Hd.ret ?_; exact Hd.ret1 rfl m' rfl (Ent.sep (.pure (by omega) enn))
theorem OkK.off {w : WA} : ∀ {l : List NoA} {f : Ky → Option KnA} (_ : OkK f) (_ : ∀ x ∈ l, (1 ≤ x.2.1 ∧ x.2.1 ≤ 3) ∧ (x.2.1 = 3 → 1 ≤ x.1 ∧ x.1 ≤ 31)), OkK (offK w f l)
 | [], _, h, _ => h
 | x :: l, f, h, hl => by
  have hx := hl x List.mem_cons_self
  refine OkK.off (l := l) (f := off1 w f x) ?_ (fun y hy => hl y (List.mem_cons_of_mem _ hy)); unfold off1
  split
  ·exact (h.upd (fun _ _ => hx)).upd (fun _ _ => hx)
  ·exact h.upd (fun _ _ => hx)
theorem told_key (f : Ky → Option KnA) (w : WA) (a : Ky) : (toldK f w a).1.1 = a.1 ∧ (toldK f w a).1.2.1 = a.2 := by
 unfold toldK
 split
 ·exact ⟨rfl, rfl⟩
 ·split <;> exact ⟨rfl, rfl⟩
theorem due_key {f : Ky → Option KnA} {w : WA} {x : NoA} (h : x ∈ dueK f w) : isK f w (x.1, x.2.1) = true := by
 unfold dueK dueT at h
 obtain ⟨a, ha, hx⟩ := List.mem_filterMap.1 h
 split at hx
 ·simp only [Option.some.injEq] at hx
  subst hx
  have := told_key f w a
  rw [this.1, this.2]; exact (List.mem_filter.1 ha).2
 ·cases hx
theorem OkK.due {f : Ky → Option KnA} (h : OkK f) (w : WA) (n : Nat) : OkK (offK w f ((dueK f w).take n)) := OkK.off h fun x hx => by
 obtain ⟨y, hy⟩ := Option.isSome_iff_exists.1 (isK_some (due_key (List.mem_of_mem_take hx)))
 exact ⟨h.fl _ y hy, h.sg _ y hy⟩
def wA1 : WA := mkW newA 1 (connW 8)
def wA2 : WA := (putR wA1 0 [97]).2
def af1 : Ky → Option KnA := (chsK k0 wA2 [(0, 1, 1, 0), (0, 2, 17, 0), (9, 1, 1, 0), (0, 1, 66, 0)]).2
theorem ac1 : (chsK k0 wA2 [(0, 1, 1, 0), (0, 2, 17, 0), (9, 1, 1, 0), (0, 1, 66, 0)]).1 = [(9, 1, 256, 110), (0, 1, 256, 0)] := by decide +kernel
theorem ao1 : OkK af1 := OkK.chs okK_0 [(0, 1, 1, 0), (0, 2, 17, 0), (9, 1, 1, 0), (0, 1, 66, 0)]
def af2 : Ky → Option KnA := offK wA2 af1 [(0, 2, 0, 0)]
theorem ad2 : (dueK af1 wA2).take 99 = [(0, 2, 0, 0)] := by decide +kernel
theorem ao2 : OkK af2 := by
 have h := OkK.due ao1 wA2 99
 rw [ad2] at h; exact h
def af3 : Ky → Option KnA := offK wA2 af2 []
theorem ad3 : (dueK af2 wA2).take 99 = [] := by decide +kernel
theorem alive16_ct (L : List SP) : Ct Tryz.prog 27 #[] (L) (fun _ : Unit => .bool true) (fun _ : Unit => L) := by
 refine Ct.o0 Tryz.func27 ?_; intro E
 show Hd E 40 _ _ _ _
 refine sr fun _ hK1 => ?_
 refine yv y_as <| fk [] hK1 ?_; refine sr fun _ hK2 => ?_
 refine callE rfl fk49 (wnew_ct _) sq ?_; intro wb; refine yv y_as <| fk [(1, _)] hK2 ?_; refine sr fun _ hK3 => ?_
 refine yv y_mv <| callE rfl fk50 (outer_mk _ wb newA 8 (by decide) (by decide)) sq ?_; intro _; rw [show mkW newA 1 (connW 8) = wA1 from rfl]; refine fk [(1, _)] hK3 ?_; refine sr fun _ hK4 => ?_
 refine yv y_mv <| Hd.bslice (vs := [(0, _)]) rfl (by exact bs27_8 ..) (fun b8 => ?_); refine Hd.convSS (e := 5) kq rfl pkk rfl (by decide) ?_; refine callE rfl fk52 (wput_ct _ wb wA1 0 (some ⟨b8, 0, none⟩) 1 1 [97] rfl ?hD (by decide) (by decide)) sq ?_
 case hD => exact RdS.own (us := [.int .u8 97]) pkk
 intro _; rw [show (putR wA1 0 [97]).2 = wA2 from rfl]; refine fk [(1, _)] hK4 ?_; refine sr fun _ hK5 => ?_
 refine yv y_mv <| callE rfl fk32 (knew_ct _ wb) sq ?_; rintro ⟨qb, mb⟩; dsimp only; refine yv y_mv <| yv (y_to (v' := .pointer (some ⟨qb, 0, none⟩)) y_ex (by rfl)) ?_; refine yv (y_to (v' := .int .i64 0) y_ex (by rfl)) ?_; refine yv y_as <| yv y_as <| fk [(2, _), (3, _)] hK5 ?_; refine sr fun _ hK6 => ?_
 refine yv y_mv <| yv (y_eqlT rfl rfl) ?_; refine yv y_mv <| y2 y_mv <| Hd.unguard rfl rfl ?_; refine callE rfl fk35 (note16_ct _ (0) (1) (1) (0)) sq ?_; intro _; refine Hd.unguard rfl rfl ?_; refine callE rfl fk35 (note16_ct _ (0) (2) (17) (0)) sq ?_; intro _; refine Hd.unguard rfl rfl ?_; refine callE rfl fk35 (note16_ct _ (9) (1) (1) (0)) sq ?_; intro _; refine Hd.unguard rfl rfl ?_; refine callE rfl fk35 (note16_ct _ (0) (1) (66) (0)) sq ?_; intro _; refine Hd.unguard rfl rfl ?_; refine Hd.bslice (vs := [(0, _), (1, _), (2, _), (3, _)]) rfl (by exact bs27_24 ..) (fun b24 => ?_); refine Hd.unguard rfl rfl ?_; refine callE rfl fk35 (note16_ct _ (9) (1) (256) (110)) sq ?_; intro _; refine Hd.unguard rfl rfl ?_; refine callE rfl fk35 (note16_ct _ (0) (1) (256) (0)) sq ?_; intro _; refine Hd.unguard rfl rfl ?_; refine Hd.bslice (vs := [(0, _), (1, _)]) rfl (by exact bs27_27 ..) (fun b27 => ?_)
 refine Hd.unguard rfl rfl ?_; refine callE rfl fk85 (changes_ct _ qb wb mb k0 0 wA2 (some ⟨b24, 0, none⟩) 4 [(0, 1, 1, 0), (0, 2, 17, 0), (9, 1, 1, 0), (0, 1, 66, 0)] ?hD (by decide) (some ⟨b27, 0, none⟩) 2 [(9, 1, 256, 110), (0, 1, 256, 0)] ?hE (by decide)) sq ?_
 case hD => exact RdS.rd (Rd.pt pkk (fun j v e => by rw [Nat.zero_add]; exact e)) rfl
 case hE => exact RdS.rd (Rd.pt pkk (fun j v e => by rw [Nat.zero_add]; exact e)) rfl
 intro m1; rw [ac1, show (chsK k0 wA2 [(0, 1, 1, 0), (0, 2, 17, 0), (9, 1, 1, 0), (0, 1, 66, 0)]).2 = af1 from rfl]; refine Hd.pure (fun hm1 => ?_); simp only [List.length_cons, List.length_nil] at hm1; refine yv (y_to (v' := .bool true) (y_pickT rfl rfl) (by rfl)) ?_; refine yv y_mv <| y2 y_mv <| Hd.unguard rfl rfl ?_; refine callE rfl fk35 (note16_ct _ (0) (2) (0) (0)) sq ?_; intro _; refine Hd.unguard rfl rfl ?_; refine Hd.bslice (vs := [(0, _)]) rfl (by exact bs27_33 ..) (fun b33 => ?_); refine Hd.unguard rfl rfl ?_; refine callE rfl fk86 (polls_ct _ qb wb mb af1 m1 (by omega) ao1 wA2 (some ⟨b33, 0, none⟩) 1 [(0, 2, 0, 0)] ?hD (by decide)) sq ?_
 case hD => exact RdS.rd (Rd.pt pkk (fun j v e => by rw [Nat.zero_add]; exact e)) rfl
 intro m2; rw [ad2, show offK wA2 af1 [(0, 2, 0, 0)] = af2 from rfl]; refine Hd.pure (fun hm2 => ?_); refine yv (y_to (v' := .bool true) (y_pickT rfl rfl) (by rfl)) ?_; refine yv y_mv <| y2 y_mv <| Hd.unguard rfl rfl ?_; refine callE rfl fk86 (polls_ct _ qb wb mb af2 m2 (by omega) ao2 wA2 none 0 [] ?hD (by decide)) sq ?_
 case hD => exact RdS.none _ _ _
 intro m3; rw [ad3, show offK wA2 af2 [] = af3 from rfl]; refine Hd.pure (fun hm3 => ?_); refine yv (y_to (v' := .bool true) (y_pickT rfl rfl) (by rfl)) ?_; refine yv y_as <| fk [(0, _)] hK6 ?_; refine Hd.ret ?_; exact Hd.ret1 rfl () rfl sq
end Kq
end Go.Proofs.YtbfddabjbkohdaaGreat
namespace Go.Proofs.YtbfddabjbkohdaaGreat
set_option maxHeartbeats 2000000
open Go.RX.Hd (yv y2 n1 fk sk sr tH callE heldK onlyH endH thenN slots)
set_option linter.unusedSimpArgs false
set_option linter.unusedVariables false
set_option linter.unnecessarySimpa false
open Go.RX Fx
namespace Ep
set_option maxRecDepth 8000
abbrev vi (l : List Int) : List Value := l.map (Value.int .i64)
end Ep
end Go.Proofs.YtbfddabjbkohdaaGreat
namespace Go.Proofs.YtbfddabjbkohdaaGreat
set_option maxHeartbeats 2000000
open Go.RX.Hd (yv y2 n1 fk sk sr tH callE heldK onlyH endH thenN slots)
set_option linter.unusedSimpArgs false
set_option linter.unusedVariables false
set_option linter.unnecessarySimpa false
open Go.RX Fx Go.Sort Go.Shelf
namespace Ep
set_option maxRecDepth 8000
def srt (l : List Int) : List Int := l.mergeSort fun x y => decide (x ≤ y)
end Ep
end Go.Proofs.YtbfddabjbkohdaaGreat
namespace Go.Proofs.YtbfddabjbkohdaaGreat
set_option maxHeartbeats 2000000
open Go.RX.Hd (yv y2 n1 fk sk sr tH callE heldK onlyH endH thenN slots)
set_option linter.unusedSimpArgs false
set_option linter.unusedVariables false
set_option linter.unnecessarySimpa false
open Go.RX Fx
namespace Ep
open Wo
set_option maxRecDepth 8000
structure IxA where
 wire : Int
 events : Int
 armed : Int
 reads : Int
 writes : Int
def findE (f : Int → Option IxA) (w : WA) (fd : Int) : Option IxA := match f fd with
 | none => none
 | some x => if (w.at fd).isSome = true ∧ wireN (w.at fd) = x.wire then some x else none
abbrev qE (f : Int → Option IxA) (w : WA) (fd : Int) : Bool := (findE f w fd).isSome
structure DlI (q : Int → Bool) (xs cs : List Int) (i j : Nat) : Prop where
 len : cs.length = xs.length
 lt : i < j
 le : j ≤ xs.length
 tk : cs.take i = (xs.take j).filter q
 dr : cs.drop j = xs.drop j
theorem DlI.at_ {q : Int → Bool} {xs cs : List Int} {i j : Nat} (h : DlI q xs cs i j) (hj : j < xs.length) : cs[j]? = some xs[j] := by
 have h1 := congrArg (fun l : List Int => l[0]?) h.dr
 simpa [List.getElem?_drop, hj] using h1
theorem DlI.keep {q : Int → Bool} {xs cs : List Int} {i j : Nat} (h : DlI q xs cs i j) (hj : j < xs.length) (hq : q xs[j] = true) : DlI q xs (cs.set i xs[j]) (i + 1) (j + 1) := by
 have hl := h.len
 have hlt := h.lt
 refine ⟨by rw [List.length_set]; exact hl, by omega, hj, ?_, ?_⟩
 ·rw [List.take_add_one, List.getElem?_set_self (by omega), List.take_set_of_le (Nat.le_refl i), h.tk, List.take_add_one, List.getElem?_eq_getElem hj, List.filter_append]
  show _ = _ ++ [xs[j]].filter q
  rw [List.filter_cons_of_pos hq]; rfl
 ·rw [List.drop_set_of_lt (by omega)]
  have := congrArg (fun l : List Int => l.drop 1) h.dr
  simpa [List.drop_drop, Nat.add_comm] using this
theorem DlI.drop {q : Int → Bool} {xs cs : List Int} {i j : Nat} (h : DlI q xs cs i j) (hj : j < xs.length) (hq : q xs[j] = false) : DlI q xs cs i (j + 1) := by
 refine ⟨h.len, by have := h.lt; omega, hj, ?_, ?_⟩
 ·rw [h.tk, List.take_add_one, List.getElem?_eq_getElem hj, List.filter_append]
  show _ = _ ++ [xs[j]].filter q
  rw [List.filter_cons_of_neg (by rw [hq]; simp), List.filter_nil, List.append_nil]
 ·have := congrArg (fun l : List Int => l.drop 1) h.dr
  simpa [List.drop_drop, Nat.add_comm] using this
theorem DlI.done {q : Int → Bool} {xs cs : List Int} {i j : Nat} (h : DlI q xs cs i j) (hj : j = xs.length) : cs.take i = xs.filter q := by rw [h.tk, hj, List.take_length]
structure AllE (f : Int → Option IxA) (m : Nat) (w : WA) (ks : List Int) : Prop where
 srt : ks.Pairwise (· < ·)
 mem : ∀ a, a ∈ ks ↔ (findE f w a).isSome = true
 len : ks.length ≤ m
abbrev f0 : Int → Option IxA := fun _ => none
end Ep
end Go.Proofs.YtbfddabjbkohdaaGreat
namespace Go.Proofs.YtbfddabjbkohdaaGreat
set_option maxHeartbeats 2000000
open Go.RX.Hd (yv y2 n1 fk sk sr tH callE heldK onlyH endH thenN slots)
set_option linter.unusedSimpArgs false
set_option linter.unusedVariables false
set_option linter.unnecessarySimpa false
open Go.RX Fx
namespace Wo
end Wo
namespace Ep
open Wo
set_option maxRecDepth 8000
theorem sorted_ext : ∀ {a b : List Int}, a.Pairwise (· < ·) → b.Pairwise (· < ·) → (∀ x, x ∈ a ↔ x ∈ b) → a = b
 | [], [], _, _, _ => rfl
 | [], y :: b, _, _, h => absurd ((h y).2 List.mem_cons_self) (by simp)
 | x :: a, [], _, _, h => absurd ((h x).1 List.mem_cons_self) (by simp)
 | x :: a, y :: b, ha, hb, h => by
  rw [List.pairwise_cons] at ha hb
  have hxy : x = y := by
   rcases List.mem_cons.1 ((h x).1 List.mem_cons_self) with e | e
   ·exact e
   ·rcases List.mem_cons.1 ((h y).2 List.mem_cons_self) with e2 | e2
    ·exact e2.symm
    ·have h1 := hb.1 x e
     have h2 := ha.1 y e2
     omega
  subst hxy
  congr 1
  refine sorted_ext ha.2 hb.2 fun z => ?_
  have := h z
  simp only [List.mem_cons] at this
  constructor
  ·intro hz
   rcases this.1 (.inr hz) with rfl | e
   ·have := ha.1 z hz; omega
   ·exact e
  ·intro hz
   rcases this.2 (.inr hz) with rfl | e
   ·have := hb.1 z hz; omega
   ·exact e
def allL (f : Int → Option IxA) (w : WA) : List Int := ((List.range 96).filter fun n : Nat => qE f w (n : Int)).map fun n : Nat => (n : Int)
theorem findE_at {f : Int → Option IxA} {w : WA} {a : Int} (h : qE f w a = true) : ∃ x n k, f a = some x ∧ w.at a = some (n, k) ∧ x.wire = (n : Int) ∧ findE f w a = some x := by
 unfold qE at h
 have h1 := h
 unfold findE at h1
 cases hf : f a with
 | none => rw [hf] at h1; simp at h1
 | some x =>
  rw [hf] at h1; dsimp only at h1
  split at h1
  ·rename_i hc
   cases ha : w.at a with
   | none => rw [ha] at hc; simp at hc
   | some p =>
    obtain ⟨n, k⟩ := p
    rw [ha] at hc; refine ⟨x, n, k, rfl, rfl, hc.2.symm, ?_⟩; unfold findE; rw [hf]; exact if_pos (by rw [ha]; exact hc)
  ·simp at h1
theorem mem_allL {f : Int → Option IxA} {w : WA} (hw : WOk w) {a : Int} : a ∈ allL f w ↔ qE f w a = true := by
 unfold allL; rw [List.mem_map]
 constructor
 ·rintro ⟨n, hn, rfl⟩
  exact (List.mem_filter.1 hn).2
 ·intro h
  obtain ⟨x, n, k, _, ha, _, _⟩ := findE_at h
  have := hw.at_lt ha
  have e : ((a.toNat : Nat) : Int) = a := by omega
  exact ⟨a.toNat, List.mem_filter.2 ⟨List.mem_range.2 (by omega), by rw [e]; exact h⟩, e⟩
theorem allL_srt (f : Int → Option IxA) (w : WA) : (allL f w).Pairwise (· < ·) := by
 unfold allL; rw [List.pairwise_map]; exact (List.pairwise_lt_range.filter _).imp fun {a b} h => by omega
theorem AllE.eq {f : Int → Option IxA} {m : Nat} {w : WA} {ks : List Int} (hw : WOk w) (h : AllE f m w ks) : ks = allL f w :=
 sorted_ext h.srt (allL_srt f w) fun a => by rw [h.mem, mem_allL hw]
end Ep
end Go.Proofs.YtbfddabjbkohdaaGreat
namespace Go.Proofs.YtbfddabjbkohdaaGreat
set_option maxHeartbeats 2000000
open Go.RX.Hd (yv y2 n1 fk sk sr tH callE heldK onlyH endH thenN slots)
set_option linter.unusedSimpArgs false
set_option linter.unusedVariables false
set_option linter.unnecessarySimpa false
open Go.RX Fx
namespace Kq
open Wo
set_option maxRecDepth 8000
theorem updK_eq (f : Ky → Option KnA) (a : Ky) (o : Option KnA) : updK f a o a = o := if_pos rfl
theorem updK_ne {f : Ky → Option KnA} {a b : Ky} {o : Option KnA} (h : b ≠ a) : updK f a o b = f b := if_neg h
theorem updK_updK (f : Ky → Option KnA) (a : Ky) (o o' : Option KnA) : updK (updK f a o) a o' = updK f a o' := by
 funext b
 by_cases h : b = a
 ·subst h; rw [updK_eq, updK_eq]
 ·rw [updK_ne h, updK_ne h, updK_ne h]
theorem isK_congr {f g : Ky → Option KnA} {w : WA} {a : Ky} (h : f a = g a) : isK f w a = isK g w a := by unfold isK; rw [h]
theorem isK_wire {f g : Ky → Option KnA} {w : WA} {a : Ky} (h : (f a).map KnA.wire = (g a).map KnA.wire) : isK f w a = isK g w a := by
 unfold isK
 cases hf : f a with
 | none =>
  rw [hf] at h
  cases hg : g a with
  | none => rfl
  | some y => rw [hg] at h; cases h
 | some x =>
  rw [hf] at h
  cases hg : g a with
  | none => rw [hg] at h; cases h
  | some y =>
   rw [hg] at h
   have e : x.wire = y.wire := by simpa using h
   dsimp only; rw [e]
abbrev keyN (y : NoA) : Ky := (y.1, y.2.1)
def oneF (f : Ky → Option KnA) (a : Ky) : Bool := decide (bits .and .i64 ((f a).getD zKn).flags 32 ≠ 0)
def clrF (f : Ky → Option KnA) (a : Ky) : Bool := decide (bits .and .i64 ((f a).getD zKn).flags 16 ≠ 0)
def onceF (f : Ky → Option KnA) (a : Ky) : Bool := oneF f a || (clrF f a && decide (a.2 ≠ 3))
theorem off1_eq (w : WA) (f : Ky → Option KnA) (x : NoA) : off1 w f x = updK f (keyN x) (if oneF f (keyN x) = true then none else some (offX w ((f (keyN x)).getD zKn) (keyN x))) := by
 unfold off1 oneF
 by_cases h : bits .and .i64 (oldK f x).flags 32 ≠ 0
 ·rw [if_pos h, updK_updK, if_pos (by simpa using h)]
 ·rw [if_neg h, if_neg (by simpa using h)]
theorem offK_at {w : WA} : ∀ {ys : List NoA} {f : Ky → Option KnA}, (ys.map keyN).Nodup → ∀ a, offK w f ys a = if a ∈ ys.map keyN then (if oneF f a = true then none else some (offX w ((f a).getD zKn) a)) else f a
 | [], f, _, a => by rw [if_neg (by simp)]; rfl
 | y :: t, f, hn, a => by
  rw [List.map_cons, List.nodup_cons] at hn
  have ih := offK_at (w := w) (f := off1 w f y) hn.2 a
  show offK w (off1 w f y) t a = _
  rw [ih]
  have hF : ∀ b, b ≠ keyN y → off1 w f y b = f b := fun b hb => by rw [off1_eq]; exact updK_ne hb
  have hFy : off1 w f y (keyN y) = if oneF f (keyN y) = true then none else some (offX w ((f (keyN y)).getD zKn) (keyN y)) := by rw [off1_eq]; exact updK_eq _ _ _
  by_cases ha : a ∈ t.map keyN
  ·have e : a ≠ keyN y := fun e => hn.1 (e ▸ ha)
   have h1 : oneF (off1 w f y) a = oneF f a := by unfold oneF; rw [hF a e]
   rw [if_pos ha, h1, hF a e]; exact (if_pos (by rw [List.map_cons]; exact List.mem_cons_of_mem _ ha)).symm
  ·rw [if_neg ha]
   by_cases e : a = keyN y
   ·rw [e, hFy]
    exact (if_pos (by rw [List.map_cons]; exact List.mem_cons_self)).symm
   ·rw [hF a e, if_neg (by rw [List.map_cons]; exact fun h => (List.mem_cons.1 h).elim e ha)]
def flK (d c o : Bool) : Int := (if d = true then 8 else 0) + (if c = true then 16 else 0) + (if o = true then 32 else 0)
theorem fl_new : ∀ k : Nat, k < 128 → ∃ d c o, bits .and .i64 (k : Int) 56 = flK d c o := by decide
theorem fl_mod : ∀ d c o, ∀ k : Nat, k < 128 → ∃ d', bits .or .i64 (bits .andNot .i64 (flK d c o) 8) (bits .and .i64 (k : Int) 8) = flK d' c o := by decide
theorem land127 (v : BitVec 64) : (v &&& 127#64).toNat ≤ 127 := by rw [BitVec.toNat_and]; exact Nat.and_le_right
theorem lt128 {x : Int} (hx : InK .i64 x) (h : bits .andNot .i64 x 127 = 0) : ∃ k : Nat, x = (k : Int) ∧ k < 128 := by
 rw [bits_andNot_zero] at h
 have e : bv x = bv x &&& bv 127 := by
  apply BitVec.eq_of_getLsbD_eq; intro i hi
  have := congrArg (fun v => BitVec.getLsbD v i) h
  simp only [BitVec.getLsbD_and, BitVec.getLsbD_not, hi, decide_true, Bool.true_and, BitVec.getLsbD_zero] at this; rw [BitVec.getLsbD_and]
  cases h1 : (bv x).getLsbD i <;> cases h2 : (bv 127).getLsbD i <;> simp_all
 have h1 : (bv x).toNat ≤ 127 := by rw [e]; exact land127 _
 simp only [InK] at hx; unfold bv at h1; rw [BitVec.toNat_ofInt] at h1; exact ⟨x.toNat, by omega, by omega⟩
structure GdK (f : Ky → Option KnA) (w : WA) : Prop where
 ok : OkK f
 lv : ∀ a x, f a = some x → isK f w a = true
 fl : ∀ a x, f a = some x → ∃ d c o, x.flags = flK d c o
theorem k0_gd (w : WA) : GdK k0 w := ⟨okK_0, fun _ _ h => (by cases h), fun _ _ h => (by cases h)⟩
theorem chg_gd {f : Ky → Option KnA} {w : WA} (hg : GdK f w) (p : NoA) (hp : InK .i64 p.2.2.1) : GdK (chgK f w p).2 w := by
 have hok := hg.ok.chg w p
 have hadd : ∀ x : KnA, ¬ (mayK p = false) → ¬ (p.2.1 ≠ 3 ∧ w.at p.1 = none) → (p.2.1 ≠ 3 → x.wire = wireN (w.at p.1)) → (∃ d c o, x.flags = flK d c o) → OkK (updK f (p.1, p.2.1) (some x)) → GdK (updK f (p.1, p.2.1) (some x)) w := fun x hm h110 hxw hxf ho => by
  refine ⟨ho, fun a z hz => ?_, fun a z hz => ?_⟩
  ·by_cases ha : a = (p.1, p.2.1)
   ·subst ha
    unfold isK; rw [updK_eq]; dsimp only
    split
    ·rfl
    ·rename_i h3
     rw [decide_eq_true_eq]; refine ⟨?_, ?_⟩
     ·cases h : w.at p.1 with
      | none => exact absurd ⟨h3, h⟩ h110
      | some _ => rfl
     ·exact (hxw h3).symm
   ·rw [updK_ne ha] at hz
    rw [isK_congr (updK_ne ha)]; exact hg.lv a z hz
  ·by_cases ha : a = (p.1, p.2.1)
   ·subst ha; rw [updK_eq] at hz; obtain rfl := Option.some.inj hz; exact hxf
   ·rw [updK_ne ha] at hz; exact hg.fl a z hz
 revert hok
 unfold chgK
 by_cases h1 : mayK p = false
 ·rw [if_pos h1]; exact fun _ => hg
 rw [if_neg h1]
 have hkb : ∃ k : Nat, p.2.2.1 = (k : Int) ∧ k < 128 := by
  refine lt128 hp ?_
  by_cases hb : badN p
  ·exact absurd (if_pos hb) h1
  ·unfold badN at hb
   by_cases h : bits .andNot .i64 p.2.2.1 127 = 0
   ·exact h
   ·exact absurd (.inr (.inl h)) hb
 obtain ⟨k, hk, hk128⟩ := hkb
 by_cases h2 : p.2.1 = 3 ∧ (p.1 < 1 ∨ 31 < p.1)
 ·rw [if_pos h2]; exact fun _ => hg
 rw [if_neg h2]
 by_cases h3 : p.2.1 ≠ 3 ∧ w.at p.1 = none
 ·rw [if_pos h3]; exact fun _ => hg
 rw [if_neg h3]
 by_cases h4 : hasF p 1
 ·rw [if_pos h4]
  intro ho; refine hadd _ h1 h3 ?_ ?_ ho
  ·intro h7
   have : (addK f w p).wire = wireK w p := by unfold addK; split <;> rfl
   rw [this]; exact if_neg h7
  ·have : (addK f w p).flags = bits .and .i64 p.2.2.1 56 := by unfold addK; split <;> rfl
   rw [this, hk]; exact fl_new k hk128
 rw [if_neg h4]
 by_cases h5 : isK f w (p.1, p.2.1) = false
 ·rw [if_pos h5]; exact fun _ => hg
 rw [if_neg h5]
 by_cases h6 : hasF p 2
 ·rw [if_pos h6]
  intro ho; refine ⟨ho, fun a z hz => ?_, fun a z hz => ?_⟩
  ·by_cases ha : a = (p.1, p.2.1)
   ·subst ha
    replace hz : updK f (p.1, p.2.1) none (p.1, p.2.1) = some z := hz
    rw [updK_eq] at hz; cases hz
   ·replace hz : updK f (p.1, p.2.1) none a = some z := hz
    rw [updK_ne ha] at hz; rw [show isK (updK f (p.1, p.2.1) none) w a = isK f w a from isK_congr (updK_ne ha)]; exact hg.lv a z hz
  ·by_cases ha : a = (p.1, p.2.1)
   ·subst ha
    replace hz : updK f (p.1, p.2.1) none (p.1, p.2.1) = some z := hz
    rw [updK_eq] at hz; cases hz
   ·replace hz : updK f (p.1, p.2.1) none a = some z := hz
    rw [updK_ne ha] at hz; exact hg.fl a z hz
 rw [if_neg h6]; intro ho
 have h5' : isK f w (p.1, p.2.1) = true := by simpa using h5
 obtain ⟨x, hx⟩ := Option.isSome_iff_exists.1 (isK_some h5')
 have hxo : oldK f p = x := by show (f (p.1, p.2.1)).getD zKn = x; rw [hx]; rfl
 obtain ⟨d, c, o, hfl⟩ := hg.fl _ _ hx
 refine hadd _ h1 h3 ?_ ?_ ho
 ·intro h7
  show (oldK f p).wire = _
  rw [hxo]; unfold isK at h5'; rw [hx] at h5'; dsimp only at h5'; rw [if_neg h7, decide_eq_true_eq] at h5'; exact h5'.2.symm
 ·show ∃ d c o, bits .or .i64 (bits .andNot .i64 (oldK f p).flags 8) (bits .and .i64 p.2.2.1 8) = flK d c o
  rw [hxo, hfl, hk]
  obtain ⟨d', e⟩ := fl_mod d c o k hk128
  exact ⟨d', c, o, e⟩
theorem chs_gd {w : WA} : ∀ {f : Ky → Option KnA} (_ : GdK f w) (l : List NoA), (∀ p ∈ l, InK .i64 p.2.2.1) → GdK (chsK f w l).2 w
 | _, h, [], _ => h
 | _, h, p :: l, hp => chs_gd (chg_gd h p (hp p List.mem_cons_self)) l (fun q hq => hp q (List.mem_cons_of_mem _ hq))
theorem dueK_mem {f : Ky → Option KnA} {w : WA} {y : NoA} (h : y ∈ dueK f w) : isK f w (keyN y) = true ∧ (toldK f w (keyN y)).2 = true ∧ y = (toldK f w (keyN y)).1 := by
 have h0 := due_key h
 obtain ⟨a, ha, hx⟩ := List.mem_filterMap.1 (show y ∈ dueT f w (allK f w) from h)
 split at hx
 ·rename_i h2
  simp only [Option.some.injEq] at hx
  have hk := told_key f w a
  have e : keyN y = a := by rw [← hx]; exact Prod.ext hk.1 hk.2
  rw [e]; exact ⟨e ▸ h0, h2, hx.symm⟩
 ·cases hx
theorem dueK_keys (f : Ky → Option KnA) (w : WA) (l : List Ky) : (dueT f w l).map keyN = l.filter fun a => (toldK f w a).2 := by
 unfold dueT
 induction l with
 | nil => rfl
 | cons a t ih =>
  rw [List.filterMap_cons, List.filter_cons]
  have hk := told_key f w a
  cases h : (toldK f w a).2 with
  | false => rw [if_neg (by simp)]; simpa using ih
  | true =>
   rw [if_pos rfl, List.map_cons, ih, if_pos rfl]
   congr 1
   exact Prod.ext hk.1 hk.2
theorem allK_nd (f : Ky → Option KnA) (w : WA) : (allK f w).Nodup := (grid_srt.sublist List.filter_sublist).imp fun {a b} h e => by subst e; unfold ltK at h; omega
theorem dueK_nd (f : Ky → Option KnA) (w : WA) : ((dueK f w).map keyN).Nodup := by rw [dueK_keys]; exact (allK_nd f w).filter _
theorem offK_all {f : Ky → Option KnA} {w : WA} (hg : GdK f w) {ys : List NoA} (hs : ∀ y ∈ ys, y ∈ dueK f w) (hn : (ys.map keyN).Nodup) :
  GdK (offK w f ys) w ∧ (∀ a, offK w f ys a = if a ∈ ys.map keyN then (if oneF f a = true then none else some (offX w ((f a).getD zKn) a)) else f a) ∧
   allK (offK w f ys) w = (allK f w).filter (fun a => !(decide (a ∈ ys.map keyN) && oneF f a)) ∧ (∀ a, (offK w f ys a).isSome = true → noK (offK w f ys) a = noK f a) ∧
   dueK (offK w f ys) w = (dueK f w).filter fun y => !(decide (keyN y ∈ ys.map keyN) && onceF f (keyN y)) := by
 have hat := offK_at (w := w) (f := f) hn
 have hin : ∀ a, a ∈ ys.map keyN → ∃ x, f a = some x := fun a ha => by
  obtain ⟨y, hy, rfl⟩ := List.mem_map.1 ha
  exact Option.isSome_iff_exists.1 (isK_some (dueK_mem (hs y hy)).1)
 have hwf : ∀ a x, offK w f ys a = some x → ∃ y, f a = some y ∧ x.wire = y.wire ∧ x.flags = y.flags := fun a x hx => by
  rw [hat] at hx
  by_cases ha : a ∈ ys.map keyN
  ·obtain ⟨y, hy⟩ := hin a ha
   rw [if_pos ha] at hx
   split at hx
   ·cases hx
   ·obtain rfl := Option.some.inj hx
    refine ⟨y, hy, ?_, ?_⟩
    ·rw [hy]; rfl
    ·rw [hy]; rfl
  ·rw [if_neg ha] at hx
   exact ⟨x, hx, rfl, rfl⟩
 have hok : OkK (offK w f ys) := OkK.off hg.ok fun x hx => by
  obtain ⟨y, hy⟩ := hin (keyN x) (List.mem_map_of_mem hx)
  exact ⟨hg.ok.fl _ y hy, hg.ok.sg _ y hy⟩
 have hisK : ∀ a, isK (offK w f ys) w a = (isK f w a && !(decide (a ∈ ys.map keyN) && oneF f a)) := fun a => by
  by_cases ha : a ∈ ys.map keyN
  ·obtain ⟨y, hy⟩ := hin a ha
   rw [decide_eq_true ha, Bool.true_and]
   cases ho : oneF f a with
   | true =>
    rw [Bool.not_true, Bool.and_false]; unfold isK; rw [hat, if_pos ha, if_pos ho]
   | false =>
    rw [Bool.not_false, Bool.and_true]; refine isK_wire ?_; rw [hat, if_pos ha, if_neg (by rw [ho]; decide), hy]; rfl
  ·rw [decide_eq_false ha, Bool.false_and, Bool.not_false, Bool.and_true]
   exact isK_congr (by rw [hat, if_neg ha])
 have hall : allK (offK w f ys) w = (allK f w).filter (fun a => !(decide (a ∈ ys.map keyN) && oneF f a)) := by
  unfold allK; rw [List.filter_filter]; refine List.filter_congr fun a _ => ?_
  rw [hisK, Bool.and_comm]
 refine ⟨⟨hok, fun a x hx => ?_, fun a x hx => ?_⟩, hat, hall, fun a ha => ?_, ?_⟩
 ·obtain ⟨y, hy, _⟩ := hwf a x hx
  rw [hisK, hg.lv a y hy, Bool.true_and]; rw [hat] at hx
  by_cases h : a ∈ ys.map keyN
  ·rw [if_pos h] at hx
   cases ho : oneF f a with
   | true => rw [ho, if_pos rfl] at hx; cases hx
   | false => simp
  ·rw [decide_eq_false h]; rfl
 ·obtain ⟨y, hy, _, e⟩ := hwf a x hx
  rw [e]; exact hg.fl a y hy
 ·obtain ⟨x, hx⟩ := Option.isSome_iff_exists.1 ha
  obtain ⟨y, hy, _, e⟩ := hwf a x hx
  unfold noK; rw [hx, hy]
  show (a.1, a.2, x.flags, (0 : Int)) = (a.1, a.2, y.flags, 0)
  rw [e]
 ·show dueT _ w (allK _ w) = _
  rw [hall]
  have key : ∀ l : List Ky, (∀ a ∈ l, isK f w a = true) → dueT (offK w f ys) w (l.filter fun a => !(decide (a ∈ ys.map keyN) && oneF f a)) = (dueT f w l).filter fun y => !(decide (keyN y ∈ ys.map keyN) && onceF f (keyN y)) := fun l => by
   induction l with
   | nil => intro _; rfl
   | cons a t ih =>
    intro hl
    have iht := ih fun b hb => hl b (List.mem_cons_of_mem _ hb)
    have hk := told_key f w a
    have hky : keyN (toldK f w a).1 = a := Prod.ext hk.1 hk.2
    have e2 : dueT f w (a :: t) = (if (toldK f w a).2 = true then [(toldK f w a).1] else []) ++ dueT f w t := by
     rw [← dueT_one, ← dueT_app]; rfl
    rw [e2, List.filter_append, List.filter_cons]
    by_cases hrm : a ∈ ys.map keyN ∧ oneF f a = true
    ·rw [if_neg (by simp [hrm.2]; simpa using hrm.1), iht]
     refine Eq.symm (Eq.trans (congrArg (· ++ _) ?_) (List.nil_append _))
     split
     ·rw [List.filter_cons, if_neg]
      ·rfl
      ·rw [hky, decide_eq_true hrm.1]
       unfold onceF; rw [hrm.2]; simp
     ·rfl
    ·have hrm' : (!(decide (a ∈ ys.map keyN) && oneF f a)) = true := by
      cases ho : oneF f a with
      | false => simp
      | true => rw [decide_eq_false (fun h => hrm ⟨h, ho⟩)]; rfl
     rw [if_pos hrm']
     have e3 : dueT (offK w f ys) w (a :: (t.filter fun a => !(decide (a ∈ ys.map keyN) && oneF f a))) = (if (toldK (offK w f ys) w a).2 = true then [(toldK (offK w f ys) w a).1] else []) ++ dueT (offK w f ys) w (t.filter fun a => !(decide (a ∈ ys.map keyN) && oneF f a)) := by
      rw [← dueT_one, ← dueT_app]; rfl
     rw [e3, iht]
     congr 1
     by_cases ha : a ∈ ys.map keyN
     ·obtain ⟨x, hx⟩ := hin a ha
      have ho : oneF f a = false := by
       cases ho : oneF f a with
       | false => rfl
       | true => exact absurd ⟨ha, ho⟩ hrm
      have hfx : offK w f ys a = some (offX w x a) := by rw [hat, if_pos ha, if_neg (by rw [ho]; decide), hx]; rfl
      have hone : onceF f a = (clrF f a && decide (a.2 ≠ 3)) := by unfold onceF; rw [ho, Bool.false_or]
      have ht : toldK (offK w f ys) w a = ((toldK f w a).1, (toldK f w a).2 && !(onceF f a)) := by
       rw [hone]; unfold toldK clrF; rw [hfx, hx]
       show (if bits .and .i64 x.flags 8 ≠ 0 then _ else _) = ((if bits .and .i64 x.flags 8 ≠ 0 then _ else _ : NoA × Bool).1, (if bits .and .i64 x.flags 8 ≠ 0 then _ else _ : NoA × Bool).2 && _)
       by_cases h8 : bits .and .i64 x.flags 8 ≠ 0
       ·rw [if_pos h8, if_pos h8]; rfl
       ·rw [if_neg h8, if_neg h8]
        by_cases h3 : a.2 = 3
        ·rw [if_pos h3, if_pos h3, (show decide (a.2 ≠ 3) = false from decide_eq_false (fun h => h h3)), Bool.and_false, Bool.not_false, Bool.and_true]
        ·rw [if_neg h3, if_neg h3, decide_eq_true h3, Bool.and_true]
         refine Prod.ext rfl ?_
         show (onK a.2 (readyR w a.1) && newsK (offX w x a) a.2 (readyR w a.1)) = ((onK a.2 (readyR w a.1) && newsK x a.2 (readyR w a.1)) && !(decide (bits .and .i64 x.flags 16 ≠ 0)))
         have : newsK (offX w x a) a.2 (readyR w a.1) = decide (bits .and .i64 x.flags 16 = 0) := by
          show (decide (bits .and .i64 x.flags 16 = 0) || false || decide (riseK a.2 (readyR w a.1) > riseK a.2 (readyR w a.1))) = _
          rw [decide_eq_false (Int.lt_irrefl _)]; simp
         rw [this]; unfold newsK
         by_cases h16 : bits .and .i64 x.flags 16 = 0
         ·rw [decide_eq_true h16, (show decide (bits .and .i64 x.flags 16 ≠ 0) = false from decide_eq_false (fun h => h h16))]; simp
         ·rw [decide_eq_false h16, decide_eq_true h16]; simp
      rw [ht]; dsimp only
      cases h2 : (toldK f w a).2 with
      | false => rfl
      | true =>
       rw [if_pos rfl, List.filter_cons, hky, decide_eq_true ha]
       cases onceF f a <;> rfl
     ·have hfa : offK w f ys a = f a := by rw [hat, if_neg ha]
      have ht : toldK (offK w f ys) w a = toldK f w a := by unfold toldK; rw [hfa]
      rw [ht]
      cases h2 : (toldK f w a).2 with
      | false => rfl
      | true =>
       rw [if_pos rfl, List.filter_cons, hky, decide_eq_false ha]; rfl
  exact key _ fun a ha => (List.mem_filter.1 ha).2
end Kq
end Go.Proofs.YtbfddabjbkohdaaGreat
namespace Go.Proofs.YtbfddabjbkohdaaGreat
set_option maxHeartbeats 2000000
open Go.RX.Hd (yv y2 n1 fk sk sr tH callE heldK onlyH endH thenN slots)
set_option linter.unusedSimpArgs false
set_option linter.unusedVariables false
set_option linter.unnecessarySimpa false
open Go.RX Fx
namespace Rf
open Wo
set_option maxRecDepth 8000
structure RwI where
 a : Nat → Option Addr
 c : Nat → Nat
 wa : Option Addr
 wc : Nat
abbrev Row := WireA × RwI
abbrev encRE (x : EndA) (a : Option Addr) (c : Nat) : List Value := [.int .i64 x.what, .int .i64 x.fd, .bool x.rd, .bool x.wr, .slice a x.b.length c, .bool x.shut, .int .u64 x.inn, .int .u64 x.out]
abbrev encRW (p : Row) : List Value := encRE (p.1.e 0) (p.2.a 0) (p.2.c 0) ++ (encRE (p.1.e 1) (p.2.a 1) (p.2.c 1) ++ [.int .i64 (p.1.cap : Int), .bool p.1.rs, .int .i64 p.1.bl, .slice p.2.wa p.1.wt.length p.2.wc])
theorem encRW_len (p : Row) : (encRW p).length = 20 := rfl
theorem encRW_one (p : Row) : ∀ u ∈ encRW p, u.oneCell' = true := by simp [Value.oneCell']
abbrev SdB (p : Row) (k : Nat) : SP := own 5 1 (p.2.a k) (p.1.e k).b.length (p.2.c k) (bsl (p.1.e k).b)
abbrev SdW (p : Row) : SP := own 3 1 p.2.wa p.1.wt.length p.2.wc (nats p.1.wt)
abbrev SdL (p : Row) (k : Nat) (L : List SP) : List SP := SdB p k :: SdB p (1 - k) :: SdW p :: L
def Sd (p : Row) : SP := RX.ex fun k : Nat => pu (k < 2) :: SdL p k []
theorem Hd.sd {E : World} {n : Nat} {ds : List Deferred} {st : List (Nat × Value)} {L L' : List SP} {K : Act → World → Prop} {p : Row} (q : Pick L (Sd p) L') (k : Nat) (hk : k < 2) (h : Hd E n ds st (SdL p k L') K) : Hd E n ds st L K :=
 Hd.exs (f := fun k : Nat => pu (k < 2) :: SdL p k []) q fun j => Hd.pure fun hj => by
  by_cases e : j = k
  ·subst e; exact h
  ·obtain rfl : j = 1 - k := by omega
   refine Hd.heap (SdL p k L') (fun q s => ?_) h
   have e2 : 1 - (1 - k) = k := by omega
   have s' : sep (SdL p (1 - k) L') q := s
   unfold SdL at s'; rw [e2] at s'; exact Ent.sep enn q s'
theorem sd_fold {p : Row} {k : Nat} (hk : k < 2) {L : List SP} : ∀ h, sep (SdL p k L) h → sep (Sd p :: L) h := fun h s => Ent.sep (.ex k (.pure hk enn)) h s
theorem sd_same {p p' : Row} (hb : ∀ k, k < 2 → (p'.1.e k).b = (p.1.e k).b) (hw : p'.1.wt = p.1.wt) (hi : p'.2 = p.2) : Sd p' = Sd p := by
 have h : ∀ k, k < 2 → SdL p' k [] = SdL p k [] := fun k hk => by
  unfold SdL SdB SdW; rw [hb k hk, hb (1 - k) (by omega), hw, hi]
 unfold Sd
 funext q
 refine propext ⟨?_, ?_⟩
 ·rintro ⟨k, s⟩
  have hk : k < 2 := by obtain ⟨_, _, _, _, _, hf, _⟩ := s; exact hf
  exact ⟨k, by show sep (pu (k < 2) :: SdL p k []) q; rw [← h k hk]; exact s⟩
 ·rintro ⟨k, s⟩
  have hk : k < 2 := by obtain ⟨_, _, _, _, _, hf, _⟩ := s; exact hf
  exact ⟨k, by show sep (pu (k < 2) :: SdL p' k []) q; rw [h k hk]; exact s⟩
abbrev ntV : Option (Nat × Nat) → List Value
 | none => [.int .i64 (-1), .int .i64 0]
 | some (n, k) => [.int .i64 (n : Int), .int .i64 (k : Int)]
abbrev RwC (w : WA) (n : Nat) (ad : Option Addr) (c : Nat) : List Value := [.slice ad n c, .int .u64 w.now] ++ (w.hd.map .bool ++ (w.ct.map (Value.int .i64) ++ ntV w.nt))
abbrev RwH (b : Nat) (w : WA) (n : Nat) (ad : Option Addr) (c : Nat) : SP := pt b (RwC w n ad c) 133
abbrev Rows_ := List Row × Option Addr × Nat
abbrev OwR (i : Rows_) : SP := own 221 20 i.2.1 i.1.length i.2.2 (i.1.flatMap encRW)
abbrev RwL (b : Nat) (w : WA) (i : Rows_) (L : List SP) : List SP := RwH b w i.1.length i.2.1 i.2.2 :: OwR i :: Bag Sd i.1 :: L
def RwP (b : Nat) (w : WA) : SP := RX.ex fun i : Rows_ => pu (i.1.map Prod.fst = w.ws) :: RwL b w i []
theorem Hd.rw {E : World} {n : Nat} {ds : List Deferred} {st : List (Nat × Value)} {L L' : List SP} {K : Act → World → Prop} {b : Nat} {w : WA} (p : Pick L (RwP b w) L') (h : ∀ i : Rows_, i.1.map Prod.fst = w.ws → Hd E n ds st (RwL b w i L') K) : Hd E n ds st L K :=
 Hd.exs (f := fun i : Rows_ => pu (i.1.map Prod.fst = w.ws) :: RwL b w i []) p fun i => Hd.pure fun hr => h i hr
theorem rw_fold {b : Nat} {w : WA} {i : Rows_} {L : List SP} (h : i.1.map Prod.fst = w.ws) : ∀ k, sep (RwL b w i L) k → sep (RwP b w :: L) k := fun k s => Ent.sep (.ex i (.pure h enn)) k s
theorem row_at {w : WA} {i : Rows_} (h : i.1.map Prod.fst = w.ws) {n : Nat} {x : WireA} (hn : w.ws[n]? = some x) : ∃ j, i.1[n]? = some (x, j) := by
 rw [← h, List.getElem?_map] at hn
 cases hr : i.1[n]? with
 | none => rw [hr] at hn; cases hn
 | some p => rw [hr] at hn; obtain ⟨y, j⟩ := p; obtain rfl := Option.some.inj hn; exact ⟨j, rfl⟩
theorem rows_n {w : WA} {i : Rows_} (h : i.1.map Prod.fst = w.ws) : i.1.length = w.ws.length := by rw [← h, List.length_map]
theorem rcell {rs : List Row} {n k j o : Nat} {x : WireA} {i : RwI} {v : Value} (h : rs[n]? = some (x, i)) (hk : k < 2) (hj : j < 8) (ho : o = n * 20 + k * 8 + j) (hv : (encRE (x.e k) (i.a k) (i.c k))[j]? = some v) : (rs.flatMap encRW)[o]? = some v := by
 subst ho; rw [Nat.add_assoc]; refine flat_cells encRW 20 encRW_len h (k * 8 + j) v ?_
 rcases (show k = 0 ∨ k = 1 by omega) with rfl | rfl
 ·rw [show 0 * 8 + j = j by omega, List.getElem?_append_left (by simp; omega)]; exact hv
 ·rw [List.getElem?_append_right (by simp), List.getElem?_append_left (by simp; omega)]
  simpa using hv
theorem rcellW {rs : List Row} {n j o : Nat} {x : WireA} {i : RwI} {v : Value} (h : rs[n]? = some (x, i)) (ho : o = n * 20 + j) (hv : (encRW (x, i))[j]? = some v) : (rs.flatMap encRW)[o]? = some v := by
 subst ho; exact flat_cells encRW 20 encRW_len h j v hv
theorem rset {rs : List Row} {n k j o : Nat} {x x' : WireA} {i i' : RwI} {v : Value} (h : rs[n]? = some (x, i)) (hk : k < 2) (hj : j < 8) (ho : o = n * 20 + k * 8 + j) (he : (encRE (x.e k) (i.a k) (i.c k)).set j v = encRE (x'.e k) (i'.a k) (i'.c k))
  (h1 : encRE (x.e (1 - k)) (i.a (1 - k)) (i.c (1 - k)) = encRE (x'.e (1 - k)) (i'.a (1 - k)) (i'.c (1 - k))) (h2 : (encRW (x, i)).drop 16 = (encRW (x', i')).drop 16) : (rs.flatMap encRW).set o v = (rs.set n (x', i')).flatMap encRW := by
 subst ho; refine rows_set (j := k * 8 + j) encRW_len (by omega) ?_ h (by omega)
 have h3 : ([.int .i64 (x.cap : Int), .bool x.rs, .int .i64 x.bl, .slice i.wa x.wt.length i.wc] : List Value) = [.int .i64 (x'.cap : Int), .bool x'.rs, .int .i64 x'.bl, .slice i'.wa x'.wt.length i'.wc] := h2
 rcases (show k = 0 ∨ k = 1 by omega) with rfl | rfl
 ·rw [show 0 * 8 + j = j by omega]
  show (encRE (x.e 0) (i.a 0) (i.c 0) ++ _).set j v = _
  rw [List.set_append_left _ _ (by simp; omega), he]
  show _ ++ (encRE (x.e 1) (i.a 1) (i.c 1) ++ _) = _ ++ (_ ++ _)
  rw [h1, h3]
 ·show (encRE (x.e 0) (i.a 0) (i.c 0) ++ (encRE (x.e 1) (i.a 1) (i.c 1) ++ _)).set (1 * 8 + j) v = _
  rw [List.set_append_right _ _ (by simp), List.set_append_left _ _ (by simp; omega)]; rw [show 1 * 8 + j - (encRE (x.e 0) (i.a 0) (i.c 0)).length = j by simp, he, h3]
  have h1' : encRE (x.e 0) (i.a 0) (i.c 0) = encRE (x'.e 0) (i'.a 0) (i'.c 0) := h1
  rw [h1']
section
variable {E : World} {n : Nat} {ds : List Deferred} {st : List (Nat × Value)} {L L' : List SP} {P : Program} {d : Nat} {ty t : TypeId} {pos : String} {af : Array Edge} {g : Option (Nat × Bool)} {op : Operand} {v : Value}
theorem y_rc {e m c q k o : Nat} {ad : Option Addr} {rs : List Row} {x : WireA} {i : RwI} (ha : agk P t = some false) (hx : evo st op = some (.pointer (some ((adr ad).add o)))) (hr : rs[q]? = some (x, i)) (hk : k < 2) (j : Nat) (hv : (encRE (x.e k) (i.a k) (i.c k))[j]? = some v)
  (p : Pick L (own e 20 ad m c (rs.flatMap encRW)) L' := by repeat (first | with_reducible exact Pick.here | apply Pick.there | with_reducible apply Pick.right)) (ho : o = q * 20 + k * 8 + j := by omega) (hj : j < 8 := by decide) : Yv E n ds st L P ⟨some d, .load t op, ty, pos, af, g⟩ v :=
 y_loadR1 ha hx (RdS.own p) (rcell hr hk hj ho hv)
theorem y_rw {e m c q o : Nat} {ad : Option Addr} {rs : List Row} {x : WireA} {i : RwI} (ha : agk P t = some false) (hx : evo st op = some (.pointer (some ((adr ad).add o)))) (hr : rs[q]? = some (x, i)) (j : Nat) (hv : (encRW (x, i))[j]? = some v)
  (p : Pick L (own e 20 ad m c (rs.flatMap encRW)) L' := by repeat (first | with_reducible exact Pick.here | apply Pick.there | with_reducible apply Pick.right)) (ho : o = q * 20 + j := by omega) : Yv E n ds st L P ⟨some d, .load t op, ty, pos, af, g⟩ v :=
 y_loadR1 ha hx (RdS.own p) (rcellW hr ho hv)
end
end Rf
end Go.Proofs.YtbfddabjbkohdaaGreat
namespace Go.Proofs.YtbfddabjbkohdaaGreat
set_option maxHeartbeats 2000000
open Go.RX.Hd (yv y2 n1 fk sk sr tH callE heldK onlyH endH thenN slots)
set_option linter.unusedSimpArgs false
set_option linter.unusedVariables false
set_option linter.unnecessarySimpa false
open Go.RX Fx
namespace Wo
set_option maxRecDepth 8000
theorem free_itR (wb bx : Nat) (t : Int → Option (Nat × Nat)) : RX.ItR Tryz.prog 174 [.pointer (some ⟨bx, 0, none⟩)] encF (fun ys => ys = frees t) (fun ys => ys <+: frees t) wb 0 (fdC t)
  [pt bx [.pointer (some ⟨wb, 0, none⟩)] 38] [pt bx [.pointer (some ⟨wb, 0, none⟩)] 38] := by
 intro l J X hy hRd; refine Ct.of (vs := [.func (.yield l) #[] #[], .pointer (some ⟨bx, 0, none⟩)]) Tryz.func174 rfl rfl [(0, .func (.yield l) #[] #[]), (1, .pointer (some ⟨bx, 0, none⟩))] ⟨rfl, rfl, trivial⟩ ?_; intro E
 show Hd E 23 _ _ _ _
 refine Hd.heap (pt bx [.pointer (some ⟨wb, 0, none⟩)] 38 :: J []) (fun k h => by have := sep_app h; exact this) ?_; refine sr fun _ hK1 => ?_
 refine yv (y_l1 ag38 rfl) ?_; refine yv y_np <| yv (y_f 0 207 Tryz.underlying210 sz207) ?_; refine yv (y_loadn (us := fdC t) ag207 rfl (hRd.mono (fun k s => by obtain ⟨_, _, _, _, b, _, y⟩ := s; exact y.up b)) (by rw [fdC_len]; exact sz207)) ?_; refine yv y_mv <| fk [(0, _), (8, _), (9, _)] hK1 ?_; refine Hd.block <| Hd.loopK (ι := Nat) [(0, _), (8, _)] (fun i => [(9, .int .i64 (i : Int))]) (fun i => pu (i ≤ 96) :: pt bx [.pointer (some ⟨wb, 0, none⟩)] 38 :: J ((List.range i).filter fun fd : Nat => (t (fd : Int)).isNone)) (fun i => 96 - i) 0 sbq sbq (Ent.sep (.pure (by omega) enn)) ?_; intro i
 try dsimp only
 refine Hd.pure (fun hp0 => ?_)
 try dsimp only at hp0
 refine sr fun _ hK2 => ?_
 refine yv (y_lss rfl rfl) ?_; refine fk [(0, _), (8, _), (9, _), (10, _)] hK2 ?_; refine Hd.seq fun _ hK3 => ?_
 refine Hd.cond rfl (fun hc0 => ?_) (fun hc0 => ?_)
 ·try simp only [hyA, hyB, hyC, ne_eq] at hc0
  have hi : i < 96 := by omega
  have hsf := range_succ_filter (fun fd : Nat => (t (fd : Int)).isNone) i
  refine Hd.skip <| Hd.toK hK3 ?_; refine Hd.seq fun _ hK4 => ?_
  refine Hd.block <| sr fun _ hK5 => ?_
  refine yv y_mv <| yv (y_indexn (us := plc (t (i : Int))) Tryz.underlying207 ag190 sz190 rfl rfl hi (fdC_drop hi)) ?_; refine Hd.alloc zr190 (fun b4 => ?_); refine yv y_as <| Hd.storeA (us := plc (t (i : Int))) (by rw [plc_len]; exact sz190) rfl rfl rfl (plc_one _) pkk (by rw [plc_len]; rfl) ?_; refine fk [(0, _), (3, _), (4, _), (8, _), (9, _)] hK5 ?_; refine sr fun _ hK6 => ?_
  refine yv (y_f 0 4 Tryz.underlying190 sz4) ?_; refine yv (y_load1 ag4 rfl (Rd.pt1 pkk (by exact plc0 _))) ?_; refine yv (y_not rfl) ?_; refine yv y_mv <| Hd.part (gd := 16) rfl (fun hg3_16 => ?_) (fun hg3_16 => ?_)
  ·try simp only [hyA, hyB, hyC, ne_eq] at hg3_16
   have hfr : (t (i : Int)).isNone = true := by cases h : t (i : Int) <;> simp [h] at hg3_16 ⊢
   rw [if_pos hfr] at hsf
   have hpr : ((List.range i).filter fun fd : Nat => (t (fd : Int)).isNone) ++ [i] <+: frees t := by rw [← hsf]; exact range_prefix _ hi
   refine y2 y_mv <| y2 y_mv <| Hd.unguard rfl rfl ?_; refine Hd.yield (pre := (List.range i).filter fun fd : Nat => (t (fd : Int)).isNone) (c := i) (M := [pt bx [.pointer (some ⟨wb, 0, none⟩)] 38]) hy rfl rfl hpr (fun k' h => sep_app (show sep ([pt bx [.pointer (some ⟨wb, 0, none⟩)] 38] ++ J ((List.range i).filter fun fd : Nat => (t (fd : Int)).isNone)) k' from Ent.sep (show Ent _ (pt bx [.pointer (some ⟨wb, 0, none⟩)] 38 :: J ((List.range i).filter fun fd : Nat => (t (fd : Int)).isNone)) from enn) k' h)) ?_; intro yb; refine y2 (y_not rfl) ?_; refine yv (y_pickT rfl rfl) ?_; refine fk [(0, _), (8, _), (9, _), (21, _)] hK6 ?_; refine Hd.cond rfl (fun hc1 => ?_) (fun hc1 => ?_)
   ·try simp only [hyA, hyB, hyC, ne_eq] at hc1
    subst hc1; simp only [cond_false]; refine Hd.ret <| Hd.inBret <| Hd.thenRet <| Hd.thenRet <| Hd.inBret ?_; exact Hd.ret0 rfl (((List.range i).filter fun fd : Nat => (t (fd : Int)).isNone) ++ [i], false) rfl (fun k' h => Ent.sep (.pure hpr .same) k' h)
   ·try simp only [hyA, hyB, hyC, ne_eq] at hc1
    subst hc1; simp only [cond_true]; refine Hd.heap (pt bx [.pointer (some ⟨wb, 0, none⟩)] 38 :: J (((List.range i).filter fun fd : Nat => (t (fd : Int)).isNone) ++ [i])) (fun k' h => sep_app h) ?_; rw [← hsf]; refine Hd.skip <| Hd.inB <| Hd.toK hK4 ?_; refine Hd.region <| yv (y_addn rfl rfl (by simp only [InK]; omega)) ?_; refine yv y_mv <| Hd.nil <| slots [(0, _), (8, _), (9, _)] sbq ?_; refine thenN ?_; exact Hd.again (i + 1) (by omega) sbq (Ent.sep (.pure (by omega) enn))
  ·try simp only [hyA, hyB, hyC, ne_eq] at hg3_16
   have hfr : (t (i : Int)).isNone = false := by cases h : t (i : Int) <;> simp [h] at hg3_16 ⊢
   rw [if_neg (by rw [hfr]; simp)] at hsf; refine n1 <| n1 <| n1 <| n1 <| yv (y_pickF rfl rfl) ?_; refine fk [(0, _), (8, _), (9, _), (21, _)] hK6 ?_; refine Hd.condF rfl ?_; refine Hd.skip <| Hd.inB <| Hd.toK hK4 ?_; refine Hd.region <| yv (y_addn rfl rfl (by simp only [InK]; omega)) ?_; refine yv y_mv <| Hd.nil <| slots [(0, _), (8, _), (9, _)] sbq ?_; refine thenN ?_; rw [← hsf]; exact Hd.again (i + 1) (by omega) sbq (Ent.sep (.pure (by omega) enn))
 ·try simp only [hyA, hyB, hyC, ne_eq] at hc0
  refine Hd.exit <| Hd.thenExit <| Hd.thenExit <| Hd.inBexit ?_
  obtain rfl : i = 96 := by omega
  exact Hd.end0 rfl (frees t, true) rfl (fun k' h => Ent.sep (.pure rfl .same) k' (sep_app (M := [pt bx [.pointer (some ⟨wb, 0, none⟩)] 38]) (N := J (frees t)) (Ent.sep enn k' h)))
theorem acc_yes {w : WA} (h : WOk w) {fd : Int} {m k a f : Nat} {x : WireA} {t fs : List Nat} (hm : w.at fd = some (m, k)) (hx : w.ws[m]? = some x) (hbl : x.bl ≠ 0) (hwt : x.wt = a :: t) (hfs : frees w.at = f :: fs) :
  ∃ y, (w.setW m (x.wts t)).ws[a]? = some y ∧ accR w fd = (((f : Int), (a : Int), 0), (w.setW m (x.wts t)).setW a (giveW y f)) ∧ WOk ((w.setW m (x.wts t)).setW a (giveW y f)) ∧ ((w.setW m (x.wts t)).setW a (giveW y f)).at = setT w.at (f : Int) (some (a, 0)) := by
 have hwf := h.wf x (List.mem_of_getElem? hx)
 have hs : SbW x (x.wts t) := sbW_wts hwf (by rw [hwt]; exact List.sublist_cons_self _ _)
 have hsub := flatMap_set_sub (f := WireA.wt) (x' := x.wts t) hx hs.wt
 have hm0 : m ∈ (w.setW m (x.wts t)).ws.flatMap WireA.wt → ((x.wts t).e 0).what = 0 := fun e => by
  obtain ⟨z, hz, hz0⟩ := h.wm m (hsub.subset e)
  rw [hx] at hz; obtain rfl := Option.some.inj hz; exact hz0
 have hat := h.setS_at hx hs hm0 (fun _ _ e => e)
 have hok := h.setS hx hs hm0
 obtain ⟨y0, hy0, hy00⟩ := h.wm a (List.mem_flatMap.2 ⟨x, List.mem_of_getElem? hx, by rw [hwt]; exact List.mem_cons_self⟩)
 have ham : a ≠ m := fun e => h.ns m x hx (by rw [hwt, ← e]; exact List.mem_cons_self)
 have hy : (w.setW m (x.wts t)).ws[a]? = some y0 := by rw [setW_ne ham]; exact hy0
 have hR : accR w fd = (((f : Int), (a : Int), 0), (w.setW m (x.wts t)).setW a (giveW y0 f)) := by
  unfold accR; rw [hm]; dsimp only; rw [hx]; dsimp only; rw [if_neg hbl, hwt]; dsimp only; rw [hfs]; dsimp only; rw [hy]
 have hamw : a ∉ (w.setW m (x.wts t)).ws.flatMap WireA.wt := by
  have hp2 := flatMap_set_app (f := WireA.wt) (bs := [a] ++ t) (l := (w.setW m (x.wts [])).ws) (n := m) (x := x.wts []) (x' := x) (setW_self hx) (by rw [hwt]; rfl)
  have hp3 := flatMap_set_app (f := WireA.wt) (bs := t) (l := (w.setW m (x.wts [])).ws) (n := m) (x := x.wts []) (x' := x.wts t) (setW_self hx) rfl
  have e1 : (w.setW m (x.wts [])).ws.set m x = w.ws := by
   show (w.ws.set m _).set m x = w.ws
   rw [List.set_set]
   obtain ⟨hl, e⟩ := List.getElem?_eq_some_iff.1 hx
   rw [← e, List.set_getElem_self]
  have e2 : (w.setW m (x.wts [])).ws.set m (x.wts t) = (w.setW m (x.wts t)).ws := by
   show (w.ws.set m _).set m _ = w.ws.set m _
   rw [List.set_set]
  rw [e1] at hp2; rw [e2] at hp3
  have hn := hp2.nodup_iff.1 h.wn
  intro hm
  have := hp3.mem_iff.1 hm
  rw [List.append_assoc] at hn; exact (List.nodup_cons.1 hn).1 this
 have hff := frees_mem.1 (show f ∈ frees w.at by rw [hfs]; exact List.mem_cons_self)
 have hg := hok.give (f := f) hy (by rw [hy00]; decide) hamw hff.1 (by rw [hat]; exact hff.2)
 exact ⟨y0, hy, hR, hg.1, by rw [hg.2, hat]⟩
theorem sep_trans {A B C : List SP} (f : ∀ q, sep A q → sep B q) (g : ∀ q, sep B q → sep C q) : ∀ q, sep A q → sep C q := fun q s => g q (f q s)
theorem wire_wts {b k : Nat} {x : WireA} {i : WI} {t : List Nat} {wa : Option Addr} {wc : Nat} {L : List SP} (hi : WIOk x i) (hk : k < 2) : ∀ h, sep (pt b (encW (x.wts t) { i with wa := wa, wc := wc }) 199 :: RgO (i.p k) x.cap (x.e k).b :: RgO (i.p (1 - k)) x.cap (x.e (1 - k)).b :: own 3 1 wa t.length wc (nats t) :: L) h → sep (WireP b (x.wts t) :: L) h := fun h s =>
 wire_fold (x := x.wts t) (i := { i with wa := wa, wc := wc }) (k := k) ⟨hi.rd⟩ hk h s
theorem wire_give {b f : Nat} {y : WireA} {i : WI} {L : List SP} (hi : WIOk y i) : ∀ h, sep (pt b (encW (giveW y f) i) 199 :: RgO (i.p 0) y.cap (y.e 0).b :: RgO (i.p (1 - 0)) y.cap (y.e (1 - 0)).b :: own 3 1 i.wa y.wt.length i.wc (nats y.wt) :: L) h → sep (WireP b (giveW y f) :: L) h := fun h s =>
 wire_fold (x := giveW y f) (i := i) (k := 0) ⟨fun j hj => by
  rcases (show j = 0 ∨ j = 1 by omega) with rfl | rfl
  ·rw [give0]; exact hi.rd 0 hj
  ·rw [give1]; exact hi.rd 1 hj⟩ (by omega) h s
theorem set_fst {rs : List (Nat × WireA)} {n b : Nat} {x x' : WireA} (h : rs[n]? = some (b, x)) : (rs.set n (b, x')).map Prod.fst = rs.map Prod.fst := by
 rw [List.map_set]; apply List.ext_getElem?; intro j
 by_cases e : n = j
 ·subst e
  rw [List.getElem?_set_self (by rw [List.length_map]; exact (List.getElem?_eq_some_iff.1 h).1), List.getElem?_map, h]; rfl
 ·rw [List.getElem?_set_ne e]
abbrev AcH (b2 b4 b5 b6 b7 b8 wb b m k : Nat) (w : WA) (i : WoI) (x : WireA) (L : List SP) : List SP := WireP b x :: pt b2 [.pointer (some ⟨wb, 0, none⟩)] 38 :: pt b4 [.int .i64 0] 3 :: pt b5 [.int .i64 0] 3 :: pt b6 [.int .i64 (fdErr (some (m, k)))] 35 :: pt b7 (plc (some (m, k))) 190 :: pt b8 [ptr (some b)] 191 :: WoR wb m w i L
theorem waccept_ct (L : List SP) (wb : Nat) (w : WA) (fd : Int) : Ct Tryz.prog 59 #[.pointer (some ⟨wb, 0, none⟩), .int .i64 fd] (WorldP wb w :: L) (fun _ : Unit => .tuple #[.int .i64 (accR w fd).1.1, .int .i64 (accR w fd).1.2.1, .int .i64 (accR w fd).1.2.2]) (fun _ : Unit => WorldP wb (accR w fd).2 :: L) := by
 refine Ct.o2M Tryz.func59 ?_; intro E
 show Hd E 79 _ _ _ _
 refine Hd.world .here (fun i hw hrs => ?_); refine sr fun _ hK1 => ?_
 refine Hd.box rfl rfl (fun b2 => ?_); refine Hd.alloc zr3 (fun b4 => ?_); refine Hd.alloc zr3 (fun b5 => ?_); refine Hd.alloc zr35 (fun b6 => ?_); refine fk [(1, _), (2, _), (4, _), (5, _), (6, _)] hK1 ?_; refine sr fun _ hK2 => ?_
 refine yv (y_l1 ag38 rfl) ?_; refine yv y_mv <| callE rfl fk101 (find_ct _ wb w i hw hrs fd) sq ?_; intro _; refine yv y_mv <| yv (y_to (v' := .agg (plc (w.at fd)).toArray) y_ex (by rfl)) ?_; refine yv (y_to (v' := ptr (wfb i (w.at fd))) y_ex (by rfl)) ?_; refine yv (y_to (v' := .int .i64 (fdErr (w.at fd))) y_ex (by rfl)) ?_; refine Hd.alloc zr190 (fun b7 => ?_); refine Hd.alloc zr191 (fun b8 => ?_); refine Hd.storeA (us := plc (w.at fd)) (by rw [plc_len]; exact sz190) rfl rfl rfl (plc_one _) pkk (by rw [plc_len]; rfl) ?_; refine Hd.store1 sz191 rfl rfl rfl pkk (by decide) ?_
 try simp only [List.set_cons_zero, List.set_cons_succ]
 refine Hd.store1 sz35 rfl rfl rfl pkk (by decide) ?_
 try simp only [List.set_cons_zero, List.set_cons_succ]
 refine fk [(2, _), (4, _), (5, _), (6, _), (8, _)] hK2 ?_; refine Hd.seq fun _ hK3 => ?_
 refine Hd.block <| sr fun _ hK4 => ?_
 refine yv (y_l1 ag35 rfl) ?_; refine yv (y_neq rfl rfl) ?_; refine yv y_as <| fk [(2, _), (4, _), (5, _), (6, _), (8, _), (18, _)] hK4 ?_; refine Hd.cond rfl (fun hc0 => ?_) (fun hc0 => ?_)
 ·try simp only [hyA, hyB, hyC, ne_eq] at hc0
  have hno : w.at fd = none := by
   cases h : w.at fd with
   | none => rfl
   | some p => rw [h] at hc0; exact absurd rfl hc0
  refine Hd.seq fun _ hK5 => ?_
  refine Hd.drawsH ([pt b6 [.int .i64 (fdErr (w.at fd))] 35]) (fun j => !([3].contains j)) mixed ?_; simp only [List.length, Nat.zero_add, Nat.reduceAdd]; refine tH 0 rfl (y_l1 ag35 rfl) ?_; refine onlyH 1 rfl kq ?_; refine Hd.store1 sz3 rfl rfl rfl pkk (by decide) ?_
  try simp only [List.set_cons_zero, List.set_cons_succ]
  refine Hd.nil <| thenN <| heldK (J := (fun j => !([3].contains j))) (i := 1) sq ?_; refine onlyH 2 rfl kq ?_; refine Hd.store1 sz3 rfl rfl rfl pkk (by decide) ?_
  try simp only [List.set_cons_zero, List.set_cons_succ]
  refine Hd.nil <| thenN <| heldK (J := (fun j => !([3].contains j))) (i := 2) sq ?_; refine onlyH 3 rfl kq ?_; refine Hd.store1 sz35 rfl rfl rfl pkk (by simp; done) ?_
  try simp only [List.set_cons_zero, List.set_cons_succ]
  refine Hd.nil <| thenN <| Hd.heldN (J := (fun j => !([3].contains j))) (i := 3) rfl ?_; refine endH kq ?_; refine sk [(4, _), (5, _), (6, _)] hK5 ?_; refine Hd.ret <| Hd.inBret <| Hd.thenRet ?_; rw [show accR w fd = ((0, 0, 110), w) by unfold accR; rw [hno]]; rw [hno]; exact Hd.retM (fun a fr => Lv.endC3 fr rfl () ag3 ag3 ag35 rfl rfl rfl (Rd.pt1 pkk rfl) (Rd.pt1 pkk rfl) (Rd.pt1 pkk rfl) rfl (Ent.sep (.ex i (.pure ⟨hw, hrs⟩ enn))))
 ·try simp only [hyA, hyB, hyC, ne_eq] at hc0
  obtain ⟨m, k, hnk⟩ : ∃ m k, w.at fd = some (m, k) := by
   cases h : w.at fd with
   | none => rw [h] at hc0; exact absurd hc0 (by decide)
   | some p => exact ⟨p.1, p.2, rfl⟩
  obtain ⟨hf0, hf1, hk, hn, x, hx, _, _⟩ := hw.at_lt hnk
  obtain ⟨b, hb⟩ := rs_at hrs hx
  have hwf := hw.wf x (List.mem_of_getElem? hx)
  have hml : m < i.rs.length := (List.getElem?_eq_some_iff.1 hb).1
  rw [hnk, wfb_eq hb]; refine Hd.wOut pkk hb ?_; refine Hd.wire .here 0 (by omega) (fun i2 hi => ?_); refine sr fun _ hK6 => ?_
  refine yv (y_l1 ag191 rfl) ?_; refine yv y_np <| yv (y_f 15 3 Tryz.underlying199 sz3) ?_; refine yv (y_l1 ag3 rfl) ?_; refine yv (y_eql rfl rfl) ?_; refine yv y_as <| fk [(2, _), (4, _), (5, _), (6, _), (8, _), (22, _)] hK6 ?_; refine Hd.cond rfl (fun hc1 => ?_) (fun hc1 => ?_)
  ·try simp only [hyA, hyB, hyC, ne_eq] at hc1
   refine sr fun _ hK7 => ?_
   refine Hd.store1 sz3 rfl rfl rfl pkk (by decide) ?_
   try simp only [List.set_cons_zero, List.set_cons_succ]
   refine Hd.store1 sz3 rfl rfl rfl pkk (by decide) ?_
   try simp only [List.set_cons_zero, List.set_cons_succ]
   refine Hd.store1 sz35 rfl rfl rfl pkk (by simp; done) ?_
   try simp only [List.set_cons_zero, List.set_cons_succ]
   refine fk [(4, _), (5, _), (6, _)] hK7 ?_; refine Hd.ret <| Hd.inBret <| Hd.thenRet ?_; rw [show accR w fd = ((0, 0, 111), w) by unfold accR; rw [hnk]; dsimp only; rw [hx]; exact if_pos hc1]; exact Hd.retM (fun a fr => Lv.endC3 fr rfl () ag3 ag3 ag35 rfl rfl rfl (Rd.pt1 pkk rfl) (Rd.pt1 pkk rfl) (Rd.pt1 pkk rfl) rfl (fun q s => world_back (k := 0) hw hrs hb hi (by omega) q (Ent.sep enn q s)))
  ·try simp only [hyA, hyB, hyC, ne_eq] at hc1
   refine sr fun _ hK8 => ?_
   refine yv (y_l1 ag191 rfl) ?_; refine yv y_np <| yv (y_f 16 44 Tryz.underlying199 sz44) ?_; refine yv (y_l1 ag44 rfl) ?_; refine yv (y_len Tryz.underlying44 rfl) ?_; refine yv (y_eql rfl rfl) ?_; refine yv y_as <| fk [(2, _), (4, _), (5, _), (6, _), (8, _), (28, _)] hK8 ?_; refine Hd.cond rfl (fun hc2 => ?_) (fun hc2 => ?_)
   ·try simp only [hyA, hyB, hyC, ne_eq] at hc2
    refine sr fun _ hK9 => ?_
    refine Hd.store1 sz3 rfl rfl rfl pkk (by decide) ?_
    try simp only [List.set_cons_zero, List.set_cons_succ]
    refine Hd.store1 sz3 rfl rfl rfl pkk (by decide) ?_
    try simp only [List.set_cons_zero, List.set_cons_succ]
    refine Hd.store1 sz35 rfl rfl rfl pkk (by simp; done) ?_
    try simp only [List.set_cons_zero, List.set_cons_succ]
    refine fk [(4, _), (5, _), (6, _)] hK9 ?_; refine Hd.ret <| Hd.inBret <| Hd.thenRet ?_
    have hnil : x.wt = [] := List.eq_nil_of_length_eq_zero (by omega)
    rw [show accR w fd = ((0, 0, 113), w) by unfold accR; rw [hnk]; dsimp only; rw [hx]; dsimp only; rw [if_neg hc1, hnil]]; exact Hd.retM (fun a fr => Lv.endC3 fr rfl () ag3 ag3 ag35 rfl rfl rfl (Rd.pt1 pkk rfl) (Rd.pt1 pkk rfl) (Rd.pt1 pkk rfl) rfl (fun q s => world_back (k := 0) hw hrs hb hi (by omega) q (Ent.sep enn q s)))
   ·try simp only [hyA, hyB, hyC, ne_eq] at hc2
    obtain ⟨a, t, hwt⟩ : ∃ a t, x.wt = a :: t := by
     cases h : x.wt with
     | nil => rw [h] at hc2; exact absurd rfl hc2
     | cons a t => exact ⟨a, t, rfl⟩
    refine Hd.skip <| Hd.inB <| Hd.toK hK3 ?_; refine Hd.seq fun _ hK10 => ?_
    refine Hd.seq fun _ hK11 => ?_
    refine Hd.heap (AcH b2 b4 b5 b6 b7 b8 wb b m k w i x L) (fun q s => wire_fold (k := 0) hi (by omega) q (Ent.sep enn q s)) ?_; refine Hd.region <| yv (y_l1 ag38 rfl) ?_; refine callE rfl fk115 (free_ct _ wb) sq ?_; intro bx; refine fk [(2, _), (4, _), (5, _), (6, _), (8, _), (36, _)] hK11 ?_; refine Hd.block <| Hd.rangeR (enc := encF) (S := fun ys => ys = frees w.at) (Sp := fun ys => ys <+: frees w.at)
     (fun pre => pu (pre = []) :: AcH b2 b4 b5 b6 b7 b8 wb b m k w i x L) (fun j _ => [pu (j = none), pt b4 [.int .i64 (accR w fd).1.1] 3, pt b5 [.int .i64 (accR w fd).1.2.1] 3, pt b6 [.int .i64 (accR w fd).1.2.2] 35, WorldP wb (accR w fd).2] ++ L)
     rfl kq (fun _ => rfl) rfl (free_itR wb bx w.at) (Rd.pt pkk (fun j v e => by rw [Nat.zero_add, List.getElem?_append_left (List.getElem?_eq_some_iff.1 e).1]; exact e)) (by refine Ent.sep ?_; refine Ent.pure rfl ?_; exact Ent.swap (L := [_])) ?_ ?_ ?_
    ·intro E l' R pre f N hR hG
     unfold Rnd; simp only [List.cons_append, List.nil_append, pz, encF]; refine Hd.region <| yv y_as <| Hd.nil <| slots [(2, _), (4, _), (5, _), (6, _), (8, _), (9, _)] sbq ?_; refine thenN <| Hd.begin hR pkk ?_; refine Hd.block <| Hd.seq fun _ hK12 => ?_
     refine Hd.pull (A := pu (pre = [])) pkk ?_; refine Hd.pure (fun hpn => ?_); subst hpn
     obtain ⟨fs, hfs0⟩ := hG
     have hfs : frees w.at = f :: fs := hfs0.symm
     have hf96 : f < 96 := (frees_mem.1 (show f ∈ frees w.at by rw [hfs]; exact List.mem_cons_self)).1
     obtain ⟨y, hy, hAR, hok, hat⟩ := acc_yes hw hnk hx hc1 hwt hfs
     have ham : a ≠ m := fun e => hw.ns m x hx (by rw [hwt, ← e]; exact List.mem_cons_self)
     have hyw : w.ws[a]? = some y := by rw [setW_ne ham] at hy; exact hy
     obtain ⟨ba, hba⟩ := rs_at hrs hyw
     have hal : a < i.rs.length := (List.getElem?_eq_some_iff.1 hba).1
     have hra : (i.rs.set m (b, x.wts t))[a]? = some (ba, y) := by rw [List.getElem?_set_ne (Ne.symm ham)]; exact hba
     have hwl : 0 < x.wt.length := by rw [hwt]; exact Nat.succ_pos _
     have hlt : x.wt.length - 1 = t.length := by rw [hwt]; rfl
     have hw0 : (nats x.wt)[0 * 1]? = some (.int .i64 (a : Int)) := by rw [hwt]; rfl
     refine Hd.wire pkk 0 (by omega) (fun i3 hi3 => ?_); refine Hd.region <| yv (y_l1 ag191 rfl) ?_; refine yv y_np <| yv (y_f 16 44 Tryz.underlying199 sz44) ?_; refine yv (y_l1 ag44 rfl) ?_; refine yv (y_idxR Tryz.underlying44 sz3 rfl rfl (by exact (show (0 : Nat) < _ by omega)) (by exact RdS.own pkk)) ?_; refine yv (y_loadR1 ag3 rfl (RdS.own (ad := i3.wa) (us := nats x.wt) pkk) hw0) ?_; refine Hd.store1 sz3 rfl rfl rfl pkk (by decide) ?_
     try simp only [List.set_cons_zero, List.set_cons_succ]
     refine fk [(2, _), (4, _), (5, _), (6, _), (8, _), (9, _)] hK12 ?_; refine Hd.seq fun _ hK13 => ?_
     refine Hd.tail 8 mixed kq ?_; simp only [List.take, List.drop]; refine Ht.yv (y_l1 ag191 rfl) ?_; refine Ht.yv (y_l1 ag191 rfl) ?_; refine Ht.yv y_np ?_; refine Ht.yv (y_f 16 44 Tryz.underlying199 sz44) ?_; refine Ht.yv (y_l1 ag44 rfl) ?_; refine Ht.yv (y_slo_oxx Tryz.underlying44 sz3 rfl rfl (by omega) (by omega)) ?_; refine Ht.yv y_np ?_; refine Ht.yv (y_f 16 44 Tryz.underlying199 sz44) ?_; refine Ht.nil ?_; refine Hd.store1 sz44 rfl rfl rfl pkk (by simp; done) ?_
     try simp only [List.set_cons_zero, List.set_cons_succ]
     refine Hd.nil ?_; simp only [show Int.toNat 1 = 1 from rfl]; refine Hd.ownDrop (e := 3) (ad := i3.wa) (m := x.wt.length) (cap := i3.wc) pkk 1 (nats [a]) (nats t) (by omega) (by rw [hwt]; rfl) rfl ?_; rw [hlt, show (encW x i3).set (0 + 16) (.slice (cutA i3.wa 1 1 i3.wc) t.length (i3.wc - 1)) = encW (x.wts t) { i3 with wa := cutA i3.wa 1 1 i3.wc, wc := i3.wc - 1 } from rfl]; refine Hd.heap (WireP b (x.wts t) :: _) (fun q s => wire_wts (k := 0) hi3 (by omega) q (by exact Ent.sep enn q s)) ?_; refine Hd.heap (Wires (i.rs.set m (b, x.wts t)) :: _) (fun q s => ws_in hml (by exact Ent.sep enn q s)) ?_; refine sk [(2, _), (4, _), (5, _), (6, _), (9, _)] hK13 ?_; refine Hd.seq fun _ hK14 => ?_
     refine Hd.quiet mixed kq ?_; refine Hq.yv (y_l1 ag38 rfl) ?_; refine Hq.yv y_np ?_; refine Hq.yv (y_f 288 208 Tryz.underlying210 sz208) ?_; refine Hq.yv (y_load1 ag208 rfl (Rd.pt1 pkk (by exact woT_at (j := 0) (by omega) rfl))) ?_; refine Hq.yv (y_l1 ag3 rfl) ?_; refine Hq.yv (y_idxR Tryz.underlying208 sz191 rfl rfl (by omega) (by exact RdS.own pkk)) ?_; refine Hq.yv (y_loadR1 ag191 rfl (by exact RdS.own pkk) (by exact pws_at hba)) ?_; refine Hq.yv y_as ?_; refine Hq.nil ?_; refine sk [(2, _), (4, _), (5, _), (6, _), (9, _), (10, _)] hK14 ?_; refine Hd.seq fun _ hK15 => ?_
     refine Hd.wOut pkk hra ?_; refine Hd.wire .here 0 (by omega) (fun i4 hi4 => ?_); refine Hd.drawsH ([]) (fun j => !(([1000] : List Nat).contains j)) mixed ?_; simp only [List.length, Nat.zero_add, Nat.reduceAdd]; refine tH 0 rfl y_mv ?_; refine tH 1 rfl y_mv ?_; refine tH 2 rfl y_mv ?_; refine tH 3 rfl y_np ?_; refine tH 4 rfl (y_f 0 197 Tryz.underlying199 sz197) ?_; refine tH 5 rfl (y_idxA Tryz.underlying197 sz196 rfl rfl (by decide)) ?_; refine tH 6 rfl (y_f 0 3 Tryz.underlying196 sz3) ?_; refine tH 8 rfl y_np ?_; refine tH 9 rfl (y_f 0 197 Tryz.underlying199 sz197) ?_; refine onlyH 7 rfl kq ?_; refine Hd.store1 sz3 rfl rfl rfl pkk (by simp; done) ?_
     try simp only [List.set_cons_zero, List.set_cons_succ]
     refine Hd.nil <| thenN <| heldK (J := (fun j => !(([1000] : List Nat).contains j))) (i := 7) sq ?_; refine tH 10 rfl (y_idxA Tryz.underlying197 sz196 rfl rfl (by decide)) ?_; refine tH 11 rfl (y_f 1 3 Tryz.underlying196 sz3) ?_; refine onlyH 12 rfl kq ?_; refine Hd.store1 sz3 rfl rfl rfl pkk (by simp; done) ?_
     try simp only [List.set_cons_zero, List.set_cons_succ]
     refine Hd.nil <| thenN <| heldK (J := (fun j => !(([1000] : List Nat).contains j))) (i := 12) sq ?_; refine endH kq ?_; refine Hd.heap (WireP ba (giveW y f) :: _) (fun q s => wire_give hi4 q (by exact Ent.sep (.eq pkk (pt_eq (by rfl)) enn) q s)) ?_; refine Hd.heap (Wires ((i.rs.set m (b, x.wts t)).set a (ba, giveW y f)) :: _) (fun q s => ws_in (by rw [List.length_set]; exact hal) (by exact Ent.sep enn q s)) ?_; refine sk [(2, _), (4, _), (5, _), (6, _), (9, _)] hK15 ?_; refine Hd.seq fun _ hK16 => ?_
     refine Hd.tail 7 mixed kq ?_; simp only [List.take, List.drop]; refine Ht.yv (y_l1 ag38 rfl) ?_; refine Ht.yv y_mv ?_; refine Ht.yv (y_l1 ag3 rfl) ?_; refine Ht.yv (y_build (vs := [(0, _), (1, _), (2, _)]) rfl (by exact bd59_73 ..)) ?_; refine Ht.yv y_np ?_; refine Ht.yv (y_f 0 207 Tryz.underlying210 sz207) ?_; refine Ht.yv (y_idxA Tryz.underlying207 sz190 rfl rfl (by omega)) ?_; refine Ht.nil ?_; refine Hd.store (us := plc (some (a, 0))) sz190 rfl rfl rfl (plc_one _) pkk (by rw [List.length_append, fdC_len, plc_len]; omega) ?_; refine Hd.nil ?_; rw [show 0 + 0 + f * 3 = f * 3 by omega, show (plc (some (a, 0))).length = 3 from rfl, fdC_set hf96]; refine sk [(4, _), (5, _), (6, _), (9, _)] hK16 ?_; refine Hd.seq fun _ hK17 => ?_
     refine Hd.drawsH ([pt b5 [.int .i64 (a : Int)] 3]) (fun j => !([3].contains j)) mixed ?_; simp only [List.length, Nat.zero_add, Nat.reduceAdd]; refine tH 0 rfl y_mv ?_; refine tH 1 rfl (y_l1 ag3 rfl) ?_; refine onlyH 2 rfl kq ?_; refine Hd.store1 sz3 rfl rfl rfl pkk (by decide) ?_
     try simp only [List.set_cons_zero, List.set_cons_succ]
     refine Hd.nil <| thenN <| heldK (J := (fun j => !([3].contains j))) (i := 2) sq ?_; refine onlyH 3 rfl kq ?_; refine Hd.store1 sz3 rfl rfl rfl pkk (by simp; done) ?_
     try simp only [List.set_cons_zero, List.set_cons_succ]
     refine Hd.nil <| thenN <| Hd.heldN (J := (fun j => !([3].contains j))) (i := 3) rfl ?_; refine onlyH 4 rfl kq ?_; refine Hd.store1 sz35 rfl rfl rfl pkk (by simp; done) ?_
     try simp only [List.set_cons_zero, List.set_cons_succ]
     refine Hd.nil <| thenN <| heldK (J := (fun j => !([3].contains j))) (i := 4) sq ?_; refine endH kq ?_; refine sk [(4, _), (5, _), (6, _)] hK17 ?_; refine Hd.ret <| Hd.inBret <| Hd.reR ?_; simp only [List.cons_append, List.nil_append]; rw [hAR]
     have hfs2 : ((i.rs.set m (b, x.wts t)).set a (ba, giveW y f)).map Prod.fst = i.rs.map Prod.fst := by rw [set_fst hra, set_fst hb]
     have hws2 : ((i.rs.set m (b, x.wts t)).set a (ba, giveW y f)).map Prod.snd = ((w.setW m (x.wts t)).setW a (giveW y f)).ws := by
      rw [List.map_set, List.map_set, hrs]; rfl
     dsimp only; refine sep_trans (Ent.sep (.pick pkk (.eq pkk (pt_eq (by rfl)) enn))) (sep_trans (world_all (w := w) (wb := wb) hok hfs2 hws2 hat rfl) (Ent.sep ?_)); exact .pick pkk (.pure (by trivial) enn)
    ·intro r0 ys hys
     obtain rfl : ys = frees w.at := hys
     simp only [List.cons_append, List.nil_append]; refine Hd.pure (fun hfn => ?_)
     try simp only [List.cons_append, List.nil_append]
     refine Hd.inB <| Hd.toK hK10 ?_; refine sr fun _ hK18 => ?_
     refine Hd.store1 sz3 rfl rfl rfl pkk (by decide) ?_
     try simp only [List.set_cons_zero, List.set_cons_succ]
     refine Hd.store1 sz3 rfl rfl rfl pkk (by decide) ?_
     try simp only [List.set_cons_zero, List.set_cons_succ]
     refine Hd.store1 sz35 rfl rfl rfl pkk (by simp; done) ?_
     try simp only [List.set_cons_zero, List.set_cons_succ]
     refine fk [(4, _), (5, _), (6, _)] hK18 ?_; refine Hd.ret ?_; rw [show accR w fd = ((0, 0, 112), w) by unfold accR; rw [hnk]; dsimp only; rw [hx]; dsimp only; rw [if_neg hc1, hwt]; dsimp only; rw [hfn]]; exact Hd.retM (fun a fr => Lv.mark pkk (Lv.endC3 fr rfl () ag3 ag3 ag35 rfl rfl rfl (Rd.pt1 pkk rfl) (Rd.pt1 pkk rfl) (Rd.pt1 pkk rfl) rfl (fun q s => world_same hw hrs hb q (Ent.sep enn q s))))
    ·rintro r0_0 (_ | id0) pre0 hG0
     ·simp only [List.cons_append, List.nil_append]
      refine Hd.pure (fun _ => ?_)
      try simp only [List.cons_append, List.nil_append]
      refine Hd.ret <| Hd.inBret <| Hd.thenRet ?_; exact Hd.retM (fun a fr => Lv.mark pkk (Lv.endC3 fr rfl () ag3 ag3 ag35 rfl rfl rfl (Rd.pt1 pkk rfl) (Rd.pt1 pkk rfl) (Rd.pt1 pkk rfl) rfl sq))
     ·exact Hd.absurd (by simp)
end Wo
end Go.Proofs.YtbfddabjbkohdaaGreat
