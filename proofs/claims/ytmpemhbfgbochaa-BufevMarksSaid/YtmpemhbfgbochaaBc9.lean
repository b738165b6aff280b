/-
  Chains: Pull, Move.
-/
import Derived.Test.YtmpemhbfgbochaaBc8
namespace Go.Proofs.Ytmpemhbfgbochaa
set_option linter.unusedSimpArgs false
set_option linter.unusedVariables false
set_option linter.unnecessarySimpa false
open Go.RX Fx
namespace Bc
section
variable {E : World} {n : Nat} {ds : List Deferred} {st : List (Nat × Value)} {L L' L2 : List SP} {K : Act → World → Prop}
theorem Hd.ptOwn {b : Nat} {cs : List Value} {e : TypeId} (m' sz' : Nat) (p : Pick L (pt b cs e) L') (hl : cs.length = m' * sz') (hm : m' ≤ maxLen) (h : Hd E n ds st (own e sz' (some ⟨b, 0, none⟩) m' m' cs :: L') K) : Hd E n ds st L K :=
  Hd.heap _ (fun k s => sep_head (p.sep s) fun k x => own_pt (sp := []) hl (Nat.le_refl _) hm (by simp) (by simpa using x)) h
/-- a row ahead -/
theorem consRow_sep {rs : List Row} {ad : Option Addr} {m cap : Nat} {us : List Value} (l : List UInt8) (p1 : Pick L (rows rs) L') (p2 : Pick L' (own 5 1 ad m cap us) L2) (hl : l.length = m) (hu : us = bsl l) (k : PH) (s : sep L k) : sep (rows (⟨ad, cap, l⟩ :: rs) :: L2) k := by
  subst hl; subst hu
  have s1 := p1.sep s
  have s2 : sep (rows rs :: ow ⟨ad, cap, l⟩ :: L2) k := Ent.imp' .here (fun _ x => x) (fun k s => p2.sep s) s1
  have s3 := Ent.imp' .here (fun _ x => x) (fun k s => own_rows s) s2
  exact rows_join (a := [⟨ad, cap, l⟩]) ((Pick.there .here : Pick (rows rs :: rows [⟨ad, cap, l⟩] :: L2) (rows [⟨ad, cap, l⟩]) (rows rs :: L2)).sep s3)
theorem NeP.mono {P : Program} {M : List SP} {a1 a2 : Addr} (h : NeP P L a1 a2) (hm : ∀ k, sep M k → sep L k) : NeP P M a1 a2 := fun E w s => h E w (s.mp hm)
end
def row0 : Row := ⟨none, 0, []⟩
theorem hdr_hd {rs : List Row} (h : rs ≠ []) : (rs.map hdr)[0 * 1]? = some (hdr (rs.headD row0)) := by
  cases rs with
  | nil => exact absurd rfl h
  | cons r rs => rfl
abbrev pullOk (len : Nat) (n : Int) : Bool := decide (0 ≤ n) && decide (n ≤ (len : Int))
def pullB (all : List UInt8) (n : Int) : List UInt8 := if pullOk all.length n then all.take n.toNat else []
def pullE (len : Nat) (n : Int) : Int := if pullOk len n then 0 else 2
def FirstHas (rs : List Row) (n : Int) : Prop := 0 < n → ∃ r0 rest, rs = r0 :: rest ∧ n ≤ (r0.l.length : Int)

/-- what a Move says, and how many are moved -/
def mvE (l1 l2 : Nat) (n : Int) : Int := if n < 0 then 2 else mayE l2 (min n.toNat l1)
def mvK (l1 l2 : Nat) (n : Int) : Nat := if mvE l1 l2 n = 0 then min n.toNat l1 else 0
theorem mayE_zero {a m : Nat} : mayE a m = 0 ↔ m ≤ 1048576 - a := by
  unfold mayE; split
  · simp; assumption
  · simp; omega

end Bc
end Go.Proofs.Ytmpemhbfgbochaa
