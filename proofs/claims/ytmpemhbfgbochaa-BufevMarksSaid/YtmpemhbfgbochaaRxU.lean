/-
  Arguments that are bytes. No program is named here.
-/
import Derived.Test.YtmpemhbfgbochaaRxA
import Derived.Test.YtmpemhbfgbochaaRxS
namespace Go.RX
set_option linter.unusedSimpArgs false
set_option linter.unusedVariables false
set_option linter.unnecessarySimpa false
def u8of (i : Int) : UInt8 := UInt8.ofNat i.toNat
theorem B_u8of {i : Int} (h : InK .u8 i) : B (u8of i) = .int .u8 i := by
  simp only [InK] at h
  have : ((u8of i).toNat : Int) = i := by
    unfold u8of
    have h1 : i.toNat < 256 := by omega
    simp only [UInt8.toNat_ofNat']
    omega
  rw [B, this]
theorem map_u8of {l : List Int} (h : ∀ y ∈ l, InK .u8 y) : (l.map u8of).map B = l.map (Value.int .u8) := by
  rw [List.map_map]
  exact List.map_congr_left fun y hy => B_u8of (h y hy)
theorem rd_u8 {W : World} {x : (Sh.slice (.int .u8)).T} (h : (Sh.slice (.int .u8)).ok W x) : RdS [Old W] 1 x.ad (x.l.map u8of).length ((x.l.map u8of).map B) := by
  rw [map_u8of h.2.2.2.2, List.length_map]
  exact rd_int h
end Go.RX
