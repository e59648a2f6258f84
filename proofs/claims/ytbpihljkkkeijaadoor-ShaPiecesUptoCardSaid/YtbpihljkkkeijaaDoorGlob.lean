/- The package variables k32, k64: what the rows' lists give. -/
import Derived.Test.YtbpihljkkkeijaaDoorRows
import Derived.Test.YtbpihljkkkeijaaDoorS3
import Derived.Deep.DeepHandedRow
import Derived.Lib.LaidTab
import Derived.Stop.LaidErr
namespace Go.Proofs.YtbpihljkkkeijaaDoor
open Go Go.Dbr
set_option maxRecDepth 100000
theorem g32 : Tryd.prog.globalNamed "drawbridge/sha.k32" = some 0 := by kernel_rfl
theorem g64 : Tryd.prog.globalNamed "drawbridge/sha.k64" = some 1 := by kernel_rfl
theorem ty32 : (Tryd.prog.globals[0]?).map (·.type) = some 63 := by kernel_rfl
theorem ty64 : (Tryd.prog.globals[1]?).map (·.type) = some 71 := by kernel_rfl
theorem c63 : Tryd.prog.cellsOf 63 = 64 := by kernel_rfl
theorem c71 : Tryd.prog.cellsOf 71 = 80 := by kernel_rfl
theorem c55 : Tryd.prog.cellsOf 55 = 1 := by kernel_rfl
theorem c53 : Tryd.prog.cellsOf 53 = 1 := by kernel_rfl
def zs32 : List Int := K32.map fun x => ((UInt32.toNat x : Nat) : Int)
def zs64 : List Int := K64.map fun x => ((UInt64.toNat x : Nat) : Int)
theorem tab32 {W : World} (h : laidMetH Tryd.prog Rows.shaSumsRow.laid W) : Lib.TabIs Tryd.prog W "drawbridge/sha.k32" .u32 zs32 :=
  Lib.tabIs_of_head (rest := [("drawbridge/sha.k64", Rows.laid_drawbridge_sha_k64)]) (n := 64) (e := 55) g32 ty32 (by kernel_rfl) (by kernel_rfl) c55 c63 h
theorem tab64 {W : World} (h : laidMetH Tryd.prog Rows.shaSumsRow.laid W) : Lib.TabIs Tryd.prog W "drawbridge/sha.k64" .u64 zs64 :=
  Lib.tabIs_of_head (rest := []) (n := 80) (e := 53) g64 ty64 (by kernel_rfl) (by kernel_rfl) c53 c71 (laidMet.tail (x := ("drawbridge/sha.k32", Rows.laid_drawbridge_sha_k32)) h)
theorem in32_laid {W : World} (h : laidMetH Tryd.prog Rows.shaSumsRow.laid W) : InU32 W [] (some ⟨0, 0, none⟩) 64 K32 := by
  refine ⟨⟨fun j u hj => ?_, fun _ _ _ => Owns.nil⟩, fun e => (by cases e), (by decide), (by decide)⟩
  have hl : j < zs32.length := by
    have := (List.getElem?_eq_some_iff.1 hj).1
    rw [u32s_length] at this
    exact this
  have hc := (tab32 h).cell g32 j hl
  rw [add_off, Nat.zero_add, hc, ← hj]
  have hk : j < K32.length := by simpa [zs32] using hl
  rw [u32s_getD hk]
  simp [zs32, List.getElem?_eq_getElem hk]
  first | done | rfl
theorem in64_laid {W : World} (h : laidMetH Tryd.prog Rows.shaSumsRow.laid W) : InU64 W [] (some ⟨1, 0, none⟩) 80 K64 := by
  refine ⟨⟨fun j u hj => ?_, fun _ _ _ => Owns.nil⟩, fun e => (by cases e), (by decide), (by decide)⟩
  have hl : j < zs64.length := by
    have := (List.getElem?_eq_some_iff.1 hj).1
    rw [u64s_length] at this
    exact this
  have hc := (tab64 h).cell g64 j hl
  rw [add_off, Nat.zero_add, hc, ← hj]
  have hk : j < K64.length := by simpa [zs64] using hl
  rw [u64s_getD hk]
  simp [zs64, List.getElem?_eq_getElem hk]
  first | done | rfl
end Go.Proofs.YtbpihljkkkeijaaDoor
