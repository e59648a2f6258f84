/- Layer 5: bytes that are put behind. -/
import Derived.Test.YtbpihljkkkeijaaDoorS4
import Derived.Test.YtbpihljkkkeijaaDoorFull
namespace Go.Proofs.YtbpihljkkkeijaaDoor
open Go.Dbr
set_option maxRecDepth 100000
set_option maxHeartbeats 2000000
set_option linter.unusedVariables false
set_option linter.unusedSimpArgs false

def feed32 (s : List UInt32) (l : List UInt8) : Nat → List UInt32
  | 0 => s
  | q + 1 => blk32 (feed32 s l q) (wB32 (List.take 64 (List.drop (64 * q) l)) 16)
theorem feed32_len {s : List UInt32} {m : Nat} (h : s.length = m) (l : List UInt8) (q : Nat) : (feed32 s l q).length = m := by
  induction q with
  | zero => exact h
  | succ q ih => exact blk32_len ih _
theorem words32_16 (w : World) (ax : Option Addr) (nx cx : Nat) (lx : List UInt8) (ex : nx = List.length lx) (ix : InB w [] ax cx lx) (h : List.length lx = 64) : Calls Tryd.prog 36 #[.slice ax nx cx, .int .i64 4, .int .i64 64] w fun e w' => ∃ ao co, e = .returned (.slice ao 16 co) ∧ Ev w [] w' [.vec ao co 1 (u32s (wB32 lx 16)) 55] := by
  have h1 := words32_go w ax nx cx lx ex ix
  rw [show List.length lx / 4 = 16 by omega] at h1
  simp only [wB32_len] at h1
  exact h1

def feed64 (s : List UInt64) (l : List UInt8) : Nat → List UInt64
  | 0 => s
  | q + 1 => blk64 (feed64 s l q) (wB64 (List.take 128 (List.drop (128 * q) l)) 16)
theorem feed64_len {s : List UInt64} {m : Nat} (h : s.length = m) (l : List UInt8) (q : Nat) : (feed64 s l q).length = m := by
  induction q with
  | zero => exact h
  | succ q ih => exact blk64_len ih _
theorem words64_16 (w : World) (ax : Option Addr) (nx cx : Nat) (lx : List UInt8) (ex : nx = List.length lx) (ix : InB w [] ax cx lx) (h : List.length lx = 128) : Calls Tryd.prog 38 #[.slice ax nx cx, .int .i64 8, .int .i64 80] w fun e w' => ∃ ao co, e = .returned (.slice ao 16 co) ∧ Ev w [] w' [.vec ao co 1 (u64s (wB64 lx 16)) 53] := by
  have h1 := words64_go w ax nx cx lx ex ix
  rw [show List.length lx / 8 = 16 by omega] at h1
  simp only [wB64_len] at h1
  exact h1

theorem block_go23 (w : World) (h : Int) (hh : h = 2 ∨ h = 3) : Calls Tryd.prog 17 #[.int .i64 h] w fun e w' => e = .returned (.int .i64 128) ∧ Ev w [] w' [] := by
  rcases hh with rfl | rfl
  · exact block_go2 w
  · exact block_go3 w

end Go.Proofs.YtbpihljkkkeijaaDoor
