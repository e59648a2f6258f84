/- Layer 5: what a digest holds. -/
import Derived.Test.YtbpihljkkkeijaaDoorS5
namespace Go.Proofs.YtbpihljkkkeijaaDoor
open Go.Dbr
set_option maxRecDepth 100000
set_option maxHeartbeats 2000000
set_option linter.unusedVariables false
set_option linter.unusedSimpArgs false

theorem feed32_more {s : List UInt32} {l m : List UInt8} : ∀ {q : Nat}, 64 * q ≤ l.length → feed32 s (l ++ m) q = feed32 s l q
  | 0, _ => rfl
  | q + 1, h => by
    rw [feed32, feed32, feed32_more (by omega)]
    congr 2
    rw [List.drop_append_of_le_length (by omega), List.take_append_of_le_length (by rw [List.length_drop]; omega)]
theorem feed32_on {s : List UInt32} {l : List UInt8} {q : Nat} : ∀ (p : Nat), feed32 (feed32 s l q) (List.drop (64 * q) l) p = feed32 s l (q + p)
  | 0 => rfl
  | p + 1 => by
    rw [feed32, feed32_on p, ← Nat.add_assoc, feed32, List.drop_drop, show 64 * q + 64 * p = 64 * (q + p) by omega]
/-- the state behind all bytes so far -/
def st32 (s : List UInt32) (all : List UInt8) : List UInt32 := feed32 s all (all.length / 64)
def rest32 (all : List UInt8) : List UInt8 := List.drop (64 * (all.length / 64)) all
theorem rest32_len (all : List UInt8) : (rest32 all).length < 64 := by unfold rest32; rw [List.length_drop]; omega
theorem st32_len {s : List UInt32} (h : s.length = 8) (all : List UInt8) : (st32 s all).length = 8 := feed32_len h _ _
theorem rest32_app (all m : List UInt8) : rest32 all ++ m = List.drop (64 * (all.length / 64)) (all ++ m) := by
  unfold rest32
  rw [List.drop_append_of_le_length (by omega)]
theorem st32_next (s : List UInt32) (all m : List UInt8) : feed32 (st32 s all) (rest32 all ++ m) ((rest32 all ++ m).length / 64) = st32 s (all ++ m) := by
  unfold st32
  rw [rest32_app, ← feed32_more (m := m) (q := all.length / 64) (by omega), feed32_on]
  congr 1
  rw [List.length_drop]
  simp only [List.length_append]
  omega
theorem rest32_next (all m : List UInt8) : List.drop (64 * ((rest32 all ++ m).length / 64)) (rest32 all ++ m) = rest32 (all ++ m) := by
  rw [rest32_app]
  unfold rest32
  rw [List.drop_drop, List.length_drop]
  congr 1
  simp only [List.length_append]
  omega

theorem feed64_more {s : List UInt64} {l m : List UInt8} : ∀ {q : Nat}, 128 * q ≤ l.length → feed64 s (l ++ m) q = feed64 s l q
  | 0, _ => rfl
  | q + 1, h => by
    rw [feed64, feed64, feed64_more (by omega)]
    congr 2
    rw [List.drop_append_of_le_length (by omega), List.take_append_of_le_length (by rw [List.length_drop]; omega)]
theorem feed64_on {s : List UInt64} {l : List UInt8} {q : Nat} : ∀ (p : Nat), feed64 (feed64 s l q) (List.drop (128 * q) l) p = feed64 s l (q + p)
  | 0 => rfl
  | p + 1 => by
    rw [feed64, feed64_on p, ← Nat.add_assoc, feed64, List.drop_drop, show 128 * q + 128 * p = 128 * (q + p) by omega]
/-- the state behind all bytes so far -/
def st64 (s : List UInt64) (all : List UInt8) : List UInt64 := feed64 s all (all.length / 128)
def rest64 (all : List UInt8) : List UInt8 := List.drop (128 * (all.length / 128)) all
theorem rest64_len (all : List UInt8) : (rest64 all).length < 128 := by unfold rest64; rw [List.length_drop]; omega
theorem st64_len {s : List UInt64} (h : s.length = 8) (all : List UInt8) : (st64 s all).length = 8 := feed64_len h _ _
theorem rest64_app (all m : List UInt8) : rest64 all ++ m = List.drop (128 * (all.length / 128)) (all ++ m) := by
  unfold rest64
  rw [List.drop_append_of_le_length (by omega)]
theorem st64_next (s : List UInt64) (all m : List UInt8) : feed64 (st64 s all) (rest64 all ++ m) ((rest64 all ++ m).length / 128) = st64 s (all ++ m) := by
  unfold st64
  rw [rest64_app, ← feed64_more (m := m) (q := all.length / 128) (by omega), feed64_on]
  congr 1
  rw [List.length_drop]
  simp only [List.length_append]
  omega
theorem rest64_next (all m : List UInt8) : List.drop (128 * ((rest64 all ++ m).length / 128)) (rest64 all ++ m) = rest64 (all ++ m) := by
  rw [rest64_app]
  unfold rest64
  rw [List.drop_drop, List.length_drop]
  congr 1
  simp only [List.length_append]
  omega

theorem n_next (all m : List UInt8) : UInt64.ofNat all.length + UInt64.ofNat m.length = UInt64.ofNat (all ++ m).length := by rw [List.length_append, UInt64.ofNat_add]

end Go.Proofs.YtbpihljkkkeijaaDoor
