/- Layer 5: digests. -/
import Derived.Test.YtbpihljkkkeijaaDoorS5x32
import Derived.Test.YtbpihljkkkeijaaDoorS5x64
import Derived.Test.YtbpihljkkkeijaaDoorS6
namespace Go.Proofs.YtbpihljkkkeijaaDoor
open Go.Dbr
set_option maxRecDepth 100000
set_option maxHeartbeats 2000000
set_option linter.unusedVariables false
set_option linter.unusedSimpArgs false

def S32 (h : Int) (all : List UInt8) : List UInt32 := if h = 1 then st32 init32 all else zero32
def S64 (h : Int) (all : List UInt8) : List UInt64 := if h = 1 then init64 1 else st64 (init64 h) all
def restH (h : Int) (all : List UInt8) : List UInt8 := if h = 1 then rest32 all else rest64 all
theorem S32_len (h : Int) (all : List UInt8) : (S32 h all).length = 8 := by unfold S32; split; exact st32_len rfl all; rfl
theorem S64_len (h : Int) (all : List UInt8) : (S64 h all).length = 8 := by unfold S64; split; rfl; exact st64_len (init64_len h) all
theorem restH_lt (h : Int) (all : List UInt8) : (restH h all).length < 128 := by
  unfold restH
  split
  · exact Nat.lt_trans (rest32_len all) (by decide)
  · exact rest64_len all
theorem restH_le (h : Int) (all : List UInt8) : (restH h all).length ≤ all.length := by
  unfold restH rest32 rest64
  split <;> simp

theorem new_dig (w : World) (h : Int) (hh : h = 1 ∨ h = 2 ∨ h = 3) : Calls Tryd.prog 19 #[.int .i64 h] w fun e w' => ∃ bd, e = .returned (pt bd) ∧ Ev w [] w' [.box bd (([.int .i64 h] : List Value) ++ ((u32s (S32 h ([] : List UInt8))) ++ ((u64s (S64 h ([] : List UInt8))) ++ ([.slice none (List.length (restH h ([] : List UInt8))) 0, uv64 (UInt64.ofNat (List.length ([] : List UInt8)))] : List Value)))) 58, .vec none 0 1 (bys (restH h ([] : List UInt8))) 5] := by
  refine (new_go w h hh).mono fun e w' h1 => ?_
  obtain ⟨bd, he, hv⟩ := h1
  refine ⟨bd, he, ?_⟩
  have h2 := Ev.nil (sz := 1) (T := 5) hv
  rcases hh with rfl | rfl | rfl
  · exact h2
  · exact h2
  · exact h2

theorem write_go (w : World) (bd : Nat) (h : Int) (hh : h = 1 ∨ h = 2 ∨ h = 3) (al : List UInt8) (ar : Option Addr) (cr : Nat) (ax : Option Addr) (nx cx : Nat) (lx : List UInt8) (ex : nx = List.length lx) (ix : InB w [.box bd (([.int .i64 h] : List Value) ++ ((u32s (S32 h al)) ++ ((u64s (S64 h al)) ++ ([.slice ar (List.length (restH h al)) cr, uv64 (UInt64.ofNat (List.length al))] : List Value)))) 58, .vec ar cr 1 (bys (restH h al)) 5] ax cx lx) (hB : List.length (restH h al) + List.length lx ≤ 140737488355200) (gk32 : InU32 w [.box bd (([.int .i64 h] : List Value) ++ ((u32s (S32 h al)) ++ ((u64s (S64 h al)) ++ ([.slice ar (List.length (restH h al)) cr, uv64 (UInt64.ofNat (List.length al))] : List Value)))) 58, .vec ar cr 1 (bys (restH h al)) 5] (some ⟨0, 0, none⟩) 64 K32) (gk64 : InU64 w [.box bd (([.int .i64 h] : List Value) ++ ((u32s (S32 h al)) ++ ((u64s (S64 h al)) ++ ([.slice ar (List.length (restH h al)) cr, uv64 (UInt64.ofNat (List.length al))] : List Value)))) 58, .vec ar cr 1 (bys (restH h al)) 5] (some ⟨1, 0, none⟩) 80 K64) (hH : Heap w [.box bd (([.int .i64 h] : List Value) ++ ((u32s (S32 h al)) ++ ((u64s (S64 h al)) ++ ([.slice ar (List.length (restH h al)) cr, uv64 (UInt64.ofNat (List.length al))] : List Value)))) 58, .vec ar cr 1 (bys (restH h al)) 5]) : Calls Tryd.prog 20 #[pt bd, .slice ax nx cx] w fun e w' => ∃ ao co, e = .returned (.tuple #[]) ∧ Ev w [.box bd (([.int .i64 h] : List Value) ++ ((u32s (S32 h al)) ++ ((u64s (S64 h al)) ++ ([.slice ar (List.length (restH h al)) cr, uv64 (UInt64.ofNat (List.length al))] : List Value)))) 58, .vec ar cr 1 (bys (restH h al)) 5] w' [.box bd (([.int .i64 h] : List Value) ++ ((u32s (S32 h (al ++ lx))) ++ ((u64s (S64 h (al ++ lx))) ++ ([.slice ao (List.length (restH h (al ++ lx))) co, uv64 (UInt64.ofNat (List.length (al ++ lx)))] : List Value)))) 58, .vec ao co 1 (bys (restH h (al ++ lx))) 5] := by
  rcases hh with rfl | rfl | rfl
  · have h1 := write32_go w bd (st32 init32 al) (st32_len rfl al) (init64 1) rfl ar cr (rest32 al) (rest32_len al) (UInt64.ofNat (List.length al)) ax nx cx lx ex ix hB gk32 hH
    simp only [st32_next, rest32_next, n_next] at h1
    exact h1
  · have h1 := write64_go w bd 2 (.inl rfl) (zero32) rfl (st64 (init64 2) al) (st64_len (init64_len 2) al) ar cr (rest64 al) (rest64_len al) (UInt64.ofNat (List.length al)) ax nx cx lx ex ix hB gk64 hH
    simp only [st64_next, rest64_next, n_next] at h1
    exact h1
  · have h1 := write64_go w bd 3 (.inr rfl) (zero32) rfl (st64 (init64 3) al) (st64_len (init64_len 3) al) ar cr (rest64 al) (rest64_len al) (UInt64.ofNat (List.length al)) ax nx cx lx ex ix hB gk64 hH
    simp only [st64_next, rest64_next, n_next] at h1
    exact h1
end Go.Proofs.YtbpihljkkkeijaaDoor
