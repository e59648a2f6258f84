/- Layer 5: the sum of any parts. -/
import Derived.Test.YtbpihljkkkeijaaDoorS15
namespace Go.Proofs.YtbpihljkkkeijaaDoor
open Go.Dbr
set_option maxRecDepth 100000
set_option maxHeartbeats 2000000
set_option linter.unusedVariables false
set_option linter.unusedSimpArgs false

theorem of_all (w : World) (h : Int) (hh : h = 1 ∨ h = 2 ∨ h = 3) (ax : Option Addr) (nx cx : Nat) (lx : List (Sl UInt8)) (ex : nx = List.length lx) (ix : InS (fun s : Sl UInt8 => s.f) 24 (fun x : Sl UInt8 => InB w [] x.a x.c x.l) w [] ax cx lx) (gk32 : InU32 w [] (some ⟨0, 0, none⟩) 64 K32) (gk64 : InU64 w [] (some ⟨1, 0, none⟩) 80 K64) : Calls Tryd.prog 13 #[.int .i64 h, .slice ax nx cx] w fun e w' => ∃ ao co, e = .returned (.slice ao (List.length (sumF h (List.flatMap (fun s : Sl UInt8 => s.l) lx))) co) ∧ Ev w [] w' [.vec ao co 1 (bys (sumF h (List.flatMap (fun s : Sl UInt8 => s.l) lx))) 5] :=
  of_go w h hh ax nx cx lx ex ix (parts_ok fun x hx => (ix.each x hx).small) gk32 gk64

end Go.Proofs.YtbpihljkkkeijaaDoor
