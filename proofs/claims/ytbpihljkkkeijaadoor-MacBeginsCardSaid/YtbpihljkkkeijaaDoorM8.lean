/- Layer 6: keys made of secrets, by both. -/
import Derived.Test.YtbpihljkkkeijaaDoorM5
import Derived.Test.YtbpihljkkkeijaaDoorM6
import Derived.Test.YtbpihljkkkeijaaDoorGlob
namespace Go.Proofs.YtbpihljkkkeijaaDoor
open Go.Dbr
set_option maxRecDepth 100000
set_option maxHeartbeats 2000000
set_option linter.unusedVariables false
set_option linter.unusedSimpArgs false

theorem extract_go (w : World) (h : Int) (hh : h = 1 ∨ h = 2 ∨ h = 3) (ak : Option Addr) (nk ck : Nat) (lk : List UInt8) (ek : nk = List.length lk) (ik : InB w [] ak ck lk) (ax : Option Addr) (nx cx : Nat) (lx : List UInt8) (ex : nx = List.length lx) (ix : InB w [] ax cx lx) (gk32 : InU32 w [] (some ⟨0, 0, none⟩) 64 K32) (gk64 : InU64 w [] (some ⟨1, 0, none⟩) 80 K64) : Calls Tryd.prog 29 #[.int .i64 h, .slice ak nk ck, .slice ax nx cx] w fun e w' => ∃ ao co, e = .returned (.slice ao (List.length (macF h lk lx)) co) ∧ Ev w [] w' [.vec ao co 1 (bys (macF h lk lx)) 5] := by
 subst ek
 subst ex
 have hs := ik.small
 have hck := ik.cap
 have hs2 := ix.small
 have hcx := ix.cap
 refine d_0 [(0, .int .i64 h), (1, .slice ak (List.length lk) ck), (2, .slice ax (List.length lx) cx)] 12 Go.Proofs.Tryd.func29 Go.Proofs.Tryd.ntmps29 (Heap.nil _) fun act0 En0 Hv0 => ?_
 refine d_s [0,1,2,6] [] En0 fun ac1 En2 => ?_
 refine wp_seq ?_
 refine region_from ?_
 refine d_k [6,7,8,9] [] 3 En2 fun ac3 En4 => ?_
 refine f_o ?_
 refine op_lit (d := some 10) (t := 30) (T := 23) (m := 1) (parts := #[(0, .slice ax (List.length lx) cx)]) (xs := [.slice ax (List.length lx) cx]) (sz := 1) En4 (by kernel_rfl) (by kernel_rfl) rfl (by decide) Hv0 ?_
 intro ac6 wo7 bk5 En8 Hv9
 refine f_o ?_
 refine c_0 En8 Hv9 (macof_go _ h hh ak (List.length lk) ck lk (by first | rfl | (simp; done) | (simp; omega) | omega) ((ik.ev Hv9).pick [] (by kernel_rfl)) (some ⟨bk5, 0, none⟩) 1 1 ([⟨ax, cx, lx⟩] : List (Sl UInt8)) (by first | rfl | (simp; done) | (simp; omega) | omega) ⟨Hv9.heap.ro (k := 0) rfl [] (by kernel_rfl) rfl, (fun e => by cases e), (by simp), (by simp), (List.forall_mem_cons.2 ⟨((ix.ev Hv9).pick [] (by kernel_rfl)), (fun x h => absurd h List.not_mem_nil)⟩)⟩ ((gk32.ev Hv9).pick [] (by kernel_rfl)) ((gk64.ev Hv9).pick [] (by kernel_rfl))) ?_
 rintro _ wo12 ⟨aoq10, coq10, rfl, he13⟩
 refine ⟨_, _, _, rfl, he13, rfl, fun ac15 En16 Hv17 => ?_⟩
 refine d_e [6] [] En16 fun ac18 En19 => ?_
 refine then_normal ?_
 refine wp_ret ?_
 refine d_ret1 (t := 6) (v := .slice aoq10 (List.length (macF h lk (List.flatMap (fun s : Sl UInt8 => s.l) ([⟨ax, cx, lx⟩] : List (Sl UInt8))))) coq10) En19 (by kernel_rfl) (by kernel_rfl) ?_
 have Hf20 := Hv17.pk [0] (M := [.vec aoq10 coq10 1 (bys (macF h lk (List.flatMap (fun s : Sl UInt8 => s.l) ([⟨ax, cx, lx⟩] : List (Sl UInt8))))) 5])
 have hfe : macF h lk (List.flatMap (fun s : Sl UInt8 => s.l) ([⟨ax, cx, lx⟩] : List (Sl UInt8))) = macF h lk lx := by simp
 rw [hfe] at Hf20
 exact ⟨_, _, by rw [hfe], Hf20⟩

theorem refextract_go (w : World) (h : Int) (hh : h = 1 ∨ h = 2 ∨ h = 3) (ak : Option Addr) (nk ck : Nat) (lk : List UInt8) (ek : nk = List.length lk) (ik : InB w [] ak ck lk) (ax : Option Addr) (nx cx : Nat) (lx : List UInt8) (ex : nx = List.length lx) (ix : InB w [] ax cx lx) (hbx : List.length lx ≤ 140737488353000) : Calls Tryd.prog 30 #[.int .i64 h, .slice ak nk ck, .slice ax nx cx] w fun e w' => ∃ ao co, e = .returned (.slice ao (List.length (macF h lk lx)) co) ∧ Ev w [] w' [.vec ao co 1 (bys (macF h lk lx)) 5] := by
 subst ek
 subst ex
 have hs := ik.small
 have hck := ik.cap
 have hs2 := ix.small
 have hcx := ix.cap
 refine d_0 [(0, .int .i64 h), (1, .slice ak (List.length lk) ck), (2, .slice ax (List.length lx) cx)] 11 Go.Proofs.Tryd.func30 Go.Proofs.Tryd.ntmps30 (Heap.nil _) fun act0 En0 Hv0 => ?_
 refine d_s [0,1,2,6] [] En0 fun ac1 En2 => ?_
 refine wp_seq ?_
 refine region_from ?_
 refine d_k [6,7,8,9] [] 3 En2 fun ac3 En4 => ?_
 refine f_o ?_
 refine c_0 En4 Hv0 (refof_go _ h hh ak (List.length lk) ck lk (by first | rfl | (simp; done) | (simp; omega) | omega) ((ik.ev Hv0).pick [] (by kernel_rfl)) ax (List.length lx) cx lx (by first | rfl | (simp; done) | (simp; omega) | omega) ((ix.ev Hv0).pick [] (by kernel_rfl)) (by first | omega | (simp; omega))) ?_
 rintro _ wo7 ⟨aoq5, coq5, rfl, he8⟩
 refine ⟨_, _, _, rfl, he8, rfl, fun ac10 En11 Hv12 => ?_⟩
 refine d_e [6] [] En11 fun ac13 En14 => ?_
 refine then_normal ?_
 refine wp_ret ?_
 refine d_ret1 (t := 6) (v := .slice aoq5 (List.length (macF h lk lx)) coq5) En14 (by kernel_rfl) (by kernel_rfl) ?_
 have Hf15 := Hv12.pk [0] (M := [.vec aoq5 coq5 1 (bys (macF h lk lx)) 5])
 exact ⟨_, _, rfl, Hf15⟩

theorem extract_nil (w : World) (h : Int) (hh : ¬ (h = 1 ∨ h = 2 ∨ h = 3)) (ak : Option Addr) (nk ck : Nat) (lk : List UInt8) (ek : nk = List.length lk) (ik : InB w [] ak ck lk) (ax : Option Addr) (nx cx : Nat) (lx : List UInt8) (ex : nx = List.length lx) (ix : InB w [] ax cx lx) : Calls Tryd.prog 29 #[.int .i64 h, .slice ak nk ck, .slice ax nx cx] w fun e w' => e = .returned (.slice none 0 0) ∧ Ev w [] w' [] := by
 subst ek
 subst ex
 have hs := ik.small
 have hck := ik.cap
 have hs2 := ix.small
 have hcx := ix.cap
 refine d_0 [(0, .int .i64 h), (1, .slice ak (List.length lk) ck), (2, .slice ax (List.length lx) cx)] 12 Go.Proofs.Tryd.func29 Go.Proofs.Tryd.ntmps29 (Heap.nil _) fun act0 En0 Hv0 => ?_
 refine d_s [0,1,2,6] [] En0 fun ac1 En2 => ?_
 refine wp_seq ?_
 refine region_from ?_
 refine d_k [6,7,8,9] [] 3 En2 fun ac3 En4 => ?_
 refine f_o ?_
 refine op_lit (d := some 10) (t := 30) (T := 23) (m := 1) (parts := #[(0, .slice ax (List.length lx) cx)]) (xs := [.slice ax (List.length lx) cx]) (sz := 1) En4 (by kernel_rfl) (by kernel_rfl) rfl (by decide) Hv0 ?_
 intro ac6 wo7 bk5 En8 Hv9
 refine f_o ?_
 refine c_p En8 Hv9 (macof_nil _ h hh ak (List.length lk) ck lk (by first | rfl | (simp; done) | (simp; omega) | omega) ((ik.ev Hv9).pick [] (by kernel_rfl)) (some ⟨bk5, 0, none⟩) 1 1 ([⟨ax, cx, lx⟩] : List (Sl UInt8)) (by first | rfl | (simp; done) | (simp; omega) | omega) ⟨Hv9.heap.ro (k := 0) rfl [] (by kernel_rfl) rfl, (fun e => by cases e), (by simp), (by simp), (List.forall_mem_cons.2 ⟨((ix.ev Hv9).pick [] (by kernel_rfl)), (fun x h => absurd h List.not_mem_nil)⟩)⟩) fun ac15 wo12 En16 Hv17 => ?_
 refine d_e [6] [] En16 fun ac18 En19 => ?_
 refine then_normal ?_
 refine wp_ret ?_
 refine d_ret1 (t := 6) (v := .slice none 0 0) En19 (by kernel_rfl) (by kernel_rfl) ?_
 exact ⟨rfl, Hv17.pk []⟩

theorem refextract_nil (w : World) (h : Int) (hh : ¬ (h = 1 ∨ h = 2 ∨ h = 3)) (ak : Option Addr) (nk ck : Nat) (lk : List UInt8) (ek : nk = List.length lk) (ik : InB w [] ak ck lk) (ax : Option Addr) (nx cx : Nat) (lx : List UInt8) (ex : nx = List.length lx) (ix : InB w [] ax cx lx) : Calls Tryd.prog 30 #[.int .i64 h, .slice ak nk ck, .slice ax nx cx] w fun e w' => e = .returned (.slice none 0 0) ∧ Ev w [] w' [] := by
 subst ek
 subst ex
 have hs := ik.small
 have hck := ik.cap
 have hs2 := ix.small
 have hcx := ix.cap
 refine d_0 [(0, .int .i64 h), (1, .slice ak (List.length lk) ck), (2, .slice ax (List.length lx) cx)] 11 Go.Proofs.Tryd.func30 Go.Proofs.Tryd.ntmps30 (Heap.nil _) fun act0 En0 Hv0 => ?_
 refine d_s [0,1,2,6] [] En0 fun ac1 En2 => ?_
 refine wp_seq ?_
 refine region_from ?_
 refine d_k [6,7,8,9] [] 3 En2 fun ac3 En4 => ?_
 refine f_o ?_
 refine c_p En4 Hv0 (refof_nil _ h hh ak (List.length lk) ck lk (by first | rfl | (simp; done) | (simp; omega) | omega) ((ik.ev Hv0).pick [] (by kernel_rfl)) ax (List.length lx) cx lx (by first | rfl | (simp; done) | (simp; omega) | omega) ((ix.ev Hv0).pick [] (by kernel_rfl))) fun ac10 wo7 En11 Hv12 => ?_
 refine d_e [6] [] En11 fun ac13 En14 => ?_
 refine then_normal ?_
 refine wp_ret ?_
 refine d_ret1 (t := 6) (v := .slice none 0 0) En14 (by kernel_rfl) (by kernel_rfl) ?_
 exact ⟨rfl, Hv12.pk []⟩

end Go.Proofs.YtbpihljkkkeijaaDoor
