/- Layer 6: are texts the same? A live answer. -/
import Derived.Test.YtbpihljkkkeijaaDoorM4
namespace Go.Proofs.YtbpihljkkkeijaaDoor
open Go.Dbr
set_option maxRecDepth 100000
set_option maxHeartbeats 2000000
set_option linter.unusedVariables false
set_option linter.unusedSimpArgs false

def sameF (a b : List UInt8) : Nat → UInt8
  | 0 => 0
  | i + 1 => sameF a b i ||| (List.getD a i 0 ^^^ List.getD b i 0)
theorem or_zero {x y : UInt8} : x ||| y = 0 ↔ x = 0 ∧ y = 0 := by
  constructor
  · intro h
    have h1 : x.toNat ||| y.toNat = 0 := by rw [← UInt8.toNat_or, h]; rfl
    have h2 := Nat.or_eq_zero_iff.1 h1
    exact ⟨UInt8.toNat_inj.1 h2.1, UInt8.toNat_inj.1 h2.2⟩
  · rintro ⟨rfl, rfl⟩; rfl
theorem xor_zero {x y : UInt8} : x ^^^ y = 0 ↔ x = y := by
  constructor
  · intro h
    have : x ^^^ y ^^^ y = 0 ^^^ y := by rw [h]
    rwa [UInt8.xor_assoc, UInt8.xor_self, UInt8.xor_zero, UInt8.zero_xor] at this
  · rintro rfl; exact UInt8.xor_self
theorem sameF_zero {a b : List UInt8} (k : Nat) : sameF a b k = 0 ↔ ∀ j, j < k → List.getD a j 0 = List.getD b j 0 := by
  induction k with
  | zero => exact ⟨fun _ j h => absurd h (Nat.not_lt_zero j), fun _ => rfl⟩
  | succ k ih =>
    rw [sameF, or_zero, xor_zero, ih]
    constructor
    · rintro ⟨h1, h2⟩ j hj
      by_cases e : j = k
      · subst e; exact h2
      · exact h1 j (by omega)
    · intro h
      exact ⟨fun j hj => h j (by omega), h k (by omega)⟩
theorem same_eq {a b : List UInt8} (h : a.length = b.length) : (((UInt8.toNat (sameF a b a.length) : Nat) : Int) == (0 : Int)) = (a == b) := by
  have e : a = b ↔ sameF a b a.length = 0 := by
    rw [sameF_zero]
    constructor
    · rintro rfl _ _; rfl
    · intro hj
      apply List.ext_getElem h
      intro i h1 h2
      have := hj i h1
      simpa [List.getD, h1, h2] using this
  by_cases hc : a = b
  · rw [beq_iff_eq.2 hc, e.1 hc]; rfl
  · rw [beq_eq_false_iff_ne.2 hc]
    have h0 : sameF a b a.length ≠ 0 := fun q => hc (e.2 q)
    have h1 : (sameF a b a.length).toNat ≠ 0 := fun q => h0 (UInt8.toNat_inj.1 q)
    exact beq_eq_false_iff_ne.2 (by omega)

theorem same_go (w : World) (ax : Option Addr) (nx cx : Nat) (lx : List UInt8) (ex : nx = List.length lx) (ix : InB w [] ax cx lx) (ay : Option Addr) (ny cy : Nat) (ly : List UInt8) (ey : ny = List.length ly) (iy : InB w [] ay cy ly) : Calls Tryd.prog 28 #[.slice ax nx cx, .slice ay ny cy] w fun e w' => e = .returned (.bool (lx == ly)) ∧ Ev w [] w' [] := by
 subst ex
 subst ey
 have hs := ix.small
 have hcx := ix.cap
 have hs2 := iy.small
 have hcy := iy.cap
 refine d_0 [(0, .slice ax (List.length lx) cx), (1, .slice ay (List.length ly) cy)] 31 Go.Proofs.Tryd.func28 Go.Proofs.Tryd.ntmps28 (Heap.nil _) fun act0 En0 Hv0 => ?_
 refine d_s [0,1,4] [] En0 fun ac1 En2 => ?_
 refine wp_seq ?_
 refine d_s [0,1,4,11] [] En2 fun ac3 En4 => ?_
 refine c_n ((List.length lx : Nat) : Int) ((List.length ly : Nat) : Int) En4 (fun hc5 => ?_) (fun hc5 => ?_)
 ·
  refine d_s [0,1,4] [] En4 fun ac6 En7 => ?_
  refine wp_ret ?_
  refine then_ret ?_
  refine d_ret1 (t := 4) (v := .bool false) En7 (by kernel_rfl) (by kernel_rfl) ?_
  have hne : (lx == ly) = false := beq_eq_false_iff_ne.2 (fun q => by subst q; omega)
  exact ⟨by rw [hne], Hv0.pk []⟩
 ·
  refine wp_skip ?_
  refine then_normal ?_
  refine d_s [0,1,4,5] [] En4 fun ac8 En9 => ?_
  refine wp_seq ?_
  refine d_s [0,1,4,5,13,14] [] En9 fun ac10 En11 => ?_
  refine wp_block ?_
  refine loop_m (fun ms12 ac wo => ∃ (i : Nat) (u : UInt8), ms12 = (List.length lx - i : Nat) ∧ Env ac 31 [(0, .slice ax (List.length lx) cx), (1, .slice ay (List.length ly) cy), (4, .bool false), (5, bv u), (13, ni (List.length lx)), (14, ni i)] ∧ Ev w [] wo [] ∧ (i ≤ List.length lx) ∧ (u = sameF lx ly i)) ⟨_, 0, 0, rfl, En11.sb, Hv0.pk [], by omega, rfl⟩ ?_
  rintro mm18 ac14 wo15 ⟨i, u, rfl, En16, Hv17, hi, hu⟩
  refine d_s [0,1,4,5,13,14,15] [] En16 fun ac19 En20 => ?_
  refine wp_seq ?_
  refine c_d (((i : Nat) : Int) < ((List.length lx : Nat) : Int)) En20 (fun hc21 => ?_) (fun hc21 => ?_)
  ·
   refine wp_skip ?_
   refine then_normal ?_
   refine wp_seq ?_
   refine wp_block ?_
   refine d_s [0,1,4,5,6,13,14] [] En20 fun ac22 En23 => ?_
   refine r_c (fun ac wo => Env ac 31 [(0, .slice ax (List.length lx) cx), (1, .slice ay (List.length ly) cy), (4, .bool false), (5, bv (u ||| ((List.getD lx i 0) ^^^ (List.getD ly i 0)))), (13, ni (List.length lx)), (14, ni i)] ∧ Ev w [] wo []) ?_ ?_
   ·
    refine h_s (fun wv => Ev w [] wv []) [] 12 ?_
    have wo24 := Hv17.trans (Ev.drew Hv17.heap)
    have hb79 : i < List.length lx := (by omega)
    obtain ⟨adr77, had78⟩ := some_of ix.nz hb79
    refine q_s [0,1,2] [] 9 En23 (wo24.pk []) fun ac80 En81 => ?_
    refine q_f 3 (s := Instr.indexAt 23 (.slice ax (List.length lx) cx) (ni i)) (v := .pointer (some (Addr.add adr77 i))) En81 (fun _ => Go.Dbr.run_indexsl (e := 5) (sz := 1) (j := i) (jo := i) had78 (by kernel_rfl) (by kernel_rfl) (by omega) hb79 (Nat.mul_one _) _) (fun _ => wo24.pk []) fun ac82 En83 => ?_
    have hb84 : i < List.length lx := by omega
    refine q_r 4 (s := Instr.loadAt 5 (.pointer (some (Addr.add adr77 i)))) (v := bv (List.getD lx i 0)) En83 (fun w hS => run_loadel (ad := adr77) (o := i) rfl (ix.ev hS).reads had78 (bys_getD hb84) (by kernel_rfl)) (wo24.pk []) fun ac85 En86 => ?_
    have hb89 : i < List.length ly := (by omega)
    obtain ⟨adr87, had88⟩ := some_of iy.nz hb89
    refine q_s [5,6] [] 5 En86 (wo24.pk []) fun ac90 En91 => ?_
    refine q_f 7 (s := Instr.indexAt 23 (.slice ay (List.length ly) cy) (ni i)) (v := .pointer (some (Addr.add adr87 i))) En91 (fun _ => Go.Dbr.run_indexsl (e := 5) (sz := 1) (j := i) (jo := i) had88 (by kernel_rfl) (by kernel_rfl) (by omega) hb89 (Nat.mul_one _) _) (fun _ => wo24.pk []) fun ac92 En93 => ?_
    have hb94 : i < List.length ly := by omega
    refine q_r 8 (s := Instr.loadAt 5 (.pointer (some (Addr.add adr87 i)))) (v := bv (List.getD ly i 0)) En93 (fun w hS => run_loadel (ad := adr87) (o := i) rfl (iy.ev hS).reads had88 (bys_getD hb94) (by kernel_rfl)) (wo24.pk []) fun ac95 En96 => ?_
    refine q_s [9,10,11] [(9, g_i .u8 (Go.Dbr.u8_xor (x := List.getD lx i 0) (y := List.getD ly i 0) rfl rfl)), (10, g_i .u8 (Go.Dbr.u8_or (x := u) (y := (List.getD lx i 0) ^^^ (List.getD ly i 0)) rfl rfl))] 0 En96 (wo24.pk []) fun ac97 En98 => ?_
    exact h_e ⟨En98.sb, wo24.pk []⟩
   rintro ac99 wo100 ⟨En101, Hv102⟩
   refine block_normal ?_
   refine then_normal ?_
   refine d_r [0,1,4,5,13,14] [(0, g_n (w_a i 1))] En101 fun ac103 En104 => ?_
   refine then_normal ?_
   refine ⟨_, ⟨i + 1, (u ||| ((List.getD lx i 0) ^^^ (List.getD ly i 0))), rfl, En104.sb, Hv102.pk [], by omega, by rw [hu]; rfl⟩, ?_⟩
   omega
  ·
   refine wp_exit ?_
   refine then_exit ?_
   refine then_exit ?_
   refine block_exit ?_
   refine then_normal ?_
   refine d_s [0,1,4,5,13,14] [] En20 fun ac105 En106 => ?_
   refine wp_ret ?_
   refine d_ret1 (t := 4) (v := .bool (((UInt8.toNat u : Nat) : Int) == (0 : Int))) En106 (by kernel_rfl) (by kernel_rfl) ?_
   have hii : i = List.length lx := by omega
   have hll : List.length lx = List.length ly := by omega
   exact ⟨by rw [← same_eq hll, hu, hii], Hv17.pk []⟩

theorem same_yes (w : World) (ax : Option Addr) (nx cx : Nat) (lx : List UInt8) (ex : nx = List.length lx) (ix : InB w [] ax cx lx) (ay : Option Addr) (ny cy : Nat) (ly : List UInt8) (ey : ny = List.length ly) (iy : InB w [] ay cy ly) (h : lx = ly) : Calls Tryd.prog 28 #[.slice ax nx cx, .slice ay ny cy] w fun e w' => e = .returned (.bool true) ∧ Ev w [] w' [] := by
  have := same_go w ax nx cx lx ex ix ay ny cy ly ey iy
  rwa [beq_iff_eq.2 h] at this

theorem jefe : (List.getD (macF 1 [74, 101, 102, 101] [119, 104, 97, 116, 32, 100, 111, 32, 121, 97, 32, 119, 97, 110, 116, 32, 102, 111, 114, 32, 110, 111, 116, 104, 105, 110, 103, 63]) 0 0 = 91 ∧ List.getD (macF 1 [74, 101, 102, 101] [119, 104, 97, 116, 32, 100, 111, 32, 121, 97, 32, 119, 97, 110, 116, 32, 102, 111, 114, 32, 110, 111, 116, 104, 105, 110, 103, 63]) 1 0 = 220) ∧ List.getD (macF 1 [74, 101, 102, 101] [119, 104, 97, 116, 32, 100, 111, 32, 121, 97, 32, 119, 97, 110, 116, 32, 102, 111, 114, 32, 110, 111, 116, 104, 105, 110, 103, 63]) 31 0 = 67 := by decide +kernel

theorem head6_ok (w : World) (gk32 : InU32 w [] (some ⟨0, 0, none⟩) 64 K32) (gk64 : InU64 w [] (some ⟨1, 0, none⟩) 80 K64) : Calls Tryd.prog 25 #[] w fun e w' => e = .returned (.bool true) ∧ Ev w [] w' [] := by
 refine d_0 [] 31 Go.Proofs.Tryd.func25 Go.Proofs.Tryd.ntmps25 (Heap.nil _) fun act0 En0 Hv0 => ?_
 refine d_s [0] [] En0 fun ac1 En2 => ?_
 refine wp_seq ?_
 refine region_from ?_
 refine f_o ?_
 refine op_lit (d := some 2) (t := 23) (T := 5) (m := 4) (parts := #[(0, .int .u8 74), (1, .int .u8 101), (2, .int .u8 102), (3, .int .u8 101)]) (xs := bys [(74 : UInt8), (101 : UInt8), (102 : UInt8), (101 : UInt8)]) (sz := 1) En2 (by kernel_rfl) (by kernel_rfl) rfl (by decide) Hv0 ?_
 intro ac4 wo5 bk3 En6 Hv7
 refine f_o ?_
 refine op_marked (d := some 3) (t := 23) (e := 5) (k := 0) (cap := 4) (m := 4) (ad := ⟨bk3, 0, none⟩) (xs := bys [(74 : UInt8), (101 : UInt8), (102 : UInt8), (101 : UInt8)]) (T := 5) En6 (by kernel_rfl) (by kernel_rfl) (by kernel_rfl) Hv7 rfl ?_
 intro ac8 wo9  En10 Hv11
 refine f_o ?_
 refine op_lit (d := some 4) (t := 23) (T := 5) (m := 16) (parts := #[(0, .int .u8 119), (1, .int .u8 104), (2, .int .u8 97), (3, .int .u8 116), (4, .int .u8 32), (5, .int .u8 100), (6, .int .u8 111), (7, .int .u8 32), (8, .int .u8 121), (9, .int .u8 97), (10, .int .u8 32), (11, .int .u8 119), (12, .int .u8 97), (13, .int .u8 110), (14, .int .u8 116), (15, .int .u8 32)]) (xs := bys [(119 : UInt8), (104 : UInt8), (97 : UInt8), (116 : UInt8), (32 : UInt8), (100 : UInt8), (111 : UInt8), (32 : UInt8), (121 : UInt8), (97 : UInt8), (32 : UInt8), (119 : UInt8), (97 : UInt8), (110 : UInt8), (116 : UInt8), (32 : UInt8)]) (sz := 1) En10 (by kernel_rfl) (by kernel_rfl) rfl (by decide) Hv11 ?_
 intro ac13 wo14 bk12 En15 Hv16
 refine f_o ?_
 refine op_marked (d := some 5) (t := 23) (e := 5) (k := 1) (cap := 16) (m := 16) (ad := ⟨bk12, 0, none⟩) (xs := bys [(119 : UInt8), (104 : UInt8), (97 : UInt8), (116 : UInt8), (32 : UInt8), (100 : UInt8), (111 : UInt8), (32 : UInt8), (121 : UInt8), (97 : UInt8), (32 : UInt8), (119 : UInt8), (97 : UInt8), (110 : UInt8), (116 : UInt8), (32 : UInt8)]) (T := 5) En15 (by kernel_rfl) (by kernel_rfl) (by kernel_rfl) Hv16 rfl ?_
 intro ac17 wo18  En19 Hv20
 refine f_o ?_
 refine op_lit (d := some 6) (t := 23) (T := 5) (m := 12) (parts := #[(0, .int .u8 102), (1, .int .u8 111), (2, .int .u8 114), (3, .int .u8 32), (4, .int .u8 110), (5, .int .u8 111), (6, .int .u8 116), (7, .int .u8 104), (8, .int .u8 105), (9, .int .u8 110), (10, .int .u8 103), (11, .int .u8 63)]) (xs := bys [(102 : UInt8), (111 : UInt8), (114 : UInt8), (32 : UInt8), (110 : UInt8), (111 : UInt8), (116 : UInt8), (104 : UInt8), (105 : UInt8), (110 : UInt8), (103 : UInt8), (63 : UInt8)]) (sz := 1) En19 (by kernel_rfl) (by kernel_rfl) rfl (by decide) Hv20 ?_
 intro ac22 wo23 bk21 En24 Hv25
 refine f_o ?_
 refine op_marked (d := some 7) (t := 23) (e := 5) (k := 2) (cap := 12) (m := 12) (ad := ⟨bk21, 0, none⟩) (xs := bys [(102 : UInt8), (111 : UInt8), (114 : UInt8), (32 : UInt8), (110 : UInt8), (111 : UInt8), (116 : UInt8), (104 : UInt8), (105 : UInt8), (110 : UInt8), (103 : UInt8), (63 : UInt8)]) (T := 5) En24 (by kernel_rfl) (by kernel_rfl) (by kernel_rfl) Hv25 rfl ?_
 intro ac26 wo27  En28 Hv29
 refine f_o ?_
 refine op_lit (d := some 8) (t := 30) (T := 23) (m := 2) (parts := #[(0, .slice (some ⟨bk12, 0, none⟩) 16 16), (1, .slice (some ⟨bk21, 0, none⟩) 12 12)]) (xs := [.slice (some ⟨bk12, 0, none⟩) 16 16, .slice (some ⟨bk21, 0, none⟩) 12 12]) (sz := 1) En28 (by kernel_rfl) (by kernel_rfl) rfl (by decide) Hv29 ?_
 intro ac31 wo32 bk30 En33 Hv34
 refine f_o ?_
 refine c_0 En33 Hv34 (macof_go _ 1 (.inl rfl) (some ⟨bk3, 0, none⟩) 4 4 [(74 : UInt8), (101 : UInt8), (102 : UInt8), (101 : UInt8)] (by first | rfl | (simp; done) | (simp; omega) | omega) (bys_in Hv34.heap (k := 0) rfl [] (by kernel_rfl) rfl (by first | omega | (simp; done) | (simp; omega))) (some ⟨bk30, 0, none⟩) 2 2 ([⟨some ⟨bk12, 0, none⟩, 16, [(119 : UInt8), (104 : UInt8), (97 : UInt8), (116 : UInt8), (32 : UInt8), (100 : UInt8), (111 : UInt8), (32 : UInt8), (121 : UInt8), (97 : UInt8), (32 : UInt8), (119 : UInt8), (97 : UInt8), (110 : UInt8), (116 : UInt8), (32 : UInt8)]⟩, ⟨some ⟨bk21, 0, none⟩, 12, [(102 : UInt8), (111 : UInt8), (114 : UInt8), (32 : UInt8), (110 : UInt8), (111 : UInt8), (116 : UInt8), (104 : UInt8), (105 : UInt8), (110 : UInt8), (103 : UInt8), (63 : UInt8)]⟩] : List (Sl UInt8)) (by first | rfl | (simp; done) | (simp; omega) | omega) ⟨Hv34.heap.ro (k := 3) rfl [] (by kernel_rfl) rfl, (fun e => by cases e), (by simp), (by simp), (List.forall_mem_cons.2 ⟨(bys_in Hv34.heap (k := 1) rfl [] (by kernel_rfl) rfl (by first | decide | (simp; done) | (simp; omega) | omega)), (List.forall_mem_cons.2 ⟨(bys_in Hv34.heap (k := 2) rfl [] (by kernel_rfl) rfl (by first | decide | (simp; done) | (simp; omega) | omega)), (fun x h => absurd h List.not_mem_nil)⟩)⟩)⟩ ((gk32.ev Hv34).pick [] (by kernel_rfl)) ((gk64.ev Hv34).pick [] (by kernel_rfl))) ?_
 rintro _ wo37 ⟨aoq35, coq35, rfl, he38⟩
 refine ⟨_, _, _, rfl, he38, rfl, fun ac40 En41 Hv42 => ?_⟩
 refine d_e [0,1] [] En41 fun ac43 En44 => ?_
 have hfe : macF 1 [(74 : UInt8), (101 : UInt8), (102 : UInt8), (101 : UInt8)] (List.flatMap (fun s : Sl UInt8 => s.l) ([⟨some ⟨bk12, 0, none⟩, 16, [(119 : UInt8), (104 : UInt8), (97 : UInt8), (116 : UInt8), (32 : UInt8), (100 : UInt8), (111 : UInt8), (32 : UInt8), (121 : UInt8), (97 : UInt8), (32 : UInt8), (119 : UInt8), (97 : UInt8), (110 : UInt8), (116 : UInt8), (32 : UInt8)]⟩, ⟨some ⟨bk21, 0, none⟩, 12, [(102 : UInt8), (111 : UInt8), (114 : UInt8), (32 : UInt8), (110 : UInt8), (111 : UInt8), (116 : UInt8), (104 : UInt8), (105 : UInt8), (110 : UInt8), (103 : UInt8), (63 : UInt8)]⟩] : List (Sl UInt8))) = macF 1 ([74, 101, 102, 101] : List UInt8) ([119, 104, 97, 116, 32, 100, 111, 32, 121, 97, 32, 119, 97, 110, 116, 32, 102, 111, 114, 32, 110, 111, 116, 104, 105, 110, 103, 63] : List UInt8) := rfl
 rw [hfe] at Hv42
 rw [hfe] at En44
 have hsl : List.length (macF 1 ([74, 101, 102, 101] : List UInt8) ([119, 104, 97, 116, 32, 100, 111, 32, 121, 97, 32, 119, 97, 110, 116, 32, 102, 111, 114, 32, 110, 111, 116, 104, 105, 110, 103, 63] : List UInt8)) = 32 := (macF_len (.inl rfl) _ _).trans rfl
 refine then_normal ?_
 have hb47 : 0 < List.length (macF 1 ([74, 101, 102, 101] : List UInt8) ([119, 104, 97, 116, 32, 100, 111, 32, 121, 97, 32, 119, 97, 110, 116, 32, 102, 111, 114, 32, 110, 111, 116, 104, 105, 110, 103, 63] : List UInt8)) := (by omega)
 obtain ⟨adr45, had46⟩ := some_of (bys_vnz Hv42.heap (k := 0) rfl) hb47
 refine wp_seq ?_
 refine region_from ?_
 refine d_k [0,1,13,14] [(2, g_b (show (((List.length (macF 1 ([74, 101, 102, 101] : List UInt8) ([119, 104, 97, 116, 32, 100, 111, 32, 121, 97, 32, 119, 97, 110, 116, 32, 102, 111, 114, 32, 110, 111, 116, 104, 105, 110, 103, 63] : List UInt8)) : Nat) : Int) == (32 : Int)) = true from by rw [hsl]; rfl))] 5 En44 fun ac48 En49 => ?_
 refine f_o ?_
 refine q_v (x := Instr.indexAt 23 (.slice aoq35 (List.length (macF 1 ([74, 101, 102, 101] : List UInt8) ([119, 104, 97, 116, 32, 100, 111, 32, 121, 97, 32, 119, 97, 110, 116, 32, 102, 111, 114, 32, 110, 111, 116, 104, 105, 110, 103, 63] : List UInt8))) coq35) (.int .i64 0)) (v := .pointer (some (Addr.add adr45 0))) En49 (Go.Dbr.run_indexsl (e := 5) (sz := 1) (j := 0) (jo := 0) had46 (by kernel_rfl) (by kernel_rfl) (by omega) hb47 (Nat.mul_one _) _) fun ac50 En51 => ?_
 refine f_o ?_
 have hb52 : 0 < List.length (macF 1 ([74, 101, 102, 101] : List UInt8) ([119, 104, 97, 116, 32, 100, 111, 32, 121, 97, 32, 119, 97, 110, 116, 32, 102, 111, 114, 32, 110, 111, 116, 104, 105, 110, 103, 63] : List UInt8)) := by omega
 refine op_loadel (d := some 16) (t := 5) (ad := adr45) (ao := aoq35) (xs := bys (macF 1 ([74, 101, 102, 101] : List UInt8) ([119, 104, 97, 116, 32, 100, 111, 32, 121, 97, 32, 119, 97, 110, 116, 32, 102, 111, 114, 32, 110, 111, 116, 104, 105, 110, 103, 63] : List UInt8))) (j := 0) (v := bv (List.getD (macF 1 ([74, 101, 102, 101] : List UInt8) ([119, 104, 97, 116, 32, 100, 111, 32, 121, 97, 32, 119, 97, 110, 116, 32, 102, 111, 114, 32, 110, 111, 116, 104, 105, 110, 103, 63] : List UInt8)) 0 0)) En51 (by kernel_rfl) (Hv42.heap.reads (k := 0) rfl) had46 (bys_getD hb52) (by kernel_rfl) ?_
 intro ac53 En54
 have hb57 : 1 < List.length (macF 1 ([74, 101, 102, 101] : List UInt8) ([119, 104, 97, 116, 32, 100, 111, 32, 121, 97, 32, 119, 97, 110, 116, 32, 102, 111, 114, 32, 110, 111, 116, 104, 105, 110, 103, 63] : List UInt8)) := (by omega)
 obtain ⟨adr55, had56⟩ := some_of (bys_vnz Hv42.heap (k := 0) rfl) hb57
 refine d_k [0,1,19,20] [(7, g_b (show (((UInt8.toNat (List.getD (macF 1 ([74, 101, 102, 101] : List UInt8) ([119, 104, 97, 116, 32, 100, 111, 32, 121, 97, 32, 119, 97, 110, 116, 32, 102, 111, 114, 32, 110, 111, 116, 104, 105, 110, 103, 63] : List UInt8)) 0 0) : Nat) : Int) == (91 : Int)) = true from by rw [jefe.1.1]; rfl))] 11 En54 fun ac58 En59 => ?_
 refine f_o ?_
 refine q_v (x := Instr.indexAt 23 (.slice aoq35 (List.length (macF 1 ([74, 101, 102, 101] : List UInt8) ([119, 104, 97, 116, 32, 100, 111, 32, 121, 97, 32, 119, 97, 110, 116, 32, 102, 111, 114, 32, 110, 111, 116, 104, 105, 110, 103, 63] : List UInt8))) coq35) (.int .i64 1)) (v := .pointer (some (Addr.add adr55 1))) En59 (Go.Dbr.run_indexsl (e := 5) (sz := 1) (j := 1) (jo := 1) had56 (by kernel_rfl) (by kernel_rfl) (by omega) hb57 (Nat.mul_one _) _) fun ac60 En61 => ?_
 refine f_o ?_
 have hb62 : 1 < List.length (macF 1 ([74, 101, 102, 101] : List UInt8) ([119, 104, 97, 116, 32, 100, 111, 32, 121, 97, 32, 119, 97, 110, 116, 32, 102, 111, 114, 32, 110, 111, 116, 104, 105, 110, 103, 63] : List UInt8)) := by omega
 refine op_loadel (d := some 22) (t := 5) (ad := adr55) (ao := aoq35) (xs := bys (macF 1 ([74, 101, 102, 101] : List UInt8) ([119, 104, 97, 116, 32, 100, 111, 32, 121, 97, 32, 119, 97, 110, 116, 32, 102, 111, 114, 32, 110, 111, 116, 104, 105, 110, 103, 63] : List UInt8))) (j := 1) (v := bv (List.getD (macF 1 ([74, 101, 102, 101] : List UInt8) ([119, 104, 97, 116, 32, 100, 111, 32, 121, 97, 32, 119, 97, 110, 116, 32, 102, 111, 114, 32, 110, 111, 116, 104, 105, 110, 103, 63] : List UInt8)) 1 0)) En61 (by kernel_rfl) (Hv42.heap.reads (k := 0) rfl) had56 (bys_getD hb62) (by kernel_rfl) ?_
 intro ac63 En64
 have hb67 : 31 < List.length (macF 1 ([74, 101, 102, 101] : List UInt8) ([119, 104, 97, 116, 32, 100, 111, 32, 121, 97, 32, 119, 97, 110, 116, 32, 102, 111, 114, 32, 110, 111, 116, 104, 105, 110, 103, 63] : List UInt8)) := (by omega)
 obtain ⟨adr65, had66⟩ := some_of (bys_vnz Hv42.heap (k := 0) rfl) hb67
 refine d_k [0,25,26] [(13, g_b (show (((UInt8.toNat (List.getD (macF 1 ([74, 101, 102, 101] : List UInt8) ([119, 104, 97, 116, 32, 100, 111, 32, 121, 97, 32, 119, 97, 110, 116, 32, 102, 111, 114, 32, 110, 111, 116, 104, 105, 110, 103, 63] : List UInt8)) 1 0) : Nat) : Int) == (220 : Int)) = true from by rw [jefe.1.2]; rfl))] 17 En64 fun ac68 En69 => ?_
 refine f_o ?_
 refine q_v (x := Instr.indexAt 23 (.slice aoq35 (List.length (macF 1 ([74, 101, 102, 101] : List UInt8) ([119, 104, 97, 116, 32, 100, 111, 32, 121, 97, 32, 119, 97, 110, 116, 32, 102, 111, 114, 32, 110, 111, 116, 104, 105, 110, 103, 63] : List UInt8))) coq35) (.int .i64 31)) (v := .pointer (some (Addr.add adr65 31))) En69 (Go.Dbr.run_indexsl (e := 5) (sz := 1) (j := 31) (jo := 31) had66 (by kernel_rfl) (by kernel_rfl) (by omega) hb67 (Nat.mul_one _) _) fun ac70 En71 => ?_
 refine f_o ?_
 have hb72 : 31 < List.length (macF 1 ([74, 101, 102, 101] : List UInt8) ([119, 104, 97, 116, 32, 100, 111, 32, 121, 97, 32, 119, 97, 110, 116, 32, 102, 111, 114, 32, 110, 111, 116, 104, 105, 110, 103, 63] : List UInt8)) := by omega
 refine op_loadel (d := some 28) (t := 5) (ad := adr65) (ao := aoq35) (xs := bys (macF 1 ([74, 101, 102, 101] : List UInt8) ([119, 104, 97, 116, 32, 100, 111, 32, 121, 97, 32, 119, 97, 110, 116, 32, 102, 111, 114, 32, 110, 111, 116, 104, 105, 110, 103, 63] : List UInt8))) (j := 31) (v := bv (List.getD (macF 1 ([74, 101, 102, 101] : List UInt8) ([119, 104, 97, 116, 32, 100, 111, 32, 121, 97, 32, 119, 97, 110, 116, 32, 102, 111, 114, 32, 110, 111, 116, 104, 105, 110, 103, 63] : List UInt8)) 31 0)) En71 (by kernel_rfl) (Hv42.heap.reads (k := 0) rfl) had66 (bys_getD hb72) (by kernel_rfl) ?_
 intro ac73 En74
 refine d_e [0] [(19, g_b (show (((UInt8.toNat (List.getD (macF 1 ([74, 101, 102, 101] : List UInt8) ([119, 104, 97, 116, 32, 100, 111, 32, 121, 97, 32, 119, 97, 110, 116, 32, 102, 111, 114, 32, 110, 111, 116, 104, 105, 110, 103, 63] : List UInt8)) 31 0) : Nat) : Int) == (67 : Int)) = true from by rw [jefe.2]; rfl))] En74 fun ac75 En76 => ?_
 refine then_normal ?_
 refine wp_ret ?_
 refine d_ret1 (t := 0) (v := .bool true) En76 (by kernel_rfl) (by kernel_rfl) ?_
 exact ⟨rfl, Hv42.pk []⟩

end Go.Proofs.YtbpihljkkkeijaaDoor
