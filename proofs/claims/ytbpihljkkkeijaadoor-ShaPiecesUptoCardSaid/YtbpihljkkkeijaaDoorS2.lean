/- Layer 5: words of bytes. -/
import Derived.Test.YtbpihljkkkeijaaDoorS1
namespace Go.Proofs.YtbpihljkkkeijaaDoor
open Go.Dbr
set_option maxRecDepth 100000
set_option maxHeartbeats 2000000
set_option linter.unusedVariables false
set_option linter.unusedSimpArgs false

/-- so many bytes as a word, the highest first -/
def beP32 (l : List UInt8) : Nat → UInt32
  | 0 => 0
  | k + 1 => (beP32 l k <<< UInt32.ofNat 8) ||| UInt8.toUInt32 (List.getD l k 0)
def beW32 (l : List UInt8) (q : Nat) : UInt32 := beP32 (List.take 4 (List.drop (4 * q) l)) 4
def wB32 (l : List UInt8) : Nat → List UInt32
  | 0 => []
  | q + 1 => wB32 l q ++ [beW32 l q]
theorem wB32_len (l : List UInt8) (q : Nat) : (wB32 l q).length = q := by
  induction q with
  | zero => rfl
  | succ q ih => rw [wB32, List.length_append, ih]; rfl

theorem words32_go (w : World) (ax : Option Addr) (nx cx : Nat) (lx : List UInt8) (ex : nx = List.length lx) (ix : InB w [] ax cx lx) : Calls Tryd.prog 36 #[.slice ax nx cx, .int .i64 4, .int .i64 64] w fun e w' => ∃ ao co, e = .returned (.slice ao (List.length (wB32 lx (List.length lx / 4))) co) ∧ Ev w [] w' [.vec ao co 1 (u32s (wB32 lx (List.length lx / 4))) 55] := by
 subst ex
 have hs := ix.small
 have hcx := ix.cap
 refine d_0 [(0, .slice ax (List.length lx) cx), (1, .int .i64 4), (2, .int .i64 64)] 39 Go.Proofs.Tryd.func36 Go.Proofs.Tryd.ntmps36 (Heap.nil _) fun act0 En0 Hv0 => ?_
 refine wp_seq ?_
 refine d_r [0,1,2,6] [] En0 fun ac1 En2 => ?_
 refine then_normal ?_
 refine wp_seq ?_
 refine region_from ?_
 refine d_k [0,1,6,11] [] 1 En2 fun ac3 En4 => ?_
 refine f_o ?_
 refine op_makeroom (d := some 12) (t := 61) (T := 55) (m := 64) (kl := .i64) (kc := .i64) (z := .int .u32 0) (bytes := 4) En4 (by kernel_rfl) Hv0 (by kernel_rfl) (by kernel_rfl) (by kernel_rfl) (by omega) (by unfold maxLen; omega) ?_
 intro ac6 wo7 bk5 En8 Hv9
 refine d_e [0,1,6,7] [] En8 fun ac10 En11 => ?_
 refine then_normal ?_
 refine wp_seq ?_
 refine wp_block ?_
 have hD0 : List.drop (4 * 0) lx = lx := rfl
 refine loop_m (fun ms12 ac wo => ∃ (q : Nat) (at1 : Option Addr) (ct : Nat) (ao : Option Addr) (co : Nat) (o : List UInt32), ms12 = (List.length lx - 4 * q : Nat) ∧ Env ac 39 [(0, .slice at1 (List.length (List.drop (4 * q) lx)) ct), (1, .int .i64 4), (6, .slice none 0 0), (7, .slice ao (List.length o) co)] ∧ Ev w [] wo [.vec ao co 1 (u32s o) 55] ∧ (InB w [] at1 ct (List.drop (4 * q) lx)) ∧ (4 * q ≤ List.length lx) ∧ (o = wB32 lx q)) ⟨_, 0, ax, cx, some ⟨bk5, 0, none⟩, 64, [], rfl, En11.sb, Hv9.pk [0], ix, by omega, rfl⟩ ?_
 rintro mm18 ac14 wo15 ⟨q, at1, ct, ao, co, o, rfl, En16, Hv17, hT, hq, heo⟩
 refine wp_seq ?_
 refine wp_seq ?_
 have hDl : List.length (List.drop (4 * q) lx) = List.length lx - 4 * q := List.length_drop
 refine d_r [0,1,6,7,16] [] En16 fun ac19 En20 => ?_
 refine then_normal ?_
 refine c_d (((List.length (List.drop (4 * q) lx) : Nat) : Int) ≥ (4 : Int)) En20 (fun hc21 => ?_) (fun hc21 => ?_)
 ·
  refine wp_skip ?_
  refine then_normal ?_
  refine wp_seq ?_
  refine wp_block ?_
  refine wp_seq ?_
  refine d_r [0,1,6,7,8] [] En20 fun ac22 En23 => ?_
  refine then_normal ?_
  refine wp_seq ?_
  refine wp_seq ?_
  have hDl : List.length (List.drop (4 * q) lx) = List.length lx - 4 * q := List.length_drop
  have hDt : List.length (List.take 4 (List.drop (4 * q) lx)) = 4 := by rw [List.length_take]; omega
  refine region_from ?_
  refine d_k [0,1,6,7,8,20,21] [] 2 En23 fun ac24 En25 => ?_
  refine f_o ?_
  have hcap26 := hT.cap
  refine op_slice0 (d := some 22) (t := 23) (e := 5) (sz := 1) (len := List.length (List.drop (4 * q) lx)) (cap := ct) (hi := 4) (ao := at1) (lov := none) (hiv := (some (.int .i64 4))) En25 (by kernel_rfl) (by kernel_rfl) (by kernel_rfl) (by omega) (.inl ⟨rfl, rfl⟩) (.inr ⟨.i64, rfl⟩) ?_
  intro ac27 En28
  refine d_e [0,1,6,7,8,22,23,24] [] En28 fun ac29 En30 => ?_
  refine then_normal ?_
  refine wp_block ?_
  refine loop_m (fun ms31 ac wo => ∃ (k : Nat) (x : UInt32), ms31 = (4 - k : Nat) ∧ Env ac 39 [(0, .slice at1 (List.length (List.drop (4 * q) lx)) ct), (1, .int .i64 4), (6, .slice none 0 0), (7, .slice ao (List.length o) co), (8, uv32 x), (22, .slice at1 4 ct), (23, .int .i64 4), (24, ni k)] ∧ Ev w [] wo [.vec ao co 1 (u32s o) 55] ∧ (k ≤ 4) ∧ (x = beP32 (List.take 4 (List.drop (4 * q) lx)) k)) ⟨_, 0, 0, rfl, En30.sb, Hv17.pk [0], by omega, rfl⟩ ?_
  rintro mm37 ac33 wo34 ⟨k, x, rfl, En35, Hv36, hk, hex⟩
  refine wp_seq ?_
  refine d_r [0,1,6,7,8,22,23,24,25] [] En35 fun ac38 En39 => ?_
  refine then_normal ?_
  refine wp_seq ?_
  refine c_d (((k : Nat) : Int) < (4 : Int)) En39 (fun hc40 => ?_) (fun hc40 => ?_)
  ·
   refine wp_skip ?_
   refine then_normal ?_
   refine wp_seq ?_
   refine wp_block ?_
   refine wp_seq ?_
   have hb43 : k < 4 := (by omega)
   obtain ⟨adr41, had42⟩ := some_of (fun e => by have := hT.nz e; omega) hb43
   refine region_from ?_
   refine f_o ?_
   refine q_v (x := Instr.indexAt 23 (.slice at1 4 ct) (ni k)) (v := .pointer (some (Addr.add adr41 k))) En39 (Go.Dbr.run_indexsl (e := 5) (sz := 1) (j := k) (jo := k) had42 (by kernel_rfl) (by kernel_rfl) (by omega) hb43 (Nat.mul_one _) _) fun ac44 En45 => ?_
   refine f_o ?_
   have hb46 : k < List.length (List.take 4 (List.drop (4 * q) lx)) := by omega
   refine op_loadel (d := some 27) (t := 5) (ad := adr41) (ao := at1) (xs := bys (List.take 4 (List.drop (4 * q) lx))) (j := k) (v := bv (List.getD (List.take 4 (List.drop (4 * q) lx)) k 0)) En45 (by kernel_rfl) (bys_take_reads (hT.ev Hv36).reads 4) had42 (bys_getD hb46) (by kernel_rfl) ?_
   intro ac47 En48
   refine d_e [0,1,6,7,8,10,22,23,24] [] En48 fun ac49 En50 => ?_
   refine then_normal ?_
   refine d_r [0,1,6,7,8,22,23,24] [(1, g_i .u32 (Go.Dbr.u32_shl (x := x) (n := 8) rfl (by decide))), (3, g_i .u32 (Go.Dbr.u8_to_u32 (x := List.getD (List.take 4 (List.drop (4 * q) lx)) k 0) rfl)), (4, g_i .u32 (Go.Dbr.u32_or (x := x <<< UInt32.ofNat 8) (y := UInt8.toUInt32 (List.getD (List.take 4 (List.drop (4 * q) lx)) k 0)) rfl rfl))] En50 fun ac51 En52 => ?_
   refine block_normal ?_
   refine then_normal ?_
   refine d_r [0,1,6,7,8,22,23,24] [(0, g_n (w_a k 1))] En52 fun ac53 En54 => ?_
   refine then_normal ?_
   refine ⟨_, ⟨k + 1, ((x <<< UInt32.ofNat 8) ||| (UInt8.toUInt32 (List.getD (List.take 4 (List.drop (4 * q) lx)) k 0))), rfl, En54.sb, Hv36.pk [0], by omega, by rw [hex]; rfl⟩, ?_⟩
   omega
  ·
   refine wp_exit ?_
   refine then_exit ?_
   refine then_exit ?_
   refine block_exit ?_
   refine then_normal ?_
   have hk4 : k = 4 := by omega
   rw [hk4] at hex
   have hol : List.length o = q := by rw [heo, wB32_len]
   refine region_from ?_
   refine d_k [0,1,6,7,8,22,23,24,34,35] [] 2 En39 fun ac55 En56 => ?_
   refine f_o ?_
   refine op_lit (d := some 36) (t := 61) (T := 55) (m := 1) (parts := #[(0, uv32 x)]) (xs := u32s [x]) (sz := 1) En56 (by kernel_rfl) (by kernel_rfl) rfl (by decide) Hv36 ?_
   intro ac58 wo59 bk57 En60 Hv61
   refine f_o ?_
   refine op_append (d := some 37) (t := 61) (tx := 61) (ty := 61) (k := 0) (p := List.length o) (m := 1) (x := .slice (some ⟨bk57, 0, none⟩) 1 1) (bytes := 4) En60 (by kernel_rfl) Hv61 rfl (u32s_len _) (Reads.src (size := 1) (tx := 61) (e' := 55) (by kernel_rfl) (Hv61.heap.reads (k := 1) rfl) rfl (fun e => by cases e) (u32s_one _)) (by kernel_rfl) (z := .int .u32 0) (by kernel_rfl) rfl (by decide) (by omega) (by unfold maxLen; omega) ?_
   intro ac66 wo67 ao62 cp63 En68 Hv69 hnz _
   clear hnz
   rw [← u32s_append] at Hv69
   have ehz64 : (List.length o) + 1 = List.length (o ++ [x]) := (by first | (simp; done) | (simp; omega) | omega)
   rw [ehz64] at En68
   refine d_e [0,1,6,7,8,22,23,24] [] En68 fun ac70 En71 => ?_
   refine block_normal ?_
   refine then_normal ?_
   refine region_from ?_
   refine d_k [0,1,6,7,8,17,18,22,23,24] [] 2 En71 fun ac72 En73 => ?_
   refine f_o ?_
   have hcap74 := hT.cap
   refine op_slice (d := some 19) (t := 23) (e := 5) (sz := 1) (len := List.length (List.drop (4 * q) lx)) (cap := ct) (lo := 4) (hi := List.length (List.drop (4 * q) lx)) (ao := at1) (lov := (some (.int .i64 4))) (hiv := none) En73 (by kernel_rfl) (by kernel_rfl) (by kernel_rfl) (by omega) (by omega) (.inr ⟨.i64, rfl⟩) (.inl ⟨rfl, rfl⟩) ?_
   intro ac75 En76
   refine d_e [0,1,6,7,8,22,23,24] [] En76 fun ac77 En78 => ?_
   refine then_normal ?_
   have hTn : InB w [] (cutAt at1 ct 4 1) (ct - 4) (List.drop (4 * (q + 1)) lx) := by have h := hT.drop 4 (by omega); rwa [List.drop_drop] at h
   have el : (List.length (List.drop (4 * q) lx)) - 4 = List.length (List.drop (4 * (q + 1)) lx) := by rw [List.length_drop, List.length_drop]; omega
   rw [el] at En78
   refine ⟨_, ⟨q + 1, (cutAt at1 ct 4 1), (ct - 4), ao62, cp63, (o ++ [x]), rfl, En78.sb, Hv69.pk [0], hTn, by omega, by rw [heo, hex]; rfl⟩, ?_⟩
   omega
 ·
  refine wp_exit ?_
  refine then_exit ?_
  refine then_exit ?_
  refine block_exit ?_
  refine then_normal ?_
  refine wp_seq ?_
  refine d_r [0,1,6,7] [] En20 fun ac79 En80 => ?_
  refine then_normal ?_
  refine wp_ret ?_
  refine d_ret1 (t := 6) (v := .slice ao (List.length o) co) En80 (by kernel_rfl) (by kernel_rfl) ?_
  have hqq : q = List.length lx / 4 := by omega
  rw [hqq] at heo
  subst heo
  have Hf81 := Hv17.pk [0] (M := [.vec ao co 1 (u32s (wB32 lx (List.length lx / 4))) 55])
  exact ⟨_, _, rfl, Hf81⟩

/-- so many bytes as a word, the highest first -/
def beP64 (l : List UInt8) : Nat → UInt64
  | 0 => 0
  | k + 1 => (beP64 l k <<< UInt64.ofNat 8) ||| UInt8.toUInt64 (List.getD l k 0)
def beW64 (l : List UInt8) (q : Nat) : UInt64 := beP64 (List.take 8 (List.drop (8 * q) l)) 8
def wB64 (l : List UInt8) : Nat → List UInt64
  | 0 => []
  | q + 1 => wB64 l q ++ [beW64 l q]
theorem wB64_len (l : List UInt8) (q : Nat) : (wB64 l q).length = q := by
  induction q with
  | zero => rfl
  | succ q ih => rw [wB64, List.length_append, ih]; rfl

theorem words64_go (w : World) (ax : Option Addr) (nx cx : Nat) (lx : List UInt8) (ex : nx = List.length lx) (ix : InB w [] ax cx lx) : Calls Tryd.prog 38 #[.slice ax nx cx, .int .i64 8, .int .i64 80] w fun e w' => ∃ ao co, e = .returned (.slice ao (List.length (wB64 lx (List.length lx / 8))) co) ∧ Ev w [] w' [.vec ao co 1 (u64s (wB64 lx (List.length lx / 8))) 53] := by
 subst ex
 have hs := ix.small
 have hcx := ix.cap
 refine d_0 [(0, .slice ax (List.length lx) cx), (1, .int .i64 8), (2, .int .i64 80)] 39 Go.Proofs.Tryd.func38 Go.Proofs.Tryd.ntmps38 (Heap.nil _) fun act0 En0 Hv0 => ?_
 refine wp_seq ?_
 refine d_r [0,1,2,6] [] En0 fun ac1 En2 => ?_
 refine then_normal ?_
 refine wp_seq ?_
 refine region_from ?_
 refine d_k [0,1,6,11] [] 1 En2 fun ac3 En4 => ?_
 refine f_o ?_
 refine op_makeroom (d := some 12) (t := 69) (T := 53) (m := 80) (kl := .i64) (kc := .i64) (z := .int .u64 0) (bytes := 8) En4 (by kernel_rfl) Hv0 (by kernel_rfl) (by kernel_rfl) (by kernel_rfl) (by omega) (by unfold maxLen; omega) ?_
 intro ac6 wo7 bk5 En8 Hv9
 refine d_e [0,1,6,7] [] En8 fun ac10 En11 => ?_
 refine then_normal ?_
 refine wp_seq ?_
 refine wp_block ?_
 have hD0 : List.drop (8 * 0) lx = lx := rfl
 refine loop_m (fun ms12 ac wo => ∃ (q : Nat) (at1 : Option Addr) (ct : Nat) (ao : Option Addr) (co : Nat) (o : List UInt64), ms12 = (List.length lx - 8 * q : Nat) ∧ Env ac 39 [(0, .slice at1 (List.length (List.drop (8 * q) lx)) ct), (1, .int .i64 8), (6, .slice none 0 0), (7, .slice ao (List.length o) co)] ∧ Ev w [] wo [.vec ao co 1 (u64s o) 53] ∧ (InB w [] at1 ct (List.drop (8 * q) lx)) ∧ (8 * q ≤ List.length lx) ∧ (o = wB64 lx q)) ⟨_, 0, ax, cx, some ⟨bk5, 0, none⟩, 80, [], rfl, En11.sb, Hv9.pk [0], ix, by omega, rfl⟩ ?_
 rintro mm18 ac14 wo15 ⟨q, at1, ct, ao, co, o, rfl, En16, Hv17, hT, hq, heo⟩
 refine wp_seq ?_
 refine wp_seq ?_
 have hDl : List.length (List.drop (8 * q) lx) = List.length lx - 8 * q := List.length_drop
 refine d_r [0,1,6,7,16] [] En16 fun ac19 En20 => ?_
 refine then_normal ?_
 refine c_d (((List.length (List.drop (8 * q) lx) : Nat) : Int) ≥ (8 : Int)) En20 (fun hc21 => ?_) (fun hc21 => ?_)
 ·
  refine wp_skip ?_
  refine then_normal ?_
  refine wp_seq ?_
  refine wp_block ?_
  refine wp_seq ?_
  refine d_r [0,1,6,7,8] [] En20 fun ac22 En23 => ?_
  refine then_normal ?_
  refine wp_seq ?_
  refine wp_seq ?_
  have hDl : List.length (List.drop (8 * q) lx) = List.length lx - 8 * q := List.length_drop
  have hDt : List.length (List.take 8 (List.drop (8 * q) lx)) = 8 := by rw [List.length_take]; omega
  refine region_from ?_
  refine d_k [0,1,6,7,8,20,21] [] 2 En23 fun ac24 En25 => ?_
  refine f_o ?_
  have hcap26 := hT.cap
  refine op_slice0 (d := some 22) (t := 23) (e := 5) (sz := 1) (len := List.length (List.drop (8 * q) lx)) (cap := ct) (hi := 8) (ao := at1) (lov := none) (hiv := (some (.int .i64 8))) En25 (by kernel_rfl) (by kernel_rfl) (by kernel_rfl) (by omega) (.inl ⟨rfl, rfl⟩) (.inr ⟨.i64, rfl⟩) ?_
  intro ac27 En28
  refine d_e [0,1,6,7,8,22,23,24] [] En28 fun ac29 En30 => ?_
  refine then_normal ?_
  refine wp_block ?_
  refine loop_m (fun ms31 ac wo => ∃ (k : Nat) (x : UInt64), ms31 = (8 - k : Nat) ∧ Env ac 39 [(0, .slice at1 (List.length (List.drop (8 * q) lx)) ct), (1, .int .i64 8), (6, .slice none 0 0), (7, .slice ao (List.length o) co), (8, uv64 x), (22, .slice at1 8 ct), (23, .int .i64 8), (24, ni k)] ∧ Ev w [] wo [.vec ao co 1 (u64s o) 53] ∧ (k ≤ 8) ∧ (x = beP64 (List.take 8 (List.drop (8 * q) lx)) k)) ⟨_, 0, 0, rfl, En30.sb, Hv17.pk [0], by omega, rfl⟩ ?_
  rintro mm37 ac33 wo34 ⟨k, x, rfl, En35, Hv36, hk, hex⟩
  refine wp_seq ?_
  refine d_r [0,1,6,7,8,22,23,24,25] [] En35 fun ac38 En39 => ?_
  refine then_normal ?_
  refine wp_seq ?_
  refine c_d (((k : Nat) : Int) < (8 : Int)) En39 (fun hc40 => ?_) (fun hc40 => ?_)
  ·
   refine wp_skip ?_
   refine then_normal ?_
   refine wp_seq ?_
   refine wp_block ?_
   refine wp_seq ?_
   have hb43 : k < 8 := (by omega)
   obtain ⟨adr41, had42⟩ := some_of (fun e => by have := hT.nz e; omega) hb43
   refine region_from ?_
   refine f_o ?_
   refine q_v (x := Instr.indexAt 23 (.slice at1 8 ct) (ni k)) (v := .pointer (some (Addr.add adr41 k))) En39 (Go.Dbr.run_indexsl (e := 5) (sz := 1) (j := k) (jo := k) had42 (by kernel_rfl) (by kernel_rfl) (by omega) hb43 (Nat.mul_one _) _) fun ac44 En45 => ?_
   refine f_o ?_
   have hb46 : k < List.length (List.take 8 (List.drop (8 * q) lx)) := by omega
   refine op_loadel (d := some 27) (t := 5) (ad := adr41) (ao := at1) (xs := bys (List.take 8 (List.drop (8 * q) lx))) (j := k) (v := bv (List.getD (List.take 8 (List.drop (8 * q) lx)) k 0)) En45 (by kernel_rfl) (bys_take_reads (hT.ev Hv36).reads 8) had42 (bys_getD hb46) (by kernel_rfl) ?_
   intro ac47 En48
   refine d_e [0,1,6,7,8,10,22,23,24] [] En48 fun ac49 En50 => ?_
   refine then_normal ?_
   refine d_r [0,1,6,7,8,22,23,24] [(1, g_i .u64 (Go.Dbr.u64_shl (x := x) (n := 8) rfl (by decide))), (3, g_i .u64 (Go.Dbr.u8_to_u64 (x := List.getD (List.take 8 (List.drop (8 * q) lx)) k 0) rfl)), (4, g_i .u64 (Go.Dbr.u64_or (x := x <<< UInt64.ofNat 8) (y := UInt8.toUInt64 (List.getD (List.take 8 (List.drop (8 * q) lx)) k 0)) rfl rfl))] En50 fun ac51 En52 => ?_
   refine block_normal ?_
   refine then_normal ?_
   refine d_r [0,1,6,7,8,22,23,24] [(0, g_n (w_a k 1))] En52 fun ac53 En54 => ?_
   refine then_normal ?_
   refine ⟨_, ⟨k + 1, ((x <<< UInt64.ofNat 8) ||| (UInt8.toUInt64 (List.getD (List.take 8 (List.drop (8 * q) lx)) k 0))), rfl, En54.sb, Hv36.pk [0], by omega, by rw [hex]; rfl⟩, ?_⟩
   omega
  ·
   refine wp_exit ?_
   refine then_exit ?_
   refine then_exit ?_
   refine block_exit ?_
   refine then_normal ?_
   have hk4 : k = 8 := by omega
   rw [hk4] at hex
   have hol : List.length o = q := by rw [heo, wB64_len]
   refine region_from ?_
   refine d_k [0,1,6,7,8,22,23,24,34,35] [] 2 En39 fun ac55 En56 => ?_
   refine f_o ?_
   refine op_lit (d := some 36) (t := 69) (T := 53) (m := 1) (parts := #[(0, uv64 x)]) (xs := u64s [x]) (sz := 1) En56 (by kernel_rfl) (by kernel_rfl) rfl (by decide) Hv36 ?_
   intro ac58 wo59 bk57 En60 Hv61
   refine f_o ?_
   refine op_append (d := some 37) (t := 69) (tx := 69) (ty := 69) (k := 0) (p := List.length o) (m := 1) (x := .slice (some ⟨bk57, 0, none⟩) 1 1) (bytes := 8) En60 (by kernel_rfl) Hv61 rfl (u64s_len _) (Reads.src (size := 1) (tx := 69) (e' := 53) (by kernel_rfl) (Hv61.heap.reads (k := 1) rfl) rfl (fun e => by cases e) (u64s_one _)) (by kernel_rfl) (z := .int .u64 0) (by kernel_rfl) rfl (by decide) (by omega) (by unfold maxLen; omega) ?_
   intro ac66 wo67 ao62 cp63 En68 Hv69 hnz _
   clear hnz
   rw [← u64s_append] at Hv69
   have ehz64 : (List.length o) + 1 = List.length (o ++ [x]) := (by first | (simp; done) | (simp; omega) | omega)
   rw [ehz64] at En68
   refine d_e [0,1,6,7,8,22,23,24] [] En68 fun ac70 En71 => ?_
   refine block_normal ?_
   refine then_normal ?_
   refine region_from ?_
   refine d_k [0,1,6,7,8,17,18,22,23,24] [] 2 En71 fun ac72 En73 => ?_
   refine f_o ?_
   have hcap74 := hT.cap
   refine op_slice (d := some 19) (t := 23) (e := 5) (sz := 1) (len := List.length (List.drop (8 * q) lx)) (cap := ct) (lo := 8) (hi := List.length (List.drop (8 * q) lx)) (ao := at1) (lov := (some (.int .i64 8))) (hiv := none) En73 (by kernel_rfl) (by kernel_rfl) (by kernel_rfl) (by omega) (by omega) (.inr ⟨.i64, rfl⟩) (.inl ⟨rfl, rfl⟩) ?_
   intro ac75 En76
   refine d_e [0,1,6,7,8,22,23,24] [] En76 fun ac77 En78 => ?_
   refine then_normal ?_
   have hTn : InB w [] (cutAt at1 ct 8 1) (ct - 8) (List.drop (8 * (q + 1)) lx) := by have h := hT.drop 8 (by omega); rwa [List.drop_drop] at h
   have el : (List.length (List.drop (8 * q) lx)) - 8 = List.length (List.drop (8 * (q + 1)) lx) := by rw [List.length_drop, List.length_drop]; omega
   rw [el] at En78
   refine ⟨_, ⟨q + 1, (cutAt at1 ct 8 1), (ct - 8), ao62, cp63, (o ++ [x]), rfl, En78.sb, Hv69.pk [0], hTn, by omega, by rw [heo, hex]; rfl⟩, ?_⟩
   omega
 ·
  refine wp_exit ?_
  refine then_exit ?_
  refine then_exit ?_
  refine block_exit ?_
  refine then_normal ?_
  refine wp_seq ?_
  refine d_r [0,1,6,7] [] En20 fun ac79 En80 => ?_
  refine then_normal ?_
  refine wp_ret ?_
  refine d_ret1 (t := 6) (v := .slice ao (List.length o) co) En80 (by kernel_rfl) (by kernel_rfl) ?_
  have hqq : q = List.length lx / 8 := by omega
  rw [hqq] at heo
  subst heo
  have Hf81 := Hv17.pk [0] (M := [.vec ao co 1 (u64s (wB64 lx (List.length lx / 8))) 53])
  exact ⟨_, _, rfl, Hf81⟩

end Go.Proofs.YtbpihljkkkeijaaDoor
