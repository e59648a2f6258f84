/- Layer 4, the document: compared, sums, differences, digits. -/
import Derived.Test.YtpfhmbbiadpbeaaF4
namespace Go.Proofs.Ytpfhmbbiadpbeaa
open Go.Dbr
set_option maxRecDepth 100000
set_option maxHeartbeats 2000000
set_option linter.unusedVariables false
set_option linter.unusedSimpArgs false

/-- digits of 32 bits, the lowest first -/
def n32 : Nat → Nat → List UInt64
  | 0, _ => []
  | k + 1, n => UInt64.ofNat (n % 4294967296) :: n32 k (n / 4294967296)
theorem n32_len : ∀ (k n : Nat), (n32 k n).length = k
  | 0, _ => rfl
  | k + 1, n => by rw [n32, List.length_cons, n32_len k]
theorem n32_hd (n : Nat) : (UInt64.ofNat (n % 4294967296)).toNat = n % 4294967296 := ofNat_toNat (by omega)
theorem n32_val : ∀ (k n : Nat), dv 4294967296 (n32 k n) = n % 4294967296 ^ k
  | 0, n => by rw [Nat.pow_zero, Nat.mod_one]; rfl
  | k + 1, n => by rw [n32, dv_cons, n32_val k, n32_hd, Nat.pow_succ, Nat.mul_comm (4294967296 ^ k), Nat.mod_mul]
def DG (l : List UInt64) : Prop := ∀ j, (List.getD l j 0).toNat < 4294967296
theorem DG.cons {x : UInt64} {r : List UInt64} : DG (x :: r) ↔ x.toNat < 4294967296 ∧ DG r := by
  constructor
  · intro h
    exact ⟨by have := h 0; simpa using this, fun j => by have := h (j + 1); simpa using this⟩
  · rintro ⟨h1, h2⟩ j
    cases j with
    | zero => simpa using h1
    | succ j => have := h2 j; simpa using this
theorem DG.nil : DG [] := fun j => by simp
theorem n32_dig : ∀ (k n : Nat), DG (n32 k n)
  | 0, n => DG.nil
  | k + 1, n => DG.cons.2 ⟨by rw [n32_hd]; omega, n32_dig k _⟩
theorem n32_dv : ∀ (l : List UInt64), DG l → n32 l.length (dv 4294967296 l) = l
  | [], _ => rfl
  | x :: r, h => by
    have hx := (DG.cons.1 h).1
    rw [List.length_cons, n32, dv_cons]
    have h1 : (x.toNat + 4294967296 * dv 4294967296 r) / 4294967296 = dv 4294967296 r := by omega
    have h2 : UInt64.ofNat ((x.toNat + 4294967296 * dv 4294967296 r) % 4294967296) = x := by
      apply UInt64.toNat_inj.1
      rw [n32_hd]
      omega
    rw [h1, h2, n32_dv r (DG.cons.1 h).2]
theorem n32_of {l : List UInt64} {k n : Nat} (hl : l.length = k) (hd : DG l) (h : dv 4294967296 l = n) : l = n32 k n := by rw [← h, ← hl, n32_dv l hd]
theorem DG.set {l : List UInt64} (h : DG l) {i : Nat} {x : UInt64} (hx : x.toNat < 4294967296) : DG (List.set l i x) := fun j => by
  by_cases e : i = j
  · subst e
    by_cases hi : i < l.length
    · rw [List.getD_eq_getElem?_getD, List.getElem?_set_self hi]; exact hx
    · rw [List.getD_eq_getElem?_getD, List.getElem?_eq_none (by rw [List.length_set]; omega)]; decide
  · rw [getD_set_ne _ e]; exact h j
theorem low32 (t : UInt64) : (t &&& 4294967295).toNat < 4294967296 := by rw [and_low]; omega
theorem high32 (t : UInt64) : (t >>> UInt64.ofNat 32).toNat < 4294967296 := by rw [shr_high]; have := lt64 t; omega
theorem low_high (t : UInt64) : (t &&& 4294967295).toNat + 4294967296 * (t >>> UInt64.ofNat 32).toNat = t.toNat := by rw [and_low, shr_high]; omega
theorem or_shl {x y : UInt64} (hx : x.toNat < 4294967296) (hy : y.toNat < 4294967296) : (x ||| (y <<< UInt64.ofNat 32)).toNat = x.toNat + 4294967296 * y.toNat := by
  rw [UInt64.toNat_or, UInt64.toNat_shiftLeft]
  have h : (UInt64.ofNat 32).toNat % 64 = 32 := by decide
  rw [h, Nat.mod_eq_of_lt (by rw [Nat.shiftLeft_eq]; omega), Nat.or_comm, ← Nat.shiftLeft_add_eq_or_of_lt (by omega), Nat.shiftLeft_eq]
  omega

theorem rless4 (w : World) (a0 a1 a2 a3 b0 b1 b2 b3 : UInt64) : Calls Try.prog 42 #[.agg #[uv64 a0, uv64 a1, uv64 a2, uv64 a3], .agg #[uv64 b0, uv64 b1, uv64 b2, uv64 b3]] w fun e w' => e = .returned (.bool (decide (nv [a0, a1, a2, a3] < nv [b0, b1, b2, b3]))) ∧ Ev w [] w' [] := by
 refine d_0 [(0, .agg #[uv64 a0, uv64 a1, uv64 a2, uv64 a3]), (1, .agg #[uv64 b0, uv64 b1, uv64 b2, uv64 b3])] 24 Go.Proofs.Try.func42 Go.Proofs.Try.ntmps42 (Heap.nil _) fun act0 En0 Hv0 => ?_
 refine wp_seq ?_
 refine region_from ?_
 refine f_o ?_
 refine m_m 24 [uv64 a0, uv64 a1, uv64 a2, uv64 a3] En0 Hv0 fun ac2 wo3 bk1 En4 Hv5 => ?_
 refine f_o ?_
 refine m_m 24 [uv64 b0, uv64 b1, uv64 b2, uv64 b3] En4 Hv5 fun ac7 wo8 bk6 En9 Hv10 => ?_
 refine d_e [2,3,4] [] En9 fun ac11 En12 => ?_
 refine then_normal ?_
 refine wp_seq ?_
 refine d_s [2,3,4,5] [] En12 fun ac13 En14 => ?_
 refine wp_block ?_
 refine loop_enter ?_
 refine loop_once ?_
 refine wp_seq ?_
 refine d_s [2,3,4,5,7] [] En14 fun ac15 En16 => ?_
 refine c_t En16 ?_
 refine wp_skip ?_
 refine then_normal ?_
 refine wp_seq ?_
 refine wp_block ?_
 refine wp_seq ?_
 refine r_c (fun ac wo => Env ac 24 [(2, pt bk1), (3, pt bk6), (4, .bool false), (5, .int .i64 3), (16, .bool (((UInt64.toNat a3 : Nat) : Int) != ((UInt64.toNat b3 : Nat) : Int)))] ∧ Ev w [] wo [.box bk1 [uv64 a0, uv64 a1, uv64 a2, uv64 a3] 24, .box bk6 [uv64 b0, uv64 b1, uv64 b2, uv64 b3] 24]) ?_ ?_
 ·
  refine h_s (fun wv => Ev w [] wv [.box bk1 [uv64 a0, uv64 a1, uv64 a2, uv64 a3] 24, .box bk6 [uv64 b0, uv64 b1, uv64 b2, uv64 b3] 24]) [] 7 ?_
  have wo17 := Hv10.trans (Ev.drew Hv10.heap)
  refine q_s [0,1] [] 5 En16 (wo17.pk [0, 1]) fun ac42 En43 => ?_
  refine q_l 0 2 En43 (wo17.pk [0, 1]) fun ac44 En45 => ?_
  refine q_s [3,4] [] 2 En45 (wo17.pk [0, 1]) fun ac46 En47 => ?_
  refine q_l 1 5 En47 (wo17.pk [0, 1]) fun ac48 En49 => ?_
  refine q_s [6] [] 0 En49 (wo17.pk [0, 1]) fun ac50 En51 => ?_
  exact h_e ⟨En51.sb, wo17.pk [0, 1]⟩
 rintro ac52 wo53 ⟨En54, Hv55⟩
 refine then_normal ?_
 refine c_n ((UInt64.toNat a3 : Nat) : Int) ((UInt64.toNat b3 : Nat) : Int) En54 (fun hc56 => ?_) (fun hc56 => ?_)
 ·
  refine wp_seq ?_
  refine r_c (fun ac wo => Env ac 24 [(2, pt bk1), (3, pt bk6), (4, .bool (decide (((UInt64.toNat a3 : Nat) : Int) < ((UInt64.toNat b3 : Nat) : Int)))), (5, .int .i64 3)] ∧ Ev w [] wo [.box bk1 [uv64 a0, uv64 a1, uv64 a2, uv64 a3] 24, .box bk6 [uv64 b0, uv64 b1, uv64 b2, uv64 b3] 24]) ?_ ?_
  ·
   refine h_s (fun wv => Ev w [] wv [.box bk1 [uv64 a0, uv64 a1, uv64 a2, uv64 a3] 24, .box bk6 [uv64 b0, uv64 b1, uv64 b2, uv64 b3] 24]) [] 8 ?_
   have wo57 := Hv55.trans (Ev.drew Hv55.heap)
   refine q_s [0,1] [] 6 En54 (wo57.pk [0, 1]) fun ac82 En83 => ?_
   refine q_l 0 2 En83 (wo57.pk [0, 1]) fun ac84 En85 => ?_
   refine q_s [3,4] [] 3 En85 (wo57.pk [0, 1]) fun ac86 En87 => ?_
   refine q_l 1 5 En87 (wo57.pk [0, 1]) fun ac88 En89 => ?_
   refine q_s [6,7] [] 0 En89 (wo57.pk [0, 1]) fun ac90 En91 => ?_
   exact h_e ⟨En91.sb, wo57.pk [0, 1]⟩
  rintro ac92 wo93 ⟨En94, Hv95⟩
  refine then_normal ?_
  refine wp_ret ?_
  refine block_ret ?_
  refine then_ret ?_
  refine then_ret ?_
  refine block_ret ?_
  refine then_ret ?_
  refine d_ret1 (t := 4) (v := .bool (decide (((UInt64.toNat a3 : Nat) : Int) < ((UInt64.toNat b3 : Nat) : Int)))) En94 (by kernel_rfl) (by kernel_rfl) ?_
  have e : (decide (((UInt64.toNat a3 : Nat) : Int) < ((UInt64.toNat b3 : Nat) : Int))) = decide (nv [a0, a1, a2, a3] < nv [b0, b1, b2, b3]) := by
   rw [nv4, nv4]
   have := lt64 a0; have := lt64 a1; have := lt64 a2; have := lt64 a3; have := lt64 b0; have := lt64 b1; have := lt64 b2; have := lt64 b3
   first | exact decide_eq_decide.2 (by omega) | exact (decide_eq_false (by omega)).symm
  exact ⟨by rw [e], Hv95.pk []⟩
 ·
  refine wp_skip ?_
  refine block_normal ?_
  refine then_normal ?_
  refine d_r [2,3,4,5] [] En54 fun ac96 En97 => ?_
  refine then_normal ?_
  refine loop_once ?_
  refine wp_seq ?_
  refine d_s [2,3,4,5,7] [] En97 fun ac98 En99 => ?_
  refine c_t En99 ?_
  refine wp_skip ?_
  refine then_normal ?_
  refine wp_seq ?_
  refine wp_block ?_
  refine wp_seq ?_
  refine r_c (fun ac wo => Env ac 24 [(2, pt bk1), (3, pt bk6), (4, .bool false), (5, .int .i64 2), (16, .bool (((UInt64.toNat a2 : Nat) : Int) != ((UInt64.toNat b2 : Nat) : Int)))] ∧ Ev w [] wo [.box bk1 [uv64 a0, uv64 a1, uv64 a2, uv64 a3] 24, .box bk6 [uv64 b0, uv64 b1, uv64 b2, uv64 b3] 24]) ?_ ?_
  ·
   refine h_s (fun wv => Ev w [] wv [.box bk1 [uv64 a0, uv64 a1, uv64 a2, uv64 a3] 24, .box bk6 [uv64 b0, uv64 b1, uv64 b2, uv64 b3] 24]) [] 7 ?_
   have wo100 := Hv55.trans (Ev.drew Hv55.heap)
   refine q_s [0,1] [] 5 En99 (wo100.pk [0, 1]) fun ac125 En126 => ?_
   refine q_l 0 2 En126 (wo100.pk [0, 1]) fun ac127 En128 => ?_
   refine q_s [3,4] [] 2 En128 (wo100.pk [0, 1]) fun ac129 En130 => ?_
   refine q_l 1 5 En130 (wo100.pk [0, 1]) fun ac131 En132 => ?_
   refine q_s [6] [] 0 En132 (wo100.pk [0, 1]) fun ac133 En134 => ?_
   exact h_e ⟨En134.sb, wo100.pk [0, 1]⟩
  rintro ac135 wo136 ⟨En137, Hv138⟩
  refine then_normal ?_
  refine c_n ((UInt64.toNat a2 : Nat) : Int) ((UInt64.toNat b2 : Nat) : Int) En137 (fun hc139 => ?_) (fun hc139 => ?_)
  ·
   refine wp_seq ?_
   refine r_c (fun ac wo => Env ac 24 [(2, pt bk1), (3, pt bk6), (4, .bool (decide (((UInt64.toNat a2 : Nat) : Int) < ((UInt64.toNat b2 : Nat) : Int)))), (5, .int .i64 2)] ∧ Ev w [] wo [.box bk1 [uv64 a0, uv64 a1, uv64 a2, uv64 a3] 24, .box bk6 [uv64 b0, uv64 b1, uv64 b2, uv64 b3] 24]) ?_ ?_
   ·
    refine h_s (fun wv => Ev w [] wv [.box bk1 [uv64 a0, uv64 a1, uv64 a2, uv64 a3] 24, .box bk6 [uv64 b0, uv64 b1, uv64 b2, uv64 b3] 24]) [] 8 ?_
    have wo140 := Hv138.trans (Ev.drew Hv138.heap)
    refine q_s [0,1] [] 6 En137 (wo140.pk [0, 1]) fun ac165 En166 => ?_
    refine q_l 0 2 En166 (wo140.pk [0, 1]) fun ac167 En168 => ?_
    refine q_s [3,4] [] 3 En168 (wo140.pk [0, 1]) fun ac169 En170 => ?_
    refine q_l 1 5 En170 (wo140.pk [0, 1]) fun ac171 En172 => ?_
    refine q_s [6,7] [] 0 En172 (wo140.pk [0, 1]) fun ac173 En174 => ?_
    exact h_e ⟨En174.sb, wo140.pk [0, 1]⟩
   rintro ac175 wo176 ⟨En177, Hv178⟩
   refine then_normal ?_
   refine wp_ret ?_
   refine block_ret ?_
   refine then_ret ?_
   refine then_ret ?_
   refine block_ret ?_
   refine then_ret ?_
   refine d_ret1 (t := 4) (v := .bool (decide (((UInt64.toNat a2 : Nat) : Int) < ((UInt64.toNat b2 : Nat) : Int)))) En177 (by kernel_rfl) (by kernel_rfl) ?_
   have e : (decide (((UInt64.toNat a2 : Nat) : Int) < ((UInt64.toNat b2 : Nat) : Int))) = decide (nv [a0, a1, a2, a3] < nv [b0, b1, b2, b3]) := by
    rw [nv4, nv4]
    have := lt64 a0; have := lt64 a1; have := lt64 a2; have := lt64 a3; have := lt64 b0; have := lt64 b1; have := lt64 b2; have := lt64 b3
    first | exact decide_eq_decide.2 (by omega) | exact (decide_eq_false (by omega)).symm
   exact ⟨by rw [e], Hv178.pk []⟩
  ·
   refine wp_skip ?_
   refine block_normal ?_
   refine then_normal ?_
   refine d_r [2,3,4,5] [] En137 fun ac179 En180 => ?_
   refine then_normal ?_
   refine loop_once ?_
   refine wp_seq ?_
   refine d_s [2,3,4,5,7] [] En180 fun ac181 En182 => ?_
   refine c_t En182 ?_
   refine wp_skip ?_
   refine then_normal ?_
   refine wp_seq ?_
   refine wp_block ?_
   refine wp_seq ?_
   refine r_c (fun ac wo => Env ac 24 [(2, pt bk1), (3, pt bk6), (4, .bool false), (5, .int .i64 1), (16, .bool (((UInt64.toNat a1 : Nat) : Int) != ((UInt64.toNat b1 : Nat) : Int)))] ∧ Ev w [] wo [.box bk1 [uv64 a0, uv64 a1, uv64 a2, uv64 a3] 24, .box bk6 [uv64 b0, uv64 b1, uv64 b2, uv64 b3] 24]) ?_ ?_
   ·
    refine h_s (fun wv => Ev w [] wv [.box bk1 [uv64 a0, uv64 a1, uv64 a2, uv64 a3] 24, .box bk6 [uv64 b0, uv64 b1, uv64 b2, uv64 b3] 24]) [] 7 ?_
    have wo183 := Hv138.trans (Ev.drew Hv138.heap)
    refine q_s [0,1] [] 5 En182 (wo183.pk [0, 1]) fun ac208 En209 => ?_
    refine q_l 0 2 En209 (wo183.pk [0, 1]) fun ac210 En211 => ?_
    refine q_s [3,4] [] 2 En211 (wo183.pk [0, 1]) fun ac212 En213 => ?_
    refine q_l 1 5 En213 (wo183.pk [0, 1]) fun ac214 En215 => ?_
    refine q_s [6] [] 0 En215 (wo183.pk [0, 1]) fun ac216 En217 => ?_
    exact h_e ⟨En217.sb, wo183.pk [0, 1]⟩
   rintro ac218 wo219 ⟨En220, Hv221⟩
   refine then_normal ?_
   refine c_n ((UInt64.toNat a1 : Nat) : Int) ((UInt64.toNat b1 : Nat) : Int) En220 (fun hc222 => ?_) (fun hc222 => ?_)
   ·
    refine wp_seq ?_
    refine r_c (fun ac wo => Env ac 24 [(2, pt bk1), (3, pt bk6), (4, .bool (decide (((UInt64.toNat a1 : Nat) : Int) < ((UInt64.toNat b1 : Nat) : Int)))), (5, .int .i64 1)] ∧ Ev w [] wo [.box bk1 [uv64 a0, uv64 a1, uv64 a2, uv64 a3] 24, .box bk6 [uv64 b0, uv64 b1, uv64 b2, uv64 b3] 24]) ?_ ?_
    ·
     refine h_s (fun wv => Ev w [] wv [.box bk1 [uv64 a0, uv64 a1, uv64 a2, uv64 a3] 24, .box bk6 [uv64 b0, uv64 b1, uv64 b2, uv64 b3] 24]) [] 8 ?_
     have wo223 := Hv221.trans (Ev.drew Hv221.heap)
     refine q_s [0,1] [] 6 En220 (wo223.pk [0, 1]) fun ac248 En249 => ?_
     refine q_l 0 2 En249 (wo223.pk [0, 1]) fun ac250 En251 => ?_
     refine q_s [3,4] [] 3 En251 (wo223.pk [0, 1]) fun ac252 En253 => ?_
     refine q_l 1 5 En253 (wo223.pk [0, 1]) fun ac254 En255 => ?_
     refine q_s [6,7] [] 0 En255 (wo223.pk [0, 1]) fun ac256 En257 => ?_
     exact h_e ⟨En257.sb, wo223.pk [0, 1]⟩
    rintro ac258 wo259 ⟨En260, Hv261⟩
    refine then_normal ?_
    refine wp_ret ?_
    refine block_ret ?_
    refine then_ret ?_
    refine then_ret ?_
    refine block_ret ?_
    refine then_ret ?_
    refine d_ret1 (t := 4) (v := .bool (decide (((UInt64.toNat a1 : Nat) : Int) < ((UInt64.toNat b1 : Nat) : Int)))) En260 (by kernel_rfl) (by kernel_rfl) ?_
    have e : (decide (((UInt64.toNat a1 : Nat) : Int) < ((UInt64.toNat b1 : Nat) : Int))) = decide (nv [a0, a1, a2, a3] < nv [b0, b1, b2, b3]) := by
     rw [nv4, nv4]
     have := lt64 a0; have := lt64 a1; have := lt64 a2; have := lt64 a3; have := lt64 b0; have := lt64 b1; have := lt64 b2; have := lt64 b3
     first | exact decide_eq_decide.2 (by omega) | exact (decide_eq_false (by omega)).symm
    exact ⟨by rw [e], Hv261.pk []⟩
   ·
    refine wp_skip ?_
    refine block_normal ?_
    refine then_normal ?_
    refine d_r [2,3,4,5] [] En220 fun ac262 En263 => ?_
    refine then_normal ?_
    refine loop_once ?_
    refine wp_seq ?_
    refine d_s [2,3,4,5,7] [] En263 fun ac264 En265 => ?_
    refine c_t En265 ?_
    refine wp_skip ?_
    refine then_normal ?_
    refine wp_seq ?_
    refine wp_block ?_
    refine wp_seq ?_
    refine r_c (fun ac wo => Env ac 24 [(2, pt bk1), (3, pt bk6), (4, .bool false), (5, .int .i64 0), (16, .bool (((UInt64.toNat a0 : Nat) : Int) != ((UInt64.toNat b0 : Nat) : Int)))] ∧ Ev w [] wo [.box bk1 [uv64 a0, uv64 a1, uv64 a2, uv64 a3] 24, .box bk6 [uv64 b0, uv64 b1, uv64 b2, uv64 b3] 24]) ?_ ?_
    ·
     refine h_s (fun wv => Ev w [] wv [.box bk1 [uv64 a0, uv64 a1, uv64 a2, uv64 a3] 24, .box bk6 [uv64 b0, uv64 b1, uv64 b2, uv64 b3] 24]) [] 7 ?_
     have wo266 := Hv221.trans (Ev.drew Hv221.heap)
     refine q_s [0,1] [] 5 En265 (wo266.pk [0, 1]) fun ac291 En292 => ?_
     refine q_l 0 2 En292 (wo266.pk [0, 1]) fun ac293 En294 => ?_
     refine q_s [3,4] [] 2 En294 (wo266.pk [0, 1]) fun ac295 En296 => ?_
     refine q_l 1 5 En296 (wo266.pk [0, 1]) fun ac297 En298 => ?_
     refine q_s [6] [] 0 En298 (wo266.pk [0, 1]) fun ac299 En300 => ?_
     exact h_e ⟨En300.sb, wo266.pk [0, 1]⟩
    rintro ac301 wo302 ⟨En303, Hv304⟩
    refine then_normal ?_
    refine c_n ((UInt64.toNat a0 : Nat) : Int) ((UInt64.toNat b0 : Nat) : Int) En303 (fun hc305 => ?_) (fun hc305 => ?_)
    ·
     refine wp_seq ?_
     refine r_c (fun ac wo => Env ac 24 [(2, pt bk1), (3, pt bk6), (4, .bool (decide (((UInt64.toNat a0 : Nat) : Int) < ((UInt64.toNat b0 : Nat) : Int)))), (5, .int .i64 0)] ∧ Ev w [] wo [.box bk1 [uv64 a0, uv64 a1, uv64 a2, uv64 a3] 24, .box bk6 [uv64 b0, uv64 b1, uv64 b2, uv64 b3] 24]) ?_ ?_
     ·
      refine h_s (fun wv => Ev w [] wv [.box bk1 [uv64 a0, uv64 a1, uv64 a2, uv64 a3] 24, .box bk6 [uv64 b0, uv64 b1, uv64 b2, uv64 b3] 24]) [] 8 ?_
      have wo306 := Hv304.trans (Ev.drew Hv304.heap)
      refine q_s [0,1] [] 6 En303 (wo306.pk [0, 1]) fun ac331 En332 => ?_
      refine q_l 0 2 En332 (wo306.pk [0, 1]) fun ac333 En334 => ?_
      refine q_s [3,4] [] 3 En334 (wo306.pk [0, 1]) fun ac335 En336 => ?_
      refine q_l 1 5 En336 (wo306.pk [0, 1]) fun ac337 En338 => ?_
      refine q_s [6,7] [] 0 En338 (wo306.pk [0, 1]) fun ac339 En340 => ?_
      exact h_e ⟨En340.sb, wo306.pk [0, 1]⟩
     rintro ac341 wo342 ⟨En343, Hv344⟩
     refine then_normal ?_
     refine wp_ret ?_
     refine block_ret ?_
     refine then_ret ?_
     refine then_ret ?_
     refine block_ret ?_
     refine then_ret ?_
     refine d_ret1 (t := 4) (v := .bool (decide (((UInt64.toNat a0 : Nat) : Int) < ((UInt64.toNat b0 : Nat) : Int)))) En343 (by kernel_rfl) (by kernel_rfl) ?_
     have e : (decide (((UInt64.toNat a0 : Nat) : Int) < ((UInt64.toNat b0 : Nat) : Int))) = decide (nv [a0, a1, a2, a3] < nv [b0, b1, b2, b3]) := by
      rw [nv4, nv4]
      have := lt64 a0; have := lt64 a1; have := lt64 a2; have := lt64 a3; have := lt64 b0; have := lt64 b1; have := lt64 b2; have := lt64 b3
      first | exact decide_eq_decide.2 (by omega) | exact (decide_eq_false (by omega)).symm
     exact ⟨by rw [e], Hv344.pk []⟩
    ·
     refine wp_skip ?_
     refine block_normal ?_
     refine then_normal ?_
     refine d_r [2,3,4,5] [] En303 fun ac345 En346 => ?_
     refine then_normal ?_
     refine loop_once ?_
     refine wp_seq ?_
     refine d_s [2,3,4,5,7] [] En346 fun ac347 En348 => ?_
     refine c_f En348 ?_
     refine wp_exit ?_
     refine then_exit ?_
     refine then_exit ?_
     refine block_exit ?_
     refine then_normal ?_
     refine d_s [2,3,4,5] [] En348 fun ac349 En350 => ?_
     refine wp_ret ?_
     refine d_ret1 (t := 4) (v := .bool false) En350 (by kernel_rfl) (by kernel_rfl) ?_
     have e : (false) = decide (nv [a0, a1, a2, a3] < nv [b0, b1, b2, b3]) := by
      rw [nv4, nv4]
      have := lt64 a0; have := lt64 a1; have := lt64 a2; have := lt64 a3; have := lt64 b0; have := lt64 b1; have := lt64 b2; have := lt64 b3
      first | exact decide_eq_decide.2 (by omega) | exact (decide_eq_false (by omega)).symm
     exact ⟨by rw [e], Hv304.pk []⟩

theorem rless_go (w : World) (a b : List UInt64) (ha : List.length a = 4) (hb : List.length b = 4) : Calls Try.prog 42 #[.agg (List.toArray (u64s a)), .agg (List.toArray (u64s b))] w fun e w' => e = .returned (.bool (decide (nv a < nv b))) ∧ Ev w [] w' [] := by
  match a, ha, b, hb with
  | [a0, a1, a2, a3], _, [b0, b1, b2, b3], _ => exact rless4 w a0 a1 a2 a3 b0 b1 b2 b3

theorem carry1 {x y : UInt64} : (if (x + y).toNat < x.toNat then (1 : UInt64) else 0) = addHi x y 0 := by
  apply UInt64.toNat_inj.1
  rw [addHi_val]
  have := lt64 x; have := lt64 y
  rw [UInt64.toNat_add, show (0 : UInt64).toNat = 0 from rfl]
  split
  · rw [show (1 : UInt64).toNat = 1 from rfl]; omega
  · rw [show (0 : UInt64).toNat = 0 from rfl]; omega
theorem carry2 {x y c : UInt64} (h : c.toNat ≤ 1) : (if (x + y + c).toNat < (x + y).toNat then (1 : UInt64) else addHi x y 0) = addHi x y c := by
  apply UInt64.toNat_inj.1
  have := lt64 x; have := lt64 y
  split
  · rename_i q
    rw [addHi_val, show (1 : UInt64).toNat = 1 from rfl]
    rw [UInt64.toNat_add (x + y), UInt64.toNat_add] at q
    omega
  · rename_i q
    rw [addHi_val, addHi_val, show (0 : UInt64).toNat = 0 from rfl]
    rw [UInt64.toNat_add (x + y), UInt64.toNat_add] at q
    omega

theorem rplus4 (w : World) (a0 a1 a2 a3 b0 b1 b2 b3 : UInt64) : Calls Try.prog 48 #[.agg #[uv64 a0, uv64 a1, uv64 a2, uv64 a3], .agg #[uv64 b0, uv64 b1, uv64 b2, uv64 b3]] w fun e w' => e = .returned (.tuple #[.agg (List.toArray (u64s (plusL [a0, a1, a2, a3] [b0, b1, b2, b3]))), uv64 (adF [a0, a1, a2, a3] [b0, b1, b2, b3] 4)]) ∧ Ev w [] w' [] := by
 refine d_0 [(0, .agg #[uv64 a0, uv64 a1, uv64 a2, uv64 a3]), (1, .agg #[uv64 b0, uv64 b1, uv64 b2, uv64 b3])] 39 Go.Proofs.Try.func48 Go.Proofs.Try.ntmps48 (Heap.nil _) fun act0 En0 Hv0 => ?_
 refine wp_seq ?_
 refine region_from ?_
 refine f_o ?_
 refine m_m 24 [uv64 a0, uv64 a1, uv64 a2, uv64 a3] En0 Hv0 fun ac2 wo3 bk1 En4 Hv5 => ?_
 refine f_o ?_
 refine m_m 24 [uv64 b0, uv64 b1, uv64 b2, uv64 b3] En4 Hv5 fun ac7 wo8 bk6 En9 Hv10 => ?_
 refine f_o ?_
 refine m_z 24 (u64s (List.replicate 4 0)) En9 Hv10 fun ac12 wo13 bk11 En14 Hv15 => ?_
 refine d_e [2,3,4,5] [] En14 fun ac16 En17 => ?_
 refine then_normal ?_
 refine d_s [2,3,4,5,6] [] En17 fun ac18 En19 => ?_
 refine wp_seq ?_
 refine d_s [2,3,4,5,6,7] [] En19 fun ac20 En21 => ?_
 refine wp_block ?_
 refine loop_enter ?_
 refine loop_once ?_
 refine wp_seq ?_
 refine d_s [2,3,4,5,6,7,12] [] En21 fun ac22 En23 => ?_
 refine c_t En23 ?_
 refine wp_skip ?_
 refine then_normal ?_
 refine wp_seq ?_
 refine wp_block ?_
 refine wp_seq ?_
 refine r_c (fun ac wo => Env ac 39 [(2, pt bk1), (3, pt bk6), (4, pt bk11), (5, .int .u64 0), (6, .int .u64 0), (7, .int .i64 0), (8, uv64 (a0 + b0))] ∧ Ev w [] wo [.box bk1 [uv64 a0, uv64 a1, uv64 a2, uv64 a3] 24, .box bk6 [uv64 b0, uv64 b1, uv64 b2, uv64 b3] 24, .box bk11 (u64s (List.replicate 4 0)) 24]) ?_ ?_
 ·
  refine h_s (fun wv => Ev w [] wv [.box bk1 [uv64 a0, uv64 a1, uv64 a2, uv64 a3] 24, .box bk6 [uv64 b0, uv64 b1, uv64 b2, uv64 b3] 24]) [] 8 ?_
  have wo24 := Hv15.trans (Ev.drew Hv15.heap)
  refine q_s [0,1] [] 6 En23 (wo24.pk [0, 1]) fun ac49 En50 => ?_
  refine q_l 0 2 En50 (wo24.pk [0, 1]) fun ac51 En52 => ?_
  refine q_s [3,4] [] 3 En52 (wo24.pk [0, 1]) fun ac53 En54 => ?_
  refine q_l 1 5 En54 (wo24.pk [0, 1]) fun ac55 En56 => ?_
  refine q_s [6,7] [(6, g_i .u64 (Go.Dbr.u64_add (x := a0) (y := b0) rfl rfl))] 0 En56 (wo24.pk [0, 1]) fun ac57 En58 => ?_
  exact h_e ⟨En58.sb, wo24.pk [0, 1, 2]⟩
 rintro ac59 wo60 ⟨En61, Hv62⟩
 refine then_normal ?_
 refine d_s [2,3,4,5,6,7,8,9] [] En61 fun ac63 En64 => ?_
 refine wp_seq ?_
 refine wp_seq ?_
 refine region_from ?_
 refine d_k [2,3,4,5,6,7,8,9,22,24] [] 3 En64 fun ac65 En66 => ?_
 refine f_o ?_
 refine m_l 0 En66 Hv62 fun ac67 En68 => ?_
 refine d_e [2,3,4,5,6,7,8,9,26] [] En68 fun ac69 En70 => ?_
 refine then_normal ?_
 refine region_cut (F := fun ac wo => ∃ (c1_0 : UInt64), Env ac 39 [(2, pt bk1), (3, pt bk6), (4, pt bk11), (5, .int .u64 0), (6, .int .u64 0), (7, .int .i64 0), (8, uv64 (a0 + b0)), (9, uv64 c1_0)] ∧ Ev w [] wo [.box bk1 [uv64 a0, uv64 a1, uv64 a2, uv64 a3] 24, .box bk6 [uv64 b0, uv64 b1, uv64 b2, uv64 b3] 24, .box bk11 (u64s (List.replicate 4 0)) 24] ∧ (c1_0 = addHi a0 b0 0)) ?_ ?_
 ·
  refine c_d (((UInt64.toNat (a0 + b0) : Nat) : Int) < ((UInt64.toNat a0 : Nat) : Int)) En70 (fun hc71 => ?_) (fun hc71 => ?_)
  ·
   refine d_r [2,3,4,5,6,7,8,9] [] En70 fun ac72 En73 => ?_
   exact ⟨rfl, ⟨(1 : UInt64), En73.sb, Hv62.pk [0, 1, 2], by rw [← carry1]; first | exact (if_pos (by omega)).symm | exact (if_neg (by omega)).symm⟩⟩
  ·
   refine wp_skip ?_
   exact ⟨rfl, ⟨(0 : UInt64), En70.sb, Hv62.pk [0, 1, 2], by rw [← carry1]; first | exact (if_pos (by omega)).symm | exact (if_neg (by omega)).symm⟩⟩
 ·
  rintro ac74 wo75 ⟨c1_0, En76, Hv77, hc1_0⟩
  refine then_normal ?_
  refine d_s [2,3,4,5,6,7,8,9,10] [(2, g_i .u64 (Go.Dbr.u64_add (x := a0 + b0) (y := (0 : UInt64)) rfl rfl))] En76 fun ac78 En79 => ?_
  refine wp_seq ?_
  refine d_s [2,3,4,5,6,7,8,9,10,32] [] En79 fun ac80 En81 => ?_
  have hle0 : UInt64.toNat (0 : UInt64) ≤ 1 := (by decide)
  refine region_cut (F := fun ac wo => ∃ (c2_0 : UInt64), Env ac 39 [(2, pt bk1), (3, pt bk6), (4, pt bk11), (5, .int .u64 0), (6, .int .u64 0), (7, .int .i64 0), (8, uv64 (a0 + b0)), (9, uv64 c2_0), (10, uv64 ((a0 + b0) + (0 : UInt64)))] ∧ Ev w [] wo [.box bk1 [uv64 a0, uv64 a1, uv64 a2, uv64 a3] 24, .box bk6 [uv64 b0, uv64 b1, uv64 b2, uv64 b3] 24, .box bk11 (u64s (List.replicate 4 0)) 24] ∧ (c2_0 = addHi a0 b0 (0 : UInt64))) ?_ ?_
  ·
   refine c_d (((UInt64.toNat ((a0 + b0) + (0 : UInt64)) : Nat) : Int) < ((UInt64.toNat (a0 + b0) : Nat) : Int)) En81 (fun hc82 => ?_) (fun hc82 => ?_)
   ·
    refine d_r [2,3,4,5,6,7,8,9,10] [] En81 fun ac83 En84 => ?_
    exact ⟨rfl, ⟨(1 : UInt64), En84.sb, Hv77.pk [0, 1, 2], by rw [← carry2 hle0]; first | exact (if_pos (by omega)).symm | exact hc1_0.trans (if_neg (by omega)).symm⟩⟩
   ·
    refine wp_skip ?_
    exact ⟨rfl, ⟨c1_0, En81.sb, Hv77.pk [0, 1, 2], by rw [← carry2 hle0]; first | exact (if_pos (by omega)).symm | exact hc1_0.trans (if_neg (by omega)).symm⟩⟩
  ·
   rintro ac85 wo86 ⟨c2_0, En87, Hv88, hc2_0⟩
   refine then_normal ?_
   refine wp_seq ?_
   refine region_from ?_
   refine d_k [2,3,4,5,6,7,8,9,10,34,35] [] 3 En87 fun ac89 En90 => ?_
   refine f_o ?_
   refine m_s 0 [.box bk1 [uv64 ((a0 + b0) + (0 : UInt64)), uv64 a1, uv64 a2, uv64 a3] 24, .box bk6 [uv64 b0, uv64 b1, uv64 b2, uv64 b3] 24, .box bk11 (u64s (List.replicate 4 0)) 24] En90 Hv88 fun ac91 wo92 En93 Hv94 => ?_
   refine f_e ?_
   refine then_normal ?_
   refine d_r [2,3,4,5,6,7,8,10] [] En93 fun ac95 En96 => ?_
   refine block_normal ?_
   refine then_normal ?_
   refine d_r [2,3,4,5,6,7,8,10] [] En96 fun ac97 En98 => ?_
   refine then_normal ?_
   refine loop_once ?_
   refine wp_seq ?_
   refine d_s [2,3,4,5,6,7,8,10,12] [] En98 fun ac99 En100 => ?_
   refine c_t En100 ?_
   refine wp_skip ?_
   refine then_normal ?_
   refine wp_seq ?_
   refine wp_block ?_
   refine wp_seq ?_
   refine r_c (fun ac wo => Env ac 39 [(2, pt bk1), (3, pt bk6), (4, pt bk11), (5, .int .u64 0), (6, uv64 c2_0), (7, .int .i64 1), (8, uv64 (a1 + b1)), (10, uv64 ((a0 + b0) + (0 : UInt64)))] ∧ Ev w [] wo [.box bk1 [uv64 ((a0 + b0) + (0 : UInt64)), uv64 a1, uv64 a2, uv64 a3] 24, .box bk6 [uv64 b0, uv64 b1, uv64 b2, uv64 b3] 24, .box bk11 (u64s (List.replicate 4 0)) 24]) ?_ ?_
   ·
    refine h_s (fun wv => Ev w [] wv [.box bk1 [uv64 ((a0 + b0) + (0 : UInt64)), uv64 a1, uv64 a2, uv64 a3] 24, .box bk6 [uv64 b0, uv64 b1, uv64 b2, uv64 b3] 24]) [] 8 ?_
    have wo101 := Hv94.trans (Ev.drew Hv94.heap)
    refine q_s [0,1] [] 6 En100 (wo101.pk [0, 1]) fun ac126 En127 => ?_
    refine q_l 0 2 En127 (wo101.pk [0, 1]) fun ac128 En129 => ?_
    refine q_s [3,4] [] 3 En129 (wo101.pk [0, 1]) fun ac130 En131 => ?_
    refine q_l 1 5 En131 (wo101.pk [0, 1]) fun ac132 En133 => ?_
    refine q_s [6,7] [(6, g_i .u64 (Go.Dbr.u64_add (x := a1) (y := b1) rfl rfl))] 0 En133 (wo101.pk [0, 1]) fun ac134 En135 => ?_
    exact h_e ⟨En135.sb, wo101.pk [0, 1, 2]⟩
   rintro ac136 wo137 ⟨En138, Hv139⟩
   refine then_normal ?_
   refine d_s [2,3,4,5,6,7,8,9,10] [] En138 fun ac140 En141 => ?_
   refine wp_seq ?_
   refine wp_seq ?_
   refine region_from ?_
   refine d_k [2,3,4,5,6,7,8,9,10,22,24] [] 3 En141 fun ac142 En143 => ?_
   refine f_o ?_
   refine m_l 0 En143 Hv139 fun ac144 En145 => ?_
   refine d_e [2,3,4,5,6,7,8,9,10,26] [] En145 fun ac146 En147 => ?_
   refine then_normal ?_
   refine region_cut (F := fun ac wo => ∃ (c1_1 : UInt64), Env ac 39 [(2, pt bk1), (3, pt bk6), (4, pt bk11), (5, .int .u64 0), (6, uv64 c2_0), (7, .int .i64 1), (8, uv64 (a1 + b1)), (9, uv64 c1_1), (10, uv64 ((a0 + b0) + (0 : UInt64)))] ∧ Ev w [] wo [.box bk1 [uv64 ((a0 + b0) + (0 : UInt64)), uv64 a1, uv64 a2, uv64 a3] 24, .box bk6 [uv64 b0, uv64 b1, uv64 b2, uv64 b3] 24, .box bk11 (u64s (List.replicate 4 0)) 24] ∧ (c1_1 = addHi a1 b1 0)) ?_ ?_
   ·
    refine c_d (((UInt64.toNat (a1 + b1) : Nat) : Int) < ((UInt64.toNat a1 : Nat) : Int)) En147 (fun hc148 => ?_) (fun hc148 => ?_)
    ·
     refine d_r [2,3,4,5,6,7,8,9,10] [] En147 fun ac149 En150 => ?_
     exact ⟨rfl, ⟨(1 : UInt64), En150.sb, Hv139.pk [0, 1, 2], by rw [← carry1]; first | exact (if_pos (by omega)).symm | exact (if_neg (by omega)).symm⟩⟩
    ·
     refine wp_skip ?_
     exact ⟨rfl, ⟨(0 : UInt64), En147.sb, Hv139.pk [0, 1, 2], by rw [← carry1]; first | exact (if_pos (by omega)).symm | exact (if_neg (by omega)).symm⟩⟩
   ·
    rintro ac151 wo152 ⟨c1_1, En153, Hv154, hc1_1⟩
    refine then_normal ?_
    refine d_s [2,3,4,5,6,7,8,9,10] [(2, g_i .u64 (Go.Dbr.u64_add (x := a1 + b1) (y := c2_0) rfl rfl))] En153 fun ac155 En156 => ?_
    refine wp_seq ?_
    refine d_s [2,3,4,5,6,7,8,9,10,32] [] En156 fun ac157 En158 => ?_
    have hle1 : UInt64.toNat c2_0 ≤ 1 := (by rw [hc2_0]; exact addHi_le hle0)
    refine region_cut (F := fun ac wo => ∃ (c2_1 : UInt64), Env ac 39 [(2, pt bk1), (3, pt bk6), (4, pt bk11), (5, .int .u64 0), (6, uv64 c2_0), (7, .int .i64 1), (8, uv64 (a1 + b1)), (9, uv64 c2_1), (10, uv64 ((a1 + b1) + c2_0))] ∧ Ev w [] wo [.box bk1 [uv64 ((a0 + b0) + (0 : UInt64)), uv64 a1, uv64 a2, uv64 a3] 24, .box bk6 [uv64 b0, uv64 b1, uv64 b2, uv64 b3] 24, .box bk11 (u64s (List.replicate 4 0)) 24] ∧ (c2_1 = addHi a1 b1 c2_0)) ?_ ?_
    ·
     refine c_d (((UInt64.toNat ((a1 + b1) + c2_0) : Nat) : Int) < ((UInt64.toNat (a1 + b1) : Nat) : Int)) En158 (fun hc159 => ?_) (fun hc159 => ?_)
     ·
      refine d_r [2,3,4,5,6,7,8,9,10] [] En158 fun ac160 En161 => ?_
      exact ⟨rfl, ⟨(1 : UInt64), En161.sb, Hv154.pk [0, 1, 2], by rw [← carry2 hle1]; first | exact (if_pos (by omega)).symm | exact hc1_1.trans (if_neg (by omega)).symm⟩⟩
     ·
      refine wp_skip ?_
      exact ⟨rfl, ⟨c1_1, En158.sb, Hv154.pk [0, 1, 2], by rw [← carry2 hle1]; first | exact (if_pos (by omega)).symm | exact hc1_1.trans (if_neg (by omega)).symm⟩⟩
    ·
     rintro ac162 wo163 ⟨c2_1, En164, Hv165, hc2_1⟩
     refine then_normal ?_
     refine wp_seq ?_
     refine region_from ?_
     refine d_k [2,3,4,5,6,7,8,9,10,34,35] [] 3 En164 fun ac166 En167 => ?_
     refine f_o ?_
     refine m_s 0 [.box bk1 [uv64 ((a0 + b0) + (0 : UInt64)), uv64 ((a1 + b1) + c2_0), uv64 a2, uv64 a3] 24, .box bk6 [uv64 b0, uv64 b1, uv64 b2, uv64 b3] 24, .box bk11 (u64s (List.replicate 4 0)) 24] En167 Hv165 fun ac168 wo169 En170 Hv171 => ?_
     refine f_e ?_
     refine then_normal ?_
     refine d_r [2,3,4,5,6,7,8,10] [] En170 fun ac172 En173 => ?_
     refine block_normal ?_
     refine then_normal ?_
     refine d_r [2,3,4,5,6,7,8,10] [] En173 fun ac174 En175 => ?_
     refine then_normal ?_
     refine loop_once ?_
     refine wp_seq ?_
     refine d_s [2,3,4,5,6,7,8,10,12] [] En175 fun ac176 En177 => ?_
     refine c_t En177 ?_
     refine wp_skip ?_
     refine then_normal ?_
     refine wp_seq ?_
     refine wp_block ?_
     refine wp_seq ?_
     refine r_c (fun ac wo => Env ac 39 [(2, pt bk1), (3, pt bk6), (4, pt bk11), (5, .int .u64 0), (6, uv64 c2_1), (7, .int .i64 2), (8, uv64 (a2 + b2)), (10, uv64 ((a1 + b1) + c2_0))] ∧ Ev w [] wo [.box bk1 [uv64 ((a0 + b0) + (0 : UInt64)), uv64 ((a1 + b1) + c2_0), uv64 a2, uv64 a3] 24, .box bk6 [uv64 b0, uv64 b1, uv64 b2, uv64 b3] 24, .box bk11 (u64s (List.replicate 4 0)) 24]) ?_ ?_
     ·
      refine h_s (fun wv => Ev w [] wv [.box bk1 [uv64 ((a0 + b0) + (0 : UInt64)), uv64 ((a1 + b1) + c2_0), uv64 a2, uv64 a3] 24, .box bk6 [uv64 b0, uv64 b1, uv64 b2, uv64 b3] 24]) [] 8 ?_
      have wo178 := Hv171.trans (Ev.drew Hv171.heap)
      refine q_s [0,1] [] 6 En177 (wo178.pk [0, 1]) fun ac203 En204 => ?_
      refine q_l 0 2 En204 (wo178.pk [0, 1]) fun ac205 En206 => ?_
      refine q_s [3,4] [] 3 En206 (wo178.pk [0, 1]) fun ac207 En208 => ?_
      refine q_l 1 5 En208 (wo178.pk [0, 1]) fun ac209 En210 => ?_
      refine q_s [6,7] [(6, g_i .u64 (Go.Dbr.u64_add (x := a2) (y := b2) rfl rfl))] 0 En210 (wo178.pk [0, 1]) fun ac211 En212 => ?_
      exact h_e ⟨En212.sb, wo178.pk [0, 1, 2]⟩
     rintro ac213 wo214 ⟨En215, Hv216⟩
     refine then_normal ?_
     refine d_s [2,3,4,5,6,7,8,9,10] [] En215 fun ac217 En218 => ?_
     refine wp_seq ?_
     refine wp_seq ?_
     refine region_from ?_
     refine d_k [2,3,4,5,6,7,8,9,10,22,24] [] 3 En218 fun ac219 En220 => ?_
     refine f_o ?_
     refine m_l 0 En220 Hv216 fun ac221 En222 => ?_
     refine d_e [2,3,4,5,6,7,8,9,10,26] [] En222 fun ac223 En224 => ?_
     refine then_normal ?_
     refine region_cut (F := fun ac wo => ∃ (c1_2 : UInt64), Env ac 39 [(2, pt bk1), (3, pt bk6), (4, pt bk11), (5, .int .u64 0), (6, uv64 c2_1), (7, .int .i64 2), (8, uv64 (a2 + b2)), (9, uv64 c1_2), (10, uv64 ((a1 + b1) + c2_0))] ∧ Ev w [] wo [.box bk1 [uv64 ((a0 + b0) + (0 : UInt64)), uv64 ((a1 + b1) + c2_0), uv64 a2, uv64 a3] 24, .box bk6 [uv64 b0, uv64 b1, uv64 b2, uv64 b3] 24, .box bk11 (u64s (List.replicate 4 0)) 24] ∧ (c1_2 = addHi a2 b2 0)) ?_ ?_
     ·
      refine c_d (((UInt64.toNat (a2 + b2) : Nat) : Int) < ((UInt64.toNat a2 : Nat) : Int)) En224 (fun hc225 => ?_) (fun hc225 => ?_)
      ·
       refine d_r [2,3,4,5,6,7,8,9,10] [] En224 fun ac226 En227 => ?_
       exact ⟨rfl, ⟨(1 : UInt64), En227.sb, Hv216.pk [0, 1, 2], by rw [← carry1]; first | exact (if_pos (by omega)).symm | exact (if_neg (by omega)).symm⟩⟩
      ·
       refine wp_skip ?_
       exact ⟨rfl, ⟨(0 : UInt64), En224.sb, Hv216.pk [0, 1, 2], by rw [← carry1]; first | exact (if_pos (by omega)).symm | exact (if_neg (by omega)).symm⟩⟩
     ·
      rintro ac228 wo229 ⟨c1_2, En230, Hv231, hc1_2⟩
      refine then_normal ?_
      refine d_s [2,3,4,5,6,7,8,9,10] [(2, g_i .u64 (Go.Dbr.u64_add (x := a2 + b2) (y := c2_1) rfl rfl))] En230 fun ac232 En233 => ?_
      refine wp_seq ?_
      refine d_s [2,3,4,5,6,7,8,9,10,32] [] En233 fun ac234 En235 => ?_
      have hle2 : UInt64.toNat c2_1 ≤ 1 := (by rw [hc2_1]; exact addHi_le hle1)
      refine region_cut (F := fun ac wo => ∃ (c2_2 : UInt64), Env ac 39 [(2, pt bk1), (3, pt bk6), (4, pt bk11), (5, .int .u64 0), (6, uv64 c2_1), (7, .int .i64 2), (8, uv64 (a2 + b2)), (9, uv64 c2_2), (10, uv64 ((a2 + b2) + c2_1))] ∧ Ev w [] wo [.box bk1 [uv64 ((a0 + b0) + (0 : UInt64)), uv64 ((a1 + b1) + c2_0), uv64 a2, uv64 a3] 24, .box bk6 [uv64 b0, uv64 b1, uv64 b2, uv64 b3] 24, .box bk11 (u64s (List.replicate 4 0)) 24] ∧ (c2_2 = addHi a2 b2 c2_1)) ?_ ?_
      ·
       refine c_d (((UInt64.toNat ((a2 + b2) + c2_1) : Nat) : Int) < ((UInt64.toNat (a2 + b2) : Nat) : Int)) En235 (fun hc236 => ?_) (fun hc236 => ?_)
       ·
        refine d_r [2,3,4,5,6,7,8,9,10] [] En235 fun ac237 En238 => ?_
        exact ⟨rfl, ⟨(1 : UInt64), En238.sb, Hv231.pk [0, 1, 2], by rw [← carry2 hle2]; first | exact (if_pos (by omega)).symm | exact hc1_2.trans (if_neg (by omega)).symm⟩⟩
       ·
        refine wp_skip ?_
        exact ⟨rfl, ⟨c1_2, En235.sb, Hv231.pk [0, 1, 2], by rw [← carry2 hle2]; first | exact (if_pos (by omega)).symm | exact hc1_2.trans (if_neg (by omega)).symm⟩⟩
      ·
       rintro ac239 wo240 ⟨c2_2, En241, Hv242, hc2_2⟩
       refine then_normal ?_
       refine wp_seq ?_
       refine region_from ?_
       refine d_k [2,3,4,5,6,7,8,9,10,34,35] [] 3 En241 fun ac243 En244 => ?_
       refine f_o ?_
       refine m_s 0 [.box bk1 [uv64 ((a0 + b0) + (0 : UInt64)), uv64 ((a1 + b1) + c2_0), uv64 ((a2 + b2) + c2_1), uv64 a3] 24, .box bk6 [uv64 b0, uv64 b1, uv64 b2, uv64 b3] 24, .box bk11 (u64s (List.replicate 4 0)) 24] En244 Hv242 fun ac245 wo246 En247 Hv248 => ?_
       refine f_e ?_
       refine then_normal ?_
       refine d_r [2,3,4,5,6,7,8,10] [] En247 fun ac249 En250 => ?_
       refine block_normal ?_
       refine then_normal ?_
       refine d_r [2,3,4,5,6,7,8,10] [] En250 fun ac251 En252 => ?_
       refine then_normal ?_
       refine loop_once ?_
       refine wp_seq ?_
       refine d_s [2,3,4,5,6,7,8,10,12] [] En252 fun ac253 En254 => ?_
       refine c_t En254 ?_
       refine wp_skip ?_
       refine then_normal ?_
       refine wp_seq ?_
       refine wp_block ?_
       refine wp_seq ?_
       refine r_c (fun ac wo => Env ac 39 [(2, pt bk1), (3, pt bk6), (4, pt bk11), (5, .int .u64 0), (6, uv64 c2_2), (7, .int .i64 3), (8, uv64 (a3 + b3)), (10, uv64 ((a2 + b2) + c2_1))] ∧ Ev w [] wo [.box bk1 [uv64 ((a0 + b0) + (0 : UInt64)), uv64 ((a1 + b1) + c2_0), uv64 ((a2 + b2) + c2_1), uv64 a3] 24, .box bk6 [uv64 b0, uv64 b1, uv64 b2, uv64 b3] 24, .box bk11 (u64s (List.replicate 4 0)) 24]) ?_ ?_
       ·
        refine h_s (fun wv => Ev w [] wv [.box bk1 [uv64 ((a0 + b0) + (0 : UInt64)), uv64 ((a1 + b1) + c2_0), uv64 ((a2 + b2) + c2_1), uv64 a3] 24, .box bk6 [uv64 b0, uv64 b1, uv64 b2, uv64 b3] 24]) [] 8 ?_
        have wo255 := Hv248.trans (Ev.drew Hv248.heap)
        refine q_s [0,1] [] 6 En254 (wo255.pk [0, 1]) fun ac280 En281 => ?_
        refine q_l 0 2 En281 (wo255.pk [0, 1]) fun ac282 En283 => ?_
        refine q_s [3,4] [] 3 En283 (wo255.pk [0, 1]) fun ac284 En285 => ?_
        refine q_l 1 5 En285 (wo255.pk [0, 1]) fun ac286 En287 => ?_
        refine q_s [6,7] [(6, g_i .u64 (Go.Dbr.u64_add (x := a3) (y := b3) rfl rfl))] 0 En287 (wo255.pk [0, 1]) fun ac288 En289 => ?_
        exact h_e ⟨En289.sb, wo255.pk [0, 1, 2]⟩
       rintro ac290 wo291 ⟨En292, Hv293⟩
       refine then_normal ?_
       refine d_s [2,3,4,5,6,7,8,9,10] [] En292 fun ac294 En295 => ?_
       refine wp_seq ?_
       refine wp_seq ?_
       refine region_from ?_
       refine d_k [2,3,4,5,6,7,8,9,10,22,24] [] 3 En295 fun ac296 En297 => ?_
       refine f_o ?_
       refine m_l 0 En297 Hv293 fun ac298 En299 => ?_
       refine d_e [2,3,4,5,6,7,8,9,10,26] [] En299 fun ac300 En301 => ?_
       refine then_normal ?_
       refine region_cut (F := fun ac wo => ∃ (c1_3 : UInt64), Env ac 39 [(2, pt bk1), (3, pt bk6), (4, pt bk11), (5, .int .u64 0), (6, uv64 c2_2), (7, .int .i64 3), (8, uv64 (a3 + b3)), (9, uv64 c1_3), (10, uv64 ((a2 + b2) + c2_1))] ∧ Ev w [] wo [.box bk1 [uv64 ((a0 + b0) + (0 : UInt64)), uv64 ((a1 + b1) + c2_0), uv64 ((a2 + b2) + c2_1), uv64 a3] 24, .box bk6 [uv64 b0, uv64 b1, uv64 b2, uv64 b3] 24, .box bk11 (u64s (List.replicate 4 0)) 24] ∧ (c1_3 = addHi a3 b3 0)) ?_ ?_
       ·
        refine c_d (((UInt64.toNat (a3 + b3) : Nat) : Int) < ((UInt64.toNat a3 : Nat) : Int)) En301 (fun hc302 => ?_) (fun hc302 => ?_)
        ·
         refine d_r [2,3,4,5,6,7,8,9,10] [] En301 fun ac303 En304 => ?_
         exact ⟨rfl, ⟨(1 : UInt64), En304.sb, Hv293.pk [0, 1, 2], by rw [← carry1]; first | exact (if_pos (by omega)).symm | exact (if_neg (by omega)).symm⟩⟩
        ·
         refine wp_skip ?_
         exact ⟨rfl, ⟨(0 : UInt64), En301.sb, Hv293.pk [0, 1, 2], by rw [← carry1]; first | exact (if_pos (by omega)).symm | exact (if_neg (by omega)).symm⟩⟩
       ·
        rintro ac305 wo306 ⟨c1_3, En307, Hv308, hc1_3⟩
        refine then_normal ?_
        refine d_s [2,3,4,5,6,7,8,9,10] [(2, g_i .u64 (Go.Dbr.u64_add (x := a3 + b3) (y := c2_2) rfl rfl))] En307 fun ac309 En310 => ?_
        refine wp_seq ?_
        refine d_s [2,3,4,5,6,7,8,9,10,32] [] En310 fun ac311 En312 => ?_
        have hle3 : UInt64.toNat c2_2 ≤ 1 := (by rw [hc2_2]; exact addHi_le hle2)
        refine region_cut (F := fun ac wo => ∃ (c2_3 : UInt64), Env ac 39 [(2, pt bk1), (3, pt bk6), (4, pt bk11), (5, .int .u64 0), (6, uv64 c2_2), (7, .int .i64 3), (8, uv64 (a3 + b3)), (9, uv64 c2_3), (10, uv64 ((a3 + b3) + c2_2))] ∧ Ev w [] wo [.box bk1 [uv64 ((a0 + b0) + (0 : UInt64)), uv64 ((a1 + b1) + c2_0), uv64 ((a2 + b2) + c2_1), uv64 a3] 24, .box bk6 [uv64 b0, uv64 b1, uv64 b2, uv64 b3] 24, .box bk11 (u64s (List.replicate 4 0)) 24] ∧ (c2_3 = addHi a3 b3 c2_2)) ?_ ?_
        ·
         refine c_d (((UInt64.toNat ((a3 + b3) + c2_2) : Nat) : Int) < ((UInt64.toNat (a3 + b3) : Nat) : Int)) En312 (fun hc313 => ?_) (fun hc313 => ?_)
         ·
          refine d_r [2,3,4,5,6,7,8,9,10] [] En312 fun ac314 En315 => ?_
          exact ⟨rfl, ⟨(1 : UInt64), En315.sb, Hv308.pk [0, 1, 2], by rw [← carry2 hle3]; first | exact (if_pos (by omega)).symm | exact hc1_3.trans (if_neg (by omega)).symm⟩⟩
         ·
          refine wp_skip ?_
          exact ⟨rfl, ⟨c1_3, En312.sb, Hv308.pk [0, 1, 2], by rw [← carry2 hle3]; first | exact (if_pos (by omega)).symm | exact hc1_3.trans (if_neg (by omega)).symm⟩⟩
        ·
         rintro ac316 wo317 ⟨c2_3, En318, Hv319, hc2_3⟩
         refine then_normal ?_
         refine wp_seq ?_
         refine region_from ?_
         refine d_k [2,3,4,5,6,7,8,9,10,34,35] [] 3 En318 fun ac320 En321 => ?_
         refine f_o ?_
         refine m_s 0 [.box bk1 [uv64 ((a0 + b0) + (0 : UInt64)), uv64 ((a1 + b1) + c2_0), uv64 ((a2 + b2) + c2_1), uv64 ((a3 + b3) + c2_2)] 24, .box bk6 [uv64 b0, uv64 b1, uv64 b2, uv64 b3] 24, .box bk11 (u64s (List.replicate 4 0)) 24] En321 Hv319 fun ac322 wo323 En324 Hv325 => ?_
         refine f_e ?_
         refine then_normal ?_
         refine d_r [2,3,4,5,6,7,8,10] [] En324 fun ac326 En327 => ?_
         refine block_normal ?_
         refine then_normal ?_
         refine d_r [2,3,4,5,6,7,8,10] [] En327 fun ac328 En329 => ?_
         refine then_normal ?_
         refine loop_once ?_
         refine wp_seq ?_
         refine d_s [2,3,4,5,6,7,8,10,12] [] En329 fun ac330 En331 => ?_
         refine c_f En331 ?_
         refine wp_exit ?_
         refine then_exit ?_
         refine then_exit ?_
         refine block_exit ?_
         refine then_normal ?_
         refine wp_seq ?_
         refine region_from ?_
         refine f_o ?_
         refine m_a 0 0 4 [uv64 ((a0 + b0) + (0 : UInt64)), uv64 ((a1 + b1) + c2_0), uv64 ((a2 + b2) + c2_1), uv64 ((a3 + b3) + c2_2)] En331 Hv325 rfl rfl rfl fun ac332 En333 => ?_
         refine d_k [2,3,4,5,6,7,8,10,37,38] [] 2 En333 fun ac334 En335 => ?_
         refine f_o ?_
         refine m_g 2 0 4 [uv64 ((a0 + b0) + (0 : UInt64)), uv64 ((a1 + b1) + c2_0), uv64 ((a2 + b2) + c2_1), uv64 ((a3 + b3) + c2_2)] [uv64 ((a0 + b0) + (0 : UInt64)), uv64 ((a1 + b1) + c2_0), uv64 ((a2 + b2) + c2_1), uv64 ((a3 + b3) + c2_2)] [.box bk1 [uv64 ((a0 + b0) + (0 : UInt64)), uv64 ((a1 + b1) + c2_0), uv64 ((a2 + b2) + c2_1), uv64 ((a3 + b3) + c2_2)] 24, .box bk6 [uv64 b0, uv64 b1, uv64 b2, uv64 b3] 24, .box bk11 [uv64 ((a0 + b0) + (0 : UInt64)), uv64 ((a1 + b1) + c2_0), uv64 ((a2 + b2) + c2_1), uv64 ((a3 + b3) + c2_2)] 24] En335 Hv325 rfl rfl (by rw [(u64s_lenh (List.length_replicate))]; decide) (one_all (by kernel_rfl)) (store_whole (u64s_lenh (List.length_replicate))) rfl fun ac336 wo337 En338 Hv339 => ?_
         refine d_e [2,3,4,5,6,7,8,10] [] En338 fun ac340 En341 => ?_
         refine then_normal ?_
         refine wp_ret ?_
         refine d_cell_tmp (v := .agg #[uv64 ((a0 + b0) + (0 : UInt64)), uv64 ((a1 + b1) + c2_0), uv64 ((a2 + b2) + c2_1), uv64 ((a3 + b3) + c2_2)]) (x := uv64 c2_3) (t := 4) (T := 24) (ad := ⟨bk11, 0, none⟩) (u := 5) En341 (by kernel_rfl) (by kernel_rfl) (Ev.cellAgg (t := 24) (k := 2) (off := 0) (m := 4) (xs := [uv64 ((a0 + b0) + (0 : UInt64)), uv64 ((a1 + b1) + c2_0), uv64 ((a2 + b2) + c2_1), uv64 ((a3 + b3) + c2_2)]) Hv339 rfl rfl rfl (by kernel_rfl) (by kernel_rfl)) (by kernel_rfl) ?_
         subst hc2_0
         subst hc2_1
         subst hc2_2
         subst hc2_3
         exact ⟨rfl, Hv339.pk []⟩

theorem rplus_go (w : World) (a b : List UInt64) (ha : List.length a = 4) (hb : List.length b = 4) : Calls Try.prog 48 #[.agg (List.toArray (u64s a)), .agg (List.toArray (u64s b))] w fun e w' => e = .returned (.tuple #[.agg (List.toArray (u64s (nd (nv a + nv b)))), uv64 (u1 (W256 ≤ nv a + nv b))]) ∧ Ev w [] w' [] := by
  rw [← plus_nd ha hb, ← ad_nd ha hb]
  match a, ha, b, hb with
  | [a0, a1, a2, a3], _, [b0, b1, b2, b3], _ => exact rplus4 w a0 a1 a2 a3 b0 b1 b2 b3

theorem compl_val (x : UInt64) : (~~~ x).toNat = 18446744073709551615 - x.toNat := by
  rw [UInt64.toNat_not]
  rfl
theorem rmin_eq (a0 a1 a2 a3 b0 b1 b2 b3 : UInt64) : nd (nv (nd (nv [a0, a1, a2, a3] + nv [~~~ b0, ~~~ b1, ~~~ b2, ~~~ b3])) + nv [(1 : UInt64), 0, 0, 0]) = nd (nv [a0, a1, a2, a3] + W256 - nv [b0, b1, b2, b3]) := by
  have hb := nv_lt (l := [b0, b1, b2, b3]) rfl
  have hc : nv [~~~ b0, ~~~ b1, ~~~ b2, ~~~ b3] + nv [b0, b1, b2, b3] + 1 = W256 := by
    rw [nv4, nv4, compl_val, compl_val, compl_val, compl_val]
    have := lt64 b0; have := lt64 b1; have := lt64 b2; have := lt64 b3
    simp only [W256]
    omega
  rw [nd_val, num1, show (1 : UInt64).toNat = 1 from rfl, ← nd_mod, ← nd_mod (_ - _)]
  congr 1
  simp only [W256] at *
  omega

theorem rminus4 (w : World) (a0 a1 a2 a3 b0 b1 b2 b3 : UInt64) : Calls Try.prog 68 #[.agg #[uv64 a0, uv64 a1, uv64 a2, uv64 a3], .agg #[uv64 b0, uv64 b1, uv64 b2, uv64 b3]] w fun e w' => e = .returned (.agg (List.toArray (u64s (nd (nv [a0, a1, a2, a3] + W256 - nv [b0, b1, b2, b3]))))) ∧ Ev w [] w' [] := by
 refine d_0 [(0, .agg #[uv64 a0, uv64 a1, uv64 a2, uv64 a3]), (1, .agg #[uv64 b0, uv64 b1, uv64 b2, uv64 b3])] 33 Go.Proofs.Try.func68 Go.Proofs.Try.ntmps68 (Heap.nil _) fun act0 En0 Hv0 => ?_
 refine wp_seq ?_
 refine region_from ?_
 refine f_o ?_
 refine m_m 24 [uv64 a0, uv64 a1, uv64 a2, uv64 a3] En0 Hv0 fun ac2 wo3 bk1 En4 Hv5 => ?_
 refine f_o ?_
 refine m_m 24 [uv64 b0, uv64 b1, uv64 b2, uv64 b3] En4 Hv5 fun ac7 wo8 bk6 En9 Hv10 => ?_
 refine f_o ?_
 refine m_z 24 (u64s (List.replicate 4 0)) En9 Hv10 fun ac12 wo13 bk11 En14 Hv15 => ?_
 refine f_e ?_
 refine then_normal ?_
 refine wp_seq ?_
 refine d_s [2,3,4,5] [] En14 fun ac16 En17 => ?_
 refine wp_block ?_
 refine loop_enter ?_
 refine loop_once ?_
 refine wp_seq ?_
 refine d_s [2,3,4,5,11] [] En17 fun ac18 En19 => ?_
 refine c_t En19 ?_
 refine wp_skip ?_
 refine then_normal ?_
 refine wp_seq ?_
 refine wp_block ?_
 refine region_from ?_
 refine d_k [2,3,4,5,14,16] [] 3 En19 fun ac20 En21 => ?_
 refine f_o ?_
 refine m_l 1 En21 Hv15 fun ac22 En23 => ?_
 refine d_k [2,3,4,5,18,19] [(4, g_i .u64 (Go.Dbr.u64_xor (x := 18446744073709551615) (y := b0) rfl rfl))] 6 En23 fun ac24 En25 => ?_
 refine f_o ?_
 refine m_s 1 [.box bk1 [uv64 a0, uv64 a1, uv64 a2, uv64 a3] 24, .box bk6 [uv64 ((18446744073709551615 : UInt64) ^^^ b0), uv64 b1, uv64 b2, uv64 b3] 24, .box bk11 (u64s (List.replicate 4 0)) 24] En25 Hv15 fun ac26 wo27 En28 Hv29 => ?_
 refine f_e ?_
 refine block_normal ?_
 refine then_normal ?_
 refine d_r [2,3,4,5] [] En28 fun ac30 En31 => ?_
 refine then_normal ?_
 refine loop_once ?_
 refine wp_seq ?_
 refine d_s [2,3,4,5,11] [] En31 fun ac32 En33 => ?_
 refine c_t En33 ?_
 refine wp_skip ?_
 refine then_normal ?_
 refine wp_seq ?_
 refine wp_block ?_
 refine region_from ?_
 refine d_k [2,3,4,5,14,16] [] 3 En33 fun ac34 En35 => ?_
 refine f_o ?_
 refine m_l 1 En35 Hv29 fun ac36 En37 => ?_
 refine d_k [2,3,4,5,18,19] [(4, g_i .u64 (Go.Dbr.u64_xor (x := 18446744073709551615) (y := b1) rfl rfl))] 6 En37 fun ac38 En39 => ?_
 refine f_o ?_
 refine m_s 1 [.box bk1 [uv64 a0, uv64 a1, uv64 a2, uv64 a3] 24, .box bk6 [uv64 ((18446744073709551615 : UInt64) ^^^ b0), uv64 ((18446744073709551615 : UInt64) ^^^ b1), uv64 b2, uv64 b3] 24, .box bk11 (u64s (List.replicate 4 0)) 24] En39 Hv29 fun ac40 wo41 En42 Hv43 => ?_
 refine f_e ?_
 refine block_normal ?_
 refine then_normal ?_
 refine d_r [2,3,4,5] [] En42 fun ac44 En45 => ?_
 refine then_normal ?_
 refine loop_once ?_
 refine wp_seq ?_
 refine d_s [2,3,4,5,11] [] En45 fun ac46 En47 => ?_
 refine c_t En47 ?_
 refine wp_skip ?_
 refine then_normal ?_
 refine wp_seq ?_
 refine wp_block ?_
 refine region_from ?_
 refine d_k [2,3,4,5,14,16] [] 3 En47 fun ac48 En49 => ?_
 refine f_o ?_
 refine m_l 1 En49 Hv43 fun ac50 En51 => ?_
 refine d_k [2,3,4,5,18,19] [(4, g_i .u64 (Go.Dbr.u64_xor (x := 18446744073709551615) (y := b2) rfl rfl))] 6 En51 fun ac52 En53 => ?_
 refine f_o ?_
 refine m_s 1 [.box bk1 [uv64 a0, uv64 a1, uv64 a2, uv64 a3] 24, .box bk6 [uv64 ((18446744073709551615 : UInt64) ^^^ b0), uv64 ((18446744073709551615 : UInt64) ^^^ b1), uv64 ((18446744073709551615 : UInt64) ^^^ b2), uv64 b3] 24, .box bk11 (u64s (List.replicate 4 0)) 24] En53 Hv43 fun ac54 wo55 En56 Hv57 => ?_
 refine f_e ?_
 refine block_normal ?_
 refine then_normal ?_
 refine d_r [2,3,4,5] [] En56 fun ac58 En59 => ?_
 refine then_normal ?_
 refine loop_once ?_
 refine wp_seq ?_
 refine d_s [2,3,4,5,11] [] En59 fun ac60 En61 => ?_
 refine c_t En61 ?_
 refine wp_skip ?_
 refine then_normal ?_
 refine wp_seq ?_
 refine wp_block ?_
 refine region_from ?_
 refine d_k [2,3,4,5,14,16] [] 3 En61 fun ac62 En63 => ?_
 refine f_o ?_
 refine m_l 1 En63 Hv57 fun ac64 En65 => ?_
 refine d_k [2,3,4,5,18,19] [(4, g_i .u64 (Go.Dbr.u64_xor (x := 18446744073709551615) (y := b3) rfl rfl))] 6 En65 fun ac66 En67 => ?_
 refine f_o ?_
 refine m_s 1 [.box bk1 [uv64 a0, uv64 a1, uv64 a2, uv64 a3] 24, .box bk6 [uv64 ((18446744073709551615 : UInt64) ^^^ b0), uv64 ((18446744073709551615 : UInt64) ^^^ b1), uv64 ((18446744073709551615 : UInt64) ^^^ b2), uv64 ((18446744073709551615 : UInt64) ^^^ b3)] 24, .box bk11 (u64s (List.replicate 4 0)) 24] En67 Hv57 fun ac68 wo69 En70 Hv71 => ?_
 refine f_e ?_
 refine block_normal ?_
 refine then_normal ?_
 refine d_r [2,3,4,5] [] En70 fun ac72 En73 => ?_
 refine then_normal ?_
 refine loop_once ?_
 refine wp_seq ?_
 refine d_s [2,3,4,5,11] [] En73 fun ac74 En75 => ?_
 refine c_f En75 ?_
 refine wp_exit ?_
 refine then_exit ?_
 refine then_exit ?_
 refine block_exit ?_
 refine then_normal ?_
 refine wp_seq ?_
 refine region_from ?_
 refine f_o ?_
 refine m_a 0 0 4 [uv64 a0, uv64 a1, uv64 a2, uv64 a3] En75 Hv71 rfl rfl rfl fun ac76 En77 => ?_
 refine f_o ?_
 refine m_a 1 0 4 [uv64 ((18446744073709551615 : UInt64) ^^^ b0), uv64 ((18446744073709551615 : UInt64) ^^^ b1), uv64 ((18446744073709551615 : UInt64) ^^^ b2), uv64 ((18446744073709551615 : UInt64) ^^^ b3)] En77 Hv71 rfl rfl rfl fun ac78 En79 => ?_
 refine f_o ?_
 refine c_p En79 Hv71 (rplus_go _ [a0, a1, a2, a3] [(18446744073709551615 : UInt64) ^^^ b0, (18446744073709551615 : UInt64) ^^^ b1, (18446744073709551615 : UInt64) ^^^ b2, (18446744073709551615 : UInt64) ^^^ b3] rfl rfl) fun ac84 wo81 En85 Hv86 => ?_
 refine d_k [3,4,5,24,25] [] 6 En85 fun ac87 En88 => ?_
 refine f_o ?_
 refine m_z 24 (u64s (List.replicate 4 0)) En88 Hv86 fun ac90 wo91 bk89 En92 Hv93 => ?_
 refine f_o ?_
 refine m_g 3 0 4 (u64s (nd (nv [a0, a1, a2, a3] + nv [(18446744073709551615 : UInt64) ^^^ b0, (18446744073709551615 : UInt64) ^^^ b1, (18446744073709551615 : UInt64) ^^^ b2, (18446744073709551615 : UInt64) ^^^ b3]))) (u64s (nd (nv [a0, a1, a2, a3] + nv [(18446744073709551615 : UInt64) ^^^ b0, (18446744073709551615 : UInt64) ^^^ b1, (18446744073709551615 : UInt64) ^^^ b2, (18446744073709551615 : UInt64) ^^^ b3]))) [.box bk1 [uv64 a0, uv64 a1, uv64 a2, uv64 a3] 24, .box bk6 [uv64 ((18446744073709551615 : UInt64) ^^^ b0), uv64 ((18446744073709551615 : UInt64) ^^^ b1), uv64 ((18446744073709551615 : UInt64) ^^^ b2), uv64 ((18446744073709551615 : UInt64) ^^^ b3)] 24, .box bk11 (u64s (List.replicate 4 0)) 24, .box bk89 (u64s (nd (nv [a0, a1, a2, a3] + nv [(18446744073709551615 : UInt64) ^^^ b0, (18446744073709551615 : UInt64) ^^^ b1, (18446744073709551615 : UInt64) ^^^ b2, (18446744073709551615 : UInt64) ^^^ b3]))) 24] En92 Hv93 rfl (u64s_lenh (nds_len _ _)) (by rw [(u64s_lenh (List.length_replicate))]; decide) (u64s_one _) (store_whole (u64s_lenh (List.length_replicate))) rfl fun ac94 wo95 En96 Hv97 => ?_
 refine d_e [3,4,5,6] [] En96 fun ac98 En99 => ?_
 refine then_normal ?_
 refine wp_seq ?_
 refine region_from ?_
 refine f_o ?_
 refine m_a 3 0 4 (u64s (nd (nv [a0, a1, a2, a3] + nv [(18446744073709551615 : UInt64) ^^^ b0, (18446744073709551615 : UInt64) ^^^ b1, (18446744073709551615 : UInt64) ^^^ b2, (18446744073709551615 : UInt64) ^^^ b3]))) En99 Hv97 rfl (load_whole (u64s_lenh (nds_len _ _))) (u64s_lenh (nds_len _ _)) fun ac100 En101 => ?_
 refine d_k [3,4,5,6,27,28] [] 2 En101 fun ac102 En103 => ?_
 refine f_o ?_
 refine c_p En103 Hv97 (rplus_go _ (nd (nv [a0, a1, a2, a3] + nv [(18446744073709551615 : UInt64) ^^^ b0, (18446744073709551615 : UInt64) ^^^ b1, (18446744073709551615 : UInt64) ^^^ b2, (18446744073709551615 : UInt64) ^^^ b3])) ([1, 0, 0, 0] : List UInt64) (nds_len _ _) (show List.length ([1, 0, 0, 0] : List UInt64) = 4 from rfl)) fun ac108 wo105 En109 Hv110 => ?_
 refine d_k [3,4,5,6,30,31] [] 6 En109 fun ac111 En112 => ?_
 refine f_o ?_
 refine m_z 24 (u64s (List.replicate 4 0)) En112 Hv110 fun ac114 wo115 bk113 En116 Hv117 => ?_
 refine f_o ?_
 refine m_g 4 0 4 (u64s (nd (nv (nd (nv [a0, a1, a2, a3] + nv [(18446744073709551615 : UInt64) ^^^ b0, (18446744073709551615 : UInt64) ^^^ b1, (18446744073709551615 : UInt64) ^^^ b2, (18446744073709551615 : UInt64) ^^^ b3])) + nv ([1, 0, 0, 0] : List UInt64)))) (u64s (nd (nv (nd (nv [a0, a1, a2, a3] + nv [(18446744073709551615 : UInt64) ^^^ b0, (18446744073709551615 : UInt64) ^^^ b1, (18446744073709551615 : UInt64) ^^^ b2, (18446744073709551615 : UInt64) ^^^ b3])) + nv ([1, 0, 0, 0] : List UInt64)))) [.box bk1 [uv64 a0, uv64 a1, uv64 a2, uv64 a3] 24, .box bk6 [uv64 ((18446744073709551615 : UInt64) ^^^ b0), uv64 ((18446744073709551615 : UInt64) ^^^ b1), uv64 ((18446744073709551615 : UInt64) ^^^ b2), uv64 ((18446744073709551615 : UInt64) ^^^ b3)] 24, .box bk11 (u64s (List.replicate 4 0)) 24, .box bk89 (u64s (nd (nv [a0, a1, a2, a3] + nv [(18446744073709551615 : UInt64) ^^^ b0, (18446744073709551615 : UInt64) ^^^ b1, (18446744073709551615 : UInt64) ^^^ b2, (18446744073709551615 : UInt64) ^^^ b3]))) 24, .box bk113 (u64s (nd (nv (nd (nv [a0, a1, a2, a3] + nv [(18446744073709551615 : UInt64) ^^^ b0, (18446744073709551615 : UInt64) ^^^ b1, (18446744073709551615 : UInt64) ^^^ b2, (18446744073709551615 : UInt64) ^^^ b3])) + nv ([1, 0, 0, 0] : List UInt64)))) 24] En116 Hv117 rfl (u64s_lenh (nds_len _ _)) (by rw [(u64s_lenh (List.length_replicate))]; decide) (u64s_one _) (store_whole (u64s_lenh (List.length_replicate))) rfl fun ac118 wo119 En120 Hv121 => ?_
 refine d_e [3,4,5,6,8] [] En120 fun ac122 En123 => ?_
 refine then_normal ?_
 refine wp_seq ?_
 refine region_from ?_
 refine f_o ?_
 refine m_a 4 0 4 (u64s (nd (nv (nd (nv [a0, a1, a2, a3] + nv [(18446744073709551615 : UInt64) ^^^ b0, (18446744073709551615 : UInt64) ^^^ b1, (18446744073709551615 : UInt64) ^^^ b2, (18446744073709551615 : UInt64) ^^^ b3])) + nv ([1, 0, 0, 0] : List UInt64)))) En123 Hv121 rfl (load_whole (u64s_lenh (nds_len _ _))) (u64s_lenh (nds_len _ _)) fun ac124 En125 => ?_
 refine f_o ?_
 refine m_g 2 0 4 (u64s (nd (nv (nd (nv [a0, a1, a2, a3] + nv [(18446744073709551615 : UInt64) ^^^ b0, (18446744073709551615 : UInt64) ^^^ b1, (18446744073709551615 : UInt64) ^^^ b2, (18446744073709551615 : UInt64) ^^^ b3])) + nv ([1, 0, 0, 0] : List UInt64)))) (u64s (nd (nv (nd (nv [a0, a1, a2, a3] + nv [(18446744073709551615 : UInt64) ^^^ b0, (18446744073709551615 : UInt64) ^^^ b1, (18446744073709551615 : UInt64) ^^^ b2, (18446744073709551615 : UInt64) ^^^ b3])) + nv ([1, 0, 0, 0] : List UInt64)))) [.box bk1 [uv64 a0, uv64 a1, uv64 a2, uv64 a3] 24, .box bk6 [uv64 ((18446744073709551615 : UInt64) ^^^ b0), uv64 ((18446744073709551615 : UInt64) ^^^ b1), uv64 ((18446744073709551615 : UInt64) ^^^ b2), uv64 ((18446744073709551615 : UInt64) ^^^ b3)] 24, .box bk11 (u64s (nd (nv (nd (nv [a0, a1, a2, a3] + nv [(18446744073709551615 : UInt64) ^^^ b0, (18446744073709551615 : UInt64) ^^^ b1, (18446744073709551615 : UInt64) ^^^ b2, (18446744073709551615 : UInt64) ^^^ b3])) + nv ([1, 0, 0, 0] : List UInt64)))) 24, .box bk89 (u64s (nd (nv [a0, a1, a2, a3] + nv [(18446744073709551615 : UInt64) ^^^ b0, (18446744073709551615 : UInt64) ^^^ b1, (18446744073709551615 : UInt64) ^^^ b2, (18446744073709551615 : UInt64) ^^^ b3]))) 24, .box bk113 (u64s (nd (nv (nd (nv [a0, a1, a2, a3] + nv [(18446744073709551615 : UInt64) ^^^ b0, (18446744073709551615 : UInt64) ^^^ b1, (18446744073709551615 : UInt64) ^^^ b2, (18446744073709551615 : UInt64) ^^^ b3])) + nv ([1, 0, 0, 0] : List UInt64)))) 24] En125 Hv121 rfl (u64s_lenh (nds_len _ _)) (by rw [(u64s_lenh (List.length_replicate))]; decide) (u64s_one _) (store_whole (u64s_lenh (List.length_replicate))) rfl fun ac126 wo127 En128 Hv129 => ?_
 refine f_e ?_
 refine then_normal ?_
 refine wp_ret ?_
 refine d_cell1 (v := .agg (List.toArray (u64s (nd (nv (nd (nv [a0, a1, a2, a3] + nv [(18446744073709551615 : UInt64) ^^^ b0, (18446744073709551615 : UInt64) ^^^ b1, (18446744073709551615 : UInt64) ^^^ b2, (18446744073709551615 : UInt64) ^^^ b3])) + nv ([1, 0, 0, 0] : List UInt64)))))) (t := 4) (T := 24) (ad := ⟨bk11, 0, none⟩) En128 (by kernel_rfl) (by kernel_rfl) (Ev.cellAgg (t := 24) (k := 2) (off := 0) (m := 4) (xs := u64s (nd (nv (nd (nv [a0, a1, a2, a3] + nv [(18446744073709551615 : UInt64) ^^^ b0, (18446744073709551615 : UInt64) ^^^ b1, (18446744073709551615 : UInt64) ^^^ b2, (18446744073709551615 : UInt64) ^^^ b3])) + nv ([1, 0, 0, 0] : List UInt64)))) Hv129 rfl (load_whole (u64s_lenh (nds_len _ _))) (u64s_lenh (nds_len _ _)) (by kernel_rfl) (by kernel_rfl)) ?_
 have e : nd (nv (nd (nv [a0, a1, a2, a3] + nv [(18446744073709551615 : UInt64) ^^^ b0, (18446744073709551615 : UInt64) ^^^ b1, (18446744073709551615 : UInt64) ^^^ b2, (18446744073709551615 : UInt64) ^^^ b3])) + nv ([1, 0, 0, 0] : List UInt64)) = nd (nv [a0, a1, a2, a3] + W256 - nv [b0, b1, b2, b3]) := rmin_eq a0 a1 a2 a3 b0 b1 b2 b3
 rw [e]
 exact ⟨rfl, Hv129.pk []⟩

theorem rminus_go (w : World) (a b : List UInt64) (ha : List.length a = 4) (hb : List.length b = 4) : Calls Try.prog 68 #[.agg (List.toArray (u64s a)), .agg (List.toArray (u64s b))] w fun e w' => e = .returned (.agg (List.toArray (u64s (nd (nv a + W256 - nv b))))) ∧ Ev w [] w' [] := by
  match a, ha, b, hb with
  | [a0, a1, a2, a3], _, [b0, b1, b2, b3], _ => exact rminus4 w a0 a1 a2 a3 b0 b1 b2 b3

theorem rmod_1 (w : World)  : Calls Try.prog 21 #[.int .i64 1] w fun e w' => e = .returned (.agg (List.toArray (u64s (nd (mF 1))))) ∧ Ev w [] w' [] := by
 refine d_0 [(0, .int .i64 1)] 17 Go.Proofs.Try.func21 Go.Proofs.Try.ntmps21 (Heap.nil _) fun act0 En0 Hv0 => ?_
 refine wp_seq ?_
 refine region_from ?_
 refine f_o ?_
 refine m_z 24 (u64s (List.replicate 4 0)) En0 Hv0 fun ac2 wo3 bk1 En4 Hv5 => ?_
 refine f_e ?_
 refine then_normal ?_
 refine wp_seq ?_
 refine d_s [2,3] [] En4 fun ac6 En7 => ?_
 refine wp_block ?_
 refine d_s [2,3,4] [] En7 fun ac8 En9 => ?_
 refine c_t En9 ?_
 refine wp_seq ?_
 refine region_from ?_
 refine d_k [2,3,6] [] 1 En9 fun ac10 En11 => ?_
 refine f_o ?_
 refine m_g 0 0 4 (u64s ([18446744073709551597, 18446744073709551615, 18446744073709551615, 9223372036854775807] : List UInt64)) (u64s ([18446744073709551597, 18446744073709551615, 18446744073709551615, 9223372036854775807] : List UInt64)) [.box bk1 (u64s ([18446744073709551597, 18446744073709551615, 18446744073709551615, 9223372036854775807] : List UInt64)) 24] En11 Hv5 rfl (u64s_lenh (show List.length ([18446744073709551597, 18446744073709551615, 18446744073709551615, 9223372036854775807] : List UInt64) = 4 from rfl)) (by rw [(u64s_lenh (List.length_replicate))]; decide) (u64s_one _) (store_whole (u64s_lenh (List.length_replicate))) rfl fun ac12 wo13 En14 Hv15 => ?_
 refine f_e ?_
 refine then_normal ?_
 refine wp_ret ?_
 refine block_ret ?_
 refine then_ret ?_
 refine d_cell1 (v := .agg (List.toArray (u64s ([18446744073709551597, 18446744073709551615, 18446744073709551615, 9223372036854775807] : List UInt64)))) (t := 2) (T := 24) (ad := ⟨bk1, 0, none⟩) En14 (by kernel_rfl) (by kernel_rfl) (Ev.cellAgg (t := 24) (k := 0) (off := 0) (m := 4) (xs := u64s ([18446744073709551597, 18446744073709551615, 18446744073709551615, 9223372036854775807] : List UInt64)) Hv15 rfl (load_whole (u64s_lenh (show List.length ([18446744073709551597, 18446744073709551615, 18446744073709551615, 9223372036854775807] : List UInt64) = 4 from rfl))) (u64s_lenh (show List.length ([18446744073709551597, 18446744073709551615, 18446744073709551615, 9223372036854775807] : List UInt64) = 4 from rfl)) (by kernel_rfl) (by kernel_rfl)) ?_
 exact ⟨by kernel_rfl, Hv15.pk []⟩

theorem rmod_2 (w : World)  : Calls Try.prog 21 #[.int .i64 2] w fun e w' => e = .returned (.agg (List.toArray (u64s (nd (mF 2))))) ∧ Ev w [] w' [] := by
 refine d_0 [(0, .int .i64 2)] 17 Go.Proofs.Try.func21 Go.Proofs.Try.ntmps21 (Heap.nil _) fun act0 En0 Hv0 => ?_
 refine wp_seq ?_
 refine region_from ?_
 refine f_o ?_
 refine m_z 24 (u64s (List.replicate 4 0)) En0 Hv0 fun ac2 wo3 bk1 En4 Hv5 => ?_
 refine f_e ?_
 refine then_normal ?_
 refine wp_seq ?_
 refine d_s [2,3] [] En4 fun ac6 En7 => ?_
 refine wp_block ?_
 refine d_s [2,3,4] [] En7 fun ac8 En9 => ?_
 refine c_f En9 ?_
 refine d_s [2,3,7] [] En9 fun ac10 En11 => ?_
 refine c_t En11 ?_
 refine wp_seq ?_
 refine region_from ?_
 refine d_k [2,3,9] [] 1 En11 fun ac12 En13 => ?_
 refine f_o ?_
 refine m_g 0 0 4 (u64s ([18446744073709551615, 4294967295, 0, 18446744069414584321] : List UInt64)) (u64s ([18446744073709551615, 4294967295, 0, 18446744069414584321] : List UInt64)) [.box bk1 (u64s ([18446744073709551615, 4294967295, 0, 18446744069414584321] : List UInt64)) 24] En13 Hv5 rfl (u64s_lenh (show List.length ([18446744073709551615, 4294967295, 0, 18446744069414584321] : List UInt64) = 4 from rfl)) (by rw [(u64s_lenh (List.length_replicate))]; decide) (u64s_one _) (store_whole (u64s_lenh (List.length_replicate))) rfl fun ac14 wo15 En16 Hv17 => ?_
 refine f_e ?_
 refine then_normal ?_
 refine wp_ret ?_
 refine block_ret ?_
 refine then_ret ?_
 refine d_cell1 (v := .agg (List.toArray (u64s ([18446744073709551615, 4294967295, 0, 18446744069414584321] : List UInt64)))) (t := 2) (T := 24) (ad := ⟨bk1, 0, none⟩) En16 (by kernel_rfl) (by kernel_rfl) (Ev.cellAgg (t := 24) (k := 0) (off := 0) (m := 4) (xs := u64s ([18446744073709551615, 4294967295, 0, 18446744069414584321] : List UInt64)) Hv17 rfl (load_whole (u64s_lenh (show List.length ([18446744073709551615, 4294967295, 0, 18446744069414584321] : List UInt64) = 4 from rfl))) (u64s_lenh (show List.length ([18446744073709551615, 4294967295, 0, 18446744069414584321] : List UInt64) = 4 from rfl)) (by kernel_rfl) (by kernel_rfl)) ?_
 exact ⟨by kernel_rfl, Hv17.pk []⟩

theorem rmod_3 (w : World)  : Calls Try.prog 21 #[.int .i64 3] w fun e w' => e = .returned (.agg (List.toArray (u64s (nd (mF 3))))) ∧ Ev w [] w' [] := by
 refine d_0 [(0, .int .i64 3)] 17 Go.Proofs.Try.func21 Go.Proofs.Try.ntmps21 (Heap.nil _) fun act0 En0 Hv0 => ?_
 refine wp_seq ?_
 refine region_from ?_
 refine f_o ?_
 refine m_z 24 (u64s (List.replicate 4 0)) En0 Hv0 fun ac2 wo3 bk1 En4 Hv5 => ?_
 refine f_e ?_
 refine then_normal ?_
 refine wp_seq ?_
 refine d_s [2,3] [] En4 fun ac6 En7 => ?_
 refine wp_block ?_
 refine d_s [2,3,4] [] En7 fun ac8 En9 => ?_
 refine c_f En9 ?_
 refine d_s [2,3,7] [] En9 fun ac10 En11 => ?_
 refine c_f En11 ?_
 refine d_s [2,3,10] [] En11 fun ac12 En13 => ?_
 refine c_t En13 ?_
 refine wp_seq ?_
 refine region_from ?_
 refine d_k [2,3,12] [] 1 En13 fun ac14 En15 => ?_
 refine f_o ?_
 refine m_g 0 0 4 (u64s ([17562291160714782033, 13611842547513532036, 18446744073709551615, 18446744069414584320] : List UInt64)) (u64s ([17562291160714782033, 13611842547513532036, 18446744073709551615, 18446744069414584320] : List UInt64)) [.box bk1 (u64s ([17562291160714782033, 13611842547513532036, 18446744073709551615, 18446744069414584320] : List UInt64)) 24] En15 Hv5 rfl (u64s_lenh (show List.length ([17562291160714782033, 13611842547513532036, 18446744073709551615, 18446744069414584320] : List UInt64) = 4 from rfl)) (by rw [(u64s_lenh (List.length_replicate))]; decide) (u64s_one _) (store_whole (u64s_lenh (List.length_replicate))) rfl fun ac16 wo17 En18 Hv19 => ?_
 refine f_e ?_
 refine then_normal ?_
 refine wp_ret ?_
 refine block_ret ?_
 refine then_ret ?_
 refine d_cell1 (v := .agg (List.toArray (u64s ([17562291160714782033, 13611842547513532036, 18446744073709551615, 18446744069414584320] : List UInt64)))) (t := 2) (T := 24) (ad := ⟨bk1, 0, none⟩) En18 (by kernel_rfl) (by kernel_rfl) (Ev.cellAgg (t := 24) (k := 0) (off := 0) (m := 4) (xs := u64s ([17562291160714782033, 13611842547513532036, 18446744073709551615, 18446744069414584320] : List UInt64)) Hv19 rfl (load_whole (u64s_lenh (show List.length ([17562291160714782033, 13611842547513532036, 18446744073709551615, 18446744069414584320] : List UInt64) = 4 from rfl))) (u64s_lenh (show List.length ([17562291160714782033, 13611842547513532036, 18446744073709551615, 18446744069414584320] : List UInt64) = 4 from rfl)) (by kernel_rfl) (by kernel_rfl)) ?_
 exact ⟨by kernel_rfl, Hv19.pk []⟩

theorem rmod_4 (w : World)  : Calls Try.prog 21 #[.int .i64 4] w fun e w' => e = .returned (.agg (List.toArray (u64s (nd (mF 4))))) ∧ Ev w [] w' [] := by
 refine d_0 [(0, .int .i64 4)] 17 Go.Proofs.Try.func21 Go.Proofs.Try.ntmps21 (Heap.nil _) fun act0 En0 Hv0 => ?_
 refine wp_seq ?_
 refine region_from ?_
 refine f_o ?_
 refine m_z 24 (u64s (List.replicate 4 0)) En0 Hv0 fun ac2 wo3 bk1 En4 Hv5 => ?_
 refine f_e ?_
 refine then_normal ?_
 refine wp_seq ?_
 refine d_s [2,3] [] En4 fun ac6 En7 => ?_
 refine wp_block ?_
 refine d_s [2,3,4] [] En7 fun ac8 En9 => ?_
 refine c_f En9 ?_
 refine d_s [2,3,7] [] En9 fun ac10 En11 => ?_
 refine c_f En11 ?_
 refine d_s [2,3,10] [] En11 fun ac12 En13 => ?_
 refine c_f En13 ?_
 refine d_s [2,3,13] [] En13 fun ac14 En15 => ?_
 refine c_t En15 ?_
 refine wp_seq ?_
 refine region_from ?_
 refine d_k [2,3,15] [] 1 En15 fun ac16 En17 => ?_
 refine f_o ?_
 refine m_g 0 0 4 (u64s ([6346243789798364141, 1503914060200516822, 0, 1152921504606846976] : List UInt64)) (u64s ([6346243789798364141, 1503914060200516822, 0, 1152921504606846976] : List UInt64)) [.box bk1 (u64s ([6346243789798364141, 1503914060200516822, 0, 1152921504606846976] : List UInt64)) 24] En17 Hv5 rfl (u64s_lenh (show List.length ([6346243789798364141, 1503914060200516822, 0, 1152921504606846976] : List UInt64) = 4 from rfl)) (by rw [(u64s_lenh (List.length_replicate))]; decide) (u64s_one _) (store_whole (u64s_lenh (List.length_replicate))) rfl fun ac18 wo19 En20 Hv21 => ?_
 refine f_e ?_
 refine then_normal ?_
 refine wp_ret ?_
 refine block_ret ?_
 refine then_ret ?_
 refine d_cell1 (v := .agg (List.toArray (u64s ([6346243789798364141, 1503914060200516822, 0, 1152921504606846976] : List UInt64)))) (t := 2) (T := 24) (ad := ⟨bk1, 0, none⟩) En20 (by kernel_rfl) (by kernel_rfl) (Ev.cellAgg (t := 24) (k := 0) (off := 0) (m := 4) (xs := u64s ([6346243789798364141, 1503914060200516822, 0, 1152921504606846976] : List UInt64)) Hv21 rfl (load_whole (u64s_lenh (show List.length ([6346243789798364141, 1503914060200516822, 0, 1152921504606846976] : List UInt64) = 4 from rfl))) (u64s_lenh (show List.length ([6346243789798364141, 1503914060200516822, 0, 1152921504606846976] : List UInt64) = 4 from rfl)) (by kernel_rfl) (by kernel_rfl)) ?_
 exact ⟨by kernel_rfl, Hv21.pk []⟩

theorem rmod_0 (w : World) (f : Int)  (hf : ¬ (f = 1 ∨ f = 2 ∨ f = 3 ∨ f = 4)) : Calls Try.prog 21 #[.int .i64 f] w fun e w' => e = .returned (.agg (List.toArray (u64s (nd (mF 0))))) ∧ Ev w [] w' [] := by
 refine d_0 [(0, .int .i64 f)] 17 Go.Proofs.Try.func21 Go.Proofs.Try.ntmps21 (Heap.nil _) fun act0 En0 Hv0 => ?_
 refine wp_seq ?_
 refine region_from ?_
 refine f_o ?_
 refine m_z 24 (u64s (List.replicate 4 0)) En0 Hv0 fun ac2 wo3 bk1 En4 Hv5 => ?_
 refine f_e ?_
 refine then_normal ?_
 refine wp_seq ?_
 refine d_s [2,3] [] En4 fun ac6 En7 => ?_
 refine wp_block ?_
 refine d_s [2,3,4] [] En7 fun ac8 En9 => ?_
 refine c_e f (1 : Int) En9 (fun hc10 => ?_) (fun hc10 => ?_)
 ·
  exact absurd hc10 (by omega)
 ·
  refine d_s [2,3,7] [] En9 fun ac11 En12 => ?_
  refine c_e f (2 : Int) En12 (fun hc13 => ?_) (fun hc13 => ?_)
  ·
   exact absurd hc13 (by omega)
  ·
   refine d_s [2,3,10] [] En12 fun ac14 En15 => ?_
   refine c_e f (3 : Int) En15 (fun hc16 => ?_) (fun hc16 => ?_)
   ·
    exact absurd hc16 (by omega)
   ·
    refine d_s [2,3,13] [] En15 fun ac17 En18 => ?_
    refine c_e f (4 : Int) En18 (fun hc19 => ?_) (fun hc19 => ?_)
    ·
     exact absurd hc19 (by omega)
    ·
     refine wp_skip ?_
     refine block_normal ?_
     refine then_normal ?_
     refine wp_seq ?_
     refine region_from ?_
     refine d_k [2,3,16] [] 1 En18 fun ac20 En21 => ?_
     refine f_o ?_
     refine m_g 0 0 4 (u64s ([0, 0, 0, 0] : List UInt64)) (u64s ([0, 0, 0, 0] : List UInt64)) [.box bk1 (u64s ([0, 0, 0, 0] : List UInt64)) 24] En21 Hv5 rfl (u64s_lenh (show List.length ([0, 0, 0, 0] : List UInt64) = 4 from rfl)) (by rw [(u64s_lenh (List.length_replicate))]; decide) (u64s_one _) (store_whole (u64s_lenh (List.length_replicate))) rfl fun ac22 wo23 En24 Hv25 => ?_
     refine f_e ?_
     refine then_normal ?_
     refine wp_ret ?_
     refine d_cell1 (v := .agg (List.toArray (u64s ([0, 0, 0, 0] : List UInt64)))) (t := 2) (T := 24) (ad := ⟨bk1, 0, none⟩) En24 (by kernel_rfl) (by kernel_rfl) (Ev.cellAgg (t := 24) (k := 0) (off := 0) (m := 4) (xs := u64s ([0, 0, 0, 0] : List UInt64)) Hv25 rfl (load_whole (u64s_lenh (show List.length ([0, 0, 0, 0] : List UInt64) = 4 from rfl))) (u64s_lenh (show List.length ([0, 0, 0, 0] : List UInt64) = 4 from rfl)) (by kernel_rfl) (by kernel_rfl)) ?_
     exact ⟨by kernel_rfl, Hv25.pk []⟩

theorem rmodulus_go (w : World) (f : Int) : Calls Try.prog 21 #[.int .i64 f] w fun e w' => e = .returned (.agg (List.toArray (u64s (nd (mF f))))) ∧ Ev w [] w' [] := by
  by_cases hf : f = 1 ∨ f = 2 ∨ f = 3 ∨ f = 4
  · rcases hf with rfl | rfl | rfl | rfl
    · exact rmod_1 w
    · exact rmod_2 w
    · exact rmod_3 w
    · exact rmod_4 w
  · rw [mF_none hf]
    exact rmod_0 w f hf

theorem ris_go (w : World) (f : Int) : Calls Try.prog 47 #[.int .i64 f] w fun e w' => e = .returned (.bool (decide (f = 1 ∨ f = 2 ∨ f = 3 ∨ f = 4))) ∧ Ev w [] w' [] := by
 refine d_0 [(0, .int .i64 f)] 9 Go.Proofs.Try.func47 Go.Proofs.Try.ntmps47 (Heap.nil _) fun act0 En0 Hv0 => ?_
 refine d_s [0,2] [] En0 fun ac1 En2 => ?_
 refine wp_seq ?_
 refine region_from ?_
 refine d_k [0,2,5] [] 3 En2 fun ac3 En4 => ?_
 rcases Bool.eq_false_or_eq_true (decide (f ≥ (1 : Int))) with hb5 | hb5
 ·
  have En6 := En4.fx (t := 5) (congrArg Value.bool hb5)
  have hp7 : f ≥ (1 : Int) := of_decide_eq_true hb5
  refine d_e [2] [] En6 fun ac8 En9 => ?_
  refine then_normal ?_
  refine wp_ret ?_
  refine d_ret1 (t := 2) (v := .bool (decide (f ≤ (4 : Int)))) En9 (by kernel_rfl) (by kernel_rfl) ?_
  have e : (decide (f ≤ (4 : Int))) = decide (f = 1 ∨ f = 2 ∨ f = 3 ∨ f = 4) := by
   by_cases hq : f = 1 ∨ f = 2 ∨ f = 3 ∨ f = 4
   · rw [decide_eq_true hq] <;> first | rfl | exact decide_eq_true (by omega) | (exfalso; omega)
   · rw [decide_eq_false hq] <;> first | rfl | exact decide_eq_false (by omega) | (exfalso; omega)
  exact ⟨by rw [e], Hv0.pk []⟩
 ·
  have En10 := En4.fx (t := 5) (congrArg Value.bool hb5)
  have hp11 : ¬ (f ≥ (1 : Int)) := of_decide_eq_false hb5
  refine d_e [2] [] En10 fun ac12 En13 => ?_
  refine then_normal ?_
  refine wp_ret ?_
  refine d_ret1 (t := 2) (v := .bool false) En13 (by kernel_rfl) (by kernel_rfl) ?_
  have e : (false) = decide (f = 1 ∨ f = 2 ∨ f = 3 ∨ f = 4) := by
   by_cases hq : f = 1 ∨ f = 2 ∨ f = 3 ∨ f = 4
   · rw [decide_eq_true hq] <;> first | rfl | exact decide_eq_true (by omega) | (exfalso; omega)
   · rw [decide_eq_false hq] <;> first | rfl | exact decide_eq_false (by omega) | (exfalso; omega)
  exact ⟨by rw [e], Hv0.pk []⟩

theorem ris_go_yes (w : World) (f : Int) (hf : f = 1 ∨ f = 2 ∨ f = 3 ∨ f = 4) : Calls Try.prog 47 #[.int .i64 f] w fun e w' => e = .returned (.bool true) ∧ Ev w [] w' [] := by
  have h := ris_go w f
  rwa [decide_eq_true hf] at h
end Go.Proofs.Ytpfhmbbiadpbeaa
