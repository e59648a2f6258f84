/- Layer 11: so many times, and so many times again; XdhTurns, XdhMeets. -/
import Derived.Test.YteainioaejnecaaX4
import Derived.Test.YteainioaejnecaaMon
namespace Go.Proofs.Yteainioaejnecaa
open Go.Dbr
set_option maxRecDepth 100000
set_option maxHeartbeats 2000000
set_option linter.unusedVariables false
set_option linter.unusedSimpArgs false

instance : NeZero P25 := ⟨by decide⟩
theorem luc25 : Luc P25 := lu_57896044618658097711785492504343953926634992332820282019728792003956564819949
theorem fld25 : Go.Wei.Fld P25 := Go.Wei.fld_of luc25 (by decide)
def kF : Fin P25 := Go.Wei.fn P25 121665
def AF : Fin P25 := Go.Wei.fn P25 486662
theorem kA : AF = kF+kF+kF+kF+1+1 := by decide +kernel
theorem qd_eq {p : Nat} [NeZero p] {x A : Fin p} (h : x*x + A*x + 1 = 0) : (x+x+A)*(x+x+A) = A*A - (1+1+1+1) := by grind -lia
theorem dq : (AF*AF - (1+1+1+1)).val = 236839902240 := by decide +kernel
/-- A^2 - 4 is no square -/
theorem noroot (x : Fin P25) : x*x + AF*x + 1 ≠ 0 := fun h => by
  have e := congrArg Fin.val (qd_eq h)
  rw [dq, Go.Wei.fin_mul] at e
  generalize (x+x+AF).val = w at e
  have h0 : w % P25 ≠ 0 := fun g => by
    rw [Nat.mul_mod, g, Nat.zero_mul, Nat.zero_mod] at e
    cases e
  have f := luc25.2 w h0
  have e2 : w ^ (P25 - 1) % P25 = (w * w % P25) ^ ((P25 - 1) / 2) % P25 := by
    rw [← Nat.pow_mod, ← Nat.pow_two, ← Nat.pow_mul, show 2 * ((P25 - 1) / 2) = P25 - 1 by decide +kernel]
  rw [e, f, ← pw_eq 256 _ _ (by decide +kernel)] at e2
  exact absurd e2 (by decide +kernel)
def bt (n : Nat) : Nat → Bool := fun j => n / 2 ^ (254 - j) % 2 == 1
def mp : N4 → Go.Wei.F4 P25
  | (a, b, c, d) => (Go.Wei.fn P25 a, Go.Wei.fn P25 b, Go.Wei.fn P25 c, Go.Wei.fn P25 d)
theorem step_fn (v : Nat) (t : Bool) (s : N4) : mp (nstep v t s) = Go.Wei.lst kF (Go.Wei.fn P25 v) t (mp s) := by
  obtain ⟨a, b, c, d⟩ := s
  cases t <;> simp only [nstep, mp, Go.Wei.lst, _root_.cond_true, _root_.cond_false, nA, nB, nC, nD, Go.Wei.dA, Go.Wei.dB, Go.Wei.dC, Go.Wei.dD, mN, aN, sN, kF, Go.Wei.fn_mul, Go.Wei.fn_add, Go.Wei.fn_sub]
theorem lad_fn (v n : Nat) : ∀ j, mp (ladN v n j) = Go.Wei.lad kF (Go.Wei.fn P25 v) (bt n) j
  | 0 => rfl
  | j + 1 => by
    rw [ladN, step_fn, lad_fn v n j]
    rfl
def resN (v n : Nat) : Nat := mN (ladN v n 255).1 (powM 1 (ladN v n 255).2.1 (mF 1 - 2))
theorem resN_lt (v n : Nat) : resN v n < P25 := Nat.mod_lt _ p_pos
theorem multL_res (x : List UInt64) (n : Nat) : multL x n = lb 32 (resN (nv x) n) := by
  rw [multL_num, resN, inv_val]
  rfl
def iF (y : Fin P25) : Fin P25 := Go.Wei.fn P25 (y.val ^ (P25 - 2) % P25)
def fF (t : Nat → Bool) (v : Fin P25) : Fin P25 := (Go.Wei.lad kF v t 255).1 * iF (Go.Wei.lad kF v t 255).2.1
theorem iF_1 {y : Fin P25} (h : y ≠ 0) : y * iF y = 1 := by
  have hv : y.val % P25 ≠ 0 := by
    rw [Nat.mod_eq_of_lt y.isLt]
    exact fun g => h (Fin.ext (g.trans Go.Wei.fin_zero.symm))
  apply Fin.ext
  show y.val * (y.val ^ (P25 - 2) % P25 % P25) % P25 = 1 % P25
  rw [Nat.mod_mod, Nat.mul_mod_mod, Nat.mul_comm, ← Nat.pow_succ]
  exact luc25.2 _ hv
theorem iF_0 {y : Fin P25} (h : y = 0) : iF y = 0 := by
  subst h
  apply Fin.ext
  rw [iF, Go.Wei.fn_val, Go.Wei.fin_zero, Nat.zero_pow (show 0 < P25 - 2 by decide), Nat.zero_mod, Nat.zero_mod]
theorem i_key (b : Nat) : Go.Wei.fn P25 (powM 1 b (mF 1 - 2)) = iF (Go.Wei.fn P25 b) := by
  apply Fin.ext
  rw [iF, Go.Wei.fn_val, Go.Wei.fn_val, Go.Wei.fn_val, powM, mF_1]
  generalize P25 - 2 = n
  rw [← Nat.pow_mod]
theorem f_res (v n : Nat) : Go.Wei.fn P25 (resN v n) = fF (bt n) (Go.Wei.fn P25 v) := by
  have h := lad_fn v n 255
  rw [resN, fF, ← h]
  generalize ladN v n 255 = s
  obtain ⟨a, b, c, d⟩ := s
  show Go.Wei.fn P25 (mN a (powM 1 b (mF 1 - 2))) = Go.Wei.fn P25 a * iF (Go.Wei.fn P25 b)
  rw [mN, Go.Wei.fn_mul, i_key]
theorem z_step {p : Nat} [NeZero p] (k : Fin p) (t : Bool) {s : Go.Wei.F4 p} (h : s.2.1 = 0 ∧ s.2.2.2 = 0) : (Go.Wei.lst k 0 t s).2.1 = 0 ∧ (Go.Wei.lst k 0 t s).2.2.2 = 0 := by
  obtain ⟨a, b, c, d⟩ := s
  obtain ⟨h1, h2⟩ := h
  simp only at h1 h2
  subst h1 h2
  cases t
  · exact ⟨by show Go.Wei.dB k a 0 = 0; unfold Go.Wei.dB; grind -lia, by show Go.Wei.dD 0 a 0 c 0 = 0; unfold Go.Wei.dD; grind -lia⟩
  · exact ⟨by show Go.Wei.dD 0 c 0 a 0 = 0; unfold Go.Wei.dD; grind -lia, by show Go.Wei.dB k c 0 = 0; unfold Go.Wei.dB; grind -lia⟩
theorem z_one {p : Nat} [NeZero p] (k : Fin p) (t : Bool) : (Go.Wei.lst k 0 t (1, 0, 0, 1)).2.1 = 0 ∧ (Go.Wei.lst k 0 t (1, 0, 0, 1)).2.2.2 = 0 := by
  cases t
  · exact ⟨by show Go.Wei.dB k 1 0 = 0; unfold Go.Wei.dB; grind -lia, by show Go.Wei.dD 0 1 0 0 1 = 0; unfold Go.Wei.dD; grind -lia⟩
  · exact ⟨by show Go.Wei.dD 0 0 1 1 0 = 0; unfold Go.Wei.dD; grind -lia, by show Go.Wei.dB k 0 1 = 0; unfold Go.Wei.dB; grind -lia⟩
theorem z_lad {p : Nat} [NeZero p] (k : Fin p) (t : Nat → Bool) : ∀ j, (Go.Wei.lad k 0 t (j + 1)).2.1 = 0 ∧ (Go.Wei.lad k 0 t (j + 1)).2.2.2 = 0
  | 0 => z_one k (t 0)
  | j + 1 => z_step k (t (j + 1)) (z_lad k t j)
theorem f_0 (t : Nat → Bool) : fF t 0 = 0 := by
  rw [fF, iF_0 (z_lad kF t 254).1]
  generalize (Go.Wei.lad kF 0 t 255).1 = a
  grind -lia
theorem turnN (v m n : Nat) : resN (resN v m) n = resN (resN v n) m := by
  refine Go.Wei.fn_inj (resN_lt _ _) (resN_lt _ _) ?_
  rw [f_res, f_res, f_res, f_res]
  exact Go.Wei.turns fld25 noroot kA 255 fF (fun t v => ⟨_, rfl, iF_1, iF_0⟩) f_0 (bt n) (bt m) (Go.Wei.fn P25 v)
theorem set_same {l : List UInt8} {i : Nat} (h : i < l.length) : List.set l i (List.getD l i 0) = l := by
  refine List.ext_getElem (by simp) fun j h1 h2 => ?_
  rw [List.getElem_set]
  split
  · rename_i e
    subst e
    rw [List.getD_eq_getElem?_getD, List.getElem?_eq_getElem h]
    rfl
  · rfl
theorem clU_lb {r : Nat} (h : r < P25) : clU (lb 32 r) = lb 32 r := by
  have hl := lb_len 32 r
  have e := lv_dig (lb 32 r) 31
  rw [lb_val, Nat.mod_eq_of_lt (show r < 256 ^ 32 from Nat.lt_trans h (by decide))] at e
  have hb : (List.getD (lb 32 r) 31 0).toNat < 128 := by
    rw [e]
    exact Nat.lt_of_le_of_lt (Nat.mod_le _ _) (Nat.div_lt_of_lt_mul (Nat.lt_trans h (by decide)))
  have hx : List.getD (lb 32 r) 31 0 &&& 127 = List.getD (lb 32 r) 31 0 := by
    apply UInt8.toNat_inj.1
    rw [UInt8.toNat_and, show (127 : UInt8).toNat = 2 ^ 7 - 1 from rfl, Nat.and_two_pow_sub_one_eq_mod]
    exact Nat.mod_eq_of_lt hb
  rw [clU, hx, set_same (by omega)]
theorem xP_lb {r : Nat} (h : r < P25) : nv (xP (lb 32 r)) = r := by
  rw [xP, mL_val, clU_lb h, lb_val, Nat.mod_eq_of_lt (show r < 256 ^ 32 from Nat.lt_trans h (by decide)), nv_nd (Nat.lt_trans h p_lt), show nv [1, 0, 0, 0] = 1 from rfl, mN, Nat.mul_one, Nat.mod_eq_of_lt h]
theorem turn_eq (x : List UInt64) (m n : Nat) : multL (xP (multL x m)) n = multL (xP (multL x n)) m := by
  rw [multL_res x m, multL_res x n, multL_res, multL_res, xP_lb (resN_lt _ _), xP_lb (resN_lt _ _), turnN]
theorem beq_u {x y : List UInt8} (h : x = y) : (x == y) = true := by rw [h]; exact beq_self_eq_true _

theorem turns_walk (k : List UInt8) (l : List UInt8) (u : List UInt8) (w : World) (n_k : (List.length k = 32)) (n_l : (List.length l = 32)) (n_u : (List.length u = 32)) : Calls Try.prog 5 #[.agg (List.toArray (bys k)), .agg (List.toArray (bys l)), .agg (List.toArray (bys u))] w fun e w' => e = .returned (.bool true) ∧ Ev w [] w' [] := by
 refine d_0 [(0, .agg (List.toArray (bys k))), (1, .agg (List.toArray (bys l))), (2, .agg (List.toArray (bys u)))] 23 Go.Proofs.Try.func5 Go.Proofs.Try.ntmps5 (Heap.nil _) fun act0 En0 Hv0 => ?_
 refine wp_seq ?_
 refine region_from ?_
 refine f_o ?_
 refine m_m 22 (bys k) En0 Hv0 fun ac2 wo3 bk1 En4 Hv5 => ?_
 refine f_o ?_
 refine m_m 22 (bys l) En4 Hv5 fun ac7 wo8 bk6 En9 Hv10 => ?_
 refine f_o ?_
 refine m_m 22 (bys u) En9 Hv10 fun ac12 wo13 bk11 En14 Hv15 => ?_
 refine d_e [3,4,5,6] [] En14 fun ac16 En17 => ?_
 refine then_normal ?_
 refine wp_seq ?_
 refine region_from ?_
 refine f_o ?_
 refine c_p En17 Hv15 (head_ok _) fun ac22 wo19 En23 Hv24 => ?_
 refine d_e [3,4,5,6,7] [] En23 fun ac25 En26 => ?_
 refine then_normal ?_
 refine wp_seq ?_
 refine r_c (fun ac wo => Env ac 23 [(6, .bool true)] ∧ Ev w [] wo []) ?_ ?_
 ·
  refine h_s (fun wv => Ev w [] wv [.box bk1 (bys k) 22, .box bk6 (bys l) 22, .box bk11 (bys u) 22]) [] 15 ?_
  have wo27 := Hv24.trans (Ev.drew Hv24.heap)
  refine q_s [0,1] [] 13 En26 (wo27.pk [0, 1, 2]) fun ac922 En923 => ?_
  refine q_r 2 (s := Instr.loadAt 22 (pt bk1)) (v := .agg (List.toArray (bys k))) En923 (fun w hS => run_loadAgg2 (m := 32) (cs := bys k) (bys_lenh n_k) (by kernel_rfl) (by kernel_rfl) (hS.heap.cells (k := 0) (off := 0) (m := 32) rfl (load_whole (bys_lenh n_k)))) (wo27.pk [0, 1, 2]) fun ac924 En925 => ?_
  refine q_r 3 (s := Instr.loadAt 22 (pt bk6)) (v := .agg (List.toArray (bys l))) En925 (fun w hS => run_loadAgg2 (m := 32) (cs := bys l) (bys_lenh n_l) (by kernel_rfl) (by kernel_rfl) (hS.heap.cells (k := 1) (off := 0) (m := 32) rfl (load_whole (bys_lenh n_l)))) (wo27.pk [0, 1, 2]) fun ac926 En927 => ?_
  refine q_r 4 (s := Instr.loadAt 22 (pt bk11)) (v := .agg (List.toArray (bys u))) En927 (fun w hS => run_loadAgg2 (m := 32) (cs := bys u) (bys_lenh n_u) (by kernel_rfl) (by kernel_rfl) (hS.heap.cells (k := 2) (off := 0) (m := 32) rfl (load_whole (bys_lenh n_u)))) (wo27.pk [0, 1, 2]) fun ac928 En929 => ?_
  refine q_r 7 (s := Instr.loadAt 22 (pt bk6)) (v := .agg (List.toArray (bys l))) En929 (fun w hS => run_loadAgg2 (m := 32) (cs := bys l) (bys_lenh n_l) (by kernel_rfl) (by kernel_rfl) (hS.heap.cells (k := 1) (off := 0) (m := 32) rfl (load_whole (bys_lenh n_l)))) (wo27.pk [0, 1, 2]) fun ac930 En931 => ?_
  refine q_r 8 (s := Instr.loadAt 22 (pt bk1)) (v := .agg (List.toArray (bys k))) En931 (fun w hS => run_loadAgg2 (m := 32) (cs := bys k) (bys_lenh n_k) (by kernel_rfl) (by kernel_rfl) (hS.heap.cells (k := 0) (off := 0) (m := 32) rfl (load_whole (bys_lenh n_k)))) (wo27.pk [0, 1, 2]) fun ac932 En933 => ?_
  refine q_r 9 (s := Instr.loadAt 22 (pt bk11)) (v := .agg (List.toArray (bys u))) En933 (fun w hS => run_loadAgg2 (m := 32) (cs := bys u) (bys_lenh n_u) (by kernel_rfl) (by kernel_rfl) (hS.heap.cells (k := 2) (off := 0) (m := 32) rfl (load_whole (bys_lenh n_u)))) (wo27.pk [0, 1, 2]) fun ac934 En935 => ?_
  refine q_t 5 ?_
  refine c_p En935 wo27 (mult_go _ l u n_l n_u) fun ac940 wo937 En941 Hv942 => ?_
  refine ⟨fun _ => Hv942.pk [0, 1, 2], ?_⟩
  refine q_t 6 ?_
  refine c_p En941 Hv942 (mult_go _ k (multL (xP u) (lv (clP l))) n_k (multL_len _ _)) fun ac947 wo944 En948 Hv949 => ?_
  refine ⟨fun _ => Hv949.pk [0, 1, 2], ?_⟩
  refine q_t 10 ?_
  refine c_p En948 Hv949 (mult_go _ k u n_k n_u) fun ac954 wo951 En955 Hv956 => ?_
  refine ⟨fun _ => Hv956.pk [0, 1, 2], ?_⟩
  refine q_t 11 ?_
  refine c_p En955 Hv956 (mult_go _ l (multL (xP u) (lv (clP k))) n_l (multL_len _ _)) fun ac961 wo958 En962 Hv963 => ?_
  refine ⟨fun _ => Hv963.pk [0, 1, 2], ?_⟩
  refine q_f 12 (s := eqOp .eql 22 (.tmp 15) (.tmp 20) (.agg (List.toArray (bys (multL (xP (multL (xP u) (lv (clP l)))) (lv (clP k)))))) (.agg (List.toArray (bys (multL (xP (multL (xP u) (lv (clP k)))) (lv (clP l))))))) (v := .bool true) En962 (fun _ => Go.Dbr.run_is (fun w => Go.Dbr.bys_eqop (a := (.tmp 15)) (b := (.tmp 20)) (e := 5) (m := 32) (by kernel_rfl) (by kernel_rfl) (by kernel_rfl) (by kernel_rfl) (by kernel_rfl) (multL_len _ _) (multL_len _ _) w) (beq_u (turn_eq _ _ _)) _) (fun _ => Hv963.pk [0, 1, 2]) fun ac964 En965 => ?_
  refine q_s [13,14] [] 0 En965 (Hv963.pk [0, 1, 2]) fun ac966 En967 => ?_
  exact h_e ⟨En967.sb, Hv963.pk []⟩
 rintro ac968 wo969 ⟨En970, Hv971⟩
 refine then_normal ?_
 refine wp_ret ?_
 refine d_ret1 (t := 6) (v := .bool true) En970 (by kernel_rfl) (by kernel_rfl) ?_
 exact ⟨rfl, Hv971.pk []⟩

theorem meets_walk (k : List UInt8) (l : List UInt8) (w : World) (n_k : (List.length k = 32)) (n_l : (List.length l = 32)) : Calls Try.prog 7 #[.agg (List.toArray (bys k)), .agg (List.toArray (bys l))] w fun e w' => e = .returned (.bool true) ∧ Ev w [] w' [] := by
 refine d_0 [(0, .agg (List.toArray (bys k))), (1, .agg (List.toArray (bys l)))] 36 Go.Proofs.Try.func7 Go.Proofs.Try.ntmps7 (Heap.nil _) fun act0 En0 Hv0 => ?_
 refine wp_seq ?_
 refine region_from ?_
 refine f_o ?_
 refine m_m 22 (bys k) En0 Hv0 fun ac2 wo3 bk1 En4 Hv5 => ?_
 refine f_o ?_
 refine m_m 22 (bys l) En4 Hv5 fun ac7 wo8 bk6 En9 Hv10 => ?_
 refine d_e [2,3,4] [] En9 fun ac11 En12 => ?_
 refine then_normal ?_
 refine wp_seq ?_
 refine region_from ?_
 refine f_o ?_
 refine c_p En12 Hv10 (head_ok _) fun ac17 wo14 En18 Hv19 => ?_
 refine d_e [2,3,4,5] [] En18 fun ac20 En21 => ?_
 refine then_normal ?_
 refine wp_seq ?_
 refine r_c (fun ac wo => ∃ (bk208 : Nat), Env ac 36 [(2, pt bk1), (3, pt bk6), (4, .bool false), (5, .bool true), (6, pt bk208), (7, .bool (!(multL (xP (multL (xP ([9, 0, 0, 0, 0, 0, 0, 0, 0, 0, 0, 0, 0, 0, 0, 0, 0, 0, 0, 0, 0, 0, 0, 0, 0, 0, 0, 0, 0, 0, 0, 0] : List UInt8)) (lv (clP l)))) (lv (clP k)) == ([0, 0, 0, 0, 0, 0, 0, 0, 0, 0, 0, 0, 0, 0, 0, 0, 0, 0, 0, 0, 0, 0, 0, 0, 0, 0, 0, 0, 0, 0, 0, 0] : List UInt8))))] ∧ Ev w [] wo [.box bk1 (bys k) 22, .box bk6 (bys l) 22, .box bk208 (bys (multL (xP (multL (xP ([9, 0, 0, 0, 0, 0, 0, 0, 0, 0, 0, 0, 0, 0, 0, 0, 0, 0, 0, 0, 0, 0, 0, 0, 0, 0, 0, 0, 0, 0, 0, 0] : List UInt8)) (lv (clP l)))) (lv (clP k)))) 22]) ?_ ?_
 ·
  refine h_s (fun wv => Ev w [] wv [.box bk1 (bys k) 22, .box bk6 (bys l) 22]) [] 10 ?_
  have wo22 := Hv19.trans (Ev.drew Hv19.heap)
  refine h_name fun G hG => ?_
  have nd266 : ∀ (ac : Act) (wo : World), Env ac 36 [(2, pt bk1), (3, pt bk6), (4, .bool false), (5, .bool true), (15, .tuple #[.agg (List.toArray (bys (multL (xP (multL (xP ([9, 0, 0, 0, 0, 0, 0, 0, 0, 0, 0, 0, 0, 0, 0, 0, 0, 0, 0, 0, 0, 0, 0, 0, 0, 0, 0, 0, 0, 0, 0, 0] : List UInt8)) (lv (clP l)))) (lv (clP k))))), .bool (!(multL (xP (multL (xP ([9, 0, 0, 0, 0, 0, 0, 0, 0, 0, 0, 0, 0, 0, 0, 0, 0, 0, 0, 0, 0, 0, 0, 0, 0, 0, 0, 0, 0, 0, 0, 0] : List UInt8)) (lv (clP l)))) (lv (clP k)) == ([0, 0, 0, 0, 0, 0, 0, 0, 0, 0, 0, 0, 0, 0, 0, 0, 0, 0, 0, 0, 0, 0, 0, 0, 0, 0, 0, 0, 0, 0, 0, 0] : List UInt8)))])] → Ev w [] wo [.box bk1 (bys k) 22, .box bk6 (bys l) 22] → G 6 #[true, true, true, true, false, false, false, false, false, false] ac wo := by
   intro ac267 wo268 En269 Hv270
   refine h_from hG ?_
   refine q_s [4,5,6] [] 3 En269 (Hv270.pk [0, 1]) fun ac271 En272 => ?_
   refine q_t 7 ?_
   refine m_z 22 (bys (List.replicate 32 0)) En272 Hv270 fun ac274 wo275 bk273 En276 Hv277 => ?_
   refine ⟨fun _ => Hv277.pk [0, 1], ?_⟩
   refine q_t 8 ?_
   refine m_g 2 0 32 (bys (multL (xP (multL (xP ([9, 0, 0, 0, 0, 0, 0, 0, 0, 0, 0, 0, 0, 0, 0, 0, 0, 0, 0, 0, 0, 0, 0, 0, 0, 0, 0, 0, 0, 0, 0, 0] : List UInt8)) (lv (clP l)))) (lv (clP k)))) (bys (multL (xP (multL (xP ([9, 0, 0, 0, 0, 0, 0, 0, 0, 0, 0, 0, 0, 0, 0, 0, 0, 0, 0, 0, 0, 0, 0, 0, 0, 0, 0, 0, 0, 0, 0, 0] : List UInt8)) (lv (clP l)))) (lv (clP k)))) [.box bk1 (bys k) 22, .box bk6 (bys l) 22, .box bk273 (bys (multL (xP (multL (xP ([9, 0, 0, 0, 0, 0, 0, 0, 0, 0, 0, 0, 0, 0, 0, 0, 0, 0, 0, 0, 0, 0, 0, 0, 0, 0, 0, 0, 0, 0, 0, 0] : List UInt8)) (lv (clP l)))) (lv (clP k)))) 22] En276 Hv277 rfl (bys_lenh (multL_len _ _)) (by rw [(bys_lenh (List.length_replicate))]; decide) (bys_one _) (store_whole (bys_lenh (List.length_replicate))) rfl fun ac278 wo279 En280 Hv281 => ?_
   refine ⟨fun _ => Hv281.pk [0, 1], ?_⟩
   refine q_s [9] [] 0 En280 (Hv281.pk [0, 1]) fun ac282 En283 => ?_
   exact h_e ⟨bk273, En283.sb, Hv281.pk [0, 1, 2]⟩
  have nd284 : ∀ (ac : Act) (wo : World) (bk219 : Nat), Env ac 36 [(2, pt bk1), (3, pt bk6), (4, .bool false), (5, .bool true), (6, pt bk219), (12, .agg (List.toArray (bys k))), (14, .agg (List.toArray (bys (multL (xP ([9, 0, 0, 0, 0, 0, 0, 0, 0, 0, 0, 0, 0, 0, 0, 0, 0, 0, 0, 0, 0, 0, 0, 0, 0, 0, 0, 0, 0, 0, 0, 0] : List UInt8)) (lv (clP l))))))] → Ev w [] wo [.box bk1 (bys k) 22, .box bk6 (bys l) 22, .box bk219 (bys (List.replicate 32 0)) 22] → G 6 #[true, true, true, false, false, false, false, true, false, false] ac wo := by
   intro ac285 wo286 bk219 En287 Hv288
   refine h_from hG ?_
   refine q_t 3 ?_
   refine c_p En287 Hv288 (shared_go _ k (multL (xP ([9, 0, 0, 0, 0, 0, 0, 0, 0, 0, 0, 0, 0, 0, 0, 0, 0, 0, 0, 0, 0, 0, 0, 0, 0, 0, 0, 0, 0, 0, 0, 0] : List UInt8)) (lv (clP l))) n_k (multL_len _ _)) fun ac293 wo290 En294 Hv295 => ?_
   refine ⟨fun _ => Hv295.pk [0, 1], ?_⟩
   refine q_s [4,5,6] [] 2 En294 (Hv295.pk [0, 1]) fun ac296 En297 => ?_
   refine q_t 8 ?_
   refine m_g 2 0 32 (bys (multL (xP (multL (xP ([9, 0, 0, 0, 0, 0, 0, 0, 0, 0, 0, 0, 0, 0, 0, 0, 0, 0, 0, 0, 0, 0, 0, 0, 0, 0, 0, 0, 0, 0, 0, 0] : List UInt8)) (lv (clP l)))) (lv (clP k)))) (bys (multL (xP (multL (xP ([9, 0, 0, 0, 0, 0, 0, 0, 0, 0, 0, 0, 0, 0, 0, 0, 0, 0, 0, 0, 0, 0, 0, 0, 0, 0, 0, 0, 0, 0, 0, 0] : List UInt8)) (lv (clP l)))) (lv (clP k)))) [.box bk1 (bys k) 22, .box bk6 (bys l) 22, .box bk219 (bys (multL (xP (multL (xP ([9, 0, 0, 0, 0, 0, 0, 0, 0, 0, 0, 0, 0, 0, 0, 0, 0, 0, 0, 0, 0, 0, 0, 0, 0, 0, 0, 0, 0, 0, 0, 0] : List UInt8)) (lv (clP l)))) (lv (clP k)))) 22] En297 Hv295 rfl (bys_lenh (multL_len _ _)) (by rw [(bys_lenh (List.length_replicate))]; decide) (bys_one _) (store_whole (bys_lenh (List.length_replicate))) rfl fun ac298 wo299 En300 Hv301 => ?_
   refine ⟨fun _ => Hv301.pk [0, 1], ?_⟩
   refine q_s [9] [] 0 En300 (Hv301.pk [0, 1]) fun ac302 En303 => ?_
   exact h_e ⟨bk219, En303.sb, Hv301.pk [0, 1, 2]⟩
  have nd304 : ∀ (ac : Act) (wo : World), Env ac 36 [(2, pt bk1), (3, pt bk6), (4, .bool false), (5, .bool true), (12, .agg (List.toArray (bys k))), (14, .agg (List.toArray (bys (multL (xP ([9, 0, 0, 0, 0, 0, 0, 0, 0, 0, 0, 0, 0, 0, 0, 0, 0, 0, 0, 0, 0, 0, 0, 0, 0, 0, 0, 0, 0, 0, 0, 0] : List UInt8)) (lv (clP l))))))] → Ev w [] wo [.box bk1 (bys k) 22, .box bk6 (bys l) 22] → G 7 #[true, true, true, false, false, false, false, false, false, false] ac wo := by
   intro ac305 wo306 En307 Hv308
   refine h_from hG ?_
   refine h_ways [3, 7] (by kernel_rfl) rfl ?_
   refine ⟨?_, ?_, trivial⟩
   ·
    rintro _ rfl
    refine c_p En307 Hv308 (shared_go _ k (multL (xP ([9, 0, 0, 0, 0, 0, 0, 0, 0, 0, 0, 0, 0, 0, 0, 0, 0, 0, 0, 0, 0, 0, 0, 0, 0, 0, 0, 0, 0, 0, 0, 0] : List UInt8)) (lv (clP l))) n_k (multL_len _ _)) fun ac313 wo310 En314 Hv315 => ?_
    refine ⟨fun _ => Hv315.pk [0, 1], ?_⟩
    exact h_to hG (by kernel_rfl) (nd266 _ _ (En314.sb) (Hv315.pk [0, 1]))
   ·
    rintro _ rfl
    refine m_z 22 (bys (List.replicate 32 0)) En307 Hv308 fun ac317 wo318 bk316 En319 Hv320 => ?_
    refine ⟨fun _ => Hv320.pk [0, 1], ?_⟩
    exact h_to hG (by kernel_rfl) (nd284 _ _ bk316 (En319.sb) (Hv320.pk [0, 1, 2]))
  have nd321 : ∀ (ac : Act) (wo : World) (bk239 : Nat), Env ac 36 [(2, pt bk1), (3, pt bk6), (4, .bool false), (5, .bool true), (6, pt bk239), (12, .agg (List.toArray (bys k))), (13, .agg (List.toArray (bys l)))] → Ev w [] wo [.box bk1 (bys k) 22, .box bk6 (bys l) 22, .box bk239 (bys (List.replicate 32 0)) 22] → G 7 #[true, true, false, false, false, false, false, true, false, false] ac wo := by
   intro ac322 wo323 bk239 En324 Hv325
   refine h_from hG ?_
   refine q_t 2 ?_
   refine c_p En324 Hv325 (public_go _ l n_l) fun ac330 wo327 En331 Hv332 => ?_
   refine ⟨fun _ => Hv332.pk [0, 1], ?_⟩
   refine q_t 3 ?_
   refine c_p En331 Hv332 (shared_go _ k (multL (xP ([9, 0, 0, 0, 0, 0, 0, 0, 0, 0, 0, 0, 0, 0, 0, 0, 0, 0, 0, 0, 0, 0, 0, 0, 0, 0, 0, 0, 0, 0, 0, 0] : List UInt8)) (lv (clP l))) n_k (multL_len _ _)) fun ac337 wo334 En338 Hv339 => ?_
   refine ⟨fun _ => Hv339.pk [0, 1], ?_⟩
   refine q_s [4,5,6] [] 2 En338 (Hv339.pk [0, 1]) fun ac340 En341 => ?_
   refine q_t 8 ?_
   refine m_g 2 0 32 (bys (multL (xP (multL (xP ([9, 0, 0, 0, 0, 0, 0, 0, 0, 0, 0, 0, 0, 0, 0, 0, 0, 0, 0, 0, 0, 0, 0, 0, 0, 0, 0, 0, 0, 0, 0, 0] : List UInt8)) (lv (clP l)))) (lv (clP k)))) (bys (multL (xP (multL (xP ([9, 0, 0, 0, 0, 0, 0, 0, 0, 0, 0, 0, 0, 0, 0, 0, 0, 0, 0, 0, 0, 0, 0, 0, 0, 0, 0, 0, 0, 0, 0, 0] : List UInt8)) (lv (clP l)))) (lv (clP k)))) [.box bk1 (bys k) 22, .box bk6 (bys l) 22, .box bk239 (bys (multL (xP (multL (xP ([9, 0, 0, 0, 0, 0, 0, 0, 0, 0, 0, 0, 0, 0, 0, 0, 0, 0, 0, 0, 0, 0, 0, 0, 0, 0, 0, 0, 0, 0, 0, 0] : List UInt8)) (lv (clP l)))) (lv (clP k)))) 22] En341 Hv339 rfl (bys_lenh (multL_len _ _)) (by rw [(bys_lenh (List.length_replicate))]; decide) (bys_one _) (store_whole (bys_lenh (List.length_replicate))) rfl fun ac342 wo343 En344 Hv345 => ?_
   refine ⟨fun _ => Hv345.pk [0, 1], ?_⟩
   refine q_s [9] [] 0 En344 (Hv345.pk [0, 1]) fun ac346 En347 => ?_
   exact h_e ⟨bk239, En347.sb, Hv345.pk [0, 1, 2]⟩
  refine h_from hG ?_
  refine q_r 0 (s := Instr.loadAt 22 (pt bk1)) (v := .agg (List.toArray (bys k))) En21 (fun w hS => run_loadAgg2 (m := 32) (cs := bys k) (bys_lenh n_k) (by kernel_rfl) (by kernel_rfl) (hS.heap.cells (k := 0) (off := 0) (m := 32) rfl (load_whole (bys_lenh n_k)))) (wo22.pk [0, 1]) fun ac348 En349 => ?_
  refine q_r 1 (s := Instr.loadAt 22 (pt bk6)) (v := .agg (List.toArray (bys l))) En349 (fun w hS => run_loadAgg2 (m := 32) (cs := bys l) (bys_lenh n_l) (by kernel_rfl) (by kernel_rfl) (hS.heap.cells (k := 1) (off := 0) (m := 32) rfl (load_whole (bys_lenh n_l)))) (wo22.pk [0, 1]) fun ac350 En351 => ?_
  refine h_ways [2, 7] (by kernel_rfl) rfl ?_
  refine ⟨?_, ?_, trivial⟩
  ·
   rintro _ rfl
   refine c_p En351 wo22 (public_go _ l n_l) fun ac356 wo353 En357 Hv358 => ?_
   refine ⟨fun _ => Hv358.pk [0, 1], ?_⟩
   exact h_to hG (by kernel_rfl) (nd304 _ _ (En357.sb) (Hv358.pk [0, 1]))
  ·
   rintro _ rfl
   refine m_z 22 (bys (List.replicate 32 0)) En351 wo22 fun ac360 wo361 bk359 En362 Hv363 => ?_
   refine ⟨fun _ => Hv363.pk [0, 1], ?_⟩
   exact h_to hG (by kernel_rfl) (nd321 _ _ bk359 (En362.sb) (Hv363.pk [0, 1, 2]))
 rintro ac364 wo365 ⟨bk208, En366, Hv367⟩
 refine then_normal ?_
 refine wp_seq ?_
 refine r_c (fun ac wo => ∃ (bk554 : Nat), Env ac 36 [(2, pt bk1), (3, pt bk6), (4, .bool false), (5, .bool true), (6, pt bk208), (7, .bool (!(multL (xP (multL (xP ([9, 0, 0, 0, 0, 0, 0, 0, 0, 0, 0, 0, 0, 0, 0, 0, 0, 0, 0, 0, 0, 0, 0, 0, 0, 0, 0, 0, 0, 0, 0, 0] : List UInt8)) (lv (clP l)))) (lv (clP k)) == ([0, 0, 0, 0, 0, 0, 0, 0, 0, 0, 0, 0, 0, 0, 0, 0, 0, 0, 0, 0, 0, 0, 0, 0, 0, 0, 0, 0, 0, 0, 0, 0] : List UInt8)))), (8, pt bk554), (9, .bool (!(multL (xP (multL (xP ([9, 0, 0, 0, 0, 0, 0, 0, 0, 0, 0, 0, 0, 0, 0, 0, 0, 0, 0, 0, 0, 0, 0, 0, 0, 0, 0, 0, 0, 0, 0, 0] : List UInt8)) (lv (clP k)))) (lv (clP l)) == ([0, 0, 0, 0, 0, 0, 0, 0, 0, 0, 0, 0, 0, 0, 0, 0, 0, 0, 0, 0, 0, 0, 0, 0, 0, 0, 0, 0, 0, 0, 0, 0] : List UInt8))))] ∧ Ev w [] wo [.box bk1 (bys k) 22, .box bk6 (bys l) 22, .box bk208 (bys (multL (xP (multL (xP ([9, 0, 0, 0, 0, 0, 0, 0, 0, 0, 0, 0, 0, 0, 0, 0, 0, 0, 0, 0, 0, 0, 0, 0, 0, 0, 0, 0, 0, 0, 0, 0] : List UInt8)) (lv (clP l)))) (lv (clP k)))) 22, .box bk554 (bys (multL (xP (multL (xP ([9, 0, 0, 0, 0, 0, 0, 0, 0, 0, 0, 0, 0, 0, 0, 0, 0, 0, 0, 0, 0, 0, 0, 0, 0, 0, 0, 0, 0, 0, 0, 0] : List UInt8)) (lv (clP k)))) (lv (clP l)))) 22]) ?_ ?_
 ·
  refine h_s (fun wv => Ev w [] wv [.box bk1 (bys k) 22, .box bk6 (bys l) 22]) [] 10 ?_
  have wo368 := Hv367.trans (Ev.drew Hv367.heap)
  refine h_name fun G hG => ?_
  have nd612 : ∀ (ac : Act) (wo : World), Env ac 36 [(2, pt bk1), (3, pt bk6), (4, .bool false), (5, .bool true), (6, pt bk208), (7, .bool (!(multL (xP (multL (xP ([9, 0, 0, 0, 0, 0, 0, 0, 0, 0, 0, 0, 0, 0, 0, 0, 0, 0, 0, 0, 0, 0, 0, 0, 0, 0, 0, 0, 0, 0, 0, 0] : List UInt8)) (lv (clP l)))) (lv (clP k)) == ([0, 0, 0, 0, 0, 0, 0, 0, 0, 0, 0, 0, 0, 0, 0, 0, 0, 0, 0, 0, 0, 0, 0, 0, 0, 0, 0, 0, 0, 0, 0, 0] : List UInt8)))), (22, .tuple #[.agg (List.toArray (bys (multL (xP (multL (xP ([9, 0, 0, 0, 0, 0, 0, 0, 0, 0, 0, 0, 0, 0, 0, 0, 0, 0, 0, 0, 0, 0, 0, 0, 0, 0, 0, 0, 0, 0, 0, 0] : List UInt8)) (lv (clP k)))) (lv (clP l))))), .bool (!(multL (xP (multL (xP ([9, 0, 0, 0, 0, 0, 0, 0, 0, 0, 0, 0, 0, 0, 0, 0, 0, 0, 0, 0, 0, 0, 0, 0, 0, 0, 0, 0, 0, 0, 0, 0] : List UInt8)) (lv (clP k)))) (lv (clP l)) == ([0, 0, 0, 0, 0, 0, 0, 0, 0, 0, 0, 0, 0, 0, 0, 0, 0, 0, 0, 0, 0, 0, 0, 0, 0, 0, 0, 0, 0, 0, 0, 0] : List UInt8)))])] → Ev w [] wo [.box bk1 (bys k) 22, .box bk6 (bys l) 22, .box bk208 (bys (multL (xP (multL (xP ([9, 0, 0, 0, 0, 0, 0, 0, 0, 0, 0, 0, 0, 0, 0, 0, 0, 0, 0, 0, 0, 0, 0, 0, 0, 0, 0, 0, 0, 0, 0, 0] : List UInt8)) (lv (clP l)))) (lv (clP k)))) 22] → G 6 #[true, true, true, true, false, false, false, false, false, false] ac wo := by
   intro ac613 wo614 En615 Hv616
   refine h_from hG ?_
   refine q_s [4,5,6] [] 3 En615 (Hv616.pk [0, 1]) fun ac617 En618 => ?_
   refine q_t 7 ?_
   refine m_z 22 (bys (List.replicate 32 0)) En618 Hv616 fun ac620 wo621 bk619 En622 Hv623 => ?_
   refine ⟨fun _ => Hv623.pk [0, 1], ?_⟩
   refine q_t 8 ?_
   refine m_g 3 0 32 (bys (multL (xP (multL (xP ([9, 0, 0, 0, 0, 0, 0, 0, 0, 0, 0, 0, 0, 0, 0, 0, 0, 0, 0, 0, 0, 0, 0, 0, 0, 0, 0, 0, 0, 0, 0, 0] : List UInt8)) (lv (clP k)))) (lv (clP l)))) (bys (multL (xP (multL (xP ([9, 0, 0, 0, 0, 0, 0, 0, 0, 0, 0, 0, 0, 0, 0, 0, 0, 0, 0, 0, 0, 0, 0, 0, 0, 0, 0, 0, 0, 0, 0, 0] : List UInt8)) (lv (clP k)))) (lv (clP l)))) [.box bk1 (bys k) 22, .box bk6 (bys l) 22, .box bk208 (bys (multL (xP (multL (xP ([9, 0, 0, 0, 0, 0, 0, 0, 0, 0, 0, 0, 0, 0, 0, 0, 0, 0, 0, 0, 0, 0, 0, 0, 0, 0, 0, 0, 0, 0, 0, 0] : List UInt8)) (lv (clP l)))) (lv (clP k)))) 22, .box bk619 (bys (multL (xP (multL (xP ([9, 0, 0, 0, 0, 0, 0, 0, 0, 0, 0, 0, 0, 0, 0, 0, 0, 0, 0, 0, 0, 0, 0, 0, 0, 0, 0, 0, 0, 0, 0, 0] : List UInt8)) (lv (clP k)))) (lv (clP l)))) 22] En622 Hv623 rfl (bys_lenh (multL_len _ _)) (by rw [(bys_lenh (List.length_replicate))]; decide) (bys_one _) (store_whole (bys_lenh (List.length_replicate))) rfl fun ac624 wo625 En626 Hv627 => ?_
   refine ⟨fun _ => Hv627.pk [0, 1], ?_⟩
   refine q_s [9] [] 0 En626 (Hv627.pk [0, 1]) fun ac628 En629 => ?_
   exact h_e ⟨bk619, En629.sb, Hv627.pk [0, 1, 2, 3]⟩
  have nd630 : ∀ (ac : Act) (wo : World) (bk565 : Nat), Env ac 36 [(2, pt bk1), (3, pt bk6), (4, .bool false), (5, .bool true), (6, pt bk208), (7, .bool (!(multL (xP (multL (xP ([9, 0, 0, 0, 0, 0, 0, 0, 0, 0, 0, 0, 0, 0, 0, 0, 0, 0, 0, 0, 0, 0, 0, 0, 0, 0, 0, 0, 0, 0, 0, 0] : List UInt8)) (lv (clP l)))) (lv (clP k)) == ([0, 0, 0, 0, 0, 0, 0, 0, 0, 0, 0, 0, 0, 0, 0, 0, 0, 0, 0, 0, 0, 0, 0, 0, 0, 0, 0, 0, 0, 0, 0, 0] : List UInt8)))), (8, pt bk565), (19, .agg (List.toArray (bys l))), (21, .agg (List.toArray (bys (multL (xP ([9, 0, 0, 0, 0, 0, 0, 0, 0, 0, 0, 0, 0, 0, 0, 0, 0, 0, 0, 0, 0, 0, 0, 0, 0, 0, 0, 0, 0, 0, 0, 0] : List UInt8)) (lv (clP k))))))] → Ev w [] wo [.box bk1 (bys k) 22, .box bk6 (bys l) 22, .box bk208 (bys (multL (xP (multL (xP ([9, 0, 0, 0, 0, 0, 0, 0, 0, 0, 0, 0, 0, 0, 0, 0, 0, 0, 0, 0, 0, 0, 0, 0, 0, 0, 0, 0, 0, 0, 0, 0] : List UInt8)) (lv (clP l)))) (lv (clP k)))) 22, .box bk565 (bys (List.replicate 32 0)) 22] → G 6 #[true, true, true, false, false, false, false, true, false, false] ac wo := by
   intro ac631 wo632 bk565 En633 Hv634
   refine h_from hG ?_
   refine q_t 3 ?_
   refine c_p En633 Hv634 (shared_go _ l (multL (xP ([9, 0, 0, 0, 0, 0, 0, 0, 0, 0, 0, 0, 0, 0, 0, 0, 0, 0, 0, 0, 0, 0, 0, 0, 0, 0, 0, 0, 0, 0, 0, 0] : List UInt8)) (lv (clP k))) n_l (multL_len _ _)) fun ac639 wo636 En640 Hv641 => ?_
   refine ⟨fun _ => Hv641.pk [0, 1], ?_⟩
   refine q_s [4,5,6] [] 2 En640 (Hv641.pk [0, 1]) fun ac642 En643 => ?_
   refine q_t 8 ?_
   refine m_g 3 0 32 (bys (multL (xP (multL (xP ([9, 0, 0, 0, 0, 0, 0, 0, 0, 0, 0, 0, 0, 0, 0, 0, 0, 0, 0, 0, 0, 0, 0, 0, 0, 0, 0, 0, 0, 0, 0, 0] : List UInt8)) (lv (clP k)))) (lv (clP l)))) (bys (multL (xP (multL (xP ([9, 0, 0, 0, 0, 0, 0, 0, 0, 0, 0, 0, 0, 0, 0, 0, 0, 0, 0, 0, 0, 0, 0, 0, 0, 0, 0, 0, 0, 0, 0, 0] : List UInt8)) (lv (clP k)))) (lv (clP l)))) [.box bk1 (bys k) 22, .box bk6 (bys l) 22, .box bk208 (bys (multL (xP (multL (xP ([9, 0, 0, 0, 0, 0, 0, 0, 0, 0, 0, 0, 0, 0, 0, 0, 0, 0, 0, 0, 0, 0, 0, 0, 0, 0, 0, 0, 0, 0, 0, 0] : List UInt8)) (lv (clP l)))) (lv (clP k)))) 22, .box bk565 (bys (multL (xP (multL (xP ([9, 0, 0, 0, 0, 0, 0, 0, 0, 0, 0, 0, 0, 0, 0, 0, 0, 0, 0, 0, 0, 0, 0, 0, 0, 0, 0, 0, 0, 0, 0, 0] : List UInt8)) (lv (clP k)))) (lv (clP l)))) 22] En643 Hv641 rfl (bys_lenh (multL_len _ _)) (by rw [(bys_lenh (List.length_replicate))]; decide) (bys_one _) (store_whole (bys_lenh (List.length_replicate))) rfl fun ac644 wo645 En646 Hv647 => ?_
   refine ⟨fun _ => Hv647.pk [0, 1], ?_⟩
   refine q_s [9] [] 0 En646 (Hv647.pk [0, 1]) fun ac648 En649 => ?_
   exact h_e ⟨bk565, En649.sb, Hv647.pk [0, 1, 2, 3]⟩
  have nd650 : ∀ (ac : Act) (wo : World), Env ac 36 [(2, pt bk1), (3, pt bk6), (4, .bool false), (5, .bool true), (6, pt bk208), (7, .bool (!(multL (xP (multL (xP ([9, 0, 0, 0, 0, 0, 0, 0, 0, 0, 0, 0, 0, 0, 0, 0, 0, 0, 0, 0, 0, 0, 0, 0, 0, 0, 0, 0, 0, 0, 0, 0] : List UInt8)) (lv (clP l)))) (lv (clP k)) == ([0, 0, 0, 0, 0, 0, 0, 0, 0, 0, 0, 0, 0, 0, 0, 0, 0, 0, 0, 0, 0, 0, 0, 0, 0, 0, 0, 0, 0, 0, 0, 0] : List UInt8)))), (19, .agg (List.toArray (bys l))), (21, .agg (List.toArray (bys (multL (xP ([9, 0, 0, 0, 0, 0, 0, 0, 0, 0, 0, 0, 0, 0, 0, 0, 0, 0, 0, 0, 0, 0, 0, 0, 0, 0, 0, 0, 0, 0, 0, 0] : List UInt8)) (lv (clP k))))))] → Ev w [] wo [.box bk1 (bys k) 22, .box bk6 (bys l) 22, .box bk208 (bys (multL (xP (multL (xP ([9, 0, 0, 0, 0, 0, 0, 0, 0, 0, 0, 0, 0, 0, 0, 0, 0, 0, 0, 0, 0, 0, 0, 0, 0, 0, 0, 0, 0, 0, 0, 0] : List UInt8)) (lv (clP l)))) (lv (clP k)))) 22] → G 7 #[true, true, true, false, false, false, false, false, false, false] ac wo := by
   intro ac651 wo652 En653 Hv654
   refine h_from hG ?_
   refine h_ways [3, 7] (by kernel_rfl) rfl ?_
   refine ⟨?_, ?_, trivial⟩
   ·
    rintro _ rfl
    refine c_p En653 Hv654 (shared_go _ l (multL (xP ([9, 0, 0, 0, 0, 0, 0, 0, 0, 0, 0, 0, 0, 0, 0, 0, 0, 0, 0, 0, 0, 0, 0, 0, 0, 0, 0, 0, 0, 0, 0, 0] : List UInt8)) (lv (clP k))) n_l (multL_len _ _)) fun ac659 wo656 En660 Hv661 => ?_
    refine ⟨fun _ => Hv661.pk [0, 1], ?_⟩
    exact h_to hG (by kernel_rfl) (nd612 _ _ (En660.sb) (Hv661.pk [0, 1, 2]))
   ·
    rintro _ rfl
    refine m_z 22 (bys (List.replicate 32 0)) En653 Hv654 fun ac663 wo664 bk662 En665 Hv666 => ?_
    refine ⟨fun _ => Hv666.pk [0, 1], ?_⟩
    exact h_to hG (by kernel_rfl) (nd630 _ _ bk662 (En665.sb) (Hv666.pk [0, 1, 2, 3]))
  have nd667 : ∀ (ac : Act) (wo : World) (bk585 : Nat), Env ac 36 [(2, pt bk1), (3, pt bk6), (4, .bool false), (5, .bool true), (6, pt bk208), (7, .bool (!(multL (xP (multL (xP ([9, 0, 0, 0, 0, 0, 0, 0, 0, 0, 0, 0, 0, 0, 0, 0, 0, 0, 0, 0, 0, 0, 0, 0, 0, 0, 0, 0, 0, 0, 0, 0] : List UInt8)) (lv (clP l)))) (lv (clP k)) == ([0, 0, 0, 0, 0, 0, 0, 0, 0, 0, 0, 0, 0, 0, 0, 0, 0, 0, 0, 0, 0, 0, 0, 0, 0, 0, 0, 0, 0, 0, 0, 0] : List UInt8)))), (8, pt bk585), (19, .agg (List.toArray (bys l))), (20, .agg (List.toArray (bys k)))] → Ev w [] wo [.box bk1 (bys k) 22, .box bk6 (bys l) 22, .box bk208 (bys (multL (xP (multL (xP ([9, 0, 0, 0, 0, 0, 0, 0, 0, 0, 0, 0, 0, 0, 0, 0, 0, 0, 0, 0, 0, 0, 0, 0, 0, 0, 0, 0, 0, 0, 0, 0] : List UInt8)) (lv (clP l)))) (lv (clP k)))) 22, .box bk585 (bys (List.replicate 32 0)) 22] → G 7 #[true, true, false, false, false, false, false, true, false, false] ac wo := by
   intro ac668 wo669 bk585 En670 Hv671
   refine h_from hG ?_
   refine q_t 2 ?_
   refine c_p En670 Hv671 (public_go _ k n_k) fun ac676 wo673 En677 Hv678 => ?_
   refine ⟨fun _ => Hv678.pk [0, 1], ?_⟩
   refine q_t 3 ?_
   refine c_p En677 Hv678 (shared_go _ l (multL (xP ([9, 0, 0, 0, 0, 0, 0, 0, 0, 0, 0, 0, 0, 0, 0, 0, 0, 0, 0, 0, 0, 0, 0, 0, 0, 0, 0, 0, 0, 0, 0, 0] : List UInt8)) (lv (clP k))) n_l (multL_len _ _)) fun ac683 wo680 En684 Hv685 => ?_
   refine ⟨fun _ => Hv685.pk [0, 1], ?_⟩
   refine q_s [4,5,6] [] 2 En684 (Hv685.pk [0, 1]) fun ac686 En687 => ?_
   refine q_t 8 ?_
   refine m_g 3 0 32 (bys (multL (xP (multL (xP ([9, 0, 0, 0, 0, 0, 0, 0, 0, 0, 0, 0, 0, 0, 0, 0, 0, 0, 0, 0, 0, 0, 0, 0, 0, 0, 0, 0, 0, 0, 0, 0] : List UInt8)) (lv (clP k)))) (lv (clP l)))) (bys (multL (xP (multL (xP ([9, 0, 0, 0, 0, 0, 0, 0, 0, 0, 0, 0, 0, 0, 0, 0, 0, 0, 0, 0, 0, 0, 0, 0, 0, 0, 0, 0, 0, 0, 0, 0] : List UInt8)) (lv (clP k)))) (lv (clP l)))) [.box bk1 (bys k) 22, .box bk6 (bys l) 22, .box bk208 (bys (multL (xP (multL (xP ([9, 0, 0, 0, 0, 0, 0, 0, 0, 0, 0, 0, 0, 0, 0, 0, 0, 0, 0, 0, 0, 0, 0, 0, 0, 0, 0, 0, 0, 0, 0, 0] : List UInt8)) (lv (clP l)))) (lv (clP k)))) 22, .box bk585 (bys (multL (xP (multL (xP ([9, 0, 0, 0, 0, 0, 0, 0, 0, 0, 0, 0, 0, 0, 0, 0, 0, 0, 0, 0, 0, 0, 0, 0, 0, 0, 0, 0, 0, 0, 0, 0] : List UInt8)) (lv (clP k)))) (lv (clP l)))) 22] En687 Hv685 rfl (bys_lenh (multL_len _ _)) (by rw [(bys_lenh (List.length_replicate))]; decide) (bys_one _) (store_whole (bys_lenh (List.length_replicate))) rfl fun ac688 wo689 En690 Hv691 => ?_
   refine ⟨fun _ => Hv691.pk [0, 1], ?_⟩
   refine q_s [9] [] 0 En690 (Hv691.pk [0, 1]) fun ac692 En693 => ?_
   exact h_e ⟨bk585, En693.sb, Hv691.pk [0, 1, 2, 3]⟩
  refine h_from hG ?_
  refine q_r 0 (s := Instr.loadAt 22 (pt bk6)) (v := .agg (List.toArray (bys l))) En366 (fun w hS => run_loadAgg2 (m := 32) (cs := bys l) (bys_lenh n_l) (by kernel_rfl) (by kernel_rfl) (hS.heap.cells (k := 1) (off := 0) (m := 32) rfl (load_whole (bys_lenh n_l)))) (wo368.pk [0, 1]) fun ac694 En695 => ?_
  refine q_r 1 (s := Instr.loadAt 22 (pt bk1)) (v := .agg (List.toArray (bys k))) En695 (fun w hS => run_loadAgg2 (m := 32) (cs := bys k) (bys_lenh n_k) (by kernel_rfl) (by kernel_rfl) (hS.heap.cells (k := 0) (off := 0) (m := 32) rfl (load_whole (bys_lenh n_k)))) (wo368.pk [0, 1]) fun ac696 En697 => ?_
  refine h_ways [2, 7] (by kernel_rfl) rfl ?_
  refine ⟨?_, ?_, trivial⟩
  ·
   rintro _ rfl
   refine c_p En697 wo368 (public_go _ k n_k) fun ac702 wo699 En703 Hv704 => ?_
   refine ⟨fun _ => Hv704.pk [0, 1], ?_⟩
   exact h_to hG (by kernel_rfl) (nd650 _ _ (En703.sb) (Hv704.pk [0, 1, 2]))
  ·
   rintro _ rfl
   refine m_z 22 (bys (List.replicate 32 0)) En697 wo368 fun ac706 wo707 bk705 En708 Hv709 => ?_
   refine ⟨fun _ => Hv709.pk [0, 1], ?_⟩
   exact h_to hG (by kernel_rfl) (nd667 _ _ bk705 (En708.sb) (Hv709.pk [0, 1, 2, 3]))
 rintro ac710 wo711 ⟨bk554, En712, Hv713⟩
 refine then_normal ?_
 refine wp_seq ?_
 refine region_from ?_
 refine d_k [2,3,4,6,7,8,9,26] [] 2 En712 fun ac714 En715 => ?_
 refine f_o ?_
 refine m_a 2 0 32 (bys (multL (xP (multL (xP ([9, 0, 0, 0, 0, 0, 0, 0, 0, 0, 0, 0, 0, 0, 0, 0, 0, 0, 0, 0, 0, 0, 0, 0, 0, 0, 0, 0, 0, 0, 0, 0] : List UInt8)) (lv (clP l)))) (lv (clP k)))) En715 Hv713 rfl (load_whole (bys_lenh (multL_len _ _))) (bys_lenh (multL_len _ _)) fun ac716 En717 => ?_
 refine f_o ?_
 refine m_a 3 0 32 (bys (multL (xP (multL (xP ([9, 0, 0, 0, 0, 0, 0, 0, 0, 0, 0, 0, 0, 0, 0, 0, 0, 0, 0, 0, 0, 0, 0, 0, 0, 0, 0, 0, 0, 0, 0, 0] : List UInt8)) (lv (clP k)))) (lv (clP l)))) En717 Hv713 rfl (load_whole (bys_lenh (multL_len _ _))) (bys_lenh (multL_len _ _)) fun ac718 En719 => ?_
 refine f_o ?_
 refine q_v (x := eqOp .eql 22 (.tmp 27) (.tmp 28) (.agg (List.toArray (bys (multL (xP (multL (xP ([9, 0, 0, 0, 0, 0, 0, 0, 0, 0, 0, 0, 0, 0, 0, 0, 0, 0, 0, 0, 0, 0, 0, 0, 0, 0, 0, 0, 0, 0, 0, 0] : List UInt8)) (lv (clP l)))) (lv (clP k)))))) (.agg (List.toArray (bys (multL (xP (multL (xP ([9, 0, 0, 0, 0, 0, 0, 0, 0, 0, 0, 0, 0, 0, 0, 0, 0, 0, 0, 0, 0, 0, 0, 0, 0, 0, 0, 0, 0, 0, 0, 0] : List UInt8)) (lv (clP k)))) (lv (clP l))))))) (v := .bool true) En719 (Go.Dbr.run_is (fun w => Go.Dbr.bys_eqop (a := (.tmp 27)) (b := (.tmp 28)) (e := 5) (m := 32) (by kernel_rfl) (by kernel_rfl) (by kernel_rfl) (by kernel_rfl) (by kernel_rfl) (multL_len _ _) (multL_len _ _) w) (beq_u (turn_eq _ _ _)) _) fun ac720 En721 => ?_
 refine d_e [2,3,4,6,8] [(9, g_b (show ((!(multL (xP (multL (xP ([9, 0, 0, 0, 0, 0, 0, 0, 0, 0, 0, 0, 0, 0, 0, 0, 0, 0, 0, 0, 0, 0, 0, 0, 0, 0, 0, 0, 0, 0, 0, 0] : List UInt8)) (lv (clP l)))) (lv (clP k)) == ([0, 0, 0, 0, 0, 0, 0, 0, 0, 0, 0, 0, 0, 0, 0, 0, 0, 0, 0, 0, 0, 0, 0, 0, 0, 0, 0, 0, 0, 0, 0, 0] : List UInt8))) == (!(multL (xP (multL (xP ([9, 0, 0, 0, 0, 0, 0, 0, 0, 0, 0, 0, 0, 0, 0, 0, 0, 0, 0, 0, 0, 0, 0, 0, 0, 0, 0, 0, 0, 0, 0, 0] : List UInt8)) (lv (clP k)))) (lv (clP l)) == ([0, 0, 0, 0, 0, 0, 0, 0, 0, 0, 0, 0, 0, 0, 0, 0, 0, 0, 0, 0, 0, 0, 0, 0, 0, 0, 0, 0, 0, 0, 0, 0] : List UInt8)))) = true from (by rw [turn_eq]; exact beq_self_eq_true _)))] En721 fun ac722 En723 => ?_
 refine then_normal ?_
 refine wp_ret ?_
 refine d_ret1 (t := 4) (v := .bool true) En723 (by kernel_rfl) (by kernel_rfl) ?_
 exact ⟨rfl, Hv713.pk []⟩

end Go.Proofs.Yteainioaejnecaa
