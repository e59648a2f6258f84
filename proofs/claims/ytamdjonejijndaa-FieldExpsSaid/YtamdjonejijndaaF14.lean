/- Layer 4, the document: what digits leave modulo the order of Ed25519. -/
import Derived.Test.YtamdjonejijndaaF13
namespace Go.Proofs.Ytamdjonejijndaa
open Go.Dbr
set_option maxRecDepth 100000
set_option maxHeartbeats 2000000
set_option linter.unusedVariables false
set_option linter.unusedSimpArgs false

theorem dv_lt32' {l : List UInt64} (h : DG l) : dv 4294967296 l < 4294967296 ^ l.length := by
  have e := dk_split l l.length
  rw [List.drop_length, show dv 4294967296 [] = 0 from rfl, Nat.mul_zero, Nat.add_zero] at e
  rw [e]
  exact dk_lt h _

theorem dv17 {X : Nat} (h : X < 4294967296 ^ 17) : dv 4294967296 (n32 17 X) = X := by rw [n32_val, Nat.mod_eq_of_lt h]
theorem lower_n (w : World) (X Y : Nat) (hX : X < 4294967296 ^ 17) (hY : Y < 4294967296 ^ 17) : Calls Try.prog 70 #[.agg (List.toArray (u64s (n32 17 X))), .agg (List.toArray (u64s (n32 17 Y)))] w fun e w' => e = .returned (.bool (decide (X < Y))) ∧ Ev w [] w' [] := by
  have h := lower_go w (n32 17 X) (n32 17 Y) (n32_len _ _) (n32_len _ _) (n32_dig _ _) (n32_dig _ _)
  rwa [dv17 hX, dv17 hY] at h
theorem M4 : mF 4 = 7237005577332262213973186563042994240857116359379907606001950938285454250989 := rfl
theorem shift_in {X : Nat} {s : List UInt64} {i t : Nat} (ht : 7 ≤ t) (hl : s.length = 17) (hq : i + t - 7 < 17) (hz : List.getD s (i + t - 7) 0 = 0) (hv : dv 4294967296 s = dk (n32 17 X) i * 4294967296 ^ (t - 7)) :
    dv 4294967296 (List.set s (i + t - 7) (List.getD (n32 17 X) i 0)) = dk (n32 17 X) (i + 1) * 4294967296 ^ (t - 7) := by
  have e := dv_set 4294967296 (List.getD (n32 17 X) i 0) s (i + t - 7) (by omega)
  rw [hz, show (0 : UInt64).toNat = 0 from rfl, Nat.zero_mul, Nat.add_zero, hv] at e
  rw [e, dk, Nat.add_mul, show i + t - 7 = i + (t - 7) by omega, Nat.pow_add, Nat.mul_assoc]
theorem top_eq {t : Nat} (ht : 7 ≤ t) {s : List UInt64} (hl : s.length = 17) (hd : DG s) (hv : dv 4294967296 s = dk (n32 17 (mF 4)) 8 * 4294967296 ^ (t - 7)) : s = n32 17 (mF 4 * 2 ^ (32 * (t - 7))) := by
  refine n32_of hl hd ?_
  rw [hv, dk_n32 8 (by decide), show mF 4 % 4294967296 ^ 8 = mF 4 by decide, Nat.pow_mul]
theorem top_b {t : Nat} (ht : t ≤ 16) : mF 4 * 2 ^ (32 * (t - 7)) < 4294967296 ^ 17 := by
  rw [Nat.pow_mul]
  have h : 4294967296 ^ (t - 7) ≤ 4294967296 ^ 9 := Nat.pow_le_pow_right (by decide) (by omega)
  exact Nat.lt_of_le_of_lt (Nat.mul_le_mul_left _ h) (by decide)
theorem dig16 {X : Nat} (h : X < 4294967296 ^ 17) (h0 : (((List.getD (n32 17 X) 16 0).toNat : Nat) : Int) = (0 : Int)) : X < 4294967296 ^ 16 := by
  have e := n32_get 17 X 16 (by decide)
  rw [Nat.mod_eq_of_lt (Nat.div_lt_of_lt_mul h)] at e
  exact (Nat.div_eq_zero_iff_lt (by decide)).1 (e.symm.trans (by omega))
theorem dig16' {X : Nat} (h : X < 4294967296 ^ 17) (h0 : ¬ (((List.getD (n32 17 X) 16 0).toNat : Nat) : Int) = (0 : Int)) : 4294967296 ^ 16 ≤ X := by
  have e := n32_get 17 X 16 (by decide)
  rw [Nat.mod_eq_of_lt (Nat.div_lt_of_lt_mul h)] at e
  rcases Nat.lt_or_ge X (4294967296 ^ 16) with g | g
  · rw [Nat.div_eq_of_lt g] at e; omega
  · exact g
theorem p17 : (4294967296 : Nat) ^ 17 = 4294967296 * 4294967296 ^ 16 := by decide
theorem dbl_b {X : Nat} (h : X < 4294967296 ^ 16) : 2 * X < 4294967296 ^ 17 := by
  rw [p17]
  generalize 4294967296 ^ 16 = q at *
  omega
theorem dbl_e {X n : Nat} (h : X = mF 4 * 2 ^ n) : 2 * X = mF 4 * 2 ^ (n + 1) := by
  rw [h, Nat.pow_succ, Nat.mul_left_comm, Nat.mul_comm 2]
theorem out_1 {V X n : Nat} (hV : V < 4294967296 ^ 16) (hX : X = mF 4 * 2 ^ n) (hn : n = 512) : V < mF 4 * 2 ^ (n + 1) := by
  subst hn
  exact Nat.lt_trans hV (by decide +kernel)
theorem out_2 {V X n : Nat} (hV : V < 4294967296 ^ 16) (hX : X = mF 4 * 2 ^ n) (h : 4294967296 ^ 16 ≤ X) : V < mF 4 * 2 ^ (n + 1) := by
  rw [← dbl_e hX]
  generalize 4294967296 ^ 16 = q at *
  omega
theorem out_3 {V X n : Nat} (hX : X = mF 4 * 2 ^ n) (h : ¬ X < V) : V < mF 4 * 2 ^ (n + 1) := by
  rw [← dbl_e hX]
  have : 0 < X := by rw [hX]; exact Nat.mul_pos (by decide) (Nat.pow_pos (by decide))
  omega
theorem st_0 {X q : Nat} (h : X = mF 4 * 2 ^ q / 2) (hq : 1 ≤ q) : X = mF 4 * 2 ^ (q - 1) := by
  have e : 2 ^ q = 2 ^ (q - 1) * 2 := by rw [← Nat.pow_succ]; congr 1; omega
  rw [h, e, ← Nat.mul_assoc, Nat.mul_div_cancel _ (by decide)]
theorem st_y {X Y q : Nat} (h : X = mF 4 * 2 ^ q / 2) (hq : 1 ≤ q) (hY : Y < mF 4 * 2 ^ q) : Y - X < mF 4 * 2 ^ (q - 1) := by
  have e : 2 ^ q = 2 ^ (q - 1) * 2 := by rw [← Nat.pow_succ]; congr 1; omega
  rw [e, ← Nat.mul_assoc] at hY
  rw [st_0 h hq]
  have : 0 < mF 4 * 2 ^ (q - 1) := Nat.mul_pos (by decide) (Nat.pow_pos (by decide))
  omega
theorem st_m {X Y q V : Nat} (h : X = mF 4 * 2 ^ q / 2) (hq : 1 ≤ q) (hXY : ¬ Y < X) (hm : Y % mF 4 = V % mF 4) : (Y - X) % mF 4 = V % mF 4 := by
  have e := st_0 h hq
  rw [← hm]
  have e2 : Y = (Y - X) + mF 4 * 2 ^ (q - 1) := by rw [← e]; omega
  conv => rhs; rw [e2, Nat.add_mul_mod_self_left]
theorem sub_dig {u s b : UInt64} (hu : u.toNat < 4294967296) (hs : s.toNat < 4294967296) (hb : b.toNat ≤ 1) : ((u - s - b) &&& 4294967295).toNat + s.toNat + b.toNat = u.toNat + 4294967296 * ((u - s - b) >>> UInt64.ofNat 63).toNat ∧ ((u - s - b) >>> UInt64.ofNat 63).toNat ≤ 1 := by
  rw [and_low, shr_n _ (by decide), UInt64.toNat_sub, UInt64.toNat_sub]
  omega
theorem sub_in {X Y i : Nat} {u : List UInt64} {b : UInt64} (hl : u.length = 17) (hi : i < 17) (hd : DG u) (hb : b.toNat ≤ 1) (hv : dv 4294967296 u + dk (n32 17 X) i = Y + b.toNat * 4294967296 ^ i) :
    dv 4294967296 (List.set u i ((List.getD u i 0 - List.getD (n32 17 X) i 0 - b) &&& 4294967295)) + dk (n32 17 X) (i + 1) = Y + ((List.getD u i 0 - List.getD (n32 17 X) i 0 - b) >>> UInt64.ofNat 63).toNat * 4294967296 ^ (i + 1) := by
  obtain ⟨h, _⟩ := sub_dig (hd i) (n32_dig 17 X i) hb
  have e := dv_set 4294967296 ((List.getD u i 0 - List.getD (n32 17 X) i 0 - b) &&& 4294967295) u i (by omega)
  have m := congrArg (· * 4294967296 ^ i) h
  simp only [Nat.add_mul] at m
  rw [dk, Nat.pow_succ, Nat.mul_comm (4294967296 ^ i), ← Nat.mul_assoc, Nat.mul_comm _ 4294967296]
  generalize 4294967296 ^ i = q at *
  omega
theorem sub_all {X Y i : Nat} {u : List UInt64} {b : UInt64} (hl : u.length = 17) (hi : i = 17) (hd : DG u) (hX : X < 4294967296 ^ 17) (hXY : ¬ Y < X) (hY : Y < 4294967296 ^ 17) (hv : dv 4294967296 u + dk (n32 17 X) i = Y + b.toNat * 4294967296 ^ i) : u = n32 17 (Y - X) := by
  refine n32_of hl hd ?_
  subst hi
  have h := dv_lt32' hd
  rw [hl] at h
  rw [dk_n32 17 (Nat.le_refl _), Nat.mod_eq_of_lt hX] at hv
  rcases Nat.eq_zero_or_pos b.toNat with z | z
  · rw [z] at hv; omega
  · have := Nat.le_mul_of_pos_left (4294967296 ^ 17) z
    omega

theorem slowly_go (w : World) (V : Nat) (hV : V < 4294967296 ^ 16) : Calls Try.prog 63 #[.agg (List.toArray (u64s (nd (mF 4)))), .agg (List.toArray (u64s (n32 17 V)))] w fun e w' => e = .returned (.agg (List.toArray (u64s (nd (V % mF 4))))) ∧ Ev w [] w' [] := by
 have hVb : V < 4294967296 ^ 17 := Nat.lt_trans hV (by decide)
 refine d_0 [(0, .agg (List.toArray (u64s (nd (mF 4))))), (1, .agg (List.toArray (u64s (n32 17 V))))] 112 Go.Proofs.Try.func63 Go.Proofs.Try.ntmps63 (Heap.nil _) fun act0 En0 Hv0 => ?_
 refine wp_seq ?_
 refine region_from ?_
 refine f_o ?_
 refine m_m 25 (u64s (nd (mF 4))) En0 Hv0 fun ac2 wo3 bk1 En4 Hv5 => ?_
 refine f_o ?_
 refine m_m 54 (u64s (n32 17 V)) En4 Hv5 fun ac7 wo8 bk6 En9 Hv10 => ?_
 refine f_o ?_
 refine m_z 25 (u64s (List.replicate 4 0)) En9 Hv10 fun ac12 wo13 bk11 En14 Hv15 => ?_
 refine f_e ?_
 refine then_normal ?_
 refine wp_seq ?_
 refine region_from ?_
 refine f_o ?_
 refine m_a 0 0 4 (u64s (nd (mF 4))) En14 Hv15 rfl (load_whole (u64s_lenh (nds_len _ _))) (u64s_lenh (nds_len _ _)) fun ac16 En17 => ?_
 refine f_o ?_
 refine c_p En17 Hv15 (digits_go _ (nd (mF 4)) (nds_len _ _)) fun ac22 wo19 En23 Hv24 => ?_
 refine f_o ?_
 refine m_z 54 (u64s (List.replicate 17 0)) En23 Hv24 fun ac26 wo27 bk25 En28 Hv29 => ?_
 refine f_o ?_
 refine m_g 3 0 17 (u64s (n32 17 (nv (nd (mF 4))))) (u64s (n32 17 (nv (nd (mF 4))))) [.box bk1 (u64s (nd (mF 4))) 25, .box bk6 (u64s (n32 17 V)) 54, .box bk11 (u64s (List.replicate 4 0)) 25, .box bk25 (u64s (n32 17 (nv (nd (mF 4))))) 54] En28 Hv29 rfl (u64s_lenh (n32_len _ _)) (by rw [(u64s_lenh (List.length_replicate))]; decide) (u64s_one _) (store_whole (u64s_lenh (List.length_replicate))) rfl fun ac30 wo31 En32 Hv33 => ?_
 refine f_e ?_
 refine then_normal ?_
 refine wp_seq ?_
 rw [nv_mF] at Hv33
 refine d_r [3,4,5,6] [] En32 fun ac34 En35 => ?_
 refine then_normal ?_
 refine wp_seq ?_
 refine region_cut (F := fun ac wo => ∃ (t : Nat), Env ac 112 [(3, pt bk6), (4, pt bk11), (5, pt bk25), (6, ni t)] ∧ Ev w [] wo [.box bk6 (u64s (n32 17 V)) 54, .box bk11 (u64s (List.replicate 4 0)) 25, .box bk25 (u64s (n32 17 (mF 4))) 54] ∧ (7 ≤ t) ∧ (t ≤ 16)) ?_ ?_
 ·
  refine wp_block ?_
  refine loop_m (fun ms36 ac wo => ∃ (t : Nat), ms36 = (t + 1 : Nat) ∧ Env ac 112 [(3, pt bk6), (4, pt bk11), (5, pt bk25), (6, ni t)] ∧ Ev w [] wo [.box bk6 (u64s (n32 17 V)) 54, .box bk11 (u64s (List.replicate 4 0)) 25, .box bk25 (u64s (n32 17 (mF 4))) 54] ∧ (7 ≤ t) ∧ (t ≤ 16) ∧ (∀ j, t < j → List.getD (n32 17 V) j 0 = 0)) ⟨_, 16, rfl, En35.sb, Hv33.pk [1, 2, 3], by omega, by omega, fun j hj => by rw [List.getD_eq_getElem?_getD, List.getElem?_eq_none (by rw [n32_len]; omega)]; rfl⟩ ?_
  rintro mm42 ac38 wo39 ⟨t, rfl, En40, Hv41, ht7, ht16, hz⟩
  refine wp_seq ?_
  refine wp_seq ?_
  refine region_from ?_
  refine d_k [3,4,5,6,19] [] 3 En40 fun ac43 En44 => ?_
  rcases Bool.eq_false_or_eq_true (decide (((t : Nat) : Int) > (7 : Int))) with hb45 | hb45
  ·
   have En46 := En44.fx (t := 19) (congrArg Value.bool hb45)
   have hp47 : ((t : Nat) : Int) > (7 : Int) := of_decide_eq_true hb45
   refine d_k [3,4,5,6,19,20] [] 4 En46 fun ac48 En49 => ?_
   refine f_o ?_
   refine q_v (x := Instr.indexAt 54 (pt bk6) (ni t)) (v := .pointer (some ⟨bk6, t, none⟩)) En49 (Go.Dbr.run_indexarr (e := 23) (sz := 1) (m := 17) (j := t) (o := t) (by kernel_rfl) (by kernel_rfl) (by omega) (by omega) (by omega) _) fun ac50 En51 => ?_
   refine f_o ?_
   have hb52 : t < List.length (n32 17 V) := by rw [(n32_len _ _)]; omega
   refine m_v 0 t (uv64 (List.getD (n32 17 V) t 0)) En51 Hv41 rfl (u64s_getD hb52) fun ac53 En54 => ?_
   refine d_e [3,4,5,6,24] [] En54 fun ac55 En56 => ?_
   refine then_normal ?_
   refine c_e ((UInt64.toNat (List.getD (n32 17 V) t 0) : Nat) : Int) (0 : Int) En56 (fun hc57 => ?_) (fun hc57 => ?_)
   ·
    refine wp_skip ?_
    refine then_normal ?_
    refine wp_block ?_
    refine d_r [3,4,5,6] [(1, g_n (w_r (e := ((t : Nat) : Int) - (1 : Int)) (x := ((t - 1 : Nat) : Int)) (by omega)))] En56 fun ac58 En59 => ?_
    refine block_normal ?_
    refine then_normal ?_
    refine ⟨_, ⟨t - 1, rfl, En59.sb, Hv41.pk [0, 1, 2], by omega, by omega, fun j hj => by by_cases e : j = t <;> first | (subst e; apply UInt64.toNat_inj.1; rw [show (0 : UInt64).toNat = 0 from rfl]; omega) | exact hz j (by omega)⟩, ?_⟩
    omega
   ·
    refine wp_exit ?_
    refine then_exit ?_
    refine then_exit ?_
    refine block_exit ?_
    exact ⟨rfl, ⟨t, En56.sb, Hv41.pk [0, 1, 2], by omega, by omega⟩⟩
  ·
   have En60 := En44.fx (t := 19) (congrArg Value.bool hb45)
   have hp61 : ¬ (((t : Nat) : Int) > (7 : Int)) := of_decide_eq_false hb45
   refine d_e [3,4,5,6,24] [] En60 fun ac62 En63 => ?_
   refine then_normal ?_
   refine c_f En63 ?_
   refine wp_exit ?_
   refine then_exit ?_
   refine then_exit ?_
   refine block_exit ?_
   exact ⟨rfl, ⟨t, En63.sb, Hv41.pk [0, 1, 2], by omega, by omega⟩⟩
 ·
  rintro ac64 wo65 ⟨t, En66, Hv67, ht7, ht16⟩
  refine then_normal ?_
  refine wp_seq ?_
  refine region_from ?_
  refine f_o ?_
  refine m_z 54 (u64s (List.replicate 17 0)) En66 Hv67 fun ac69 wo70 bk68 En71 Hv72 => ?_
  refine f_e ?_
  refine then_normal ?_
  refine wp_seq ?_
  refine wp_seq ?_
  refine d_r [3,4,5,6,7,8] [] En71 fun ac73 En74 => ?_
  refine then_normal ?_
  refine wp_block ?_
  refine loop_m (fun ms75 ac wo => ∃ (i1 : Nat) (s : List UInt64), ms75 = (9 - i1 : Nat) ∧ Env ac 112 [(3, pt bk6), (4, pt bk11), (5, pt bk25), (6, ni t), (7, pt bk68), (8, ni i1)] ∧ Ev w [] wo [.box bk68 (u64s s) 54, .box bk6 (u64s (n32 17 V)) 54, .box bk11 (u64s (List.replicate 4 0)) 25, .box bk25 (u64s (n32 17 (mF 4))) 54] ∧ (i1 ≤ 8) ∧ (List.length s = 17) ∧ (DG s) ∧ (dv 4294967296 s = dk (n32 17 (mF 4)) i1 * 4294967296 ^ (t - 7)) ∧ (∀ j, i1 + t - 7 ≤ j → List.getD s j 0 = 0)) ⟨_, 0, List.replicate 17 0, rfl, En74.sb, Hv72.pk [3, 0, 1, 2], by omega, List.length_replicate, DG.rep, by rw [dv_replicate]; simp [dk], fun j _ => zeros17 j⟩ ?_
  rintro mm81 ac77 wo78 ⟨i1, s, rfl, En79, Hv80, hi, hs, hds, hv, hzs⟩
  refine wp_seq ?_
  refine wp_seq ?_
  refine d_r [3,4,5,6,7,8,28] [] En79 fun ac82 En83 => ?_
  refine then_normal ?_
  refine c_d (((i1 : Nat) : Int) < (8 : Int)) En83 (fun hc84 => ?_) (fun hc84 => ?_)
  ·
   refine wp_skip ?_
   refine then_normal ?_
   refine wp_seq ?_
   refine wp_block ?_
   refine region_from ?_
   refine d_k [3,4,5,6,7,8,34,35] [(2, g_n (w_a i1 t)), (3, g_n (w_r (e := ((i1 + t : Nat) : Int) - (7 : Int)) (x := (((i1 + t) - 7 : Nat) : Int)) (by omega)))] 5 En83 fun ac85 En86 => ?_
   refine f_o ?_
   refine q_v (x := Instr.indexAt 54 (pt bk25) (ni i1)) (v := .pointer (some ⟨bk25, i1, none⟩)) En86 (Go.Dbr.run_indexarr (e := 23) (sz := 1) (m := 17) (j := i1) (o := i1) (by kernel_rfl) (by kernel_rfl) (by omega) (by omega) (by omega) _) fun ac87 En88 => ?_
   refine f_o ?_
   have hb89 : i1 < List.length (n32 17 (mF 4)) := by rw [(n32_len _ _)]; omega
   refine m_v 3 i1 (uv64 (List.getD (n32 17 (mF 4)) i1 0)) En88 Hv80 rfl (u64s_getD hb89) fun ac90 En91 => ?_
   refine f_o ?_
   refine q_v (x := Instr.indexAt 54 (pt bk68) (ni ((i1 + t) - 7))) (v := .pointer (some ⟨bk68, (i1 + t) - 7, none⟩)) En91 (Go.Dbr.run_indexarr (e := 23) (sz := 1) (m := 17) (j := (i1 + t) - 7) (o := (i1 + t) - 7) (by kernel_rfl) (by kernel_rfl) (by omega) (by omega) (by omega) _) fun ac92 En93 => ?_
   refine f_o ?_
   have hb94 : (i1 + t) - 7 < List.length s := by rw [hs]; omega
   refine m_t 0 ((i1 + t) - 7) (uv64 (List.getD (n32 17 (mF 4)) i1 0)) [.box bk68 (u64s (List.set s ((i1 + t) - 7) (List.getD (n32 17 (mF 4)) i1 0))) 54, .box bk6 (u64s (n32 17 V)) 54, .box bk11 (u64s (List.replicate 4 0)) 25, .box bk25 (u64s (n32 17 (mF 4))) 54] En93 Hv80 rfl (u64s_getD hb94) (u64s_set _ _ _) rfl fun ac95 wo96 En97 Hv98 => ?_
   refine f_e ?_
   refine block_normal ?_
   refine then_normal ?_
   refine d_r [3,4,5,6,7,8] [(1, g_n (w_a i1 1))] En97 fun ac99 En100 => ?_
   refine then_normal ?_
   refine ⟨_, ⟨i1 + 1, (List.set s ((i1 + t) - 7) (List.getD (n32 17 (mF 4)) i1 0)), rfl, En100.sb, Hv98.pk [0, 1, 2, 3], by omega, (by simp [hs]), hds.set (n32_dig _ _ _), shift_in ht7 hs (by omega) (hzs _ (by omega)) hv, fun j hj => by rw [getD_set_ne _ (by omega)]; exact hzs j (by omega)⟩, ?_⟩
   omega
  ·
   refine wp_exit ?_
   refine then_exit ?_
   refine then_exit ?_
   refine block_exit ?_
   refine then_normal ?_
   refine wp_seq ?_
   have hi8 : i1 = 8 := by omega
   rw [hi8] at hv
   have hse := top_eq ht7 hs hds hv
   rw [hse] at Hv80
   refine d_r [3,4,5,6,7,8,9] [(1, g_n (w_r (e := ((t : Nat) : Int) - (7 : Int)) (x := ((t - 7 : Nat) : Int)) (by omega))), (2, g_n (w_m 32 (t - 7)))] En83 fun ac101 En102 => ?_
   refine then_normal ?_
   refine wp_seq ?_
   refine region_cut (F := fun ac wo => ∃ (n : Nat) (X : Nat), Env ac 112 [(3, pt bk6), (4, pt bk11), (5, pt bk25), (6, ni t), (7, pt bk68), (8, ni i1), (9, ni n)] ∧ Ev w [] wo [.box bk6 (u64s (n32 17 V)) 54, .box bk11 (u64s (List.replicate 4 0)) 25, .box bk68 (u64s (n32 17 X)) 54] ∧ (X < 4294967296 ^ 17) ∧ (X = mF 4 * 2 ^ n) ∧ (n ≤ 512) ∧ (V < mF 4 * 2 ^ (n + 1))) ?_ ?_
   ·
    refine wp_block ?_
    refine loop_m (fun ms103 ac wo => ∃ (n : Nat) (X : Nat), ms103 = (513 - n : Nat) ∧ Env ac 112 [(3, pt bk6), (4, pt bk11), (5, pt bk25), (6, ni t), (7, pt bk68), (8, ni i1), (9, ni n)] ∧ Ev w [] wo [.box bk68 (u64s (n32 17 X)) 54, .box bk6 (u64s (n32 17 V)) 54, .box bk11 (u64s (List.replicate 4 0)) 25, .box bk25 (u64s (n32 17 (mF 4))) 54] ∧ (n ≤ 512) ∧ (X < 4294967296 ^ 17) ∧ (X = mF 4 * 2 ^ n)) ⟨_, 32 * (t - 7), mF 4 * 2 ^ (32 * (t - 7)), rfl, En102.sb, Hv80.pk [0, 1, 2, 3], by omega, top_b ht16, rfl⟩ ?_
    rintro mm109 ac105 wo106 ⟨n, X, rfl, En107, Hv108, hn, hXb, hX⟩
    refine wp_seq ?_
    refine wp_seq ?_
    refine region_from ?_
    refine d_k [3,4,5,6,7,8,9,44] [] 3 En107 fun ac110 En111 => ?_
    rcases Bool.eq_false_or_eq_true (decide (((n : Nat) : Int) < (512 : Int))) with hb112 | hb112
    ·
     have En113 := En111.fx (t := 44) (congrArg Value.bool hb112)
     have hp114 : ((n : Nat) : Int) < (512 : Int) := of_decide_eq_true hb112
     refine d_k [3,4,5,6,7,8,9,44,45] [] 4 En113 fun ac115 En116 => ?_
     refine f_o ?_
     have hb117 : 16 < List.length (n32 17 X) := by rw [(n32_len _ _)]; omega
     refine m_v 0 16 (uv64 (List.getD (n32 17 X) 16 0)) En116 Hv108 rfl (u64s_getD hb117) fun ac118 En119 => ?_
     refine d_k [3,4,5,6,7,8,9,49] [] 8 En119 fun ac120 En121 => ?_
     rcases Bool.eq_false_or_eq_true (((UInt64.toNat (List.getD (n32 17 X) 16 0) : Nat) : Int) == (0 : Int)) with hb122 | hb122
     ·
      have En123 := En121.fx (t := 49) (congrArg Value.bool hb122)
      have hp124 : ((UInt64.toNat (List.getD (n32 17 X) 16 0) : Nat) : Int) = (0 : Int) := eq_of_beq hb122
      refine f_o ?_
      refine m_a 0 0 17 (u64s (n32 17 X)) En123 Hv108 rfl (load_whole (u64s_lenh (n32_len _ _))) (u64s_lenh (n32_len _ _)) fun ac125 En126 => ?_
      refine f_o ?_
      refine m_a 1 0 17 (u64s (n32 17 V)) En126 Hv108 rfl (load_whole (u64s_lenh (n32_len _ _))) (u64s_lenh (n32_len _ _)) fun ac127 En128 => ?_
      refine f_o ?_
      refine c_p En128 Hv108 (lower_n _ X V (by assumption) (by assumption)) fun ac133 wo130 En134 Hv135 => ?_
      refine d_e [3,4,5,6,7,8,9,53] [] En134 fun ac136 En137 => ?_
      refine then_normal ?_
      refine c_d (X < V) En137 (fun hc138 => ?_) (fun hc138 => ?_)
      ·
       refine wp_skip ?_
       refine then_normal ?_
       refine wp_block ?_
       refine wp_seq ?_
       refine region_from ?_
       refine f_o ?_
       refine m_z 54 (u64s (List.replicate 17 0)) En137 Hv135 fun ac140 wo141 bk139 En142 Hv143 => ?_
       refine f_e ?_
       refine then_normal ?_
       refine wp_seq ?_
       refine wp_seq ?_
       refine d_r [3,4,5,6,7,8,9,10,11] [] En142 fun ac144 En145 => ?_
       refine then_normal ?_
       refine wp_block ?_
       refine loop_m (fun ms146 ac wo => ∃ (i3 : Nat) (u : List UInt64), ms146 = (18 - i3 : Nat) ∧ Env ac 112 [(3, pt bk6), (4, pt bk11), (5, pt bk25), (6, ni t), (7, pt bk68), (8, ni i1), (9, ni n), (10, pt bk139), (11, ni i3)] ∧ Ev w [] wo [.box bk139 (u64s u) 54, .box bk68 (u64s (n32 17 X)) 54, .box bk6 (u64s (n32 17 V)) 54, .box bk11 (u64s (List.replicate 4 0)) 25, .box bk25 (u64s (n32 17 (mF 4))) 54] ∧ (i3 ≤ 17) ∧ (List.length u = 17) ∧ (Two (2 * X) 0 i3 u)) ⟨_, 0, List.replicate 17 0, rfl, En145.sb, Hv143.pk [4, 0, 1, 2, 3], by omega, List.length_replicate, Two.zeros⟩ ?_
       rintro mm152 ac148 wo149 ⟨i3, u, rfl, En150, Hv151, hi, hu, h2⟩
       refine wp_seq ?_
       refine wp_seq ?_
       refine d_r [3,4,5,6,7,8,9,10,11,55] [] En150 fun ac153 En154 => ?_
       refine then_normal ?_
       refine c_d (((i3 : Nat) : Int) < (17 : Int)) En154 (fun hc155 => ?_) (fun hc155 => ?_)
       ·
        refine wp_skip ?_
        refine then_normal ?_
        refine wp_seq ?_
        refine wp_block ?_
        refine wp_seq ?_
        refine region_from ?_
        refine d_k [3,4,5,6,7,8,9,10,11,58,59] [] 2 En154 fun ac156 En157 => ?_
        refine f_o ?_
        refine q_v (x := Instr.indexAt 54 (pt bk68) (ni i3)) (v := .pointer (some ⟨bk68, i3, none⟩)) En157 (Go.Dbr.run_indexarr (e := 23) (sz := 1) (m := 17) (j := i3) (o := i3) (by kernel_rfl) (by kernel_rfl) (by omega) (by omega) (by omega) _) fun ac158 En159 => ?_
        refine f_o ?_
        have hb160 : i3 < List.length (n32 17 X) := by rw [(n32_len _ _)]; omega
        refine m_v 1 i3 (uv64 (List.getD (n32 17 X) i3 0)) En159 Hv151 rfl (u64s_getD hb160) fun ac161 En162 => ?_
        refine d_k [3,4,5,6,7,8,9,10,11,58,63] [(4, g_i .u64 (Go.Dbr.u64_shl (x := List.getD (n32 17 X) i3 0) (n := 1) rfl (by decide))), (5, g_i .u64 (Go.Dbr.u64_and (x := (List.getD (n32 17 X) i3 0) <<< UInt64.ofNat 1) (y := (4294967295 : UInt64)) rfl rfl))] 6 En162 fun ac163 En164 => ?_
        refine f_o ?_
        refine q_v (x := Instr.indexAt 54 (pt bk139) (ni i3)) (v := .pointer (some ⟨bk139, i3, none⟩)) En164 (Go.Dbr.run_indexarr (e := 23) (sz := 1) (m := 17) (j := i3) (o := i3) (by kernel_rfl) (by kernel_rfl) (by omega) (by omega) (by omega) _) fun ac165 En166 => ?_
        refine f_o ?_
        have hb167 : i3 < List.length u := by rw [hu]; omega
        refine m_t 0 i3 (uv64 (((List.getD (n32 17 X) i3 0) <<< UInt64.ofNat 1) &&& (4294967295 : UInt64))) [.box bk139 (u64s (List.set u i3 (((List.getD (n32 17 X) i3 0) <<< UInt64.ofNat 1) &&& (4294967295 : UInt64)))) 54, .box bk68 (u64s (n32 17 X)) 54, .box bk6 (u64s (n32 17 V)) 54, .box bk11 (u64s (List.replicate 4 0)) 25, .box bk25 (u64s (n32 17 (mF 4))) 54] En166 Hv151 rfl (u64s_getD hb167) (u64s_set _ _ _) rfl fun ac168 wo169 En170 Hv171 => ?_
        refine f_e ?_
        refine then_normal ?_
        refine wp_seq ?_
        refine d_r [3,4,5,6,7,8,9,10,11,66] [] En170 fun ac172 En173 => ?_
        refine then_normal ?_
        refine c_d (((i3 : Nat) : Int) > (0 : Int)) En173 (fun hc174 => ?_) (fun hc174 => ?_)
        ·
         refine r_c (fun ac wo => Env ac 112 [(3, pt bk6), (4, pt bk11), (5, pt bk25), (6, ni t), (7, pt bk68), (8, ni i1), (9, ni n), (10, pt bk139), (11, ni i3)] ∧ Ev w [] wo [.box bk139 (u64s (List.set (List.set u i3 (((List.getD (n32 17 X) i3 0) <<< UInt64.ofNat 1) &&& (4294967295 : UInt64))) i3 ((List.getD (List.set u i3 (((List.getD (n32 17 X) i3 0) <<< UInt64.ofNat 1) &&& (4294967295 : UInt64))) i3 0) ||| ((List.getD (n32 17 X) (i3 - 1) 0) >>> UInt64.ofNat 31)))) 54, .box bk68 (u64s (n32 17 X)) 54, .box bk6 (u64s (n32 17 V)) 54, .box bk11 (u64s (List.replicate 4 0)) 25, .box bk25 (u64s (n32 17 (mF 4))) 54]) ?_ ?_
         ·
          refine h_s (fun wv => Ev w [] wv [.box bk139 (u64s (List.set u i3 (((List.getD (n32 17 X) i3 0) <<< UInt64.ofNat 1) &&& (4294967295 : UInt64)))) 54, .box bk68 (u64s (n32 17 X)) 54]) [11] 12 ?_
          have wo175 := Hv171.trans (Ev.drew Hv171.heap)
          refine q_s [0,1] [] 10 En173 (wo175.pk [0, 1]) fun ac239 En240 => ?_
          refine q_f 2 (s := Instr.indexAt 54 (pt bk139) (ni i3)) (v := .pointer (some ⟨bk139, i3, none⟩)) En240 (fun _ => Go.Dbr.run_indexarr (e := 23) (sz := 1) (m := 17) (j := i3) (o := i3) (by kernel_rfl) (by kernel_rfl) (by omega) (by omega) (by omega) _) (fun _ => wo175.pk [0, 1]) fun ac241 En242 => ?_
          have hb243 : i3 < List.length (List.set u i3 (((List.getD (n32 17 X) i3 0) <<< UInt64.ofNat 1) &&& (4294967295 : UInt64))) := by rw [(List.length_set.trans hu)]; omega
          refine q_r 3 (s := Instr.loadAt 23 (.pointer (some ⟨bk139, i3, none⟩))) (v := uv64 (List.getD (List.set u i3 (((List.getD (n32 17 X) i3 0) <<< UInt64.ofNat 1) &&& (4294967295 : UInt64))) i3 0)) En242 (fun w hS => run_load1 (by kernel_rfl) (hS.heap.cell (k := 0) rfl (u64s_getD hb243))) (wo175.pk [0, 1]) fun ac244 En245 => ?_
          refine q_s [4,5] [(5, g_n (w_r (e := ((i3 : Nat) : Int) - (1 : Int)) (x := ((i3 - 1 : Nat) : Int)) (by omega)))] 6 En245 (wo175.pk [0, 1]) fun ac246 En247 => ?_
          refine q_f 6 (s := Instr.indexAt 54 (pt bk68) (ni (i3 - 1))) (v := .pointer (some ⟨bk68, i3 - 1, none⟩)) En247 (fun _ => Go.Dbr.run_indexarr (e := 23) (sz := 1) (m := 17) (j := i3 - 1) (o := i3 - 1) (by kernel_rfl) (by kernel_rfl) (by omega) (by omega) (by omega) _) (fun _ => wo175.pk [0, 1]) fun ac248 En249 => ?_
          have hb250 : i3 - 1 < List.length (n32 17 X) := by rw [(n32_len _ _)]; omega
          refine q_r 7 (s := Instr.loadAt 23 (.pointer (some ⟨bk68, i3 - 1, none⟩))) (v := uv64 (List.getD (n32 17 X) (i3 - 1) 0)) En249 (fun w hS => run_load1 (by kernel_rfl) (hS.heap.cell (k := 1) rfl (u64s_getD hb250))) (wo175.pk [0, 1]) fun ac251 En252 => ?_
          refine q_s [8,9] [(8, g_i .u64 (Go.Dbr.u64_shr (x := List.getD (n32 17 X) (i3 - 1) 0) (n := 31) rfl (by decide))), (9, g_i .u64 (Go.Dbr.u64_or (x := List.getD (List.set u i3 (((List.getD (n32 17 X) i3 0) <<< UInt64.ofNat 1) &&& (4294967295 : UInt64))) i3 0) (y := (List.getD (n32 17 X) (i3 - 1) 0) >>> UInt64.ofNat 31) rfl rfl))] 2 En252 (wo175.pk [0, 1]) fun ac253 En254 => ?_
          refine q_f 10 (s := Instr.indexAt 54 (pt bk139) (ni i3)) (v := .pointer (some ⟨bk139, i3, none⟩)) En254 (fun _ => Go.Dbr.run_indexarr (e := 23) (sz := 1) (m := 17) (j := i3) (o := i3) (by kernel_rfl) (by kernel_rfl) (by omega) (by omega) (by omega) _) (fun _ => wo175.pk [0, 1]) fun ac255 En256 => ?_
          refine q_t 11 ?_
          have hb257 : i3 < List.length (List.set u i3 (((List.getD (n32 17 X) i3 0) <<< UInt64.ofNat 1) &&& (4294967295 : UInt64))) := by rw [(List.length_set.trans hu)]; omega
          refine m_t 0 i3 (uv64 ((List.getD (List.set u i3 (((List.getD (n32 17 X) i3 0) <<< UInt64.ofNat 1) &&& (4294967295 : UInt64))) i3 0) ||| ((List.getD (n32 17 X) (i3 - 1) 0) >>> UInt64.ofNat 31))) [.box bk139 (u64s (List.set (List.set u i3 (((List.getD (n32 17 X) i3 0) <<< UInt64.ofNat 1) &&& (4294967295 : UInt64))) i3 ((List.getD (List.set u i3 (((List.getD (n32 17 X) i3 0) <<< UInt64.ofNat 1) &&& (4294967295 : UInt64))) i3 0) ||| ((List.getD (n32 17 X) (i3 - 1) 0) >>> UInt64.ofNat 31)))) 54, .box bk68 (u64s (n32 17 X)) 54, .box bk6 (u64s (n32 17 V)) 54, .box bk11 (u64s (List.replicate 4 0)) 25, .box bk25 (u64s (n32 17 (mF 4))) 54] En256 wo175 rfl (u64s_getD hb257) (u64s_set _ _ _) rfl fun ac258 wo259 En260 Hv261 => ?_
          refine ⟨q_y, ?_⟩
          exact h_e ⟨En260.sb, Hv261.pk [0, 1, 2, 3, 4]⟩
         rintro ac262 wo263 ⟨En264, Hv265⟩
         refine block_normal ?_
         refine then_normal ?_
         refine d_r [3,4,5,6,7,8,9,10,11] [(1, g_n (w_a i3 1))] En264 fun ac266 En267 => ?_
         refine then_normal ?_
         refine ⟨_, ⟨i3 + 1, (List.set (List.set u i3 (((List.getD (n32 17 X) i3 0) <<< UInt64.ofNat 1) &&& (4294967295 : UInt64))) i3 ((List.getD (List.set u i3 (((List.getD (n32 17 X) i3 0) <<< UInt64.ofNat 1) &&& (4294967295 : UInt64))) i3 0) ||| ((List.getD (n32 17 X) (i3 - 1) 0) >>> UInt64.ofNat 31))), rfl, En267.sb, Hv265.pk [0, 1, 2, 3, 4], by omega, (by simp [hu]), (by first | exact dbl_in hu (by omega) (by omega) h2 | exact dbl_0 hu (by omega) h2)⟩, ?_⟩
         omega
        ·
         refine wp_skip ?_
         refine block_normal ?_
         refine then_normal ?_
         refine d_r [3,4,5,6,7,8,9,10,11] [(1, g_n (w_a i3 1))] En173 fun ac268 En269 => ?_
         refine then_normal ?_
         refine ⟨_, ⟨i3 + 1, (List.set u i3 (((List.getD (n32 17 X) i3 0) <<< UInt64.ofNat 1) &&& (4294967295 : UInt64))), rfl, En269.sb, Hv171.pk [0, 1, 2, 3, 4], by omega, (by simp [hu]), (by first | exact dbl_in hu (by omega) (by omega) h2 | exact dbl_0 hu (by omega) h2)⟩, ?_⟩
         omega
       ·
        refine wp_exit ?_
        refine then_exit ?_
        refine then_exit ?_
        refine block_exit ?_
        refine then_normal ?_
        refine wp_seq ?_
        have hue := Two.all hu (by omega) h2
        rw [hue] at Hv151
        refine region_from ?_
        refine f_o ?_
        refine m_a 0 0 17 (u64s (n32 17 (2 * X))) En154 Hv151 rfl (load_whole (u64s_lenh (n32_len _ _))) (u64s_lenh (n32_len _ _)) fun ac270 En271 => ?_
        refine f_o ?_
        refine m_g 1 0 17 (u64s (n32 17 (2 * X))) (u64s (n32 17 (2 * X))) [.box bk139 (u64s (n32 17 (2 * X))) 54, .box bk68 (u64s (n32 17 (2 * X))) 54, .box bk6 (u64s (n32 17 V)) 54, .box bk11 (u64s (List.replicate 4 0)) 25, .box bk25 (u64s (n32 17 (mF 4))) 54] En271 Hv151 rfl (u64s_lenh (n32_len _ _)) (by rw [(u64s_lenh (n32_len _ _))]; decide) (u64s_one _) (store_whole (u64s_lenh (n32_len _ _))) rfl fun ac272 wo273 En274 Hv275 => ?_
        refine f_e ?_
        refine then_normal ?_
        refine d_r [3,4,5,6,7,8,9,10,11] [(1, g_n (w_a n 1))] En274 fun ac276 En277 => ?_
        refine block_normal ?_
        refine then_normal ?_
        refine ⟨_, ⟨n + 1, (2 * X), rfl, En277.sb, Hv275.pk [1, 2, 3, 4], by omega, dbl_b (dig16 hXb (by assumption)), dbl_e hX⟩, ?_⟩
        omega
      ·
       refine wp_exit ?_
       refine then_exit ?_
       refine then_exit ?_
       refine block_exit ?_
       exact ⟨rfl, ⟨n, X, En137.sb, Hv135.pk [1, 2, 0], hXb, hX, hn, by first | exact out_3 hX (by assumption) | exact out_2 hV hX (dig16' hXb (by assumption)) | exact out_1 hV hX (by omega)⟩⟩
     ·
      have En278 := En121.fx (t := 49) (congrArg Value.bool hb122)
      have hp279 : ¬ (((UInt64.toNat (List.getD (n32 17 X) 16 0) : Nat) : Int) = (0 : Int)) := ne_of_beq_false hb122
      refine d_e [3,4,5,6,7,8,9,53] [] En278 fun ac280 En281 => ?_
      refine then_normal ?_
      refine c_f En281 ?_
      refine wp_exit ?_
      refine then_exit ?_
      refine then_exit ?_
      refine block_exit ?_
      exact ⟨rfl, ⟨n, X, En281.sb, Hv108.pk [1, 2, 0], hXb, hX, hn, by first | exact out_3 hX (by assumption) | exact out_2 hV hX (dig16' hXb (by assumption)) | exact out_1 hV hX (by omega)⟩⟩
    ·
     have En282 := En111.fx (t := 44) (congrArg Value.bool hb112)
     have hp283 : ¬ (((n : Nat) : Int) < (512 : Int)) := of_decide_eq_false hb112
     refine d_e [3,4,5,6,7,8,9,53] [] En282 fun ac284 En285 => ?_
     refine then_normal ?_
     refine c_f En285 ?_
     refine wp_exit ?_
     refine then_exit ?_
     refine then_exit ?_
     refine block_exit ?_
     exact ⟨rfl, ⟨n, X, En285.sb, Hv108.pk [1, 2, 0], hXb, hX, hn, by first | exact out_3 hX (by assumption) | exact out_2 hV hX (dig16' hXb (by assumption)) | exact out_1 hV hX (by omega)⟩⟩
   ·
    rintro ac286 wo287 ⟨n, X, En288, Hv289, hXb, hX, hn, hlt⟩
    refine then_normal ?_
    refine wp_seq ?_
    refine wp_block ?_
    have En290 := Env.fx (t := 9) (v := ni n) (u := .int .i64 (((n + 1 : Nat) : Int) - (1 : Int))) En288 (congrArg (Value.int .i64) (show ((n : Nat) : Int) = ((n + 1 : Nat) : Int) - (1 : Int) by omega))
    refine loop_m (fun ms291 ac wo => ∃ (q : Nat) (Y : Nat) (X : Nat), ms291 = (q + 1 : Nat) ∧ Env ac 112 [(3, pt bk6), (4, pt bk11), (5, pt bk25), (6, ni t), (7, pt bk68), (8, ni i1), (9, .int .i64 (((q : Nat) : Int) - (1 : Int)))] ∧ Ev w [] wo [.box bk68 (u64s (n32 17 X)) 54, .box bk6 (u64s (n32 17 Y)) 54, .box bk11 (u64s (List.replicate 4 0)) 25] ∧ (X = mF 4 * 2 ^ q / 2) ∧ (Y < mF 4 * 2 ^ q) ∧ (Y % mF 4 = V % mF 4) ∧ (X < 4294967296 ^ 17) ∧ (Y < 4294967296 ^ 17) ∧ (q ≤ 600)) ⟨_, n + 1, V, X, rfl, En290.sb, Hv289.pk [2, 0, 1], by rw [← dbl_e hX, Nat.mul_div_cancel_left _ (by decide)], hlt, rfl, hXb, hVb, by omega⟩ ?_
    rintro mm297 ac293 wo294 ⟨q, Y, X, rfl, En295, Hv296, hX2, hY, hm, hXb, hYb, hq⟩
    refine wp_seq ?_
    refine wp_seq ?_
    refine d_r [3,4,5,6,7,8,9,82] [] En295 fun ac298 En299 => ?_
    refine then_normal ?_
    refine c_d (((q : Nat) : Int) - (1 : Int) ≥ (0 : Int)) En299 (fun hc300 => ?_) (fun hc300 => ?_)
    ·
     refine wp_skip ?_
     refine then_normal ?_
     refine wp_seq ?_
     refine wp_block ?_
     refine wp_seq ?_
     refine wp_seq ?_
     have En301 := Env.fx (t := 9) (v := .int .i64 (((q : Nat) : Int) - (1 : Int))) (u := ni (q - 1)) En299 (congrArg (Value.int .i64) (show ((q : Nat) : Int) - (1 : Int) = ((q - 1 : Nat) : Int) by omega))
     refine region_from ?_
     refine f_o ?_
     refine m_a 1 0 17 (u64s (n32 17 Y)) En301 Hv296 rfl (load_whole (u64s_lenh (n32_len _ _))) (u64s_lenh (n32_len _ _)) fun ac302 En303 => ?_
     refine f_o ?_
     refine m_a 0 0 17 (u64s (n32 17 X)) En303 Hv296 rfl (load_whole (u64s_lenh (n32_len _ _))) (u64s_lenh (n32_len _ _)) fun ac304 En305 => ?_
     refine f_o ?_
     refine c_p En305 Hv296 (lower_n _ Y X (by assumption) (by assumption)) fun ac310 wo307 En311 Hv312 => ?_
     refine d_e [3,4,5,6,7,8,9,88] [] En311 fun ac313 En314 => ?_
     refine then_normal ?_
     refine cond_at En314 (t := !(decide (Y < X))) (by kernel_rfl) (fun hc315 => ?_) (fun hc315 => ?_)
     ·
      replace hc315 : ¬ (Y < X) := by simpa using hc315
      refine wp_seq ?_
      refine d_r [3,4,5,6,7,8,9,12] [] En314 fun ac316 En317 => ?_
      refine then_normal ?_
      refine wp_seq ?_
      refine d_r [3,4,5,6,7,8,9,12,13] [] En317 fun ac318 En319 => ?_
      refine then_normal ?_
      refine wp_block ?_
      refine loop_m (fun ms320 ac wo => ∃ (i5 : Nat) (u : List UInt64) (b : UInt64), ms320 = (18 - i5 : Nat) ∧ Env ac 112 [(3, pt bk6), (4, pt bk11), (5, pt bk25), (6, ni t), (7, pt bk68), (8, ni i1), (9, ni (q - 1)), (12, uv64 b), (13, ni i5)] ∧ Ev w [] wo [.box bk6 (u64s u) 54, .box bk68 (u64s (n32 17 X)) 54, .box bk11 (u64s (List.replicate 4 0)) 25] ∧ (i5 ≤ 17) ∧ (List.length u = 17) ∧ (DG u) ∧ (b.toNat ≤ 1) ∧ (dv 4294967296 u + dk (n32 17 X) i5 = Y + b.toNat * 4294967296 ^ i5)) ⟨_, 0, n32 17 Y, 0, rfl, En319.sb, Hv312.pk [1, 0, 2], by omega, n32_len _ _, n32_dig _ _, by decide, by rw [dv17 hYb]; simp [dk]⟩ ?_
      rintro mm326 ac322 wo323 ⟨i5, u, b, rfl, En324, Hv325, hi, hu, hdu, hb, hvu⟩
      refine wp_seq ?_
      refine wp_seq ?_
      refine d_r [3,4,5,6,7,8,9,12,13,90] [] En324 fun ac327 En328 => ?_
      refine then_normal ?_
      refine c_d (((i5 : Nat) : Int) < (17 : Int)) En328 (fun hc329 => ?_) (fun hc329 => ?_)
      ·
       refine wp_skip ?_
       refine then_normal ?_
       refine wp_seq ?_
       refine wp_block ?_
       refine wp_seq ?_
       refine r_c (fun ac wo => Env ac 112 [(3, pt bk6), (4, pt bk11), (5, pt bk25), (6, ni t), (7, pt bk68), (8, ni i1), (9, ni (q - 1)), (12, uv64 b), (13, ni i5), (14, uv64 (((List.getD u i5 0) - (List.getD (n32 17 X) i5 0)) - b))] ∧ Ev w [] wo [.box bk6 (u64s u) 54, .box bk68 (u64s (n32 17 X)) 54, .box bk11 (u64s (List.replicate 4 0)) 25]) ?_ ?_
       ·
        refine h_s (fun wv => Ev w [] wv [.box bk6 (u64s u) 54, .box bk68 (u64s (n32 17 X)) 54]) [] 10 ?_
        have wo330 := Hv325.trans (Ev.drew Hv325.heap)
        refine q_s [0] [] 9 En328 (wo330.pk [0, 1]) fun ac373 En374 => ?_
        refine q_f 1 (s := Instr.indexAt 54 (pt bk6) (ni i5)) (v := .pointer (some ⟨bk6, i5, none⟩)) En374 (fun _ => Go.Dbr.run_indexarr (e := 23) (sz := 1) (m := 17) (j := i5) (o := i5) (by kernel_rfl) (by kernel_rfl) (by omega) (by omega) (by omega) _) (fun _ => wo330.pk [0, 1]) fun ac375 En376 => ?_
        have hb377 : i5 < List.length u := by rw [hu]; omega
        refine q_r 2 (s := Instr.loadAt 23 (.pointer (some ⟨bk6, i5, none⟩))) (v := uv64 (List.getD u i5 0)) En376 (fun w hS => run_load1 (by kernel_rfl) (hS.heap.cell (k := 0) rfl (u64s_getD hb377))) (wo330.pk [0, 1]) fun ac378 En379 => ?_
        refine q_s [3] [] 6 En379 (wo330.pk [0, 1]) fun ac380 En381 => ?_
        refine q_f 4 (s := Instr.indexAt 54 (pt bk68) (ni i5)) (v := .pointer (some ⟨bk68, i5, none⟩)) En381 (fun _ => Go.Dbr.run_indexarr (e := 23) (sz := 1) (m := 17) (j := i5) (o := i5) (by kernel_rfl) (by kernel_rfl) (by omega) (by omega) (by omega) _) (fun _ => wo330.pk [0, 1]) fun ac382 En383 => ?_
        have hb384 : i5 < List.length (n32 17 X) := by rw [(n32_len _ _)]; omega
        refine q_r 5 (s := Instr.loadAt 23 (.pointer (some ⟨bk68, i5, none⟩))) (v := uv64 (List.getD (n32 17 X) i5 0)) En383 (fun w hS => run_load1 (by kernel_rfl) (hS.heap.cell (k := 1) rfl (u64s_getD hb384))) (wo330.pk [0, 1]) fun ac385 En386 => ?_
        refine q_s [6,7,8,9] [(6, g_i .u64 (Go.Dbr.u64_sub (x := List.getD u i5 0) (y := List.getD (n32 17 X) i5 0) rfl rfl)), (8, g_i .u64 (Go.Dbr.u64_sub (x := (List.getD u i5 0) - (List.getD (n32 17 X) i5 0)) (y := b) rfl rfl))] 0 En386 (wo330.pk [0, 1]) fun ac387 En388 => ?_
        exact h_e ⟨En388.sb, wo330.pk [0, 1, 2]⟩
       rintro ac389 wo390 ⟨En391, Hv392⟩
       refine then_normal ?_
       refine wp_seq ?_
       refine region_from ?_
       refine d_k [3,4,5,6,7,8,9,12,13,14,102,104] [(2, g_i .u64 (Go.Dbr.u64_and (x := ((List.getD u i5 0) - (List.getD (n32 17 X) i5 0)) - b) (y := (4294967295 : UInt64)) rfl rfl))] 3 En391 fun ac393 En394 => ?_
       refine f_o ?_
       refine q_v (x := Instr.indexAt 54 (pt bk6) (ni i5)) (v := .pointer (some ⟨bk6, i5, none⟩)) En394 (Go.Dbr.run_indexarr (e := 23) (sz := 1) (m := 17) (j := i5) (o := i5) (by kernel_rfl) (by kernel_rfl) (by omega) (by omega) (by omega) _) fun ac395 En396 => ?_
       refine f_o ?_
       have hb397 : i5 < List.length u := by rw [hu]; omega
       refine m_t 0 i5 (uv64 ((((List.getD u i5 0) - (List.getD (n32 17 X) i5 0)) - b) &&& (4294967295 : UInt64))) [.box bk6 (u64s (List.set u i5 ((((List.getD u i5 0) - (List.getD (n32 17 X) i5 0)) - b) &&& (4294967295 : UInt64)))) 54, .box bk68 (u64s (n32 17 X)) 54, .box bk11 (u64s (List.replicate 4 0)) 25] En396 Hv392 rfl (u64s_getD hb397) (u64s_set _ _ _) rfl fun ac398 wo399 En400 Hv401 => ?_
       refine f_e ?_
       refine then_normal ?_
       refine d_r [3,4,5,6,7,8,9,12,13,14] [(1, g_i .u64 (Go.Dbr.u64_shr (x := ((List.getD u i5 0) - (List.getD (n32 17 X) i5 0)) - b) (n := 63) rfl (by decide)))] En400 fun ac402 En403 => ?_
       refine block_normal ?_
       refine then_normal ?_
       refine d_r [3,4,5,6,7,8,9,12,13,14] [(1, g_n (w_a i5 1))] En403 fun ac404 En405 => ?_
       refine then_normal ?_
       refine ⟨_, ⟨i5 + 1, (List.set u i5 ((((List.getD u i5 0) - (List.getD (n32 17 X) i5 0)) - b) &&& (4294967295 : UInt64))), ((((List.getD u i5 0) - (List.getD (n32 17 X) i5 0)) - b) >>> UInt64.ofNat 63), rfl, En405.sb, Hv401.pk [0, 1, 2], by omega, (by simp [hu]), hdu.set (low32 _), (sub_dig (hdu _) (n32_dig _ _ _) hb).2, sub_in hu (by omega) hdu hb hvu⟩, ?_⟩
       omega
      ·
       refine wp_exit ?_
       refine then_exit ?_
       refine then_exit ?_
       refine block_exit ?_
       refine then_normal ?_
       have hue := sub_all hu (by omega) hdu hXb (by assumption) hYb hvu
       rw [hue] at Hv325
       refine region_from ?_
       refine f_o ?_
       refine m_a 1 0 17 (u64s (n32 17 X)) En328 Hv325 rfl (load_whole (u64s_lenh (n32_len _ _))) (u64s_lenh (n32_len _ _)) fun ac406 En407 => ?_
       refine f_o ?_
       refine c_p En407 Hv325 (halved_go _ X (by assumption)) fun ac412 wo409 En413 Hv414 => ?_
       refine f_o ?_
       refine m_g 1 0 17 (u64s (n32 17 (X / 2))) (u64s (n32 17 (X / 2))) [.box bk6 (u64s (n32 17 (Y - X))) 54, .box bk68 (u64s (n32 17 (X / 2))) 54, .box bk11 (u64s (List.replicate 4 0)) 25] En413 Hv414 rfl (u64s_lenh (n32_len _ _)) (by rw [(u64s_lenh (n32_len _ _))]; decide) (u64s_one _) (store_whole (u64s_lenh (n32_len _ _))) rfl fun ac415 wo416 En417 Hv418 => ?_
       refine f_e ?_
       refine block_normal ?_
       refine then_normal ?_
       refine d_r [3,4,5,6,7,8,9,12,13] [(1, g_n (w_r (e := ((q - 1 : Nat) : Int) - (1 : Int)) (x := ((q - 1 : Nat) : Int) - (1 : Int)) (by omega)))] En417 fun ac419 En420 => ?_
       refine then_normal ?_
       refine ⟨_, ⟨q - 1, (Y - X), (X / 2), rfl, En420.sb, Hv418.pk [1, 0, 2], by rw [st_0 hX2 (by omega)], st_y hX2 (by omega) hY, st_m hX2 (by omega) (by assumption) hm, Nat.lt_of_le_of_lt (Nat.div_le_self _ _) hXb, Nat.lt_of_le_of_lt (Nat.sub_le _ _) hYb, by omega⟩, ?_⟩
       omega
     ·
      replace hc315 : Y < X := by simpa using hc315
      refine wp_skip ?_
      refine then_normal ?_
      refine region_from ?_
      refine f_o ?_
      refine m_a 0 0 17 (u64s (n32 17 X)) En314 Hv312 rfl (load_whole (u64s_lenh (n32_len _ _))) (u64s_lenh (n32_len _ _)) fun ac421 En422 => ?_
      refine f_o ?_
      refine c_p En422 Hv312 (halved_go _ X (by assumption)) fun ac427 wo424 En428 Hv429 => ?_
      refine f_o ?_
      refine m_g 0 0 17 (u64s (n32 17 (X / 2))) (u64s (n32 17 (X / 2))) [.box bk68 (u64s (n32 17 (X / 2))) 54, .box bk6 (u64s (n32 17 Y)) 54, .box bk11 (u64s (List.replicate 4 0)) 25] En428 Hv429 rfl (u64s_lenh (n32_len _ _)) (by rw [(u64s_lenh (n32_len _ _))]; decide) (u64s_one _) (store_whole (u64s_lenh (n32_len _ _))) rfl fun ac430 wo431 En432 Hv433 => ?_
      refine f_e ?_
      refine block_normal ?_
      refine then_normal ?_
      refine d_r [3,4,5,6,7,8,9] [(1, g_n (w_r (e := ((q - 1 : Nat) : Int) - (1 : Int)) (x := ((q - 1 : Nat) : Int) - (1 : Int)) (by omega)))] En432 fun ac434 En435 => ?_
      refine then_normal ?_
      refine ⟨_, ⟨q - 1, Y, (X / 2), rfl, En435.sb, Hv433.pk [0, 1, 2], by rw [st_0 hX2 (by omega)], by rw [← st_0 hX2 (by omega)]; assumption, hm, Nat.lt_of_le_of_lt (Nat.div_le_self _ _) hXb, hYb, by omega⟩, ?_⟩
      omega
    ·
     refine wp_exit ?_
     refine then_exit ?_
     refine then_exit ?_
     refine block_exit ?_
     refine then_normal ?_
     refine wp_seq ?_
     refine region_from ?_
     refine f_o ?_
     refine m_a 1 0 17 (u64s (n32 17 Y)) En299 Hv296 rfl (load_whole (u64s_lenh (n32_len _ _))) (u64s_lenh (n32_len _ _)) fun ac436 En437 => ?_
     refine f_o ?_
     refine c_p En437 Hv296 (number_go _ (n32 17 Y) (n32_len _ _) (n32_dig _ _)) fun ac442 wo439 En443 Hv444 => ?_
     refine f_o ?_
     refine m_g 2 0 4 (u64s (nd (dv 4294967296 (n32 17 Y)))) (u64s (nd (dv 4294967296 (n32 17 Y)))) [.box bk68 (u64s (n32 17 X)) 54, .box bk6 (u64s (n32 17 Y)) 54, .box bk11 (u64s (nd (dv 4294967296 (n32 17 Y)))) 25] En443 Hv444 rfl (u64s_lenh (nds_len _ _)) (by rw [(u64s_lenh (List.length_replicate))]; decide) (u64s_one _) (store_whole (u64s_lenh (List.length_replicate))) rfl fun ac445 wo446 En447 Hv448 => ?_
     refine f_e ?_
     refine then_normal ?_
     refine wp_ret ?_
     refine d_cell1 (v := .agg (List.toArray (u64s (nd (dv 4294967296 (n32 17 Y)))))) (t := 4) (T := 25) (ad := ⟨bk11, 0, none⟩) En447 (by kernel_rfl) (by kernel_rfl) (Ev.cellAgg (t := 25) (k := 2) (off := 0) (m := 4) (xs := u64s (nd (dv 4294967296 (n32 17 Y)))) Hv448 rfl (load_whole (u64s_lenh (nds_len _ _))) (u64s_lenh (nds_len _ _)) (by kernel_rfl) (by kernel_rfl)) ?_
     have hq0 : q = 0 := by omega
     have e : nd (dv 4294967296 (n32 17 Y)) = nd (V % mF 4) := by rw [dv17 hYb, ← hm, Nat.mod_eq_of_lt (by rw [hq0] at hY; simpa using hY)]
     exact ⟨congrArg (fun l : List UInt64 => Ending.returned (Value.agg (u64s l).toArray)) e, Hv448.pk []⟩

theorem slowly_l (w : World) (l : List UInt64) (hl : List.length l = 17) (hd : DG l) (hb : dv 4294967296 l < 4294967296 ^ 16) : Calls Try.prog 63 #[.agg (List.toArray (u64s (nd (mF 4)))), .agg (List.toArray (u64s l))] w fun e w' => e = .returned (.agg (List.toArray (u64s (nd (dv 4294967296 l % mF 4))))) ∧ Ev w [] w' [] := by
  have e : l = n32 17 (dv 4294967296 l) := n32_of hl hd rfl
  have h := slowly_go w (dv 4294967296 l) hb
  rwa [← e] at h

theorem left4_go (w : World) (n : List UInt64) (hn : List.length n = 17) (hdn : DG n) (hb : dv 4294967296 n < 4294967296 ^ 16) : Calls Try.prog 47 #[.int .i64 4, .agg (List.toArray (u64s n))] w fun e w' => e = .returned (.agg (List.toArray (u64s (nd (dv 4294967296 n % mF 4))))) ∧ Ev w [] w' [] := by
 refine d_0 [(0, .int .i64 4), (1, .agg (List.toArray (u64s n)))] 85 Go.Proofs.Try.func47 Go.Proofs.Try.ntmps47 (Heap.nil _) fun act0 En0 Hv0 => ?_
 refine wp_seq ?_
 refine region_from ?_
 refine f_o ?_
 refine m_m 54 (u64s n) En0 Hv0 fun ac2 wo3 bk1 En4 Hv5 => ?_
 refine f_o ?_
 refine m_z 25 (u64s (List.replicate 4 0)) En4 Hv5 fun ac7 wo8 bk6 En9 Hv10 => ?_
 refine f_e ?_
 refine then_normal ?_
 refine wp_seq ?_
 refine region_from ?_
 refine d_k [0,3,4,14] [] 1 En9 fun ac11 En12 => ?_
 refine f_o ?_
 refine c_p En12 Hv10 (rmodulus_go _ 4) fun ac17 wo14 En18 Hv19 => ?_
 refine f_o ?_
 refine m_z 25 (u64s (List.replicate 4 0)) En18 Hv19 fun ac21 wo22 bk20 En23 Hv24 => ?_
 refine f_o ?_
 refine m_g 2 0 4 (u64s (nd (mF 4))) (u64s (nd (mF 4))) [.box bk1 (u64s n) 54, .box bk6 (u64s (List.replicate 4 0)) 25, .box bk20 (u64s (nd (mF 4))) 25] En23 Hv24 rfl (u64s_lenh (nds_len _ _)) (by rw [(u64s_lenh (List.length_replicate))]; decide) (u64s_one _) (store_whole (u64s_lenh (List.length_replicate))) rfl fun ac25 wo26 En27 Hv28 => ?_
 refine f_e ?_
 refine then_normal ?_
 refine wp_seq ?_
 refine d_s [0,3,4,5,17] [] En27 fun ac29 En30 => ?_
 refine c_t En30 ?_
 refine wp_seq ?_
 refine region_from ?_
 refine f_o ?_
 refine m_a 2 0 4 (u64s (nd (mF 4))) En30 Hv28 rfl (load_whole (u64s_lenh (nds_len _ _))) (u64s_lenh (nds_len _ _)) fun ac31 En32 => ?_
 refine f_o ?_
 refine m_a 0 0 17 (u64s n) En32 Hv28 rfl (load_whole (u64s_lenh hn)) (u64s_lenh hn) fun ac33 En34 => ?_
 refine f_o ?_
 refine c_p En34 Hv28 (slowly_l _ n hn hdn hb) fun ac39 wo36 En40 Hv41 => ?_
 refine f_o ?_
 refine m_g 1 0 4 (u64s (nd (dv 4294967296 n % mF 4))) (u64s (nd (dv 4294967296 n % mF 4))) [.box bk1 (u64s n) 54, .box bk6 (u64s (nd (dv 4294967296 n % mF 4))) 25, .box bk20 (u64s (nd (mF 4))) 25] En40 Hv41 rfl (u64s_lenh (nds_len _ _)) (by rw [(u64s_lenh (List.length_replicate))]; decide) (u64s_one _) (store_whole (u64s_lenh (List.length_replicate))) rfl fun ac42 wo43 En44 Hv45 => ?_
 refine f_e ?_
 refine then_normal ?_
 refine wp_ret ?_
 refine then_ret ?_
 refine d_cell1 (v := .agg (List.toArray (u64s (nd (dv 4294967296 n % mF 4))))) (t := 4) (T := 25) (ad := ⟨bk6, 0, none⟩) En44 (by kernel_rfl) (by kernel_rfl) (Ev.cellAgg (t := 25) (k := 1) (off := 0) (m := 4) (xs := u64s (nd (dv 4294967296 n % mF 4))) Hv45 rfl (load_whole (u64s_lenh (nds_len _ _))) (u64s_lenh (nds_len _ _)) (by kernel_rfl) (by kernel_rfl)) ?_
 exact ⟨rfl, Hv45.pk []⟩

theorem leftOk {f : Int} (hf : f = 1 ∨ f = 2 ∨ f = 3 ∨ f = 4) : LeftOk f := by
  by_cases h3 : f = 1 ∨ f = 2 ∨ f = 3
  · exact leftOk3 h3
  · obtain rfl : f = 4 := by omega
    exact left4_go

end Go.Proofs.Ytamdjonejijndaa
