/- Layer 17: the first message of a stream; the bytes that ask again. -/
import Derived.Test.YtofecellbfhnjaaW8
namespace Go.Proofs.Ytofecellbfhnjaa
open Go.Dbr
set_option maxRecDepth 100000
set_option maxHeartbeats 2000000
set_option linter.unusedVariables false
set_option linter.unusedSimpArgs false

def n3 (l : Bs) : Nat := nbV 3 (List.drop 1 l) false
def unfN (l : Bs) : UInt8 × Bs × Nat × Int := if l.length < 4 then (0, [], 0, 0) else if 16384 < n3 l then (0, [], 0, 50) else if l.length < 4 + n3 l then (0, [], 0, 0) else (List.getD l 0 0, List.take (n3 l) (List.drop 4 l), 4 + n3 l, 0)
theorem tk3 {l : Bs} (h : ¬ l.length < 4) : tkS 3 (List.drop 1 l) false = false ∧ tkR 3 (List.drop 1 l) false = List.drop 4 l := by
  have e : tkS 3 (List.drop 1 l) false = false := tk_y (by decide) (by rw [List.length_drop]; omega)
  refine ⟨e, ?_⟩
  rw [tkR, e, Bool.cond_false, List.drop_drop]
theorem n3_eq {l : Bs} (h : ¬ l.length < 4) : n3 l = (List.getD l 1 0).toNat * 65536 + (List.getD l 2 0).toNat * 256 + (List.getD l 3 0).toNat := by
  match l, h with
  | a :: b :: c :: d :: r, hl =>
    have e := (tk3 (l := a :: b :: c :: d :: r) hl).1
    rw [n3, nbV, tkO, e]
    show ((0 * 256 + b.toNat) * 256 + c.toNat) * 256 + d.toNat = b.toNat * 65536 + c.toNat * 256 + d.toNat
    omega
  | [], h => exact absurd (by decide) h
  | [_], h => exact absurd (by decide : 1 < 4) h
  | [_, _], h => exact absurd (by decide : 2 < 4) h
  | [_, _, _], h => exact absurd (by decide : 3 < 4) h
theorem i64_or3 {x y z : Nat} (hx : x < 256) (hy : y < 256) (hz : z < 256) : IntKind.wrap .i64 ((BitVec.ofInt (IntKind.bits .i64) ((x * 65536 + y * 256 : Nat) : Int) ||| BitVec.ofInt (IntKind.bits .i64) ((z : Nat) : Int)).toNat : Int) = ((x * 65536 + y * 256 + z : Nat) : Int) := by
  have e : x * 65536 + y * 256 = (x * 256 + y) * 2 ^ 8 := by omega
  rw [e, i64_or_nat (by omega) (by omega), or_low 8 hz]
theorem n3_lt (l : Bs) : n3 l < 4294967296 := nbV_4 (by decide) _ _
theorem uf_1 {l : Bs} (h : l.length < 4) : unfN l = (0, [], 0, 0) := by rw [unfN, if_pos h]
theorem uf_2 {l : Bs} (h : ¬ l.length < 4) (h2 : 16384 < n3 l) : unfN l = (0, [], 0, 50) := by rw [unfN, if_neg h, if_pos h2]
theorem uf_3 {l : Bs} (h : ¬ l.length < 4) (h2 : ¬ 16384 < n3 l) (h3 : l.length < 4 + n3 l) : unfN l = (0, [], 0, 0) := by rw [unfN, if_neg h, if_neg h2, if_pos h3]
theorem uf_4 {l : Bs} (h : ¬ l.length < 4) (h2 : ¬ 16384 < n3 l) (h3 : ¬ l.length < 4 + n3 l) : unfN l = (List.getD l 0 0, List.take (n3 l) (List.drop 4 l), 4 + n3 l, 0) := by rw [unfN, if_neg h, if_neg h2, if_neg h3]

theorem unframe_go (w : World) (aq : Option Addr) (nq cq : Nat) (lq : List UInt8) (eq : nq = List.length lq) (iq : InB w [] aq cq lq) : Calls Try.prog 12 #[.slice aq nq cq] w fun e w' => ∃ ao cap, e = .returned (.tuple #[.int .u8 ((UInt8.toNat ((unfN lq).1) : Nat) : Int), .slice ao (List.length (unfN lq).2.1) cap, .int .i64 (((unfN lq).2.2.1 : Nat) : Int), .int .i64 ((unfN lq).2.2.2)]) ∧ Ev w [] w' [.vec ao cap 1 (bys ((unfN lq).2.1)) 5] := by
 subst eq
 have hqs := iq.small
 have hqc := iq.cap
 refine d_0 [(0, .slice aq (List.length lq) cq)] 37 Go.Proofs.Try.func12 Go.Proofs.Try.ntmps12 (Heap.nil _) fun act0 En0 Hv0 => ?_
 refine d_s [0,2,3,4,5] [] En0 fun ac1 En2 => ?_
 refine wp_seq ?_
 refine d_s [0,2,3,4,5,10] [] En2 fun ac3 En4 => ?_
 refine c_d (((List.length lq : Nat) : Int) < (4 : Int)) En4 (fun hc5 => ?_) (fun hc5 => ?_)
 ·
  refine d_s [0,2,3,4,5] [] En4 fun ac6 En7 => ?_
  refine wp_ret ?_
  refine then_ret ?_
  refine d_ret4 (t := 2) (u := 3) (s := 4) (r := 5) (v := .int .u8 0) (x := .slice none 0 0) (y := .int .i64 0) (z := .int .i64 0) En7 (by kernel_rfl) (by kernel_rfl) (by kernel_rfl) (by kernel_rfl) (by kernel_rfl) ?_
  have e : unfN lq = (0, [], 0, 0) := by first | exact uf_1 (by omega) | exact uf_2 (by omega) (by first | omega | (unfold n3; omega)) | exact uf_3 (by omega) (by first | omega | (unfold n3; omega)) (by first | omega | (unfold n3; omega))
  rw [e]
  exact ⟨none, 0, rfl, (Ev.nil (sz := 1) (T := 5) Hv0).pk [0]⟩
 ·
  refine wp_skip ?_
  refine then_normal ?_
  refine wp_seq ?_
  refine region_from ?_
  refine d_k [0,2,3,4,5,11] [] 1 En4 fun ac8 En9 => ?_
  refine f_o ?_
  have hcap10 := iq.cap
  refine op_slice (d := some 12) (t := 23) (e := 5) (sz := 1) (len := List.length lq) (cap := cq) (lo := 1) (hi := List.length lq) (ao := aq) (lov := (some (.int .i64 1))) (hiv := none) En9 (by kernel_rfl) (by kernel_rfl) (by kernel_rfl) (by omega) (by omega) (.inr ⟨.i64, rfl⟩) (.inl ⟨rfl, rfl⟩) ?_
  intro ac11 En12
  refine d_k [0,2,3,4,5,13] [] 3 En12 fun ac13 En14 => ?_
  refine f_o ?_
  refine m_m 120 [.slice (cutAt aq cq 1 1) ((List.length lq) - 1) (cq - 1), .bool false, .bool false] En14 Hv0 fun ac16 wo17 bk15 En18 Hv19 => ?_
  refine d_e [0,2,3,4,5,6] [] En18 fun ac20 En21 => ?_
  have hl4 : ¬ List.length lq < 4 := by omega
  rw [show List.length lq - 1 = List.length (List.drop 1 lq) from List.length_drop.symm] at Hv19
  refine then_normal ?_
  refine wp_seq ?_
  refine region_from ?_
  refine d_k [0,2,3,4,5,6,15] [] 1 En21 fun ac22 En23 => ?_
  refine f_o ?_
  refine c_l [0] (M := [.box bk15 [.slice (cutAt aq cq 1 1) (List.length (List.drop 1 lq)) (cq - 1), .bool false, .bool false] 120]) En23 Hv19 (fun hM27 => number_go _ bk15 3 (by omega) (cutAt aq cq 1 1) (cq - 1) (List.drop 1 lq) false false (((iq.ev Hv19).pick [0] (by kernel_rfl)).drop 1 (by omega)) hM27) ?_
  rintro _ wo28 ⟨ta24, tc25, rfl, he29, hs26⟩
  refine ⟨_, _, [.box bk15 [.slice ta24 (List.length (tkR 3 (List.drop 1 lq) false)) tc25, .bool (tkS 3 (List.drop 1 lq) false), .bool false] 120], rfl, he29, by kernel_rfl, fun ac31 En32 Hv33 => ?_⟩
  refine d_e [0,2,3,4,5,6,7] [] En32 fun ac34 En35 => ?_
  have hn3 := n3_lt lq
  unfold n3 at hn3
  obtain ⟨k1, k2⟩ := tk3 hl4
  have hk2 : List.length (tkR 3 (List.drop 1 lq) false) = List.length lq - 4 := by rw [k2, List.length_drop]
  refine then_normal ?_
  refine wp_seq ?_
  refine wp_block ?_
  refine d_s [0,2,3,4,5,6,7,17] [] En35 fun ac36 En37 => ?_
  refine c_d (((nbV 3 (List.drop 1 lq) false : Nat) : Int) > (16384 : Int)) En37 (fun hc38 => ?_) (fun hc38 => ?_)
  ·
   refine d_s [0,2,3,4,5,6,7] [] En37 fun ac39 En40 => ?_
   refine wp_ret ?_
   refine block_ret ?_
   refine then_ret ?_
   refine d_ret4 (t := 2) (u := 3) (s := 4) (r := 5) (v := .int .u8 0) (x := .slice none 0 0) (y := .int .i64 0) (z := .int .i64 50) En40 (by kernel_rfl) (by kernel_rfl) (by kernel_rfl) (by kernel_rfl) (by kernel_rfl) ?_
   have e : unfN lq = (0, [], 0, 50) := by first | exact uf_1 (by omega) | exact uf_2 (by omega) (by first | omega | (unfold n3; omega)) | exact uf_3 (by omega) (by first | omega | (unfold n3; omega)) (by first | omega | (unfold n3; omega))
   rw [e]
   exact ⟨none, 0, rfl, (Ev.nil (sz := 1) (T := 5) Hv33).pk [1]⟩
  ·
   refine wp_seq ?_
   refine region_from ?_
   refine d_k [0,2,3,4,5,6,7,21,24] [] 4 En37 fun ac41 En42 => ?_
   refine f_o ?_
   refine m_l 0 En42 Hv33 fun ac43 En44 => ?_
   refine d_e [0,2,3,4,5,6,7,20] [] En44 fun ac45 En46 => ?_
   refine then_normal ?_
   refine c_d (((nbV 3 (List.drop 1 lq) false : Nat) : Int) > ((List.length (tkR 3 (List.drop 1 lq) false) : Nat) : Int)) En46 (fun hc47 => ?_) (fun hc47 => ?_)
   ·
    refine d_s [0,2,3,4,5,6,7] [] En46 fun ac48 En49 => ?_
    refine wp_ret ?_
    refine block_ret ?_
    refine then_ret ?_
    refine d_ret4 (t := 2) (u := 3) (s := 4) (r := 5) (v := .int .u8 0) (x := .slice none 0 0) (y := .int .i64 0) (z := .int .i64 0) En49 (by kernel_rfl) (by kernel_rfl) (by kernel_rfl) (by kernel_rfl) (by kernel_rfl) ?_
    have e : unfN lq = (0, [], 0, 0) := by first | exact uf_1 (by omega) | exact uf_2 (by omega) (by first | omega | (unfold n3; omega)) | exact uf_3 (by omega) (by first | omega | (unfold n3; omega)) (by first | omega | (unfold n3; omega))
    rw [e]
    exact ⟨none, 0, rfl, (Ev.nil (sz := 1) (T := 5) Hv33).pk [1]⟩
   ·
    refine wp_skip ?_
    refine block_normal ?_
    refine then_normal ?_
    refine wp_seq ?_
    refine r_c (fun ac wo => ∃ (ta142 : _) (tc143 : _) (ao153 : _) (cp154 : _), Env ac 37 [(0, .slice aq (List.length lq) cq), (2, .int .u8 ((UInt8.toNat (List.getD lq 0 0) : Nat) : Int)), (3, .slice ao153 (List.length (tkO (nbV 3 (List.drop 1 lq) false) (tkR 3 (List.drop 1 lq) false) (tkS 3 (List.drop 1 lq) false))) cp154), (4, .int .i64 ((4 + (nbV 3 (List.drop 1 lq) false) : Nat) : Int)), (5, .int .i64 0), (6, pt bk15), (7, .int .i64 ((nbV 3 (List.drop 1 lq) false : Nat) : Int))] ∧ Ev w [] wo [.vec ao153 cp154 1 (bys (tkO (nbV 3 (List.drop 1 lq) false) (tkR 3 (List.drop 1 lq) false) (tkS 3 (List.drop 1 lq) false))) 5, .box bk15 [.slice ta142 (List.length (tkR (nbV 3 (List.drop 1 lq) false) (tkR 3 (List.drop 1 lq) false) (tkS 3 (List.drop 1 lq) false))) tc143, .bool (tkS (nbV 3 (List.drop 1 lq) false) (tkR 3 (List.drop 1 lq) false) (tkS 3 (List.drop 1 lq) false)), .bool false] 120]) ?_ ?_
    ·
     refine h_s (fun wv => Ev w [] wv []) [] 13 ?_
     have wo50 := Hv33.trans (Ev.drew Hv33.heap)
     have hb166 : 0 < List.length lq := (by omega)
     obtain ⟨adr164, had165⟩ := some_of iq.nz hb166
     refine q_s [0] [] 12 En46 (wo50.pk []) fun ac167 En168 => ?_
     refine q_f 1 (s := Instr.indexAt 23 (.slice aq (List.length lq) cq) (.int .i64 0)) (v := .pointer (some (Addr.add adr164 0))) En168 (fun _ => Go.Dbr.run_indexsl (e := 5) (sz := 1) (j := 0) (jo := 0) had165 (by kernel_rfl) (by kernel_rfl) (by omega) hb166 (Nat.mul_one _) _) (fun _ => wo50.pk []) fun ac169 En170 => ?_
     have hb171 : 0 < List.length lq := by omega
     refine q_r 2 (s := Instr.loadAt 5 (.pointer (some (Addr.add adr164 0)))) (v := .int .u8 ((UInt8.toNat (List.getD lq 0 0) : Nat) : Int)) En170 (fun w hS => run_loadel (ad := adr164) (o := 0) rfl (iq.ev hS).reads had165 (bys_getD hb171) (by kernel_rfl)) (wo50.pk []) fun ac172 En173 => ?_
     refine q_s [3,4,7,8] [(8, g_n (w_a 4 (nbV 3 (List.drop 1 lq) false)))] 6 En173 (wo50.pk []) fun ac174 En175 => ?_
     refine q_t 5 ?_
     refine c_l [0] (M := [.box bk15 [.slice ta24 (List.length (tkR 3 (List.drop 1 lq) false)) tc25, .bool (tkS 3 (List.drop 1 lq) false), .bool false] 120]) En175 wo50 (fun hM182 => take_go _ bk15 (nbV 3 (List.drop 1 lq) false) (by omega) ta24 tc25 (tkR 3 (List.drop 1 lq) false) (tkS 3 (List.drop 1 lq) false) false (hs26 _ _ (((iq.ev wo50).pick [0] (by kernel_rfl)).drop 1 (by omega))) hM182) ?_
     rintro _ wo183 ⟨ra176, rc177, ta178, tc179, rfl, he184, hs180, hs181⟩
     refine ⟨_, _, [.box bk15 [.slice ta178 (List.length (tkR (nbV 3 (List.drop 1 lq) false) (tkR 3 (List.drop 1 lq) false) (tkS 3 (List.drop 1 lq) false))) tc179, .bool (tkS (nbV 3 (List.drop 1 lq) false) (tkR 3 (List.drop 1 lq) false) (tkS 3 (List.drop 1 lq) false)), .bool false] 120], rfl, he184, by kernel_rfl, fun ac186 En187 Hv188 => ?_⟩
     refine ⟨fun _ => Hv188.pk [], ?_⟩
     refine q_t 6 ?_
     refine c_0 En187 Hv188 (clone_go _ ra176 rc177 (tkO (nbV 3 (List.drop 1 lq) false) (tkR 3 (List.drop 1 lq) false) (tkS 3 (List.drop 1 lq) false)) (hs180 _ [] (hs26 _ [] (((iq.ev Hv188).pick [] (by kernel_rfl)).drop 1 (by omega))))) ?_
     rintro _ wo192 ⟨ao189, cp190, rfl, he193⟩
     refine ⟨_, _, _, rfl, he193, rfl, fun ac195 En196 Hv197 => ?_⟩
     refine ⟨fun _ => Hv197.pk [], ?_⟩
     refine q_s [9,10,11,12] [] 0 En196 (Hv197.pk []) fun ac198 En199 => ?_
     exact h_e ⟨ta178, tc179, ao189, cp190, En199.sb, Hv197.pk [0, 1]⟩
    rintro ac200 wo201 ⟨ta142, tc143, ao153, cp154, En202, Hv203⟩
    refine then_normal ?_
    refine wp_ret ?_
    refine d_ret4 (t := 2) (u := 3) (s := 4) (r := 5) (v := .int .u8 ((UInt8.toNat (List.getD lq 0 0) : Nat) : Int)) (x := .slice ao153 (List.length (tkO (nbV 3 (List.drop 1 lq) false) (tkR 3 (List.drop 1 lq) false) (tkS 3 (List.drop 1 lq) false))) cp154) (y := .int .i64 ((4 + (nbV 3 (List.drop 1 lq) false) : Nat) : Int)) (z := .int .i64 0) En202 (by kernel_rfl) (by kernel_rfl) (by kernel_rfl) (by kernel_rfl) (by kernel_rfl) ?_
    have e : unfN lq = (List.getD lq 0 0, tkO (nbV 3 (List.drop 1 lq) false) (tkR 3 (List.drop 1 lq) false) (tkS 3 (List.drop 1 lq) false), 4 + n3 lq, 0) := by rw [uf_4 (by omega) (by first | omega | (unfold n3; omega)) (by first | omega | (unfold n3; omega))]; rw [tkO, k2, k1, tk_y (by decide) (by rw [List.length_drop]; omega)]; rfl
    rw [e]
    exact ⟨ao153, cp154, rfl, Hv203.pk [0]⟩

theorem dunframe_go (w : World) (aq : Option Addr) (nq cq : Nat) (lq : List UInt8) (eq : nq = List.length lq) (iq : InB w [] aq cq lq) : Calls Try.prog 13 #[.slice aq nq cq] w fun e w' => ∃ ao cap, e = .returned (.tuple #[.int .u8 ((UInt8.toNat ((unfN lq).1) : Nat) : Int), .slice ao (List.length (unfN lq).2.1) cap, .int .i64 (((unfN lq).2.2.1 : Nat) : Int), .int .i64 ((unfN lq).2.2.2)]) ∧ Ev w [] w' [.vec ao cap 1 (bys ((unfN lq).2.1)) 5] := by
 subst eq
 have hqs := iq.small
 have hqc := iq.cap
 refine d_0 [(0, .slice aq (List.length lq) cq)] 44 Go.Proofs.Try.func13 Go.Proofs.Try.ntmps13 (Heap.nil _) fun act0 En0 Hv0 => ?_
 refine d_s [0,2,3,4,5] [] En0 fun ac1 En2 => ?_
 refine wp_seq ?_
 refine d_s [0,2,3,4,5,9] [] En2 fun ac3 En4 => ?_
 refine c_d (((List.length lq : Nat) : Int) < (4 : Int)) En4 (fun hc5 => ?_) (fun hc5 => ?_)
 ·
  refine d_s [0,2,3,4,5] [] En4 fun ac6 En7 => ?_
  refine wp_ret ?_
  refine then_ret ?_
  refine d_ret4 (t := 2) (u := 3) (s := 4) (r := 5) (v := .int .u8 0) (x := .slice none 0 0) (y := .int .i64 0) (z := .int .i64 0) En7 (by kernel_rfl) (by kernel_rfl) (by kernel_rfl) (by kernel_rfl) (by kernel_rfl) ?_
  have e : unfN lq = (0, [], 0, 0) := by first | exact uf_1 (by omega) | exact uf_2 (by omega) (by first | omega | (unfold n3; omega)) | exact uf_3 (by omega) (by first | omega | (unfold n3; omega)) (by first | omega | (unfold n3; omega))
  rw [e]
  exact ⟨none, 0, rfl, (Ev.nil (sz := 1) (T := 5) Hv0).pk [0]⟩
 ·
  refine wp_skip ?_
  refine then_normal ?_
  refine wp_seq ?_
  have hl4 : ¬ List.length lq < 4 := by omega
  obtain ⟨adq, hadq⟩ := some_of iq.nz (show 0 < List.length lq by omega)
  have hbb1 := u8_lt (List.getD lq 1 0)
  have hbb2 := u8_lt (List.getD lq 2 0)
  have hbb3 := u8_lt (List.getD lq 3 0)
  refine r_c (fun ac wo => Env ac 44 [(0, .slice aq (List.length lq) cq), (2, .int .u8 0), (3, .slice none 0 0), (4, .int .i64 0), (5, .int .i64 0), (6, .int .i64 ((n3 lq : Nat) : Int))] ∧ Ev w [] wo []) ?_ ?_
  ·
   refine s_g0 [(0, .slice aq (List.length lq) cq), (2, .int .u8 0), (3, .slice none 0 0), (4, .int .i64 0), (5, .int .i64 0)] [0,1,2,3,4,5,6,7,8,9,10,11,12,13,14,15,16] [(6, .int .i64 ((n3 lq : Nat) : Int)), (10, .slice aq (List.length lq) cq), (11, .pointer (some (Addr.add adq 1))), (12, .int .u8 ((UInt8.toNat (List.getD lq 1 0) : Nat) : Int)), (13, .int .i64 ((UInt8.toNat (List.getD lq 1 0) : Nat) : Int)), (14, .int .i64 (((UInt8.toNat (List.getD lq 1 0)) * 65536 : Nat) : Int)), (15, .slice aq (List.length lq) cq), (16, .pointer (some (Addr.add adq 2))), (17, .int .u8 ((UInt8.toNat (List.getD lq 2 0) : Nat) : Int)), (18, .int .i64 ((UInt8.toNat (List.getD lq 2 0) : Nat) : Int)), (19, .int .i64 (((UInt8.toNat (List.getD lq 2 0)) * 256 : Nat) : Int)), (20, .int .i64 (((UInt8.toNat (List.getD lq 1 0)) * 65536 + ((UInt8.toNat (List.getD lq 2 0)) * 256) : Nat) : Int)), (21, .slice aq (List.length lq) cq), (22, .pointer (some (Addr.add adq 3))), (23, .int .u8 ((UInt8.toNat (List.getD lq 3 0) : Nat) : Int)), (24, .int .i64 ((UInt8.toNat (List.getD lq 3 0) : Nat) : Int)), (25, .int .i64 ((n3 lq : Nat) : Int))] 0 [(0, .slice aq (List.length lq) cq), (2, .int .u8 0), (3, .slice none 0 0), (4, .int .i64 0), (5, .int .i64 0), (6, .int .i64 ((n3 lq : Nat) : Int))] (En4.sb) (Hv0.trans (Ev.drew Hv0.heap)) ?_ fun ac62 wo63 En64 Hv65 => ?_
   ·
    refine s_p [] ?_
    have hb10 : 1 < List.length lq := (by omega)
    refine s_c (fun Mx11 ac12 wo13 En14 Hv15 => ?_) ?_
    ·
     refine q_v (x := Instr.indexAt 23 (.slice aq (List.length lq) cq) (.int .i64 1)) (v := .pointer (some (Addr.add adq 1))) En14 (Go.Dbr.run_indexsl (e := 5) (sz := 1) (j := 1) (jo := 1) hadq (by kernel_rfl) (by kernel_rfl) (by omega) hb10 (Nat.mul_one _) _) fun ac16 En17 => ?_
     exact s_e En17 Hv15
    refine s_c (fun Mx18 ac19 wo20 En21 Hv22 => ?_) ?_
    ·
     have hb23 : 1 < List.length lq := by omega
     refine op_loadel (d := some 12) (t := 5) (ad := adq) (ao := aq) (xs := bys lq) (j := 1) (v := .int .u8 ((UInt8.toNat (List.getD lq 1 0) : Nat) : Int)) En21 (by kernel_rfl) (iq.ev Hv22).reads hadq (bys_getD hb23) (by kernel_rfl) ?_
     intro ac24 En25
     exact s_e En25 Hv22
    refine s_p [(3, g_i .i64 (Go.Dbr.u8_to_i64 (x := List.getD lq 1 0) rfl))] ?_
    refine s_p [(4, g_n (w_r (e := ((UInt8.toNat (List.getD lq 1 0) : Nat) : Int) * 2 ^ 16) (x := (((UInt8.toNat (List.getD lq 1 0)) * 65536 : Nat) : Int)) (by omega)))] ?_
    refine s_p [] ?_
    have hb28 : 2 < List.length lq := (by omega)
    refine s_c (fun Mx29 ac30 wo31 En32 Hv33 => ?_) ?_
    ·
     refine q_v (x := Instr.indexAt 23 (.slice aq (List.length lq) cq) (.int .i64 2)) (v := .pointer (some (Addr.add adq 2))) En32 (Go.Dbr.run_indexsl (e := 5) (sz := 1) (j := 2) (jo := 2) hadq (by kernel_rfl) (by kernel_rfl) (by omega) hb28 (Nat.mul_one _) _) fun ac34 En35 => ?_
     exact s_e En35 Hv33
    refine s_c (fun Mx36 ac37 wo38 En39 Hv40 => ?_) ?_
    ·
     have hb41 : 2 < List.length lq := by omega
     refine op_loadel (d := some 17) (t := 5) (ad := adq) (ao := aq) (xs := bys lq) (j := 2) (v := .int .u8 ((UInt8.toNat (List.getD lq 2 0) : Nat) : Int)) En39 (by kernel_rfl) (iq.ev Hv40).reads hadq (bys_getD hb41) (by kernel_rfl) ?_
     intro ac42 En43
     exact s_e En43 Hv40
    refine s_p [(8, g_i .i64 (Go.Dbr.u8_to_i64 (x := List.getD lq 2 0) rfl))] ?_
    refine s_p [(9, g_n (w_r (e := ((UInt8.toNat (List.getD lq 2 0) : Nat) : Int) * 2 ^ 8) (x := (((UInt8.toNat (List.getD lq 2 0)) * 256 : Nat) : Int)) (by omega)))] ?_
    refine s_p [(10, g_i .i64 (Go.Dbr.i64_or_low (x := (UInt8.toNat (List.getD lq 1 0))) (y := (UInt8.toNat (List.getD lq 2 0)) * 256) 16 (by omega) (by omega)))] ?_
    refine s_p [] ?_
    have hb46 : 3 < List.length lq := (by omega)
    refine s_c (fun Mx47 ac48 wo49 En50 Hv51 => ?_) ?_
    ·
     refine q_v (x := Instr.indexAt 23 (.slice aq (List.length lq) cq) (.int .i64 3)) (v := .pointer (some (Addr.add adq 3))) En50 (Go.Dbr.run_indexsl (e := 5) (sz := 1) (j := 3) (jo := 3) hadq (by kernel_rfl) (by kernel_rfl) (by omega) hb46 (Nat.mul_one _) _) fun ac52 En53 => ?_
     exact s_e En53 Hv51
    refine s_c (fun Mx54 ac55 wo56 En57 Hv58 => ?_) ?_
    ·
     have hb59 : 3 < List.length lq := by omega
     refine op_loadel (d := some 23) (t := 5) (ad := adq) (ao := aq) (xs := bys lq) (j := 3) (v := .int .u8 ((UInt8.toNat (List.getD lq 3 0) : Nat) : Int)) En57 (by kernel_rfl) (iq.ev Hv58).reads hadq (bys_getD hb59) (by kernel_rfl) ?_
     intro ac60 En61
     exact s_e En61 Hv58
    refine s_p [(14, g_i .i64 (Go.Dbr.u8_to_i64 (x := List.getD lq 3 0) rfl))] ?_
    have hb1 := u8_lt (List.getD lq 1 0)
    have hb2 := u8_lt (List.getD lq 2 0)
    have hb3 := u8_lt (List.getD lq 3 0)
    refine s_p [(15, g_v (show (.int .i64 (IntKind.wrap .i64 ((BitVec.ofInt (IntKind.bits .i64) (((UInt8.toNat (List.getD lq 1 0)) * 65536 + ((UInt8.toNat (List.getD lq 2 0)) * 256) : Nat) : Int) ||| BitVec.ofInt (IntKind.bits .i64) ((UInt8.toNat (List.getD lq 3 0) : Nat) : Int)).toNat : Int)) : Value) = .int .i64 ((n3 lq : Nat) : Int) by rw [i64_or3 (x := UInt8.toNat (List.getD lq 1 0)) (y := UInt8.toNat (List.getD lq 2 0)) (z := UInt8.toNat (List.getD lq 3 0)) hb1 hb2 hb3, ← n3_eq hl4] <;> rfl))] ?_
    refine s_p [] ?_
    exact s_n
   exact a_e ⟨En64.sb, Hv65.pk []⟩
  rintro ac66 wo67 ⟨En68, Hv69⟩
  have hn3 := n3_lt lq
  refine then_normal ?_
  refine wp_seq ?_
  refine d_s [0,2,3,4,5,6,27] [] En68 fun ac70 En71 => ?_
  refine c_d (((n3 lq : Nat) : Int) > (16384 : Int)) En71 (fun hc72 => ?_) (fun hc72 => ?_)
  ·
   refine d_s [0,2,3,4,5,6] [] En71 fun ac73 En74 => ?_
   refine wp_ret ?_
   refine then_ret ?_
   refine d_ret4 (t := 2) (u := 3) (s := 4) (r := 5) (v := .int .u8 0) (x := .slice none 0 0) (y := .int .i64 0) (z := .int .i64 50) En74 (by kernel_rfl) (by kernel_rfl) (by kernel_rfl) (by kernel_rfl) (by kernel_rfl) ?_
   have e : unfN lq = (0, [], 0, 50) := by first | exact uf_1 (by omega) | exact uf_2 (by omega) (by first | omega | (unfold n3; omega)) | exact uf_3 (by omega) (by first | omega | (unfold n3; omega)) (by first | omega | (unfold n3; omega))
   rw [e]
   exact ⟨none, 0, rfl, (Ev.nil (sz := 1) (T := 5) Hv69).pk [0]⟩
  ·
   refine wp_skip ?_
   refine then_normal ?_
   refine wp_seq ?_
   refine d_s [0,2,3,4,5,6,32] [(3, g_n (w_a 4 (n3 lq)))] En71 fun ac75 En76 => ?_
   refine c_d (((List.length lq : Nat) : Int) < ((4 + (n3 lq) : Nat) : Int)) En76 (fun hc77 => ?_) (fun hc77 => ?_)
   ·
    refine d_s [0,2,3,4,5,6] [] En76 fun ac78 En79 => ?_
    refine wp_ret ?_
    refine then_ret ?_
    refine d_ret4 (t := 2) (u := 3) (s := 4) (r := 5) (v := .int .u8 0) (x := .slice none 0 0) (y := .int .i64 0) (z := .int .i64 0) En79 (by kernel_rfl) (by kernel_rfl) (by kernel_rfl) (by kernel_rfl) (by kernel_rfl) ?_
    have e : unfN lq = (0, [], 0, 0) := by first | exact uf_1 (by omega) | exact uf_2 (by omega) (by first | omega | (unfold n3; omega)) | exact uf_3 (by omega) (by first | omega | (unfold n3; omega)) (by first | omega | (unfold n3; omega))
    rw [e]
    exact ⟨none, 0, rfl, (Ev.nil (sz := 1) (T := 5) Hv69).pk [0]⟩
   ·
    refine wp_skip ?_
    refine then_normal ?_
    refine wp_seq ?_
    have hn3 := n3_lt lq
    refine r_c (fun ac wo => ∃ (ao197 : Option Addr) (cp198 : Nat), Env ac 44 [(0, .slice aq (List.length lq) cq), (2, .int .u8 ((UInt8.toNat (List.getD lq 0 0) : Nat) : Int)), (3, .slice ao197 (List.length (List.take ((4 + (n3 lq)) - 4) (List.drop 4 lq))) cp198), (4, .int .i64 ((4 + (n3 lq) : Nat) : Int)), (5, .int .i64 0), (6, .int .i64 ((n3 lq : Nat) : Int))] ∧ Ev w [] wo [.vec ao197 cp198 1 (bys (List.take ((4 + (n3 lq)) - 4) (List.drop 4 lq))) 5]) ?_ ?_
    ·
     refine h_s (fun wv => Ev w [] wv []) [] 15 ?_
     have wo80 := Hv69.trans (Ev.drew Hv69.heap)
     refine h_name fun G hG => ?_
     have nd225 : ∀ (ac : Act) (wo : World) (bk189 : Nat), Env ac 44 [(0, .slice aq (List.length lq) cq), (2, .int .u8 0), (3, .slice none 0 0), (4, .int .i64 0), (5, .int .i64 0), (6, .int .i64 ((n3 lq : Nat) : Int)), (35, .int .u8 ((UInt8.toNat (List.getD lq 0 0) : Nat) : Int)), (36, .slice (some ⟨bk189, 0, none⟩) 0 0), (37, .slice aq (List.length lq) cq), (39, .int .i64 ((4 + (n3 lq) : Nat) : Int)), (43, .int .i64 ((4 + (n3 lq) : Nat) : Int))] → Ev w [] wo [.vec (some ⟨bk189, 0, none⟩) 0 1 (bys []) 5] → G 6 #[true, true, true, true, true, true, true, false, false, true, true, false, false, false, false] ac wo := by
      intro ac226 wo227 bk189 En228 Hv229
      refine h_from hG ?_
      refine q_t 7 ?_
      have hcap230 := iq.cap
      refine op_slice (d := some 40) (t := 23) (e := 5) (sz := 1) (len := List.length lq) (cap := cq) (lo := 4) (hi := 4 + (n3 lq)) (ao := aq) (lov := (some (.int .i64 4))) (hiv := (some (.int .i64 ((4 + (n3 lq) : Nat) : Int)))) En228 (by kernel_rfl) (by kernel_rfl) (by kernel_rfl) (by omega) (by omega) (.inr ⟨.i64, rfl⟩) (.inr ⟨.i64, rfl⟩) ?_
      intro ac231 En232
      refine ⟨fun _ => Hv229.pk [], ?_⟩
      refine q_t 8 ?_
      refine op_append (d := some 41) (t := 23) (tx := 23) (ty := 23) (k := 0) (p := 0) (m := (4 + (n3 lq)) - 4) (x := .slice (cutAt aq cq 4 1) ((4 + (n3 lq)) - 4) (cq - 4)) (bytes := 1) En232 (by kernel_rfl) Hv229 rfl rfl (Reads.src (size := 1) (tx := 23) (e' := 5) (by kernel_rfl) (bys_cut_reads (iq.ev Hv229).reads (n := (List.length lq)) cq 4 (4 + (n3 lq)) (by simp) (by omega) (by omega) (by omega)) (bys_lenn (by first | (simp; done) | (simp; omega))) (fun e => cut_nz iq.nz e (by omega)) (bys_one _)) (by kernel_rfl) (z := .int .u8 0) (by kernel_rfl) rfl (by decide) (by omega) (by unfold maxLen; omega) ?_
      intro ac237 wo238 ao233 cp234 En239 Hv240 hnz _
      clear hnz
      rw [bys_nil_append] at Hv240
      have ehz235 : 0 + ((4 + (n3 lq)) - 4) = List.length (List.take ((4 + (n3 lq)) - 4) (List.drop 4 lq)) := (by first | (simp; done) | (simp; omega) | omega)
      rw [ehz235] at En239
      refine ⟨fun _ => Hv240.pk [], ?_⟩
      refine q_s [11,12,13,14] [] 0 En239 (Hv240.pk []) fun ac241 En242 => ?_
      exact h_e ⟨ao233, cp234, En242.sb, Hv240.pk [0]⟩
     have nd243 : ∀ (ac : Act) (wo : World), Env ac 44 [(0, .slice aq (List.length lq) cq), (2, .int .u8 0), (3, .slice none 0 0), (4, .int .i64 0), (5, .int .i64 0), (6, .int .i64 ((n3 lq : Nat) : Int)), (35, .int .u8 ((UInt8.toNat (List.getD lq 0 0) : Nat) : Int)), (40, .slice (cutAt aq cq 4 1) ((4 + (n3 lq)) - 4) (cq - 4)), (43, .int .i64 ((4 + (n3 lq) : Nat) : Int))] → Ev w [] wo [] → G 6 #[true, true, true, false, true, true, true, true, false, true, true, false, false, false, false] ac wo := by
      intro ac244 wo245 En246 Hv247
      refine h_from hG ?_
      refine q_t 3 ?_
      refine op_lit (d := some 36) (t := 23) (T := 5) (m := 0) (parts := #[]) (xs := bys []) (sz := 1) En246 (by kernel_rfl) (by kernel_rfl) rfl (by decide) Hv247 ?_
      intro ac249 wo250 bk248 En251 Hv252
      refine ⟨fun _ => Hv252.pk [], ?_⟩
      refine q_t 8 ?_
      refine op_append (d := some 41) (t := 23) (tx := 23) (ty := 23) (k := 0) (p := 0) (m := (4 + (n3 lq)) - 4) (x := .slice (cutAt aq cq 4 1) ((4 + (n3 lq)) - 4) (cq - 4)) (bytes := 1) En251 (by kernel_rfl) Hv252 rfl rfl (Reads.src (size := 1) (tx := 23) (e' := 5) (by kernel_rfl) (bys_cut_reads (iq.ev Hv252).reads (n := (List.length lq)) cq 4 (4 + (n3 lq)) (by simp) (by omega) (by omega) (by omega)) (bys_lenn (by first | (simp; done) | (simp; omega))) (fun e => cut_nz iq.nz e (by omega)) (bys_one _)) (by kernel_rfl) (z := .int .u8 0) (by kernel_rfl) rfl (by decide) (by omega) (by unfold maxLen; omega) ?_
      intro ac257 wo258 ao253 cp254 En259 Hv260 hnz _
      clear hnz
      rw [bys_nil_append] at Hv260
      have ehz255 : 0 + ((4 + (n3 lq)) - 4) = List.length (List.take ((4 + (n3 lq)) - 4) (List.drop 4 lq)) := (by first | (simp; done) | (simp; omega) | omega)
      rw [ehz255] at En259
      refine ⟨fun _ => Hv260.pk [], ?_⟩
      refine q_s [11,12,13,14] [] 0 En259 (Hv260.pk []) fun ac261 En262 => ?_
      exact h_e ⟨ao253, cp254, En262.sb, Hv260.pk [0]⟩
     refine h_from hG ?_
     have hb265 : 0 < List.length lq := (by omega)
     refine q_s [0] [] 14 En76 (wo80.pk []) fun ac266 En267 => ?_
     refine q_f 1 (s := Instr.indexAt 23 (.slice aq (List.length lq) cq) (.int .i64 0)) (v := .pointer (some (Addr.add adq 0))) En267 (fun _ => Go.Dbr.run_indexsl (e := 5) (sz := 1) (j := 0) (jo := 0) hadq (by kernel_rfl) (by kernel_rfl) (by omega) hb265 (Nat.mul_one _) _) (fun _ => wo80.pk []) fun ac268 En269 => ?_
     have hb270 : 0 < List.length lq := by omega
     refine q_r 2 (s := Instr.loadAt 5 (.pointer (some (Addr.add adq 0)))) (v := .int .u8 ((UInt8.toNat (List.getD lq 0 0) : Nat) : Int)) En269 (fun w hS => run_loadel (ad := adq) (o := 0) rfl (iq.ev hS).reads hadq (bys_getD hb270) (by kernel_rfl)) (wo80.pk []) fun ac271 En272 => ?_
     refine q_s [4,5,6,9,10] [(6, g_n (w_a 4 (n3 lq))), (10, g_n (w_a 4 (n3 lq)))] 7 En272 (wo80.pk []) fun ac273 En274 => ?_
     refine h_ways [3, 7] (by kernel_rfl) rfl ?_
     refine ⟨?_, ?_, trivial⟩
     ·
      rintro _ rfl
      refine op_lit (d := some 36) (t := 23) (T := 5) (m := 0) (parts := #[]) (xs := bys []) (sz := 1) En274 (by kernel_rfl) (by kernel_rfl) rfl (by decide) wo80 ?_
      intro ac276 wo277 bk275 En278 Hv279
      refine ⟨fun _ => Hv279.pk [], ?_⟩
      exact h_to hG (by kernel_rfl) (nd225 _ _ bk275 (En278.sb) (Hv279.pk [0]))
     ·
      rintro _ rfl
      have hcap280 := iq.cap
      refine op_slice (d := some 40) (t := 23) (e := 5) (sz := 1) (len := List.length lq) (cap := cq) (lo := 4) (hi := 4 + (n3 lq)) (ao := aq) (lov := (some (.int .i64 4))) (hiv := (some (.int .i64 ((4 + (n3 lq) : Nat) : Int)))) En274 (by kernel_rfl) (by kernel_rfl) (by kernel_rfl) (by omega) (by omega) (.inr ⟨.i64, rfl⟩) (.inr ⟨.i64, rfl⟩) ?_
      intro ac281 En282
      refine ⟨fun _ => wo80.pk [], ?_⟩
      exact h_to hG (by kernel_rfl) (nd243 _ _ (En282.sb) (wo80.pk []))
    rintro ac283 wo284 ⟨ao197, cp198, En285, Hv286⟩
    refine then_normal ?_
    refine wp_ret ?_
    refine d_ret4 (t := 2) (u := 3) (s := 4) (r := 5) (v := .int .u8 ((UInt8.toNat (List.getD lq 0 0) : Nat) : Int)) (x := .slice ao197 (List.length (List.take ((4 + (n3 lq)) - 4) (List.drop 4 lq))) cp198) (y := .int .i64 ((4 + (n3 lq) : Nat) : Int)) (z := .int .i64 0) En285 (by kernel_rfl) (by kernel_rfl) (by kernel_rfl) (by kernel_rfl) (by kernel_rfl) ?_
    have e : unfN lq = (List.getD lq 0 0, List.take ((4 + (n3 lq)) - 4) (List.drop 4 lq), 4 + n3 lq, 0) := by rw [uf_4 (by omega) (by first | omega | (unfold n3; omega)) (by first | omega | (unfold n3; omega))]; rw [show 4 + n3 lq - 4 = n3 lq by omega]
    rw [e]
    exact ⟨ao197, cp198, rfl, Hv286.pk [0]⟩

def retryL : Bs := [207, 33, 173, 116, 229, 154, 97, 17, 190, 29, 140, 2, 30, 101, 184, 145, 194, 162, 17, 22, 122, 187, 140, 94, 7, 158, 9, 226, 200, 168, 51, 156]

theorem retry_go (w : World) : Calls Try.prog 15 #[] w fun e w' => e = .returned (.agg (List.toArray (bys retryL))) ∧ Ev w [] w' [] := by
 refine d_0 [] 5 Go.Proofs.Try.func15 Go.Proofs.Try.ntmps15 (Heap.nil _) fun act0 En0 Hv0 => ?_
 refine wp_seq ?_
 refine region_from ?_
 refine f_o ?_
 refine m_z 29 (bys (List.replicate 32 0)) En0 Hv0 fun ac2 wo3 bk1 En4 Hv5 => ?_
 refine f_e ?_
 refine then_normal ?_
 refine wp_seq ?_
 refine region_from ?_
 refine f_o ?_
 refine op_lit (d := some 1) (t := 23) (T := 5) (m := 32) (parts := #[(0, .int .u8 207), (1, .int .u8 33), (2, .int .u8 173), (3, .int .u8 116), (4, .int .u8 229), (5, .int .u8 154), (6, .int .u8 97), (7, .int .u8 17), (8, .int .u8 190), (9, .int .u8 29), (10, .int .u8 140), (11, .int .u8 2), (12, .int .u8 30), (13, .int .u8 101), (14, .int .u8 184), (15, .int .u8 145), (16, .int .u8 194), (17, .int .u8 162), (18, .int .u8 17), (19, .int .u8 22), (20, .int .u8 122), (21, .int .u8 187), (22, .int .u8 140), (23, .int .u8 94), (24, .int .u8 7), (25, .int .u8 158), (26, .int .u8 9), (27, .int .u8 226), (28, .int .u8 200), (29, .int .u8 168), (30, .int .u8 51), (31, .int .u8 156)]) (xs := bys [(207 : UInt8), (33 : UInt8), (173 : UInt8), (116 : UInt8), (229 : UInt8), (154 : UInt8), (97 : UInt8), (17 : UInt8), (190 : UInt8), (29 : UInt8), (140 : UInt8), (2 : UInt8), (30 : UInt8), (101 : UInt8), (184 : UInt8), (145 : UInt8), (194 : UInt8), (162 : UInt8), (17 : UInt8), (22 : UInt8), (122 : UInt8), (187 : UInt8), (140 : UInt8), (94 : UInt8), (7 : UInt8), (158 : UInt8), (9 : UInt8), (226 : UInt8), (200 : UInt8), (168 : UInt8), (51 : UInt8), (156 : UInt8)]) (sz := 1) En4 (by kernel_rfl) (by kernel_rfl) rfl (by decide) Hv5 ?_
 intro ac7 wo8 bk6 En9 Hv10
 refine f_o ?_
 refine op_marked (d := some 2) (t := 23) (e := 5) (k := 1) (cap := 32) (m := 32) (ad := ⟨bk6, 0, none⟩) (xs := bys [(207 : UInt8), (33 : UInt8), (173 : UInt8), (116 : UInt8), (229 : UInt8), (154 : UInt8), (97 : UInt8), (17 : UInt8), (190 : UInt8), (29 : UInt8), (140 : UInt8), (2 : UInt8), (30 : UInt8), (101 : UInt8), (184 : UInt8), (145 : UInt8), (194 : UInt8), (162 : UInt8), (17 : UInt8), (22 : UInt8), (122 : UInt8), (187 : UInt8), (140 : UInt8), (94 : UInt8), (7 : UInt8), (158 : UInt8), (9 : UInt8), (226 : UInt8), (200 : UInt8), (168 : UInt8), (51 : UInt8), (156 : UInt8)]) (T := 5) En9 (by kernel_rfl) (by kernel_rfl) (by kernel_rfl) Hv10 rfl ?_
 intro ac11 wo12  En13 Hv14
 refine f_o ?_
 refine q_v (x := Instr.arrayAt 29 (.slice (some ⟨bk6, 0, none⟩) 32 32)) (v := pt bk6) En13 (Go.Dbr.run_toarr2 (e := 5) (m := 32) (by kernel_rfl) rfl (by omega) _) fun ac18 En19 => ?_
 refine f_o ?_
 have hb20 : 32 ≤ List.length [(207 : UInt8), (33 : UInt8), (173 : UInt8), (116 : UInt8), (229 : UInt8), (154 : UInt8), (97 : UInt8), (17 : UInt8), (190 : UInt8), (29 : UInt8), (140 : UInt8), (2 : UInt8), (30 : UInt8), (101 : UInt8), (184 : UInt8), (145 : UInt8), (194 : UInt8), (162 : UInt8), (17 : UInt8), (22 : UInt8), (122 : UInt8), (187 : UInt8), (140 : UInt8), (94 : UInt8), (7 : UInt8), (158 : UInt8), (9 : UInt8), (226 : UInt8), (200 : UInt8), (168 : UInt8), (51 : UInt8), (156 : UInt8)] := by first | omega | (simp; done) | (simp; omega)
 refine op_loadaggat (d := some 4) (t := 29) (ad := ⟨bk6, 0, none⟩) (ao := some ⟨bk6, 0, none⟩) (ys := bys [(207 : UInt8), (33 : UInt8), (173 : UInt8), (116 : UInt8), (229 : UInt8), (154 : UInt8), (97 : UInt8), (17 : UInt8), (190 : UInt8), (29 : UInt8), (140 : UInt8), (2 : UInt8), (30 : UInt8), (101 : UInt8), (184 : UInt8), (145 : UInt8), (194 : UInt8), (162 : UInt8), (17 : UInt8), (22 : UInt8), (122 : UInt8), (187 : UInt8), (140 : UInt8), (94 : UInt8), (7 : UInt8), (158 : UInt8), (9 : UInt8), (226 : UInt8), (200 : UInt8), (168 : UInt8), (51 : UInt8), (156 : UInt8)]) (o := 0) (m := 32) (xs := bys (List.take 32 [(207 : UInt8), (33 : UInt8), (173 : UInt8), (116 : UInt8), (229 : UInt8), (154 : UInt8), (97 : UInt8), (17 : UInt8), (190 : UInt8), (29 : UInt8), (140 : UInt8), (2 : UInt8), (30 : UInt8), (101 : UInt8), (184 : UInt8), (145 : UInt8), (194 : UInt8), (162 : UInt8), (17 : UInt8), (22 : UInt8), (122 : UInt8), (187 : UInt8), (140 : UInt8), (94 : UInt8), (7 : UInt8), (158 : UInt8), (9 : UInt8), (226 : UInt8), (200 : UInt8), (168 : UInt8), (51 : UInt8), (156 : UInt8)])) En19 (by kernel_rfl) (add0 _) (Hv14.heap.reads (k := 1) rfl) rfl bys_pre (bys_prel hb20) (by kernel_rfl) (by kernel_rfl) ?_
 intro ac21 En22
 refine f_o ?_
 refine m_g 0 0 32 (bys (List.take 32 [(207 : UInt8), (33 : UInt8), (173 : UInt8), (116 : UInt8), (229 : UInt8), (154 : UInt8), (97 : UInt8), (17 : UInt8), (190 : UInt8), (29 : UInt8), (140 : UInt8), (2 : UInt8), (30 : UInt8), (101 : UInt8), (184 : UInt8), (145 : UInt8), (194 : UInt8), (162 : UInt8), (17 : UInt8), (22 : UInt8), (122 : UInt8), (187 : UInt8), (140 : UInt8), (94 : UInt8), (7 : UInt8), (158 : UInt8), (9 : UInt8), (226 : UInt8), (200 : UInt8), (168 : UInt8), (51 : UInt8), (156 : UInt8)])) (bys (List.take 32 [(207 : UInt8), (33 : UInt8), (173 : UInt8), (116 : UInt8), (229 : UInt8), (154 : UInt8), (97 : UInt8), (17 : UInt8), (190 : UInt8), (29 : UInt8), (140 : UInt8), (2 : UInt8), (30 : UInt8), (101 : UInt8), (184 : UInt8), (145 : UInt8), (194 : UInt8), (162 : UInt8), (17 : UInt8), (22 : UInt8), (122 : UInt8), (187 : UInt8), (140 : UInt8), (94 : UInt8), (7 : UInt8), (158 : UInt8), (9 : UInt8), (226 : UInt8), (200 : UInt8), (168 : UInt8), (51 : UInt8), (156 : UInt8)])) [.box bk1 (bys (List.take 32 [(207 : UInt8), (33 : UInt8), (173 : UInt8), (116 : UInt8), (229 : UInt8), (154 : UInt8), (97 : UInt8), (17 : UInt8), (190 : UInt8), (29 : UInt8), (140 : UInt8), (2 : UInt8), (30 : UInt8), (101 : UInt8), (184 : UInt8), (145 : UInt8), (194 : UInt8), (162 : UInt8), (17 : UInt8), (22 : UInt8), (122 : UInt8), (187 : UInt8), (140 : UInt8), (94 : UInt8), (7 : UInt8), (158 : UInt8), (9 : UInt8), (226 : UInt8), (200 : UInt8), (168 : UInt8), (51 : UInt8), (156 : UInt8)])) 29, .vec (some ⟨bk6, 0, none⟩) 32 1 (bys [(207 : UInt8), (33 : UInt8), (173 : UInt8), (116 : UInt8), (229 : UInt8), (154 : UInt8), (97 : UInt8), (17 : UInt8), (190 : UInt8), (29 : UInt8), (140 : UInt8), (2 : UInt8), (30 : UInt8), (101 : UInt8), (184 : UInt8), (145 : UInt8), (194 : UInt8), (162 : UInt8), (17 : UInt8), (22 : UInt8), (122 : UInt8), (187 : UInt8), (140 : UInt8), (94 : UInt8), (7 : UInt8), (158 : UInt8), (9 : UInt8), (226 : UInt8), (200 : UInt8), (168 : UInt8), (51 : UInt8), (156 : UInt8)]) 5] En22 Hv14 rfl (bys_lenh (by first | (simp; done) | (simp; omega) | (rw [List.length_take]; omega))) (by rw [(bys_lenh (List.length_replicate))]; first | decide | (simp; done)) (bys_one _) (store_whole (bys_lenh (List.length_replicate))) rfl fun ac23 wo24 En25 Hv26 => ?_
 refine f_e ?_
 refine then_normal ?_
 refine wp_ret ?_
 refine d_cell1 (v := .agg (List.toArray (bys (List.take 32 [(207 : UInt8), (33 : UInt8), (173 : UInt8), (116 : UInt8), (229 : UInt8), (154 : UInt8), (97 : UInt8), (17 : UInt8), (190 : UInt8), (29 : UInt8), (140 : UInt8), (2 : UInt8), (30 : UInt8), (101 : UInt8), (184 : UInt8), (145 : UInt8), (194 : UInt8), (162 : UInt8), (17 : UInt8), (22 : UInt8), (122 : UInt8), (187 : UInt8), (140 : UInt8), (94 : UInt8), (7 : UInt8), (158 : UInt8), (9 : UInt8), (226 : UInt8), (200 : UInt8), (168 : UInt8), (51 : UInt8), (156 : UInt8)])))) (t := 0) (T := 29) (ad := ⟨bk1, 0, none⟩) En25 (by kernel_rfl) (by kernel_rfl) (Ev.cellAgg (t := 29) (k := 0) (off := 0) (m := 32) (xs := bys (List.take 32 [(207 : UInt8), (33 : UInt8), (173 : UInt8), (116 : UInt8), (229 : UInt8), (154 : UInt8), (97 : UInt8), (17 : UInt8), (190 : UInt8), (29 : UInt8), (140 : UInt8), (2 : UInt8), (30 : UInt8), (101 : UInt8), (184 : UInt8), (145 : UInt8), (194 : UInt8), (162 : UInt8), (17 : UInt8), (22 : UInt8), (122 : UInt8), (187 : UInt8), (140 : UInt8), (94 : UInt8), (7 : UInt8), (158 : UInt8), (9 : UInt8), (226 : UInt8), (200 : UInt8), (168 : UInt8), (51 : UInt8), (156 : UInt8)])) Hv26 rfl (load_whole (bys_lenh (by first | (simp; done) | (simp; omega) | (rw [List.length_take]; omega)))) (bys_lenh (by first | (simp; done) | (simp; omega) | (rw [List.length_take]; omega))) (by kernel_rfl) (by kernel_rfl)) ?_
 exact ⟨by kernel_rfl, Hv26.pk []⟩

theorem dretry_go (w : World) : Calls Try.prog 16 #[] w fun e w' => e = .returned (.agg (List.toArray (bys retryL))) ∧ Ev w [] w' [] := by
 refine d_0 [] 2 Go.Proofs.Try.func16 Go.Proofs.Try.ntmps16 (Heap.nil _) fun act0 En0 Hv0 => ?_
 refine wp_seq ?_
 refine region_from ?_
 refine f_o ?_
 refine m_z 29 (bys (List.replicate 32 0)) En0 Hv0 fun ac2 wo3 bk1 En4 Hv5 => ?_
 refine f_e ?_
 refine then_normal ?_
 refine wp_seq ?_
 refine region_from ?_
 refine d_k [0,1] [] 1 En4 fun ac6 En7 => ?_
 refine f_o ?_
 refine m_g 0 0 32 (bys ([207, 33, 173, 116, 229, 154, 97, 17, 190, 29, 140, 2, 30, 101, 184, 145, 194, 162, 17, 22, 122, 187, 140, 94, 7, 158, 9, 226, 200, 168, 51, 156] : List UInt8)) (bys ([207, 33, 173, 116, 229, 154, 97, 17, 190, 29, 140, 2, 30, 101, 184, 145, 194, 162, 17, 22, 122, 187, 140, 94, 7, 158, 9, 226, 200, 168, 51, 156] : List UInt8)) [.box bk1 (bys ([207, 33, 173, 116, 229, 154, 97, 17, 190, 29, 140, 2, 30, 101, 184, 145, 194, 162, 17, 22, 122, 187, 140, 94, 7, 158, 9, 226, 200, 168, 51, 156] : List UInt8)) 29] En7 Hv5 rfl (bys_lenh (show List.length ([207, 33, 173, 116, 229, 154, 97, 17, 190, 29, 140, 2, 30, 101, 184, 145, 194, 162, 17, 22, 122, 187, 140, 94, 7, 158, 9, 226, 200, 168, 51, 156] : List UInt8) = 32 from rfl)) (by rw [(bys_lenh (List.length_replicate))]; first | decide | (simp; done)) (bys_one _) (store_whole (bys_lenh (List.length_replicate))) rfl fun ac8 wo9 En10 Hv11 => ?_
 refine f_e ?_
 refine then_normal ?_
 refine wp_ret ?_
 refine d_cell1 (v := .agg (List.toArray (bys ([207, 33, 173, 116, 229, 154, 97, 17, 190, 29, 140, 2, 30, 101, 184, 145, 194, 162, 17, 22, 122, 187, 140, 94, 7, 158, 9, 226, 200, 168, 51, 156] : List UInt8)))) (t := 0) (T := 29) (ad := ⟨bk1, 0, none⟩) En10 (by kernel_rfl) (by kernel_rfl) (Ev.cellAgg (t := 29) (k := 0) (off := 0) (m := 32) (xs := bys ([207, 33, 173, 116, 229, 154, 97, 17, 190, 29, 140, 2, 30, 101, 184, 145, 194, 162, 17, 22, 122, 187, 140, 94, 7, 158, 9, 226, 200, 168, 51, 156] : List UInt8)) Hv11 rfl (load_whole (bys_lenh (show List.length ([207, 33, 173, 116, 229, 154, 97, 17, 190, 29, 140, 2, 30, 101, 184, 145, 194, 162, 17, 22, 122, 187, 140, 94, 7, 158, 9, 226, 200, 168, 51, 156] : List UInt8) = 32 from rfl))) (bys_lenh (show List.length ([207, 33, 173, 116, 229, 154, 97, 17, 190, 29, 140, 2, 30, 101, 184, 145, 194, 162, 17, 22, 122, 187, 140, 94, 7, 158, 9, 226, 200, 168, 51, 156] : List UInt8) = 32 from rfl)) (by kernel_rfl) (by kernel_rfl)) ?_
 exact ⟨by kernel_rfl, Hv11.pk []⟩

end Go.Proofs.Ytofecellbfhnjaa
