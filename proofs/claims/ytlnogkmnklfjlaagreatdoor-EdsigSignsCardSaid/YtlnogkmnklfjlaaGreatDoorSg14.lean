import Derived.Test.YtlnogkmnklfjlaaGreatDoorSg11
open List renaming getD → za, length → zb, replicate → zd, toArray → zg, length_replicate → zi, take → zn, drop → zo, set → zp, length_append → zC, getD_eq_getElem?_getD → zI, length_cons → zX, length_nil → ZH, getElem?_take → ZT, append_assoc → Qj, getElem?_drop → QJ, replicate_succ → Jb, set_append_right → XE, set_cons_zero → Kc
open UInt64 renaming ofNat → zc, toUInt8 → zj, eq_of_toBitVec_eq → Xl, toBitVec_xor → XW, toBitVec_and → XX
open Go.Dbr renaming then_normal → ze, u64s_lenh → zf, u64s → zh, region_from → zk, uv64 → zm, u64s_one → zt, block_normal → zv, u64s_getD → zx, then_exit → zy, loop_once → zF, block_exit → zL, bys_append → Zd, run_load1 → Zf, bys_one → Zj, op_append → Zk, bys_len → ZD, op_lit → ZO, loop_m → ZR, u64s_set → ZU, d_ret1 → Qu, loop_enter → QI
open Go.Dbr.Ev renaming drew → zO
open Go.Proofs.YtlnogkmnklfjlaaGreatDoor.Sh renaming rotr64 → zP, init64 → YI, wB64_len → Ji, padB → Jp, add64 → XQ
open UInt8 renaming toUInt64 → Zc
open Go.Dbr.Reads renaming src → Zg
open Nat renaming mod_lt → ZL, le_refl → ZP, sub_self → Yl
open BitVec renaming eq_of_getLsbD_eq → Xo, getLsbD_xor → Ka, getLsbD_and → Kb
namespace Go.Proofs.YtlnogkmnklfjlaaGreatDoor.Sh
open Go.Dbr
set_option maxRecDepth 100000
set_option maxHeartbeats 2000000
set_option linter.unusedVariables false
set_option linter.unusedSimpArgs false
theorem rest64_mod (al : List UInt8) : (rest64 al).length = al.length % 128 := by unfold rest64; rw [List.length_drop]; omega
theorem app_b1 {n l j g : Nat} (h : g = l + 2 + j + n) (hs : l ≤ 140737488353280) (hj : j < 128) (hn : n ≤ 20) : ((g + 1) + (g + 1) / 4 + 192) * 1 ≤ 281474976710656 := by omega
theorem app_b2 {n l j g : Nat} (h : g = l + 2 + j + n) (hs : l ≤ 140737488353280) (hj : j < 128) (hn : n ≤ 20) : g + 1 ≤ maxLen := by unfold maxLen; omega
theorem app_n {n l j g : Nat} (h : g = l + 2 + j + n) : g + 1 = l + 2 + j + (n + 1) := by omega
theorem pad_go2 {h : Int} (hh : h = 2 ∨ h = 3) (al : List UInt8) : padH h al = Jp 128 (al.length % 128) al.length := by unfold padH; rw [if_neg (by omega)]; unfold restH; rw [if_neg (by omega), rest64_mod]
theorem padded64_ref (w : World) (ax : Option Addr) (nx cx : Nat) (lx : List UInt8) (ex : nx = zb lx) (ix : InB w [] ax cx lx) : Calls Tryz.prog 106 #[.slice ax nx cx, .int .i64 128] w fun e w' => ∃ ao co, e = .returned (.slice ao (zb (lx ++ Jp 128 (zb lx % 128) (zb lx))) co) ∧ Ev w [] w' [.vec ao co 1 (bys (lx ++ Jp 128 (zb lx % 128) (zb lx))) 5] := by
 subst ex
 have hs := ix.small
 have hcx := ix.cap
 refine d_0 [(0, .slice ax (zb lx) cx), (1, .int .i64 128)] 52 Go.Proofs.Tryz.func106 Go.Proofs.Tryz.ntmps106 (Heap.nil _) fun cf cg ch => wp_seq <| d_r [0,1,4] [] cg fun _ ci => ze <| wp_seq <| zk <| f_o <| ZO (d := some 9) (t := 23) (T := 5) (m := 0) (parts := #[]) (xs := bys []) (sz := 1) ci (by kernel_rfl) (by kernel_rfl) rfl (by decide) ch ?_
 intro _ _ bk3 cj cc
 refine d_k [0,1,4,9,10] [] 2 cj fun _ ck => f_o ?_
 have cd := ix.small
 refine Zk (d := some 11) (t := 23) (tx := 23) (ty := 23) (k := 0) (p := 0) (m := zb lx) (x := .slice ax (zb lx) cx) (bytes := 1) ck (by kernel_rfl) cc rfl rfl (Zg (size := 1) (tx := 23) (e' := 5) (by kernel_rfl) (ix.ev cc).reads (ZD _) ix.nz (Zj _)) (by kernel_rfl) (z := .int .u8 0) (by kernel_rfl) rfl (by decide) (by omega) (by unfold maxLen; omega) ?_
 intro _ _ cl cm HL HM hnz _
 clear hnz
 rw [bys_nil_append] at HM
 have EG : 0 + (zb lx) = zb lx := (by first | (simp; done) | (simp; omega) | omega)
 rw [EG] at HL
 clear EG
 refine f_o <| ZO (d := some 12) (t := 23) (T := 5) (m := 1) (parts := #[(0, .int .u8 128)]) (xs := bys [(128 : UInt8)]) (sz := 1) HL (by kernel_rfl) (by kernel_rfl) rfl (by decide) HM ?_
 intro _ _ bL bM HN
 refine f_o <| Zk (d := some 13) (t := 23) (tx := 23) (ty := 23) (k := 0) (p := zb lx) (m := 1) (x := .slice (some ⟨bL, 0, none⟩) 1 1) (bytes := 1) bM (by kernel_rfl) HN rfl (ZD _) (Zg (size := 1) (tx := 23) (e' := 5) (by kernel_rfl) (HN.heap.reads (k := 1) rfl) rfl (fun e => by cases e) (Zj _)) (by kernel_rfl) (z := .int .u8 0) (by kernel_rfl) rfl (by decide) (by omega) (by unfold maxLen; omega) ?_
 intro _ _ bN bO HO HP hnz _
 clear hnz
 rw [← Zd] at HP
 have EH : (zb lx) + 1 = zb (lx ++ [(128 : UInt8)]) := (by first | (simp; done) | (simp; omega) | omega)
 rw [EH] at HO
 clear EH
 refine d_e [0,1,4,5] [] HO fun _ bP => ze <| wp_seq <| wp_block ?_
 have cn : lx ++ [(128 : UInt8)] = (lx ++ ([128] : List UInt8)) ++ zd 0 0 := by simp
 refine ZR (fun bQ ac wo => ∃ (j : Nat) (ae : Option Addr) (ce : Nat) (el : List UInt8), bQ = (pdZ 128 (zb lx % 128) - j : Nat) ∧ Env ac 52 [(0, .slice ax (zb lx) cx), (1, .int .i64 128), (4, .slice none 0 0), (5, .slice ae (zb el) ce)] ∧ Ev w [] wo [.vec ae ce 1 (bys el) 5] ∧ (j ≤ pdZ 128 (zb lx % 128)) ∧ (el = (lx ++ ([128] : List UInt8)) ++ zd j 0)) ⟨_, 0, bN, bO, lx ++ [(128 : UInt8)], rfl, bP.sb, HP.pk [0], Nat.zero_le _, cn⟩ ?_
 rintro cp _ _ ⟨j, ae, ce, el, rfl, bR, HQ, hj, heel⟩
 refine wp_seq <| wp_seq ?_
 have hel : zb el = zb lx + 1 + j := by rw [heel]; simp; omega
 have hpz : pdZ 128 (zb lx % 128) < 128 := ZL _ (by decide)
 refine d_r [0,1,4,5,22] [(3, g_i .i64 (show Int.tmod ((zb el : Nat) : Int) (128 : Int) = (((zb el) % 128 : Nat) : Int) from Go.Dbr.i64_rem_nat (a := ((zb el : Nat) : Int)) (n := zb el) (m := 128) rfl (by omega)))] bR fun _ HJ => ?_
 refine ze <| c_n (((zb el) % 128 : Nat) : Int) (112 : Int) HJ (fun bS => ?_) (fun bS => ?_)
 ·
  refine wp_skip <| ze <| wp_block <| zk <| d_k [0,1,4,5,23] [] 1 HJ fun _ bT => f_o <| ZO (d := some 24) (t := 23) (T := 5) (m := 1) (parts := #[(0, .int .u8 0)]) (xs := bys [(0 : UInt8)]) (sz := 1) bT (by kernel_rfl) (by kernel_rfl) rfl (by decide) HQ ?_
  intro _ _ bU bV HR
  refine f_o <| Zk (d := some 25) (t := 23) (tx := 23) (ty := 23) (k := 0) (p := zb el) (m := 1) (x := .slice (some ⟨bU, 0, none⟩) 1 1) (bytes := 1) bV (by kernel_rfl) HR rfl (ZD _) (Zg (size := 1) (tx := 23) (e' := 5) (by kernel_rfl) (HR.heap.reads (k := 1) rfl) rfl (fun e => by cases e) (Zj _)) (by kernel_rfl) (z := .int .u8 0) (by kernel_rfl) rfl (by decide) (by omega) (by unfold maxLen; omega) ?_
  intro _ _ bW bX HS HT hnz _
  clear hnz
  rw [← Zd] at HT
  have EI : (zb el) + 1 = zb (el ++ [(0 : UInt8)]) := (by first | (simp; done) | (simp; omega) | omega)
  rw [EI] at HS
  clear EI
  refine d_e [0,1,4,5] [] HS fun _ bY => zv <| ze <| ⟨_, ⟨j + 1, bW, bX, (el ++ [(0 : UInt8)]), rfl, bY.sb, HT.pk [0], by unfold pdZ at *; omega, by rw [heel]; exact end_step⟩, ?_⟩
  unfold pdZ at *; omega
 refine wp_exit <| zy <| zy <| zL <| ze <| wp_seq <| wp_seq ?_
 have hel : zb el = zb lx + 1 + j := by rw [heel]; simp; omega
 have hpz : pdZ 128 (zb lx % 128) < 128 := ZL _ (by decide)
 have hjp : j = pdZ 128 (zb lx % 128) := by unfold pdZ at *; omega
 have hjb : j < 128 := by omega
 refine d_r [0,1,4,5,6] [] HJ fun _ bZ => ze <| wp_block <| QI ?_
 refine zF <| wp_seq <| wp_seq <| d_r [0,1,4,5,6,29] [] bZ fun _ HU => ze <| c_t HU ?_
 refine wp_skip <| ze <| wp_seq <| wp_block <| zk <| d_k [0,1,4,5,6,32] [] 1 HU fun _ b0 => f_o <| ZO (d := some 33) (t := 23) (T := 5) (m := 1) (parts := #[(0, .int .u8 0)]) (xs := bys [(0 : UInt8)]) (sz := 1) b0 (by kernel_rfl) (by kernel_rfl) rfl (by decide) HQ ?_
 intro _ _ b1 b2 HV
 refine f_o <| Zk (d := some 34) (t := 23) (tx := 23) (ty := 23) (k := 0) (p := zb el) (m := 1) (x := .slice (some ⟨b1, 0, none⟩) 1 1) (bytes := 1) b2 (by kernel_rfl) HV rfl (ZD _) (Zg (size := 1) (tx := 23) (e' := 5) (by kernel_rfl) (HV.heap.reads (k := 1) rfl) rfl (fun e => by cases e) (Zj _)) (by kernel_rfl) (z := .int .u8 0) (by kernel_rfl) rfl (by decide) (by omega) (by unfold maxLen; omega) ?_
 intro _ _ b3 b4 HW HK hnz _
 clear hnz
 rw [← Zd] at HK
 have EJ : (zb el) + 1 = zb (el ++ [(0 : UInt8)]) := (by first | (simp; done) | (simp; omega) | omega)
 rw [EJ] at HW
 clear EJ
 refine d_e [0,1,4,5,6] [] HW fun _ HX => zv <| ze ?_
 generalize hg0 : el ++ [(0 : UInt8)] = gl0 at HK HX
 have hn0 : zb gl0 = zb lx + 2 + j + 0 := by rw [← hg0, zC]; simp only [zX, ZH]; omega
 have b5 := HK.pk [0] (M := [.vec b3 b4 1 (bys gl0) 5])
 refine d_r [0,1,4,5,6] [] HX fun _ b6 => ze <| zF <| wp_seq <| wp_seq <| d_r [0,1,4,5,6,29] [] b6 fun _ HY => ze <| c_t HY ?_
 refine wp_skip <| ze <| wp_seq <| wp_block <| zk <| d_k [0,1,4,5,6,32] [] 1 HY fun _ b7 => f_o <| ZO (d := some 33) (t := 23) (T := 5) (m := 1) (parts := #[(0, .int .u8 0)]) (xs := bys [(0 : UInt8)]) (sz := 1) b7 (by kernel_rfl) (by kernel_rfl) rfl (by decide) b5 ?_
 intro _ _ b8 b9 HZ
 refine f_o <| Zk (d := some 34) (t := 23) (tx := 23) (ty := 23) (k := 0) (p := zb gl0) (m := 1) (x := .slice (some ⟨b8, 0, none⟩) 1 1) (bytes := 1) b9 (by kernel_rfl) HZ rfl (ZD _) (Zg (size := 1) (tx := 23) (e' := 5) (by kernel_rfl) (HZ.heap.reads (k := 1) rfl) rfl (fun e => by cases e) (Zj _)) (by kernel_rfl) (z := .int .u8 0) (by kernel_rfl) rfl (by decide) (app_b1 hn0 hs hjb (by decide)) (app_b2 hn0 hs hjb (by decide)) ?_
 intro _ _ ca cb EK Ea hnz _
 clear hnz
 rw [← Zd] at Ea
 have EL : (zb gl0) + 1 = zb (gl0 ++ [(0 : UInt8)]) := (by first | (simp; done) | (simp; omega) | omega)
 rw [EL] at EK
 clear EL
 refine d_e [0,1,4,5,6] [] EK fun _ EM => zv <| ze ?_
 generalize hg1 : gl0 ++ [(0 : UInt8)] = gl1 at Ea EM
 have hn1 : zb gl1 = zb lx + 2 + j + 1 := by rw [← hg1, zC]; simp only [zX, ZH]; exact app_n hn0
 have H0 := Ea.pk [0] (M := [.vec ca cb 1 (bys gl1) 5])
 refine d_r [0,1,4,5,6] [] EM fun _ H1 => ze <| zF <| wp_seq <| wp_seq <| d_r [0,1,4,5,6,29] [] H1 fun _ EN => ze <| c_t EN ?_
 refine wp_skip <| ze <| wp_seq <| wp_block <| zk <| d_k [0,1,4,5,6,32] [] 1 EN fun _ H2 => f_o <| ZO (d := some 33) (t := 23) (T := 5) (m := 1) (parts := #[(0, .int .u8 0)]) (xs := bys [(0 : UInt8)]) (sz := 1) H2 (by kernel_rfl) (by kernel_rfl) rfl (by decide) H0 ?_
 intro _ _ H3 H4 EO
 refine f_o <| Zk (d := some 34) (t := 23) (tx := 23) (ty := 23) (k := 0) (p := zb gl1) (m := 1) (x := .slice (some ⟨H3, 0, none⟩) 1 1) (bytes := 1) H4 (by kernel_rfl) EO rfl (ZD _) (Zg (size := 1) (tx := 23) (e' := 5) (by kernel_rfl) (EO.heap.reads (k := 1) rfl) rfl (fun e => by cases e) (Zj _)) (by kernel_rfl) (z := .int .u8 0) (by kernel_rfl) rfl (by decide) (app_b1 hn1 hs hjb (by decide)) (app_b2 hn1 hs hjb (by decide)) ?_
 intro _ _ H5 H6 EP Eb hnz _
 clear hnz
 rw [← Zd] at Eb
 have Ec : (zb gl1) + 1 = zb (gl1 ++ [(0 : UInt8)]) := (by first | (simp; done) | (simp; omega) | omega)
 rw [Ec] at EP
 clear Ec
 refine d_e [0,1,4,5,6] [] EP fun _ EQ => zv <| ze ?_
 generalize hg2 : gl1 ++ [(0 : UInt8)] = gl2 at Eb EQ
 have hn2 : zb gl2 = zb lx + 2 + j + 2 := by rw [← hg2, zC]; simp only [zX, ZH]; exact app_n hn1
 have H7 := Eb.pk [0] (M := [.vec H5 H6 1 (bys gl2) 5])
 refine d_r [0,1,4,5,6] [] EQ fun _ H8 => ze <| zF <| wp_seq <| wp_seq <| d_r [0,1,4,5,6,29] [] H8 fun _ ER => ze <| c_t ER ?_
 refine wp_skip <| ze <| wp_seq <| wp_block <| zk <| d_k [0,1,4,5,6,32] [] 1 ER fun _ H9 => f_o <| ZO (d := some 33) (t := 23) (T := 5) (m := 1) (parts := #[(0, .int .u8 0)]) (xs := bys [(0 : UInt8)]) (sz := 1) H9 (by kernel_rfl) (by kernel_rfl) rfl (by decide) H7 ?_
 intro _ _ aa ab ES
 refine f_o <| Zk (d := some 34) (t := 23) (tx := 23) (ty := 23) (k := 0) (p := zb gl2) (m := 1) (x := .slice (some ⟨aa, 0, none⟩) 1 1) (bytes := 1) ab (by kernel_rfl) ES rfl (ZD _) (Zg (size := 1) (tx := 23) (e' := 5) (by kernel_rfl) (ES.heap.reads (k := 1) rfl) rfl (fun e => by cases e) (Zj _)) (by kernel_rfl) (z := .int .u8 0) (by kernel_rfl) rfl (by decide) (app_b1 hn2 hs hjb (by decide)) (app_b2 hn2 hs hjb (by decide)) ?_
 intro _ _ ad af ET Ed hnz _
 clear hnz
 rw [← Zd] at Ed
 have Ee : (zb gl2) + 1 = zb (gl2 ++ [(0 : UInt8)]) := (by first | (simp; done) | (simp; omega) | omega)
 rw [Ee] at ET
 clear Ee
 refine d_e [0,1,4,5,6] [] ET fun _ EU => zv <| ze ?_
 generalize hg3 : gl2 ++ [(0 : UInt8)] = gl3 at Ed EU
 have hn3 : zb gl3 = zb lx + 2 + j + 3 := by rw [← hg3, zC]; simp only [zX, ZH]; exact app_n hn2
 have ag := Ed.pk [0] (M := [.vec ad af 1 (bys gl3) 5])
 refine d_r [0,1,4,5,6] [] EU fun _ ah => ze <| zF <| wp_seq <| wp_seq <| d_r [0,1,4,5,6,29] [] ah fun _ EV => ze <| c_t EV ?_
 refine wp_skip <| ze <| wp_seq <| wp_block <| zk <| d_k [0,1,4,5,6,32] [] 1 EV fun _ ai => f_o <| ZO (d := some 33) (t := 23) (T := 5) (m := 1) (parts := #[(0, .int .u8 0)]) (xs := bys [(0 : UInt8)]) (sz := 1) ai (by kernel_rfl) (by kernel_rfl) rfl (by decide) ag ?_
 intro _ _ aj ak EW
 refine f_o <| Zk (d := some 34) (t := 23) (tx := 23) (ty := 23) (k := 0) (p := zb gl3) (m := 1) (x := .slice (some ⟨aj, 0, none⟩) 1 1) (bytes := 1) ak (by kernel_rfl) EW rfl (ZD _) (Zg (size := 1) (tx := 23) (e' := 5) (by kernel_rfl) (EW.heap.reads (k := 1) rfl) rfl (fun e => by cases e) (Zj _)) (by kernel_rfl) (z := .int .u8 0) (by kernel_rfl) rfl (by decide) (app_b1 hn3 hs hjb (by decide)) (app_b2 hn3 hs hjb (by decide)) ?_
 intro _ _ al am EX Ef hnz _
 clear hnz
 rw [← Zd] at Ef
 have Eg : (zb gl3) + 1 = zb (gl3 ++ [(0 : UInt8)]) := (by first | (simp; done) | (simp; omega) | omega)
 rw [Eg] at EX
 clear Eg
 refine d_e [0,1,4,5,6] [] EX fun _ EY => zv <| ze ?_
 generalize hg4 : gl3 ++ [(0 : UInt8)] = gl4 at Ef EY
 have hn4 : zb gl4 = zb lx + 2 + j + 4 := by rw [← hg4, zC]; simp only [zX, ZH]; exact app_n hn3
 have an := Ef.pk [0] (M := [.vec al am 1 (bys gl4) 5])
 refine d_r [0,1,4,5,6] [] EY fun _ ap => ze <| zF <| wp_seq <| wp_seq <| d_r [0,1,4,5,6,29] [] ap fun _ EZ => ze <| c_t EZ ?_
 refine wp_skip <| ze <| wp_seq <| wp_block <| zk <| d_k [0,1,4,5,6,32] [] 1 EZ fun _ aq => f_o <| ZO (d := some 33) (t := 23) (T := 5) (m := 1) (parts := #[(0, .int .u8 0)]) (xs := bys [(0 : UInt8)]) (sz := 1) aq (by kernel_rfl) (by kernel_rfl) rfl (by decide) an ?_
 intro _ _ ar au E0
 refine f_o <| Zk (d := some 34) (t := 23) (tx := 23) (ty := 23) (k := 0) (p := zb gl4) (m := 1) (x := .slice (some ⟨ar, 0, none⟩) 1 1) (bytes := 1) au (by kernel_rfl) E0 rfl (ZD _) (Zg (size := 1) (tx := 23) (e' := 5) (by kernel_rfl) (E0.heap.reads (k := 1) rfl) rfl (fun e => by cases e) (Zj _)) (by kernel_rfl) (z := .int .u8 0) (by kernel_rfl) rfl (by decide) (app_b1 hn4 hs hjb (by decide)) (app_b2 hn4 hs hjb (by decide)) ?_
 intro _ _ av aw E1 Eh hnz _
 clear hnz
 rw [← Zd] at Eh
 have Ei : (zb gl4) + 1 = zb (gl4 ++ [(0 : UInt8)]) := (by first | (simp; done) | (simp; omega) | omega)
 rw [Ei] at E1
 clear Ei
 refine d_e [0,1,4,5,6] [] E1 fun _ E2 => zv <| ze ?_
 generalize hg5 : gl4 ++ [(0 : UInt8)] = gl5 at Eh E2
 have hn5 : zb gl5 = zb lx + 2 + j + 5 := by rw [← hg5, zC]; simp only [zX, ZH]; exact app_n hn4
 have ay := Eh.pk [0] (M := [.vec av aw 1 (bys gl5) 5])
 refine d_r [0,1,4,5,6] [] E2 fun _ az => ze <| zF <| wp_seq <| wp_seq <| d_r [0,1,4,5,6,29] [] az fun _ E3 => ze <| c_t E3 ?_
 refine wp_skip <| ze <| wp_seq <| wp_block <| zk <| d_k [0,1,4,5,6,32] [] 1 E3 fun _ aA => f_o <| ZO (d := some 33) (t := 23) (T := 5) (m := 1) (parts := #[(0, .int .u8 0)]) (xs := bys [(0 : UInt8)]) (sz := 1) aA (by kernel_rfl) (by kernel_rfl) rfl (by decide) ay ?_
 intro _ _ aB aC E4
 refine f_o <| Zk (d := some 34) (t := 23) (tx := 23) (ty := 23) (k := 0) (p := zb gl5) (m := 1) (x := .slice (some ⟨aB, 0, none⟩) 1 1) (bytes := 1) aC (by kernel_rfl) E4 rfl (ZD _) (Zg (size := 1) (tx := 23) (e' := 5) (by kernel_rfl) (E4.heap.reads (k := 1) rfl) rfl (fun e => by cases e) (Zj _)) (by kernel_rfl) (z := .int .u8 0) (by kernel_rfl) rfl (by decide) (app_b1 hn5 hs hjb (by decide)) (app_b2 hn5 hs hjb (by decide)) ?_
 intro _ _ aD aE E5 Ej hnz _
 clear hnz
 rw [← Zd] at Ej
 have Ek : (zb gl5) + 1 = zb (gl5 ++ [(0 : UInt8)]) := (by first | (simp; done) | (simp; omega) | omega)
 rw [Ek] at E5
 clear Ek
 refine d_e [0,1,4,5,6] [] E5 fun _ E6 => zv <| ze ?_
 generalize hg6 : gl5 ++ [(0 : UInt8)] = gl6 at Ej E6
 have hn6 : zb gl6 = zb lx + 2 + j + 6 := by rw [← hg6, zC]; simp only [zX, ZH]; exact app_n hn5
 have aF := Ej.pk [0] (M := [.vec aD aE 1 (bys gl6) 5])
 refine d_r [0,1,4,5,6] [] E6 fun _ aG => ze <| zF <| wp_seq <| wp_seq <| d_r [0,1,4,5,6,29] [] aG fun _ E7 => ze <| c_t E7 ?_
 refine wp_skip <| ze <| wp_seq <| wp_block <| zk <| d_k [0,1,4,5,6,32] [] 1 E7 fun _ aH => f_o <| ZO (d := some 33) (t := 23) (T := 5) (m := 1) (parts := #[(0, .int .u8 0)]) (xs := bys [(0 : UInt8)]) (sz := 1) aH (by kernel_rfl) (by kernel_rfl) rfl (by decide) aF ?_
 intro _ _ aI aJ E8
 refine f_o <| Zk (d := some 34) (t := 23) (tx := 23) (ty := 23) (k := 0) (p := zb gl6) (m := 1) (x := .slice (some ⟨aI, 0, none⟩) 1 1) (bytes := 1) aJ (by kernel_rfl) E8 rfl (ZD _) (Zg (size := 1) (tx := 23) (e' := 5) (by kernel_rfl) (E8.heap.reads (k := 1) rfl) rfl (fun e => by cases e) (Zj _)) (by kernel_rfl) (z := .int .u8 0) (by kernel_rfl) rfl (by decide) (app_b1 hn6 hs hjb (by decide)) (app_b2 hn6 hs hjb (by decide)) ?_
 intro _ _ aK aL E9 El hnz _
 clear hnz
 rw [← Zd] at El
 have Em : (zb gl6) + 1 = zb (gl6 ++ [(0 : UInt8)]) := (by first | (simp; done) | (simp; omega) | omega)
 rw [Em] at E9
 clear Em
 refine d_e [0,1,4,5,6] [] E9 fun _ Ha => zv <| ze ?_
 generalize hg7 : gl6 ++ [(0 : UInt8)] = gl7 at El Ha
 have hn7 : zb gl7 = zb lx + 2 + j + 7 := by rw [← hg7, zC]; simp only [zX, ZH]; exact app_n hn6
 have aM := El.pk [0] (M := [.vec aK aL 1 (bys gl7) 5])
 refine d_r [0,1,4,5,6] [] Ha fun _ aN => ze <| zF <| wp_seq <| wp_seq <| d_r [0,1,4,5,6,29] [] aN fun _ Hb => ze <| c_f Hb ?_
 refine wp_exit <| zy <| zy <| zL <| ze <| wp_seq <| d_r [0,1,4,5,6,7] [(2, g_i .u64 (Go.Dbr.nat_to_u64 (a := ((zb lx : Nat) : Int)) (n := zb lx) rfl)), (3, g_i .u64 (Go.Dbr.u64_mul (x := zc (zb lx)) (y := (8 : UInt64)) rfl rfl))] Hb fun _ aO => ze <| wp_seq <| wp_seq <| d_r [0,1,4,5,6,7,8] [] aO fun _ aP => ze <| wp_block <| QI ?_
 refine zF <| wp_seq <| wp_seq <| d_r [0,1,4,5,6,7,8,40] [] aP fun _ Hc => ze <| c_t Hc ?_
 refine wp_skip <| ze <| wp_seq <| wp_block <| zk <| d_k [0,1,4,5,6,7,8,43,48] [(4, g_i .u64 (Go.Dbr.u64_shr (x := (zc (zb lx)) * (8 : UInt64)) (n := 56) rfl (by decide))), (5, g_i .u8 (Go.Dbr.u64_to_u8 (x := ((zc (zb lx)) * (8 : UInt64)) >>> zc 56) rfl))] 6 Hc fun _ aQ => f_o <| ZO (d := some 49) (t := 23) (T := 5) (m := 1) (parts := #[(0, bv (zj (((zc (zb lx)) * (8 : UInt64)) >>> zc 56)))]) (xs := bys [zj (((zc (zb lx)) * (8 : UInt64)) >>> zc 56)]) (sz := 1) aQ (by kernel_rfl) (by kernel_rfl) rfl (by decide) aM ?_
 intro _ _ aR aS Hd
 refine f_o <| Zk (d := some 50) (t := 23) (tx := 23) (ty := 23) (k := 0) (p := zb gl7) (m := 1) (x := .slice (some ⟨aR, 0, none⟩) 1 1) (bytes := 1) aS (by kernel_rfl) Hd rfl (ZD _) (Zg (size := 1) (tx := 23) (e' := 5) (by kernel_rfl) (Hd.heap.reads (k := 1) rfl) rfl (fun e => by cases e) (Zj _)) (by kernel_rfl) (z := .int .u8 0) (by kernel_rfl) rfl (by decide) (app_b1 hn7 hs hjb (by decide)) (app_b2 hn7 hs hjb (by decide)) ?_
 intro _ _ aT aU He En hnz _
 clear hnz
 rw [← Zd] at En
 have Eo : (zb gl7) + 1 = zb (gl7 ++ [zj (((zc (zb lx)) * (8 : UInt64)) >>> zc 56)]) := (by first | (simp; done) | (simp; omega) | omega)
 rw [Eo] at He
 clear Eo
 refine d_e [0,1,4,5,6,7,8] [] He fun _ Hf => zv <| ze ?_
 generalize hg8 : gl7 ++ [zj (((zc (zb lx)) * (8 : UInt64)) >>> zc 56)] = gl8 at En Hf
 have hn8 : zb gl8 = zb lx + 2 + j + 8 := by rw [← hg8, zC]; simp only [zX, ZH]; exact app_n hn7
 have aV := En.pk [0] (M := [.vec aT aU 1 (bys gl8) 5])
 refine d_r [0,1,4,5,6,7,8] [] Hf fun _ aW => ze <| zF <| wp_seq <| wp_seq <| d_r [0,1,4,5,6,7,8,40] [] aW fun _ Hg => ze <| c_t Hg ?_
 refine wp_skip <| ze <| wp_seq <| wp_block <| zk <| d_k [0,1,4,5,6,7,8,43,48] [(4, g_i .u64 (Go.Dbr.u64_shr (x := (zc (zb lx)) * (8 : UInt64)) (n := 48) rfl (by decide))), (5, g_i .u8 (Go.Dbr.u64_to_u8 (x := ((zc (zb lx)) * (8 : UInt64)) >>> zc 48) rfl))] 6 Hg fun _ aX => f_o <| ZO (d := some 49) (t := 23) (T := 5) (m := 1) (parts := #[(0, bv (zj (((zc (zb lx)) * (8 : UInt64)) >>> zc 48)))]) (xs := bys [zj (((zc (zb lx)) * (8 : UInt64)) >>> zc 48)]) (sz := 1) aX (by kernel_rfl) (by kernel_rfl) rfl (by decide) aV ?_
 intro _ _ aY aZ Hh
 refine f_o <| Zk (d := some 50) (t := 23) (tx := 23) (ty := 23) (k := 0) (p := zb gl8) (m := 1) (x := .slice (some ⟨aY, 0, none⟩) 1 1) (bytes := 1) aZ (by kernel_rfl) Hh rfl (ZD _) (Zg (size := 1) (tx := 23) (e' := 5) (by kernel_rfl) (Hh.heap.reads (k := 1) rfl) rfl (fun e => by cases e) (Zj _)) (by kernel_rfl) (z := .int .u8 0) (by kernel_rfl) rfl (by decide) (app_b1 hn8 hs hjb (by decide)) (app_b2 hn8 hs hjb (by decide)) ?_
 intro _ _ a0 a1 Hi Ep hnz _
 clear hnz
 rw [← Zd] at Ep
 have Eq : (zb gl8) + 1 = zb (gl8 ++ [zj (((zc (zb lx)) * (8 : UInt64)) >>> zc 48)]) := (by first | (simp; done) | (simp; omega) | omega)
 rw [Eq] at Hi
 clear Eq
 refine d_e [0,1,4,5,6,7,8] [] Hi fun _ Hj => zv <| ze ?_
 generalize hg9 : gl8 ++ [zj (((zc (zb lx)) * (8 : UInt64)) >>> zc 48)] = gl9 at Ep Hj
 have hn9 : zb gl9 = zb lx + 2 + j + 9 := by rw [← hg9, zC]; simp only [zX, ZH]; exact app_n hn8
 have a2 := Ep.pk [0] (M := [.vec a0 a1 1 (bys gl9) 5])
 refine d_r [0,1,4,5,6,7,8] [] Hj fun _ a3 => ze <| zF <| wp_seq <| wp_seq <| d_r [0,1,4,5,6,7,8,40] [] a3 fun _ Hk => ze <| c_t Hk ?_
 refine wp_skip <| ze <| wp_seq <| wp_block <| zk <| d_k [0,1,4,5,6,7,8,43,48] [(4, g_i .u64 (Go.Dbr.u64_shr (x := (zc (zb lx)) * (8 : UInt64)) (n := 40) rfl (by decide))), (5, g_i .u8 (Go.Dbr.u64_to_u8 (x := ((zc (zb lx)) * (8 : UInt64)) >>> zc 40) rfl))] 6 Hk fun _ a4 => f_o <| ZO (d := some 49) (t := 23) (T := 5) (m := 1) (parts := #[(0, bv (zj (((zc (zb lx)) * (8 : UInt64)) >>> zc 40)))]) (xs := bys [zj (((zc (zb lx)) * (8 : UInt64)) >>> zc 40)]) (sz := 1) a4 (by kernel_rfl) (by kernel_rfl) rfl (by decide) a2 ?_
 intro _ _ a5 a6 Hl
 refine f_o <| Zk (d := some 50) (t := 23) (tx := 23) (ty := 23) (k := 0) (p := zb gl9) (m := 1) (x := .slice (some ⟨a5, 0, none⟩) 1 1) (bytes := 1) a6 (by kernel_rfl) Hl rfl (ZD _) (Zg (size := 1) (tx := 23) (e' := 5) (by kernel_rfl) (Hl.heap.reads (k := 1) rfl) rfl (fun e => by cases e) (Zj _)) (by kernel_rfl) (z := .int .u8 0) (by kernel_rfl) rfl (by decide) (app_b1 hn9 hs hjb (by decide)) (app_b2 hn9 hs hjb (by decide)) ?_
 intro _ _ a7 a8 Hm Er hnz _
 clear hnz
 rw [← Zd] at Er
 have Es : (zb gl9) + 1 = zb (gl9 ++ [zj (((zc (zb lx)) * (8 : UInt64)) >>> zc 40)]) := (by first | (simp; done) | (simp; omega) | omega)
 rw [Es] at Hm
 clear Es
 refine d_e [0,1,4,5,6,7,8] [] Hm fun _ Hn => zv <| ze ?_
 generalize hg10 : gl9 ++ [zj (((zc (zb lx)) * (8 : UInt64)) >>> zc 40)] = gl10 at Er Hn
 have hn10 : zb gl10 = zb lx + 2 + j + 10 := by rw [← hg10, zC]; simp only [zX, ZH]; exact app_n hn9
 have a9 := Er.pk [0] (M := [.vec a7 a8 1 (bys gl10) 5])
 refine d_r [0,1,4,5,6,7,8] [] Hn fun _ ba => ze <| zF <| wp_seq <| wp_seq <| d_r [0,1,4,5,6,7,8,40] [] ba fun _ Ho => ze <| c_t Ho ?_
 refine wp_skip <| ze <| wp_seq <| wp_block <| zk <| d_k [0,1,4,5,6,7,8,43,48] [(4, g_i .u64 (Go.Dbr.u64_shr (x := (zc (zb lx)) * (8 : UInt64)) (n := 32) rfl (by decide))), (5, g_i .u8 (Go.Dbr.u64_to_u8 (x := ((zc (zb lx)) * (8 : UInt64)) >>> zc 32) rfl))] 6 Ho fun _ bb => f_o <| ZO (d := some 49) (t := 23) (T := 5) (m := 1) (parts := #[(0, bv (zj (((zc (zb lx)) * (8 : UInt64)) >>> zc 32)))]) (xs := bys [zj (((zc (zb lx)) * (8 : UInt64)) >>> zc 32)]) (sz := 1) bb (by kernel_rfl) (by kernel_rfl) rfl (by decide) a9 ?_
 intro _ _ bc bd Hp
 refine f_o <| Zk (d := some 50) (t := 23) (tx := 23) (ty := 23) (k := 0) (p := zb gl10) (m := 1) (x := .slice (some ⟨bc, 0, none⟩) 1 1) (bytes := 1) bd (by kernel_rfl) Hp rfl (ZD _) (Zg (size := 1) (tx := 23) (e' := 5) (by kernel_rfl) (Hp.heap.reads (k := 1) rfl) rfl (fun e => by cases e) (Zj _)) (by kernel_rfl) (z := .int .u8 0) (by kernel_rfl) rfl (by decide) (app_b1 hn10 hs hjb (by decide)) (app_b2 hn10 hs hjb (by decide)) ?_
 intro _ _ be bf Hq Et hnz _
 clear hnz
 rw [← Zd] at Et
 have Eu : (zb gl10) + 1 = zb (gl10 ++ [zj (((zc (zb lx)) * (8 : UInt64)) >>> zc 32)]) := (by first | (simp; done) | (simp; omega) | omega)
 rw [Eu] at Hq
 clear Eu
 refine d_e [0,1,4,5,6,7,8] [] Hq fun _ Hr => zv <| ze ?_
 generalize hg11 : gl10 ++ [zj (((zc (zb lx)) * (8 : UInt64)) >>> zc 32)] = gl11 at Et Hr
 have hn11 : zb gl11 = zb lx + 2 + j + 11 := by rw [← hg11, zC]; simp only [zX, ZH]; exact app_n hn10
 have bg := Et.pk [0] (M := [.vec be bf 1 (bys gl11) 5])
 refine d_r [0,1,4,5,6,7,8] [] Hr fun _ bh => ze <| zF <| wp_seq <| wp_seq <| d_r [0,1,4,5,6,7,8,40] [] bh fun _ Hs => ze <| c_t Hs ?_
 refine wp_skip <| ze <| wp_seq <| wp_block <| zk <| d_k [0,1,4,5,6,7,8,43,48] [(4, g_i .u64 (Go.Dbr.u64_shr (x := (zc (zb lx)) * (8 : UInt64)) (n := 24) rfl (by decide))), (5, g_i .u8 (Go.Dbr.u64_to_u8 (x := ((zc (zb lx)) * (8 : UInt64)) >>> zc 24) rfl))] 6 Hs fun _ bi => f_o <| ZO (d := some 49) (t := 23) (T := 5) (m := 1) (parts := #[(0, bv (zj (((zc (zb lx)) * (8 : UInt64)) >>> zc 24)))]) (xs := bys [zj (((zc (zb lx)) * (8 : UInt64)) >>> zc 24)]) (sz := 1) bi (by kernel_rfl) (by kernel_rfl) rfl (by decide) bg ?_
 intro _ _ bj bk Ht
 refine f_o <| Zk (d := some 50) (t := 23) (tx := 23) (ty := 23) (k := 0) (p := zb gl11) (m := 1) (x := .slice (some ⟨bj, 0, none⟩) 1 1) (bytes := 1) bk (by kernel_rfl) Ht rfl (ZD _) (Zg (size := 1) (tx := 23) (e' := 5) (by kernel_rfl) (Ht.heap.reads (k := 1) rfl) rfl (fun e => by cases e) (Zj _)) (by kernel_rfl) (z := .int .u8 0) (by kernel_rfl) rfl (by decide) (app_b1 hn11 hs hjb (by decide)) (app_b2 hn11 hs hjb (by decide)) ?_
 intro _ _ bl bm Hu Ew hnz _
 clear hnz
 rw [← Zd] at Ew
 have Ex : (zb gl11) + 1 = zb (gl11 ++ [zj (((zc (zb lx)) * (8 : UInt64)) >>> zc 24)]) := (by first | (simp; done) | (simp; omega) | omega)
 rw [Ex] at Hu
 clear Ex
 refine d_e [0,1,4,5,6,7,8] [] Hu fun _ Hv => zv <| ze ?_
 generalize hg12 : gl11 ++ [zj (((zc (zb lx)) * (8 : UInt64)) >>> zc 24)] = gl12 at Ew Hv
 have hn12 : zb gl12 = zb lx + 2 + j + 12 := by rw [← hg12, zC]; simp only [zX, ZH]; exact app_n hn11
 have bn := Ew.pk [0] (M := [.vec bl bm 1 (bys gl12) 5])
 refine d_r [0,1,4,5,6,7,8] [] Hv fun _ bo => ze <| zF <| wp_seq <| wp_seq <| d_r [0,1,4,5,6,7,8,40] [] bo fun _ Hw => ze <| c_t Hw ?_
 refine wp_skip <| ze <| wp_seq <| wp_block <| zk <| d_k [0,1,4,5,6,7,8,43,48] [(4, g_i .u64 (Go.Dbr.u64_shr (x := (zc (zb lx)) * (8 : UInt64)) (n := 16) rfl (by decide))), (5, g_i .u8 (Go.Dbr.u64_to_u8 (x := ((zc (zb lx)) * (8 : UInt64)) >>> zc 16) rfl))] 6 Hw fun _ bp => f_o <| ZO (d := some 49) (t := 23) (T := 5) (m := 1) (parts := #[(0, bv (zj (((zc (zb lx)) * (8 : UInt64)) >>> zc 16)))]) (xs := bys [zj (((zc (zb lx)) * (8 : UInt64)) >>> zc 16)]) (sz := 1) bp (by kernel_rfl) (by kernel_rfl) rfl (by decide) bn ?_
 intro _ _ bq br Hx
 refine f_o <| Zk (d := some 50) (t := 23) (tx := 23) (ty := 23) (k := 0) (p := zb gl12) (m := 1) (x := .slice (some ⟨bq, 0, none⟩) 1 1) (bytes := 1) br (by kernel_rfl) Hx rfl (ZD _) (Zg (size := 1) (tx := 23) (e' := 5) (by kernel_rfl) (Hx.heap.reads (k := 1) rfl) rfl (fun e => by cases e) (Zj _)) (by kernel_rfl) (z := .int .u8 0) (by kernel_rfl) rfl (by decide) (app_b1 hn12 hs hjb (by decide)) (app_b2 hn12 hs hjb (by decide)) ?_
 intro _ _ bs bt Hy Ey hnz _
 clear hnz
 rw [← Zd] at Ey
 have Ez : (zb gl12) + 1 = zb (gl12 ++ [zj (((zc (zb lx)) * (8 : UInt64)) >>> zc 16)]) := (by first | (simp; done) | (simp; omega) | omega)
 rw [Ez] at Hy
 clear Ez
 refine d_e [0,1,4,5,6,7,8] [] Hy fun _ Hz => zv <| ze ?_
 generalize hg13 : gl12 ++ [zj (((zc (zb lx)) * (8 : UInt64)) >>> zc 16)] = gl13 at Ey Hz
 have hn13 : zb gl13 = zb lx + 2 + j + 13 := by rw [← hg13, zC]; simp only [zX, ZH]; exact app_n hn12
 have bu := Ey.pk [0] (M := [.vec bs bt 1 (bys gl13) 5])
 refine d_r [0,1,4,5,6,7,8] [] Hz fun _ bw => ze <| zF <| wp_seq <| wp_seq <| d_r [0,1,4,5,6,7,8,40] [] bw fun _ HA => ze <| c_t HA ?_
 refine wp_skip <| ze <| wp_seq <| wp_block <| zk <| d_k [0,1,4,5,6,7,8,43,48] [(4, g_i .u64 (Go.Dbr.u64_shr (x := (zc (zb lx)) * (8 : UInt64)) (n := 8) rfl (by decide))), (5, g_i .u8 (Go.Dbr.u64_to_u8 (x := ((zc (zb lx)) * (8 : UInt64)) >>> zc 8) rfl))] 6 HA fun _ bx => f_o <| ZO (d := some 49) (t := 23) (T := 5) (m := 1) (parts := #[(0, bv (zj (((zc (zb lx)) * (8 : UInt64)) >>> zc 8)))]) (xs := bys [zj (((zc (zb lx)) * (8 : UInt64)) >>> zc 8)]) (sz := 1) bx (by kernel_rfl) (by kernel_rfl) rfl (by decide) bu ?_
 intro _ _ bz bA HB
 refine f_o <| Zk (d := some 50) (t := 23) (tx := 23) (ty := 23) (k := 0) (p := zb gl13) (m := 1) (x := .slice (some ⟨bz, 0, none⟩) 1 1) (bytes := 1) bA (by kernel_rfl) HB rfl (ZD _) (Zg (size := 1) (tx := 23) (e' := 5) (by kernel_rfl) (HB.heap.reads (k := 1) rfl) rfl (fun e => by cases e) (Zj _)) (by kernel_rfl) (z := .int .u8 0) (by kernel_rfl) rfl (by decide) (app_b1 hn13 hs hjb (by decide)) (app_b2 hn13 hs hjb (by decide)) ?_
 intro _ _ bB bC HC EA hnz _
 clear hnz
 rw [← Zd] at EA
 have EB : (zb gl13) + 1 = zb (gl13 ++ [zj (((zc (zb lx)) * (8 : UInt64)) >>> zc 8)]) := (by first | (simp; done) | (simp; omega) | omega)
 rw [EB] at HC
 clear EB
 refine d_e [0,1,4,5,6,7,8] [] HC fun _ HD => zv <| ze ?_
 generalize hg14 : gl13 ++ [zj (((zc (zb lx)) * (8 : UInt64)) >>> zc 8)] = gl14 at EA HD
 have hn14 : zb gl14 = zb lx + 2 + j + 14 := by rw [← hg14, zC]; simp only [zX, ZH]; exact app_n hn13
 have bD := EA.pk [0] (M := [.vec bB bC 1 (bys gl14) 5])
 refine d_r [0,1,4,5,6,7,8] [] HD fun _ bE => ze <| zF <| wp_seq <| wp_seq <| d_r [0,1,4,5,6,7,8,40] [] bE fun _ HE => ze <| c_t HE ?_
 refine wp_skip <| ze <| wp_seq <| wp_block <| zk <| d_k [0,1,4,5,6,7,8,43,48] [(4, g_i .u64 (Go.Dbr.u64_shr (x := (zc (zb lx)) * (8 : UInt64)) (n := 0) rfl (by decide))), (5, g_i .u8 (Go.Dbr.u64_to_u8 (x := ((zc (zb lx)) * (8 : UInt64)) >>> zc 0) rfl))] 6 HE fun _ bF => f_o <| ZO (d := some 49) (t := 23) (T := 5) (m := 1) (parts := #[(0, bv (zj (((zc (zb lx)) * (8 : UInt64)) >>> zc 0)))]) (xs := bys [zj (((zc (zb lx)) * (8 : UInt64)) >>> zc 0)]) (sz := 1) bF (by kernel_rfl) (by kernel_rfl) rfl (by decide) bD ?_
 intro _ _ bG bH HF
 refine f_o <| Zk (d := some 50) (t := 23) (tx := 23) (ty := 23) (k := 0) (p := zb gl14) (m := 1) (x := .slice (some ⟨bG, 0, none⟩) 1 1) (bytes := 1) bH (by kernel_rfl) HF rfl (ZD _) (Zg (size := 1) (tx := 23) (e' := 5) (by kernel_rfl) (HF.heap.reads (k := 1) rfl) rfl (fun e => by cases e) (Zj _)) (by kernel_rfl) (z := .int .u8 0) (by kernel_rfl) rfl (by decide) (app_b1 hn14 hs hjb (by decide)) (app_b2 hn14 hs hjb (by decide)) ?_
 intro _ _ EC ED HG EE hnz _
 clear hnz
 rw [← Zd] at EE
 have EF : (zb gl14) + 1 = zb (gl14 ++ [zj (((zc (zb lx)) * (8 : UInt64)) >>> zc 0)]) := (by first | (simp; done) | (simp; omega) | omega)
 rw [EF] at HG
 clear EF
 refine d_e [0,1,4,5,6,7,8] [] HG fun _ HH => zv <| ze ?_
 generalize hg15 : gl14 ++ [zj (((zc (zb lx)) * (8 : UInt64)) >>> zc 0)] = gl15 at EE HH
 have hn15 : zb gl15 = zb lx + 2 + j + 15 := by rw [← hg15, zC]; simp only [zX, ZH]; exact app_n hn14
 have bI := EE.pk [0] (M := [.vec EC ED 1 (bys gl15) 5])
 refine d_r [0,1,4,5,6,7,8] [] HH fun _ bJ => ze <| zF <| wp_seq <| wp_seq <| d_r [0,1,4,5,6,7,8,40] [] bJ fun _ HI => ze <| c_f HI ?_
 refine wp_exit <| zy <| zy <| zL <| ze <| wp_seq <| d_r [0,1,4,5,6,7,8] [] HI fun _ bK => ze <| wp_ret <| Qu (t := 4) (v := .slice EC (zb gl15) ED) bK (by kernel_rfl) (by kernel_rfl) ?_
 have hl : gl15 = lx ++ Jp 128 (zb lx % 128) (zb lx) := by rw [← hg15, ← hg14, ← hg13, ← hg12, ← hg11, ← hg10, ← hg9, ← hg8, ← hg7, ← hg6, ← hg5, ← hg4, ← hg3, ← hg2, ← hg1, ← hg0, heel, hjp]; simp [Jp, be8, zd]
 have Hf425 := bI.pk [0] (M := [.vec EC ED 1 (bys gl15) 5])
 rw [hl] at Hf425
 exact ⟨_, _, by rw [hl], Hf425⟩
theorem turn64_ref (w : World) (x : UInt64) (n : Nat) (h0 : 0 < n) (hn : n < 64) : Calls Tryz.prog 108 #[zm x, ni n] w fun e w' => e = .returned (zm (zP x n)) ∧ Ev w [] w' [] := by
 refine d_0 [(0, zm x), (1, ni n)] 13 Go.Proofs.Tryz.func108 Go.Proofs.Tryz.ntmps108 (Heap.nil _) fun Ei Ej Eh => d_s [0,1,4] [] Ej fun _ Ek => ?_
 refine wp_seq <| r_c (fun ac wo => Env ac 13 [(4, zm ((x >>> zc n) ||| (x <<< zc (64 - n))))] ∧ Ev w [] wo []) ?_ ?_
 ·
  refine draw_any (by kernel_rfl) 9 (by kernel_rfl) ?_
  have El := Eh.trans (zO Eh.heap)
  refine q_a [0,1] [] 7 Ek fun _ Ea => q_g 2 Ea (fun _ => Go.Dbr.run_shr_u64 x .i64 n (by omega) _) fun _ Eb => q_a [3,4,5] [(5, g_n (w_r (e := (64 : Int) - ((n : Nat) : Int)) (x := ((64 - n : Nat) : Int)) (by omega)))] 3 Eb fun _ Ec => q_g 6 Ec (fun _ => Go.Dbr.run_shl_u64 x .i64 (64 - n) (by omega) _) fun _ Ed => ?_
  refine q_a [7,8] [(7, g_i .u64 (Go.Dbr.u64_or (x := x >>> zc n) (y := x <<< zc (64 - n)) rfl rfl))] 0 Ed fun _ Ee => ?_
  exact a_e ⟨Ee.sb, El.pk []⟩
 rintro _ _ ⟨Ef, Eg⟩
 refine ze <| wp_ret <| Qu (t := 4) (v := zm ((x >>> zc n) ||| (x <<< zc (64 - n)))) Ef (by kernel_rfl) (by kernel_rfl) ?_
 exact ⟨rfl, Eg.pk []⟩
end Go.Proofs.YtlnogkmnklfjlaaGreatDoor.Sh

namespace Go.Proofs.YtlnogkmnklfjlaaGreatDoor.Sh
open Go.Dbr
set_option maxRecDepth 100000
set_option maxHeartbeats 2000000
set_option linter.unusedVariables false
set_option linter.unusedSimpArgs false
def rby64 (bl : List UInt8) (f t : Nat) : Nat → UInt64
  | 0 => 0
  | i + 1 => (rby64 bl f t i <<< zc 8) ||| Zc (za bl (f + 8 * t + i) 0)
def rwI64 (V : List UInt64) (bl : List UInt8) (f t : Nat) : Nat → List UInt64
  | 0 => V
  | i + 1 => zp (rwI64 V bl f t i) t ((za (rwI64 V bl f t i) t 0 <<< zc 8) ||| Zc (za bl (f + 8 * t + i) 0))
theorem rwI64_len {V : List UInt64} {m : Nat} (h : V.length = m) (bl : List UInt8) (f t i : Nat) : (rwI64 V bl f t i).length = m := by
  induction i with
  | zero => exact h
  | succ i ih => simp [rwI64, ih]
def rwF64 (bl : List UInt8) (f : Nat) : Nat → List UInt64
  | 0 => zd 80 0
  | t + 1 => rwI64 (rwF64 bl f t) bl f t 8
def rsF64 (W : List UInt64) : Nat → List UInt64
  | 0 => W
  | q + 1 => zp (rsF64 W q) (16 + q) (((mix64 (za (rsF64 W q) (14 + q) 0) 19 61 6 true + za (rsF64 W q) (9 + q) 0) + mix64 (za (rsF64 W q) (1 + q) 0) 1 8 7 true) + za (rsF64 W q) q 0)
def rx64 (v : List UInt64) (k w : UInt64) : UInt64 := (((za v 7 0 + mix64 (za v 4 0) 14 18 41 false) + ((za v 4 0 &&& za v 5 0) ^^^ (((18446744073709551615 : UInt64) ^^^ za v 4 0) &&& za v 6 0))) + k) + w
def ry64 (v : List UInt64) : UInt64 := mix64 (za v 0 0) 28 34 39 false + (((za v 0 0 &&& za v 1 0) ^^^ (za v 0 0 &&& za v 2 0)) ^^^ (za v 1 0 &&& za v 2 0))
def rst64 (v : List UInt64) (k w : UInt64) : List UInt64 := [rx64 v k w + ry64 v, za v 0 0, za v 1 0, za v 2 0, za v 3 0 + rx64 v k w, za v 4 0, za v 5 0, za v 6 0]
def rr64 (W v : List UInt64) : Nat → List UInt64
  | 0 => v
  | j + 1 => rst64 (rr64 W v j) (za K64 j 0) (za W j 0)
def rfeed64 (s : List UInt64) (bl : List UInt8) : Nat → List UInt64
  | 0 => s
  | q + 1 => XQ (rfeed64 s bl q) (rr64 (rsF64 (rwF64 bl (128 * q) 16) 64) (rfeed64 s bl q) 80) 8
theorem rwF64_len (bl : List UInt8) (f t : Nat) : (rwF64 bl f t).length = 80 := by
  induction t with
  | zero => rfl
  | succ t ih => exact rwI64_len ih _ _ _ _
theorem rsF64_len {W : List UInt64} {m : Nat} (h : W.length = m) (q : Nat) : (rsF64 W q).length = m := by
  induction q with
  | zero => exact h
  | succ q ih => simp [rsF64, ih]
theorem rr64_len {v : List UInt64} (W : List UInt64) (h : v.length = 8) (j : Nat) : (rr64 W v j).length = 8 := by
  cases j with
  | zero => exact h
  | succ j => rfl
theorem pad64_mod (al : List UInt8) : (al ++ Jp 128 (al.length % 128) al.length).length % 128 = 0 := by
  simp only [Jp, pdZ, be8, zC, zi, zX, ZH]
  omega
def ro64 (s : List UInt64) : Nat → List UInt8
  | 0 => []
  | i + 1 => ro64 s i ++ be8 (za s i 0)
end Go.Proofs.YtlnogkmnklfjlaaGreatDoor.Sh

namespace Go.Proofs.YtlnogkmnklfjlaaGreatDoor.Sh
open Go.Dbr
set_option maxRecDepth 100000
set_option maxHeartbeats 2000000
set_option linter.unusedVariables false
set_option linter.unusedSimpArgs false
theorem sum64_ref (w : World) (ax : Option Addr) (nx cx : Nat) (lx : List UInt8) (ex : nx = zb lx) (ix : InB w [] ax cx lx) (s0 : List UInt64) (hs0 : zb s0 = 8) : Calls Tryz.prog 79 #[.slice ax nx cx, .agg (zg (zh s0))] w fun e w' => ∃ ao co, e = .returned (.slice ao (zb (ro64 (rfeed64 s0 (lx ++ Jp 128 (zb lx % 128) (zb lx)) (zb (lx ++ Jp 128 (zb lx % 128) (zb lx)) / 128)) 8)) co) ∧ Ev w [] w' [.vec ao co 1 (bys (ro64 (rfeed64 s0 (lx ++ Jp 128 (zb lx % 128) (zb lx)) (zb (lx ++ Jp 128 (zb lx % 128) (zb lx)) / 128)) 8)) 5] := by
 subst ex
 have hs := ix.small
 have hcx := ix.cap
 refine d_0 [(0, .slice ax (zb lx) cx), (1, .agg (zg (zh s0)))] 211 Go.Proofs.Tryz.func79 Go.Proofs.Tryz.ntmps79 (Heap.nil _) fun ej ek el => wp_seq <| zk <| f_o <| m_m 99 (zh s0) ek el fun _ _ Ef em en => d_e [0,3,4] [] em fun _ eo => ze <| wp_seq <| zk <| d_k [0,3,4,23] [] 1 eo fun _ ep => ?_
 refine f_o <| m_z 129 (zh (zd 80 0)) ep en fun _ _ Ed dS dT => f_o <| m_gw 1 80 (zh ([4794697086780616226, 8158064640168781261, 13096744586834688815, 16840607885511220156, 4131703408338449720, 6480981068601479193, 10538285296894168987, 12329834152419229976, 15566598209576043074, 1334009975649890238, 2608012711638119052, 6128411473006802146, 8268148722764581231, 9286055187155687089, 11230858885718282805, 13951009754708518548, 16472876342353939154, 17275323862435702243, 1135362057144423861, 2597628984639134821, 3308224258029322869, 5365058923640841347, 6679025012923562964, 8573033837759648693, 10970295158949994411, 12119686244451234320, 12683024718118986047, 13788192230050041572, 14330467153632333762, 15395433587784984357, 489312712824947311, 1452737877330783856, 2861767655752347644, 3322285676063803686, 5560940570517711597, 5996557281743188959, 7280758554555802590, 8532644243296465576, 9350256976987008742, 10552545826968843579, 11727347734174303076, 12113106623233404929, 14000437183269869457, 14369950271660146224, 15101387698204529176, 15463397548674623760, 17586052441742319658, 1182934255886127544, 1847814050463011016, 2177327727835720531, 2830643537854262169, 3796741975233480872, 4115178125766777443, 5681478168544905931, 6601373596472566643, 7507060721942968483, 8399075790359081724, 8693463985226723168, 9568029438360202098, 10144078919501101548, 10430055236837252648, 11840083180663258601, 13761210420658862357, 14299343276471374635, 14566680578165727644, 15097957966210449927, 16922976911328602910, 17689382322260857208, 500013540394364858, 748580250866718886, 1242879168328830382, 1977374033974150939, 2944078676154940804, 3659926193048069267, 4368137639120453308, 4836135668995329356, 5532061633213252278, 6448918945643986474, 6902733635092675308, 7801388544844847127] : List UInt64)) _ dS dT rfl (zf (show zb ([4794697086780616226, 8158064640168781261, 13096744586834688815, 16840607885511220156, 4131703408338449720, 6480981068601479193, 10538285296894168987, 12329834152419229976, 15566598209576043074, 1334009975649890238, 2608012711638119052, 6128411473006802146, 8268148722764581231, 9286055187155687089, 11230858885718282805, 13951009754708518548, 16472876342353939154, 17275323862435702243, 1135362057144423861, 2597628984639134821, 3308224258029322869, 5365058923640841347, 6679025012923562964, 8573033837759648693, 10970295158949994411, 12119686244451234320, 12683024718118986047, 13788192230050041572, 14330467153632333762, 15395433587784984357, 489312712824947311, 1452737877330783856, 2861767655752347644, 3322285676063803686, 5560940570517711597, 5996557281743188959, 7280758554555802590, 8532644243296465576, 9350256976987008742, 10552545826968843579, 11727347734174303076, 12113106623233404929, 14000437183269869457, 14369950271660146224, 15101387698204529176, 15463397548674623760, 17586052441742319658, 1182934255886127544, 1847814050463011016, 2177327727835720531, 2830643537854262169, 3796741975233480872, 4115178125766777443, 5681478168544905931, 6601373596472566643, 7507060721942968483, 8399075790359081724, 8693463985226723168, 9568029438360202098, 10144078919501101548, 10430055236837252648, 11840083180663258601, 13761210420658862357, 14299343276471374635, 14566680578165727644, 15097957966210449927, 16922976911328602910, 17689382322260857208, 500013540394364858, 748580250866718886, 1242879168328830382, 1977374033974150939, 2944078676154940804, 3659926193048069267, 4368137639120453308, 4836135668995329356, 5532061633213252278, 6448918945643986474, 6902733635092675308, 7801388544844847127] : List UInt64) = 80 from rfl)) (zf (zi)) (zt _) rfl fun _ dU dV Hm => f_e ?_
 replace Hm : Ev w [] dU [.box Ef (zh s0) 99, .box Ed (zh K64) 129] := Hm
 refine ze <| wp_seq <| zk <| d_k [0,3,4,5,24] [] 1 dV fun _ dW => f_o <| c_0 dW Hm (padded64_ref _ ax (zb lx) cx lx (by first | rfl | (simp; done) | (simp; omega) | omega) ((ix.ev Hm).pick [] (by kernel_rfl))) ?_
 rintro _ _ ⟨Ea, Eb, rfl, dX⟩
 refine ⟨_, _, _, rfl, dX, rfl, fun _ dY dZ => ?_⟩
 refine d_e [0,3,4,5] [] dY fun _ d0 => ?_
 have hbm := pad64_mod lx
 have hbs := padB_len 128 (zb lx % 128) (zb lx) (by decide) (by decide)
 have hbl : zb (lx ++ Jp 128 (zb lx % 128) (zb lx)) = zb lx + zb (Jp 128 (zb lx % 128) (zb lx)) := zC
 generalize hbe : lx ++ Jp 128 (zb lx % 128) (zb lx) = bl at *
 refine ze <| wp_seq <| wp_seq <| d_r [0,3,4,5,6] [] d0 fun _ d1 => ze <| wp_block <| ZR (fun d2 ac wo => ∃ (q : Nat) (sx : List UInt64), d2 = (zb bl - 128 * q : Nat) ∧ Env ac 211 [(0, .slice Ea (zb bl) Eb), (3, pt Ef), (4, .slice none 0 0), (5, pt Ed), (6, ni (128 * q))] ∧ Ev w [] wo [.box Ef (zh sx) 99, .vec Ea Eb 1 (bys bl) 5, .box Ed (zh K64) 129] ∧ (128 * q ≤ zb bl) ∧ (zb sx = 8) ∧ (sx = rfeed64 s0 bl q)) ⟨_, 0, s0, rfl, d1.sb, dZ.pk [1, 0, 2], by omega, hs0, rfl⟩ ?_
 rintro eq _ _ ⟨q, sx, rfl, d3, cH, hq, hlx, hes⟩
 refine wp_seq <| wp_seq <| d_r [0,3,4,5,6,29] [] d3 fun _ Hz => ?_
 refine ze <| c_d (((128 * q : Nat) : Int) < ((zb bl : Nat) : Int)) Hz (fun d4 => ?_) (fun d4 => ?_)
 ·
  refine wp_skip <| ze <| wp_seq <| wp_block <| wp_seq <| zk <| f_o <| m_z 129 (zh (zd 80 0)) Hz cH fun _ _ Ec d5 d6 => f_e <| ze <| wp_seq <| wp_seq <| d_r [0,3,4,5,6,7,8] [] d5 fun _ d7 => ze <| wp_block <| ZR (fun d8 ac wo => ∃ (t1 : Nat) (wa : List UInt64), d8 = (16 - t1 : Nat) ∧ Env ac 211 [(0, .slice Ea (zb bl) Eb), (3, pt Ef), (4, .slice none 0 0), (5, pt Ed), (6, ni (128 * q)), (7, pt Ec), (8, ni t1)] ∧ Ev w [] wo [.box Ec (zh wa) 129, .box Ef (zh sx) 99, .vec Ea Eb 1 (bys bl) 5, .box Ed (zh K64) 129] ∧ (t1 ≤ 16) ∧ (zb wa = 80) ∧ (wa = rwF64 bl (128 * q) t1)) ⟨_, 0, zd 80 0, rfl, d7.sb, d6.pk [3, 0, 1, 2], by omega, (zi), rfl⟩ ?_
  rintro er _ _ ⟨t1, wa, rfl, d9, HA, hiwa, hlwa, hewa⟩
  refine wp_seq <| wp_seq <| d_r [0,3,4,5,6,7,8,33] [] d9 fun _ HB => ?_
  refine ze <| c_d (((t1 : Nat) : Int) < (16 : Int)) HB (fun ea => ?_) (fun ea => ?_)
  ·
   refine wp_skip <| ze <| wp_seq <| wp_block <| wp_seq <| d_r [0,3,4,5,6,7,8,9] [] HB fun _ eb => ze <| wp_block <| ZR (fun ec ac wo => ∃ (ti : Nat) (wi : List UInt64), ec = (8 - ti : Nat) ∧ Env ac 211 [(0, .slice Ea (zb bl) Eb), (3, pt Ef), (4, .slice none 0 0), (5, pt Ed), (6, ni (128 * q)), (7, pt Ec), (8, ni t1), (9, ni ti)] ∧ Ev w [] wo [.box Ec (zh wi) 129, .box Ef (zh sx) 99, .vec Ea Eb 1 (bys bl) 5, .box Ed (zh K64) 129] ∧ (ti ≤ 8) ∧ (zb wi = 80) ∧ (wi = rwI64 wa bl (128 * q) t1 ti)) ⟨_, 0, wa, rfl, eb.sb, HA.pk [0, 1, 2, 3], by omega, hlwa, rfl⟩ ?_
   rintro es _ _ ⟨ti, wi, rfl, ed, Hn, hiwi, hlwi, hewi⟩
   refine wp_seq <| wp_seq <| d_r [0,3,4,5,6,7,8,9,37] [] ed fun _ HC => ?_
   refine ze <| c_d (((ti : Nat) : Int) < (8 : Int)) HC (fun ee => ?_) (fun ee => ?_)
   ·
    refine wp_skip <| ze <| wp_seq <| wp_block <| r_c (fun ac wo => Env ac 211 [(0, .slice Ea (zb bl) Eb), (3, pt Ef), (4, .slice none 0 0), (5, pt Ed), (6, ni (128 * q)), (7, pt Ec), (8, ni t1), (9, ni ti)] ∧ Ev w [] wo [.box Ec (zh (zp wi t1 (((za wi t1 0) <<< zc 8) ||| (Zc (za bl (((128 * q) + (8 * t1)) + ti) 0))))) 129, .box Ef (zh sx) 99, .vec Ea Eb 1 (bys bl) 5, .box Ed (zh K64) 129]) ?_ ?_
    ·
     refine h_s (fun wv => Ev w [] wv [.box Ec (zh wi) 129, .vec Ea Eb 1 (bys bl) 5]) [17] 18 ?_
     have Em := Hn.trans (zO Hn.heap)
     refine q_s [0,1] [] 16 HC (Em.pk [0, 2]) fun _ cI => q_f 2 (s := Instr.indexAt 129 (pt Ec) (ni t1)) (v := .pointer (some ⟨Ec, t1, none⟩)) cI (fun _ => Go.Dbr.run_indexarr (e := 31) (sz := 1) (m := 80) (j := t1) (o := t1) (by kernel_rfl) (by kernel_rfl) (by omega) (by omega) (by omega) _) (fun _ => Em.pk [0, 2]) fun _ cJ => ?_
     have cK : t1 < zb wi := by rw [hlwi]; omega
     refine q_r 3 (s := Instr.loadAt 31 (.pointer (some ⟨Ec, t1, none⟩))) (v := zm (za wi t1 0)) cJ (fun w hS => Zf (by kernel_rfl) (hS.heap.cell (k := 0) rfl (zx cK))) (Em.pk [0, 2]) fun _ cL => ?_
     have Hw : ((128 * q) + (8 * t1)) + ti < zb bl := (by omega)
     obtain ⟨Ep, Ez⟩ := some_of (bys_vnz Em.heap (k := 2) rfl) Hw
     refine q_s [4,5,6,7,8,9,10,11] [(4, g_i .u64 (Go.Dbr.u64_shl (x := za wi t1 0) (n := 8) rfl (by decide))), (8, g_n (w_m 8 t1)), (9, g_n (w_a (128 * q) (8 * t1))), (11, g_n (w_a ((128 * q) + (8 * t1)) ti))] 6 cL (Em.pk [0, 2]) fun _ cM => q_f 12 (s := Instr.indexAt 23 (.slice Ea (zb bl) Eb) (ni (((128 * q) + (8 * t1)) + ti))) (v := .pointer (some (Addr.add Ep (((128 * q) + (8 * t1)) + ti)))) cM (fun _ => Go.Dbr.run_indexsl (e := 5) (sz := 1) (j := ((128 * q) + (8 * t1)) + ti) (jo := ((128 * q) + (8 * t1)) + ti) Ez (by kernel_rfl) (by kernel_rfl) (by omega) Hw (Nat.mul_one _) _) (fun _ => Em.pk [0, 2]) fun _ cN => ?_
     have cO : ((128 * q) + (8 * t1)) + ti < zb bl := by omega
     refine q_r 13 (s := Instr.loadAt 5 (.pointer (some (Addr.add Ep (((128 * q) + (8 * t1)) + ti))))) (v := bv (za bl (((128 * q) + (8 * t1)) + ti) 0)) cN (fun w hS => run_loadel (ad := Ep) (o := ((128 * q) + (8 * t1)) + ti) rfl (hS.heap.reads (k := 1) rfl) Ez (bys_getD cO) (by kernel_rfl)) (Em.pk [0, 2]) fun _ cP => q_s [14,15] [(14, g_i .u64 (Go.Dbr.u8_to_u64 (x := za bl (((128 * q) + (8 * t1)) + ti) 0) rfl)), (15, g_i .u64 (Go.Dbr.u64_or (x := (za wi t1 0) <<< zc 8) (y := Zc (za bl (((128 * q) + (8 * t1)) + ti) 0)) rfl rfl))] 2 cP (Em.pk [0, 2]) fun _ cQ => q_f 16 (s := Instr.indexAt 129 (pt Ec) (ni t1)) (v := .pointer (some ⟨Ec, t1, none⟩)) cQ (fun _ => Go.Dbr.run_indexarr (e := 31) (sz := 1) (m := 80) (j := t1) (o := t1) (by kernel_rfl) (by kernel_rfl) (by omega) (by omega) (by omega) _) (fun _ => Em.pk [0, 2]) fun _ cR => q_t 17 ?_
     have cS : t1 < zb wi := by rw [hlwi]; omega
     refine m_t 0 t1 (zm (((za wi t1 0) <<< zc 8) ||| (Zc (za bl (((128 * q) + (8 * t1)) + ti) 0)))) [.box Ec (zh (zp wi t1 (((za wi t1 0) <<< zc 8) ||| (Zc (za bl (((128 * q) + (8 * t1)) + ti) 0))))) 129, .box Ef (zh sx) 99, .vec Ea Eb 1 (bys bl) 5, .box Ed (zh K64) 129] cR Em rfl (zx cS) (ZU _ _ _) rfl fun _ _ cT cU => ⟨q_y, ?_⟩
     exact h_e ⟨cT.sb, cU.pk [0, 1, 2, 3]⟩
    rintro _ _ ⟨cV, cW⟩
    refine zv <| ze <| d_r [0,3,4,5,6,7,8,9] [(1, g_n (w_a ti 1))] cV fun _ cX => ze <| ⟨_, ⟨ti + 1, (zp wi t1 (((za wi t1 0) <<< zc 8) ||| (Zc (za bl (((128 * q) + (8 * t1)) + ti) 0)))), rfl, cX.sb, cW.pk [0, 1, 2, 3], by omega, (List.length_set.trans hlwi), by first | (rw [hewi]; rfl) | (rw [hewi, dR]; rfl) | rfl⟩, ?_⟩
    omega
   refine wp_exit <| zy <| zy <| zL <| zv <| ze ?_
   have hti : ti = 8 := by omega
   have hwi : wi = rwF64 bl (128 * q) (t1 + 1) := by rw [hewi, hti, hewa]; rfl
   rw [show wi = (rwF64 bl (128 * q) (t1 + 1)) from hwi] at Hn
   refine d_r [0,3,4,5,6,7,8,9] [(1, g_n (w_a t1 1))] HC fun _ cY => ze <| ⟨_, ⟨t1 + 1, (rwF64 bl (128 * q) (t1 + 1)), rfl, cY.sb, Hn.pk [0, 1, 2, 3], by omega, (rwF64_len _ _ _), by first | (rw [hewa]; rfl) | (rw [hewa, dR]; rfl) | rfl⟩, ?_⟩
   omega
  refine wp_exit <| zy <| zy <| zL <| ze <| wp_seq <| wp_seq ?_
  have hnwa : t1 = 16 := by omega
  have hfwa : wa = rwF64 bl (128 * q) 16 := by rw [hewa, hnwa] <;> rfl
  rw [show wa = (rwF64 bl (128 * q) 16) from hfwa] at HA
  refine d_r [0,3,4,5,6,7,8,10] [] HB fun _ cZ => ze <| wp_block <| ZR (fun c0 ac wo => ∃ (t2 : Nat) (wb : List UInt64), c0 = (64 - t2 : Nat) ∧ Env ac 211 [(0, .slice Ea (zb bl) Eb), (3, pt Ef), (4, .slice none 0 0), (5, pt Ed), (6, ni (128 * q)), (7, pt Ec), (8, ni t1), (10, ni (16 + t2))] ∧ Ev w [] wo [.box Ec (zh wb) 129, .box Ef (zh sx) 99, .vec Ea Eb 1 (bys bl) 5, .box Ed (zh K64) 129] ∧ (t2 ≤ 64) ∧ (zb wb = 80) ∧ (wb = rsF64 (rwF64 bl (128 * q) 16) t2)) ⟨_, 0, rwF64 bl (128 * q) 16, rfl, cZ.sb, HA.pk [0, 1, 2, 3], by omega, (rwF64_len _ _ _), rfl⟩ ?_
  rintro eh _ _ ⟨t2, wb, rfl, c1, Ek, hiwb, hlwb, hewb⟩
  refine wp_seq <| wp_seq <| d_r [0,3,4,5,6,7,8,10,58] [] c1 fun _ EA => ?_
  refine ze <| c_d (((16 + t2 : Nat) : Int) < (80 : Int)) EA (fun c2 => ?_) (fun c2 => ?_)
  ·
   refine wp_skip <| ze <| wp_seq <| wp_block <| wp_seq <| zk <| d_k [0,3,4,5,6,7,8,10,62] [(1, g_n (w_r (e := ((16 + t2 : Nat) : Int) - (15 : Int)) (x := ((1 + t2 : Nat) : Int)) (by omega)))] 2 EA fun _ c3 => f_o <| q_v (x := Instr.indexAt 129 (pt Ec) (ni (1 + t2))) (v := .pointer (some ⟨Ec, 1 + t2, none⟩)) c3 (Go.Dbr.run_indexarr (e := 31) (sz := 1) (m := 80) (j := 1 + t2) (o := 1 + t2) (by kernel_rfl) (by kernel_rfl) (by omega) (by omega) (by omega) _) fun _ c4 => f_o ?_
   have c5 : 1 + t2 < zb wb := by rw [hlwb]; omega
   refine m_v 0 (1 + t2) (zm (za wb (1 + t2) 0)) c4 Ek rfl (zx c5) fun _ c6 => d_e [0,3,4,5,6,7,8,10,11] [] c6 fun _ c8 => ze <| wp_seq <| zk <| d_k [0,3,4,5,6,7,8,10,11,66] [(1, g_n (w_r (e := ((16 + t2 : Nat) : Int) - (2 : Int)) (x := ((14 + t2 : Nat) : Int)) (by omega)))] 2 c8 fun _ c9 => f_o <| q_v (x := Instr.indexAt 129 (pt Ec) (ni (14 + t2))) (v := .pointer (some ⟨Ec, 14 + t2, none⟩)) c9 (Go.Dbr.run_indexarr (e := 31) (sz := 1) (m := 80) (j := 14 + t2) (o := 14 + t2) (by kernel_rfl) (by kernel_rfl) (by omega) (by omega) (by omega) _) fun _ da => ?_
   refine f_o ?_
   have db : 14 + t2 < zb wb := by rw [hlwb]; omega
   refine m_v 0 (14 + t2) (zm (za wb (14 + t2) 0)) da Ek rfl (zx db) fun _ dc => d_e [0,3,4,5,6,7,8,10,11,12] [] dc fun _ dd => ?_
   refine ze <| r_c (fun ac wo => Env ac 211 [(0, .slice Ea (zb bl) Eb), (3, pt Ef), (4, .slice none 0 0), (5, pt Ed), (6, ni (128 * q)), (7, pt Ec), (8, ni t1), (10, ni (16 + t2))] ∧ Ev w [] wo [.box Ec (zh (zp wb (16 + t2) ((((((zP (za wb (14 + t2) 0) 19) ^^^ (zP (za wb (14 + t2) 0) 61)) ^^^ ((za wb (14 + t2) 0) >>> zc 6)) + (za wb (9 + t2) 0)) + (((zP (za wb (1 + t2) 0) 1) ^^^ (zP (za wb (1 + t2) 0) 8)) ^^^ ((za wb (1 + t2) 0) >>> zc 7))) + (za wb t2 0)))) 129, .box Ef (zh sx) 99, .vec Ea Eb 1 (bys bl) 5, .box Ed (zh K64) 129]) ?_ ?_
   ·
    refine h_s (fun wv => Ev w [] wv [.box Ec (zh wb) 129]) [29] 30 ?_
    have El := Ek.trans (zO Ek.heap)
    refine q_s [0,1,3,6,7,9,10] [(7, g_i .u64 (Go.Dbr.u64_shr (x := za wb (14 + t2) 0) (n := 6) rfl (by decide))), (10, g_n (w_r (e := ((16 + t2 : Nat) : Int) - (7 : Int)) (x := ((9 + t2 : Nat) : Int)) (by omega)))] 23 dd (El.pk [0]) fun _ de => q_f 11 (s := Instr.indexAt 129 (pt Ec) (ni (9 + t2))) (v := .pointer (some ⟨Ec, 9 + t2, none⟩)) de (fun _ => Go.Dbr.run_indexarr (e := 31) (sz := 1) (m := 80) (j := 9 + t2) (o := 9 + t2) (by kernel_rfl) (by kernel_rfl) (by omega) (by omega) (by omega) _) (fun _ => El.pk [0]) fun _ df => ?_
    have dg : 9 + t2 < zb wb := by rw [hlwb]; omega
    refine q_r 12 (s := Instr.loadAt 31 (.pointer (some ⟨Ec, 9 + t2, none⟩))) (v := zm (za wb (9 + t2) 0)) df (fun w hS => Zf (by kernel_rfl) (hS.heap.cell (k := 0) rfl (zx dg))) (El.pk [0]) fun _ dh => q_s [14,16,19,20,23,24] [(20, g_i .u64 (Go.Dbr.u64_shr (x := za wb (1 + t2) 0) (n := 7) rfl (by decide))), (24, g_n (w_r (e := ((16 + t2 : Nat) : Int) - (16 : Int)) (x := ((t2 : Nat) : Int)) (by omega)))] 15 dh (El.pk [0]) fun _ di => q_f 25 (s := Instr.indexAt 129 (pt Ec) (ni t2)) (v := .pointer (some ⟨Ec, t2, none⟩)) di (fun _ => Go.Dbr.run_indexarr (e := 31) (sz := 1) (m := 80) (j := t2) (o := t2) (by kernel_rfl) (by kernel_rfl) (by omega) (by omega) (by omega) _) (fun _ => El.pk [0]) fun _ dj => ?_
    have dk : t2 < zb wb := by rw [hlwb]; omega
    refine q_r 26 (s := Instr.loadAt 31 (.pointer (some ⟨Ec, t2, none⟩))) (v := zm (za wb t2 0)) dj (fun w hS => Zf (by kernel_rfl) (hS.heap.cell (k := 0) rfl (zx dk))) (El.pk [0]) fun _ dl => q_t 2 ?_
    refine c_p dl El (turn64_ref _ (za wb (14 + t2) 0) 19 (by decide) (by decide)) fun _ _ dm Hx => ⟨fun _ => Hx.pk [0], ?_⟩
    refine q_t 4 ?_
    refine c_p dm Hx (turn64_ref _ (za wb (14 + t2) 0) 61 (by decide) (by decide)) fun _ _ dn EB => ⟨fun _ => EB.pk [0], ?_⟩
    refine q_s [5,8,13] [(5, g_i .u64 (Go.Dbr.u64_xor (x := zP (za wb (14 + t2) 0) 19) (y := zP (za wb (14 + t2) 0) 61) rfl rfl)), (8, g_i .u64 (Go.Dbr.u64_xor (x := (zP (za wb (14 + t2) 0) 19) ^^^ (zP (za wb (14 + t2) 0) 61)) (y := (za wb (14 + t2) 0) >>> zc 6) rfl rfl)), (13, g_i .u64 (Go.Dbr.u64_add (x := ((zP (za wb (14 + t2) 0) 19) ^^^ (zP (za wb (14 + t2) 0) 61)) ^^^ ((za wb (14 + t2) 0) >>> zc 6)) (y := za wb (9 + t2) 0) rfl rfl))] 8 dn (EB.pk [0]) fun _ dp => q_t 15 ?_
    refine c_p dp EB (turn64_ref _ (za wb (1 + t2) 0) 1 (by decide) (by decide)) fun _ _ dq Hy => ⟨fun _ => Hy.pk [0], ?_⟩
    refine q_t 17 ?_
    refine c_p dq Hy (turn64_ref _ (za wb (1 + t2) 0) 8 (by decide) (by decide)) fun _ _ dr Ey => ⟨fun _ => Ey.pk [0], ?_⟩
    refine q_s [18,21,22,27] [(18, g_i .u64 (Go.Dbr.u64_xor (x := zP (za wb (1 + t2) 0) 1) (y := zP (za wb (1 + t2) 0) 8) rfl rfl)), (21, g_i .u64 (Go.Dbr.u64_xor (x := (zP (za wb (1 + t2) 0) 1) ^^^ (zP (za wb (1 + t2) 0) 8)) (y := (za wb (1 + t2) 0) >>> zc 7) rfl rfl)), (22, g_i .u64 (Go.Dbr.u64_add (x := (((zP (za wb (14 + t2) 0) 19) ^^^ (zP (za wb (14 + t2) 0) 61)) ^^^ ((za wb (14 + t2) 0) >>> zc 6)) + (za wb (9 + t2) 0)) (y := ((zP (za wb (1 + t2) 0) 1) ^^^ (zP (za wb (1 + t2) 0) 8)) ^^^ ((za wb (1 + t2) 0) >>> zc 7)) rfl rfl)), (27, g_i .u64 (Go.Dbr.u64_add (x := ((((zP (za wb (14 + t2) 0) 19) ^^^ (zP (za wb (14 + t2) 0) 61)) ^^^ ((za wb (14 + t2) 0) >>> zc 6)) + (za wb (9 + t2) 0)) + (((zP (za wb (1 + t2) 0) 1) ^^^ (zP (za wb (1 + t2) 0) 8)) ^^^ ((za wb (1 + t2) 0) >>> zc 7))) (y := za wb t2 0) rfl rfl))] 2 dr (Ey.pk [0]) fun _ ds => q_f 28 (s := Instr.indexAt 129 (pt Ec) (ni (16 + t2))) (v := .pointer (some ⟨Ec, 16 + t2, none⟩)) ds (fun _ => Go.Dbr.run_indexarr (e := 31) (sz := 1) (m := 80) (j := 16 + t2) (o := 16 + t2) (by kernel_rfl) (by kernel_rfl) (by omega) (by omega) (by omega) _) (fun _ => Ey.pk [0]) fun _ dt => q_t 29 ?_
    have du : 16 + t2 < zb wb := by rw [hlwb]; omega
    refine m_t 0 (16 + t2) (zm ((((((zP (za wb (14 + t2) 0) 19) ^^^ (zP (za wb (14 + t2) 0) 61)) ^^^ ((za wb (14 + t2) 0) >>> zc 6)) + (za wb (9 + t2) 0)) + (((zP (za wb (1 + t2) 0) 1) ^^^ (zP (za wb (1 + t2) 0) 8)) ^^^ ((za wb (1 + t2) 0) >>> zc 7))) + (za wb t2 0))) _ dt Ey rfl (zx du) (ZU _ _ _) rfl fun _ _ dv dw => ⟨q_y, ?_⟩
    exact h_e ⟨dv.sb, dw.pk [0, 1, 2, 3]⟩
   rintro _ _ ⟨dx, dy⟩
   refine zv <| ze <| d_r [0,3,4,5,6,7,8,10] [(1, g_n (w_a (16 + t2) 1))] dx fun _ dz => ze <| ⟨_, ⟨t2 + 1, (zp wb (16 + t2) ((((((zP (za wb (14 + t2) 0) 19) ^^^ (zP (za wb (14 + t2) 0) 61)) ^^^ ((za wb (14 + t2) 0) >>> zc 6)) + (za wb (9 + t2) 0)) + (((zP (za wb (1 + t2) 0) 1) ^^^ (zP (za wb (1 + t2) 0) 8)) ^^^ ((za wb (1 + t2) 0) >>> zc 7))) + (za wb t2 0))), rfl, dz.sb, dy.pk [0, 1, 2, 3], by omega, (List.length_set.trans hlwb), by first | (rw [hewb]; rfl) | (rw [hewb, dR]; rfl) | rfl⟩, ?_⟩
   omega
  refine wp_exit <| zy <| zy <| zL <| ze <| wp_seq ?_
  have hnwb : t2 = 64 := by omega
  have hfwb : wb = rsF64 (rwF64 bl (128 * q) 16) 64 := by rw [hewb, hnwb] <;> rfl
  rw [show wb = (rsF64 (rwF64 bl (128 * q) 16) 64) from hfwb] at Ek
  refine zk <| f_o <| m_aw 1 8 (zh sx) EA Ek rfl (zf hlx) fun _ dA => f_o <| m_z 99 (zh (zd 8 0)) dA Ek fun _ _ Ee dB dC => f_o <| m_gw 4 8 (zh sx) [.box Ec (zh (rsF64 (rwF64 bl (128 * q) 16) 64)) 129, .box Ef (zh sx) 99, .vec Ea Eb 1 (bys bl) 5, .box Ed (zh K64) 129, .box Ee (zh sx) 99] dB dC rfl (zf hlx) (zf (zi)) (zt _) rfl fun _ _ dD dE => f_e <| ze <| wp_seq <| wp_seq <| d_r [0,3,4,5,6,7,8,10,13,14] [] dD fun _ dF => ?_
  refine ze <| wp_block <| ZR (fun dG ac wo => ∃ (t3 : Nat) (va : List UInt64), dG = (80 - t3 : Nat) ∧ Env ac 211 [(0, .slice Ea (zb bl) Eb), (3, pt Ef), (4, .slice none 0 0), (5, pt Ed), (6, ni (128 * q)), (7, pt Ec), (8, ni t1), (10, ni (16 + t2)), (13, pt Ee), (14, ni t3)] ∧ Ev w [] wo [.box Ee (zh va) 99, .box Ec (zh (rsF64 (rwF64 bl (128 * q) 16) 64)) 129, .box Ef (zh sx) 99, .vec Ea Eb 1 (bys bl) 5, .box Ed (zh K64) 129] ∧ (t3 ≤ 80) ∧ (zb va = 8) ∧ (va = rr64 (rsF64 (rwF64 bl (128 * q) 16) 64) sx t3)) ⟨_, 0, sx, rfl, dF.sb, dE.pk [4, 0, 1, 2, 3], by omega, hlx, rfl⟩ ?_
  rintro ei _ _ ⟨t3, va, rfl, dH, En, hiva, hlva, heva⟩
  refine wp_seq <| wp_seq <| d_r [0,3,4,5,6,7,8,10,13,14,100] [] dH fun _ EC => ?_
  refine ze <| c_d (((t3 : Nat) : Int) < (80 : Int)) EC (fun dI => ?_) (fun dI => ?_)
  ·
   refine wp_skip <| ze <| wp_seq <| wp_block <| wp_seq <| zk <| d_k [0,3,4,5,6,7,8,10,13,14,103] [] 1 EC fun _ dJ => f_o ?_
   have dK : 0 < zb va := by rw [hlva]; omega
   refine m_v 0 0 (zm (za va 0 0)) dJ En rfl (zx dK) fun _ dL => d_e [0,3,4,5,6,7,8,10,13,14,15] [] dL fun _ dM => ze <| wp_seq <| zk <| d_k [0,3,4,5,6,7,8,10,13,14,15,105] [] 1 dM fun _ dN => f_o ?_
   have dO : 4 < zb va := by rw [hlva]; omega
   refine m_v 0 4 (zm (za va 4 0)) dN En rfl (zx dO) fun _ dP => d_e [0,3,4,5,6,7,8,10,13,14,15,16] [] dP fun _ dQ => ?_
   refine ze <| wp_seq <| r_c (fun ac wo => Env ac 211 [(0, .slice Ea (zb bl) Eb), (3, pt Ef), (4, .slice none 0 0), (5, pt Ed), (6, ni (128 * q)), (7, pt Ec), (8, ni t1), (10, ni (16 + t2)), (13, pt Ee), (14, ni t3), (15, zm (za va 0 0)), (16, zm (za va 4 0)), (17, zm (((((za va 7 0) + (((zP (za va 4 0) 14) ^^^ (zP (za va 4 0) 18)) ^^^ (zP (za va 4 0) 41))) + (((za va 4 0) &&& (za va 5 0)) ^^^ (((18446744073709551615 : UInt64) ^^^ (za va 4 0)) &&& (za va 6 0)))) + (za K64 t3 0)) + (za (rsF64 (rwF64 bl (128 * q) 16) 64) t3 0)))] ∧ Ev w [] wo [.box Ee (zh va) 99, .box Ec (zh (rsF64 (rwF64 bl (128 * q) 16) 64)) 129, .box Ef (zh sx) 99, .vec Ea Eb 1 (bys bl) 5, .box Ed (zh K64) 129]) ?_ ?_
   ·
    refine h_s (fun wv => Ev w [] wv [.box Ee (zh va) 99, .box Ec (zh (rsF64 (rwF64 bl (128 * q) 16) 64)) 129, .box Ed (zh K64) 129]) [] 31 ?_
    have Eh := En.trans (zO En.heap)
    have HD : 7 < zb va := by rw [hlva]; omega
    refine q_s [0] [] 30 dQ (Eh.pk [0, 1, 4]) fun _ HE => q_r 1 (s := Instr.loadAt 31 (.pointer (some ⟨Ee, 7, none⟩))) (v := zm (za va 7 0)) HE (fun w hS => Zf (by kernel_rfl) (hS.heap.cell (k := 0) rfl (zx HD))) (Eh.pk [0, 1, 4]) fun _ HF => ?_
    have HG : 5 < zb va := by rw [hlva]; omega
    refine q_s [2,4,7,11,12] [] 24 HF (Eh.pk [0, 1, 4]) fun _ HH => q_r 13 (s := Instr.loadAt 31 (.pointer (some ⟨Ee, 5, none⟩))) (v := zm (za va 5 0)) HH (fun w hS => Zf (by kernel_rfl) (hS.heap.cell (k := 0) rfl (zx HG))) (Eh.pk [0, 1, 4]) fun _ HI => ?_
    have HJ : 6 < zb va := by rw [hlva]; omega
    refine q_s [14,15,16,17] [(14, g_i .u64 (Go.Dbr.u64_and (x := za va 4 0) (y := za va 5 0) rfl rfl)), (16, g_i .u64 (Go.Dbr.u64_xor (x := 18446744073709551615) (y := za va 4 0) rfl rfl))] 19 HI (Eh.pk [0, 1, 4]) fun _ HK => q_r 18 (s := Instr.loadAt 31 (.pointer (some ⟨Ee, 6, none⟩))) (v := zm (za va 6 0)) HK (fun w hS => Zf (by kernel_rfl) (hS.heap.cell (k := 0) rfl (zx HJ))) (Eh.pk [0, 1, 4]) fun _ HL => q_s [19,20,22] [(19, g_i .u64 (Go.Dbr.u64_and (x := (18446744073709551615 : UInt64) ^^^ (za va 4 0)) (y := za va 6 0) rfl rfl)), (20, g_i .u64 (Go.Dbr.u64_xor (x := (za va 4 0) &&& (za va 5 0)) (y := ((18446744073709551615 : UInt64) ^^^ (za va 4 0)) &&& (za va 6 0)) rfl rfl))] 15 HL (Eh.pk [0, 1, 4]) fun _ HM => q_f 23 (s := Instr.indexAt 129 (pt Ed) (ni t3)) (v := .pointer (some ⟨Ed, t3, none⟩)) HM (fun _ => Go.Dbr.run_indexarr (e := 31) (sz := 1) (m := 80) (j := t3) (o := t3) (by kernel_rfl) (by kernel_rfl) (by omega) (by omega) (by omega) _) (fun _ => Eh.pk [0, 1, 4]) fun _ HN => ?_
    have HO : t3 < zb K64 := by rw [(show zb K64 = 80 from rfl)]; omega
    refine q_r 24 (s := Instr.loadAt 31 (.pointer (some ⟨Ed, t3, none⟩))) (v := zm (za K64 t3 0)) HN (fun w hS => Zf (by kernel_rfl) (hS.heap.cell (k := 2) rfl (zx HO))) (Eh.pk [0, 1, 4]) fun _ HP => q_s [26] [] 12 HP (Eh.pk [0, 1, 4]) fun _ HQ => q_f 27 (s := Instr.indexAt 129 (pt Ec) (ni t3)) (v := .pointer (some ⟨Ec, t3, none⟩)) HQ (fun _ => Go.Dbr.run_indexarr (e := 31) (sz := 1) (m := 80) (j := t3) (o := t3) (by kernel_rfl) (by kernel_rfl) (by omega) (by omega) (by omega) _) (fun _ => Eh.pk [0, 1, 4]) fun _ HR => ?_
    have HS : t3 < zb (rsF64 (rwF64 bl (128 * q) 16) 64) := by rw [(rsF64_len (rwF64_len _ _ _) _)]; omega
    refine q_r 28 (s := Instr.loadAt 31 (.pointer (some ⟨Ec, t3, none⟩))) (v := zm (za (rsF64 (rwF64 bl (128 * q) 16) 64) t3 0)) HR (fun w hS => Zf (by kernel_rfl) (hS.heap.cell (k := 1) rfl (zx HS))) (Eh.pk [0, 1, 4]) fun _ HT => q_t 3 ?_
    refine c_p HT Eh (turn64_ref _ (za va 4 0) 14 (by decide) (by decide)) fun _ _ HU ED => ⟨fun _ => ED.pk [0, 1, 4], ?_⟩
    refine q_t 5 ?_
    refine c_p HU ED (turn64_ref _ (za va 4 0) 18 (by decide) (by decide)) fun _ _ HV Eq => ⟨fun _ => Eq.pk [0, 1, 4], ?_⟩
    refine q_s [6] [(6, g_i .u64 (Go.Dbr.u64_xor (x := zP (za va 4 0) 14) (y := zP (za va 4 0) 18) rfl rfl))] 7 HV (Eq.pk [0, 1, 4]) fun _ HW => q_t 8 ?_
    refine c_p HW Eq (turn64_ref _ (za va 4 0) 41 (by decide) (by decide)) fun _ _ HX Er => ⟨fun _ => Er.pk [0, 1, 4], ?_⟩
    refine q_s [9,10,21,25,29,30] [(9, g_i .u64 (Go.Dbr.u64_xor (x := (zP (za va 4 0) 14) ^^^ (zP (za va 4 0) 18)) (y := zP (za va 4 0) 41) rfl rfl)), (10, g_i .u64 (Go.Dbr.u64_add (x := za va 7 0) (y := ((zP (za va 4 0) 14) ^^^ (zP (za va 4 0) 18)) ^^^ (zP (za va 4 0) 41)) rfl rfl)), (21, g_i .u64 (Go.Dbr.u64_add (x := (za va 7 0) + (((zP (za va 4 0) 14) ^^^ (zP (za va 4 0) 18)) ^^^ (zP (za va 4 0) 41))) (y := ((za va 4 0) &&& (za va 5 0)) ^^^ (((18446744073709551615 : UInt64) ^^^ (za va 4 0)) &&& (za va 6 0))) rfl rfl)), (25, g_i .u64 (Go.Dbr.u64_add (x := ((za va 7 0) + (((zP (za va 4 0) 14) ^^^ (zP (za va 4 0) 18)) ^^^ (zP (za va 4 0) 41))) + (((za va 4 0) &&& (za va 5 0)) ^^^ (((18446744073709551615 : UInt64) ^^^ (za va 4 0)) &&& (za va 6 0)))) (y := za K64 t3 0) rfl rfl)), (29, g_i .u64 (Go.Dbr.u64_add (x := (((za va 7 0) + (((zP (za va 4 0) 14) ^^^ (zP (za va 4 0) 18)) ^^^ (zP (za va 4 0) 41))) + (((za va 4 0) &&& (za va 5 0)) ^^^ (((18446744073709551615 : UInt64) ^^^ (za va 4 0)) &&& (za va 6 0)))) + (za K64 t3 0)) (y := za (rsF64 (rwF64 bl (128 * q) 16) 64) t3 0) rfl rfl))] 0 HX (Er.pk [0, 1, 4]) fun _ HY => ?_
    exact h_e ⟨HY.sb, Er.pk [0, 1, 2, 3, 4]⟩
   rintro _ _ ⟨HZ, EE⟩
   refine ze <| wp_seq <| r_c (fun ac wo => Env ac 211 [(0, .slice Ea (zb bl) Eb), (3, pt Ef), (4, .slice none 0 0), (5, pt Ed), (6, ni (128 * q)), (7, pt Ec), (8, ni t1), (10, ni (16 + t2)), (13, pt Ee), (14, ni t3), (15, zm (za va 0 0)), (16, zm (za va 4 0)), (17, zm (((((za va 7 0) + (((zP (za va 4 0) 14) ^^^ (zP (za va 4 0) 18)) ^^^ (zP (za va 4 0) 41))) + (((za va 4 0) &&& (za va 5 0)) ^^^ (((18446744073709551615 : UInt64) ^^^ (za va 4 0)) &&& (za va 6 0)))) + (za K64 t3 0)) + (za (rsF64 (rwF64 bl (128 * q) 16) 64) t3 0))), (18, zm ((((zP (za va 0 0) 28) ^^^ (zP (za va 0 0) 34)) ^^^ (zP (za va 0 0) 39)) + ((((za va 0 0) &&& (za va 1 0)) ^^^ ((za va 0 0) &&& (za va 2 0))) ^^^ ((za va 1 0) &&& (za va 2 0)))))] ∧ Ev w [] wo [.box Ee (zh va) 99, .box Ec (zh (rsF64 (rwF64 bl (128 * q) 16) 64)) 129, .box Ef (zh sx) 99, .vec Ea Eb 1 (bys bl) 5, .box Ed (zh K64) 129]) ?_ ?_
   ·
    refine h_s (fun wv => Ev w [] wv [.box Ee (zh va) 99]) [] 25 ?_
    have Eg := EE.trans (zO EE.heap)
    have H0 : 1 < zb va := by rw [hlva]; omega
    refine q_s [0,2,5,8,9] [] 20 HZ (Eg.pk [0]) fun _ H1 => q_r 10 (s := Instr.loadAt 31 (.pointer (some ⟨Ee, 1, none⟩))) (v := zm (za va 1 0)) H1 (fun w hS => Zf (by kernel_rfl) (hS.heap.cell (k := 0) rfl (zx H0))) (Eg.pk [0]) fun _ H2 => ?_
    have H3 : 2 < zb va := by rw [hlva]; omega
    refine q_s [11,12,13] [(11, g_i .u64 (Go.Dbr.u64_and (x := za va 0 0) (y := za va 1 0) rfl rfl))] 16 H2 (Eg.pk [0]) fun _ H4 => q_r 14 (s := Instr.loadAt 31 (.pointer (some ⟨Ee, 2, none⟩))) (v := zm (za va 2 0)) H4 (fun w hS => Zf (by kernel_rfl) (hS.heap.cell (k := 0) rfl (zx H3))) (Eg.pk [0]) fun _ H5 => ?_
    have H6 : 1 < zb va := by rw [hlva]; omega
    refine q_s [15,16,17] [(15, g_i .u64 (Go.Dbr.u64_and (x := za va 0 0) (y := za va 2 0) rfl rfl)), (16, g_i .u64 (Go.Dbr.u64_xor (x := (za va 0 0) &&& (za va 1 0)) (y := (za va 0 0) &&& (za va 2 0)) rfl rfl))] 12 H5 (Eg.pk [0]) fun _ H7 => q_r 18 (s := Instr.loadAt 31 (.pointer (some ⟨Ee, 1, none⟩))) (v := zm (za va 1 0)) H7 (fun w hS => Zf (by kernel_rfl) (hS.heap.cell (k := 0) rfl (zx H6))) (Eg.pk [0]) fun _ H8 => ?_
    have H9 : 2 < zb va := by rw [hlva]; omega
    refine q_s [19] [] 10 H8 (Eg.pk [0]) fun _ aa => q_r 20 (s := Instr.loadAt 31 (.pointer (some ⟨Ee, 2, none⟩))) (v := zm (za va 2 0)) aa (fun w hS => Zf (by kernel_rfl) (hS.heap.cell (k := 0) rfl (zx H9))) (Eg.pk [0]) fun _ ab => q_s [21,22] [(21, g_i .u64 (Go.Dbr.u64_and (x := za va 1 0) (y := za va 2 0) rfl rfl)), (22, g_i .u64 (Go.Dbr.u64_xor (x := ((za va 0 0) &&& (za va 1 0)) ^^^ ((za va 0 0) &&& (za va 2 0))) (y := (za va 1 0) &&& (za va 2 0)) rfl rfl))] 7 ab (Eg.pk [0]) fun _ ae => q_t 1 ?_
    refine c_p ae Eg (turn64_ref _ (za va 0 0) 28 (by decide) (by decide)) fun _ _ af EF => ⟨fun _ => EF.pk [0], ?_⟩
    refine q_t 3 ?_
    refine c_p af EF (turn64_ref _ (za va 0 0) 34 (by decide) (by decide)) fun _ _ ag Es => ⟨fun _ => Es.pk [0], ?_⟩
    refine q_s [4] [(4, g_i .u64 (Go.Dbr.u64_xor (x := zP (za va 0 0) 28) (y := zP (za va 0 0) 34) rfl rfl))] 4 ag (Es.pk [0]) fun _ ah => q_t 6 ?_
    refine c_p ah Es (turn64_ref _ (za va 0 0) 39 (by decide) (by decide)) fun _ _ ai Et => ⟨fun _ => Et.pk [0], ?_⟩
    refine q_s [7,23,24] [(7, g_i .u64 (Go.Dbr.u64_xor (x := (zP (za va 0 0) 28) ^^^ (zP (za va 0 0) 34)) (y := zP (za va 0 0) 39) rfl rfl)), (23, g_i .u64 (Go.Dbr.u64_add (x := ((zP (za va 0 0) 28) ^^^ (zP (za va 0 0) 34)) ^^^ (zP (za va 0 0) 39)) (y := (((za va 0 0) &&& (za va 1 0)) ^^^ ((za va 0 0) &&& (za va 2 0))) ^^^ ((za va 1 0) &&& (za va 2 0))) rfl rfl))] 0 ai (Et.pk [0]) fun _ aj => ?_
    exact h_e ⟨aj.sb, Et.pk [0, 1, 2, 3, 4]⟩
   rintro _ _ ⟨ak, Ej⟩
   refine ze <| zk <| d_k [0,3,4,5,6,7,8,10,13,14,15,16,17,163,164,165] [(2, g_i .u64 (Go.Dbr.u64_add (x := ((((za va 7 0) + (((zP (za va 4 0) 14) ^^^ (zP (za va 4 0) 18)) ^^^ (zP (za va 4 0) 41))) + (((za va 4 0) &&& (za va 5 0)) ^^^ (((18446744073709551615 : UInt64) ^^^ (za va 4 0)) &&& (za va 6 0)))) + (za K64 t3 0)) + (za (rsF64 (rwF64 bl (128 * q) 16) 64) t3 0)) (y := (((zP (za va 0 0) 28) ^^^ (zP (za va 0 0) 34)) ^^^ (zP (za va 0 0) 39)) + ((((za va 0 0) &&& (za va 1 0)) ^^^ ((za va 0 0) &&& (za va 2 0))) ^^^ ((za va 1 0) &&& (za va 2 0)))) rfl rfl))] 5 ak fun _ al => f_o ?_
   have am : 1 < zb va := by rw [hlva]; omega
   refine m_v 0 1 (zm (za va 1 0)) al Ej rfl (zx am) fun _ an => d_k [0,3,4,5,6,7,8,10,13,14,15,16,17,163,164,166,167] [] 7 an fun _ ap => f_o ?_
   have aq : 2 < zb va := by rw [hlva]; omega
   refine m_v 0 2 (zm (za va 2 0)) ap Ej rfl (zx aq) fun _ ar => d_k [0,3,4,5,6,7,8,10,13,14,15,16,17,163,164,166,168,169] [] 9 ar fun _ au => f_o ?_
   have av : 3 < zb va := by rw [hlva]; omega
   refine m_v 0 3 (zm (za va 3 0)) au Ej rfl (zx av) fun _ aw => d_k [0,3,4,5,6,7,8,10,13,14,15,16,163,164,166,168,172,173,174] [(11, g_i .u64 (Go.Dbr.u64_add (x := za va 3 0) (y := ((((za va 7 0) + (((zP (za va 4 0) 14) ^^^ (zP (za va 4 0) 18)) ^^^ (zP (za va 4 0) 41))) + (((za va 4 0) &&& (za va 5 0)) ^^^ (((18446744073709551615 : UInt64) ^^^ (za va 4 0)) &&& (za va 6 0)))) + (za K64 t3 0)) + (za (rsF64 (rwF64 bl (128 * q) 16) 64) t3 0)) rfl rfl))] 14 aw fun _ ay => f_o ?_
   have az : 5 < zb va := by rw [hlva]; omega
   refine m_v 0 5 (zm (za va 5 0)) ay Ej rfl (zx az) fun _ aA => d_k [0,3,4,5,6,7,8,10,13,14,15,16,163,164,166,168,172,173,175,176] [] 16 aA fun _ aB => f_o ?_
   have aC : 6 < zb va := by rw [hlva]; omega
   refine m_v 0 6 (zm (za va 6 0)) aB Ej rfl (zx aC) fun _ aD => d_k [0,3,4,5,6,7,8,10,13,14,15,16,178] [] 18 aD fun _ aE => f_o <| m_gw 0 8 (zh ([(((((za va 7 0) + (((zP (za va 4 0) 14) ^^^ (zP (za va 4 0) 18)) ^^^ (zP (za va 4 0) 41))) + (((za va 4 0) &&& (za va 5 0)) ^^^ (((18446744073709551615 : UInt64) ^^^ (za va 4 0)) &&& (za va 6 0)))) + (za K64 t3 0)) + (za (rsF64 (rwF64 bl (128 * q) 16) 64) t3 0)) + ((((zP (za va 0 0) 28) ^^^ (zP (za va 0 0) 34)) ^^^ (zP (za va 0 0) 39)) + ((((za va 0 0) &&& (za va 1 0)) ^^^ ((za va 0 0) &&& (za va 2 0))) ^^^ ((za va 1 0) &&& (za va 2 0)))), za va 0 0, za va 1 0, za va 2 0, (za va 3 0) + (((((za va 7 0) + (((zP (za va 4 0) 14) ^^^ (zP (za va 4 0) 18)) ^^^ (zP (za va 4 0) 41))) + (((za va 4 0) &&& (za va 5 0)) ^^^ (((18446744073709551615 : UInt64) ^^^ (za va 4 0)) &&& (za va 6 0)))) + (za K64 t3 0)) + (za (rsF64 (rwF64 bl (128 * q) 16) 64) t3 0)), za va 4 0, za va 5 0, za va 6 0] : List UInt64)) _ aE Ej rfl (zf (show zb ([(((((za va 7 0) + (((zP (za va 4 0) 14) ^^^ (zP (za va 4 0) 18)) ^^^ (zP (za va 4 0) 41))) + (((za va 4 0) &&& (za va 5 0)) ^^^ (((18446744073709551615 : UInt64) ^^^ (za va 4 0)) &&& (za va 6 0)))) + (za K64 t3 0)) + (za (rsF64 (rwF64 bl (128 * q) 16) 64) t3 0)) + ((((zP (za va 0 0) 28) ^^^ (zP (za va 0 0) 34)) ^^^ (zP (za va 0 0) 39)) + ((((za va 0 0) &&& (za va 1 0)) ^^^ ((za va 0 0) &&& (za va 2 0))) ^^^ ((za va 1 0) &&& (za va 2 0)))), za va 0 0, za va 1 0, za va 2 0, (za va 3 0) + (((((za va 7 0) + (((zP (za va 4 0) 14) ^^^ (zP (za va 4 0) 18)) ^^^ (zP (za va 4 0) 41))) + (((za va 4 0) &&& (za va 5 0)) ^^^ (((18446744073709551615 : UInt64) ^^^ (za va 4 0)) &&& (za va 6 0)))) + (za K64 t3 0)) + (za (rsF64 (rwF64 bl (128 * q) 16) 64) t3 0)), za va 4 0, za va 5 0, za va 6 0] : List UInt64) = 8 from rfl)) (zf hlva) (zt _) rfl fun _ _ aF aG => f_e <| zv <| ze <| d_r [0,3,4,5,6,7,8,10,13,14,15,16] [(1, g_n (w_a t3 1))] aF fun _ aH => ?_
   refine ze <| ⟨_, ⟨t3 + 1, ([(((((za va 7 0) + (((zP (za va 4 0) 14) ^^^ (zP (za va 4 0) 18)) ^^^ (zP (za va 4 0) 41))) + (((za va 4 0) &&& (za va 5 0)) ^^^ (((18446744073709551615 : UInt64) ^^^ (za va 4 0)) &&& (za va 6 0)))) + (za K64 t3 0)) + (za (rsF64 (rwF64 bl (128 * q) 16) 64) t3 0)) + ((((zP (za va 0 0) 28) ^^^ (zP (za va 0 0) 34)) ^^^ (zP (za va 0 0) 39)) + ((((za va 0 0) &&& (za va 1 0)) ^^^ ((za va 0 0) &&& (za va 2 0))) ^^^ ((za va 1 0) &&& (za va 2 0)))), za va 0 0, za va 1 0, za va 2 0, (za va 3 0) + (((((za va 7 0) + (((zP (za va 4 0) 14) ^^^ (zP (za va 4 0) 18)) ^^^ (zP (za va 4 0) 41))) + (((za va 4 0) &&& (za va 5 0)) ^^^ (((18446744073709551615 : UInt64) ^^^ (za va 4 0)) &&& (za va 6 0)))) + (za K64 t3 0)) + (za (rsF64 (rwF64 bl (128 * q) 16) 64) t3 0)), za va 4 0, za va 5 0, za va 6 0] : List UInt64), rfl, aH.sb, aG.pk [0, 1, 2, 3, 4], by omega, (show zb ([(((((za va 7 0) + (((zP (za va 4 0) 14) ^^^ (zP (za va 4 0) 18)) ^^^ (zP (za va 4 0) 41))) + (((za va 4 0) &&& (za va 5 0)) ^^^ (((18446744073709551615 : UInt64) ^^^ (za va 4 0)) &&& (za va 6 0)))) + (za K64 t3 0)) + (za (rsF64 (rwF64 bl (128 * q) 16) 64) t3 0)) + ((((zP (za va 0 0) 28) ^^^ (zP (za va 0 0) 34)) ^^^ (zP (za va 0 0) 39)) + ((((za va 0 0) &&& (za va 1 0)) ^^^ ((za va 0 0) &&& (za va 2 0))) ^^^ ((za va 1 0) &&& (za va 2 0)))), za va 0 0, za va 1 0, za va 2 0, (za va 3 0) + (((((za va 7 0) + (((zP (za va 4 0) 14) ^^^ (zP (za va 4 0) 18)) ^^^ (zP (za va 4 0) 41))) + (((za va 4 0) &&& (za va 5 0)) ^^^ (((18446744073709551615 : UInt64) ^^^ (za va 4 0)) &&& (za va 6 0)))) + (za K64 t3 0)) + (za (rsF64 (rwF64 bl (128 * q) 16) 64) t3 0)), za va 4 0, za va 5 0, za va 6 0] : List UInt64) = 8 from rfl), by first | (rw [heva]; rfl) | (rw [heva, dR]; rfl) | rfl⟩, ?_⟩
   omega
  refine wp_exit <| zy <| zy <| zL <| ze <| wp_seq ?_
  have hnva : t3 = 80 := by omega
  have hfva : va = rr64 (rsF64 (rwF64 bl (128 * q) 16) 64) sx 80 := by rw [heva, hnva] <;> rfl
  rw [show va = (rr64 (rsF64 (rwF64 bl (128 * q) 16) 64) sx 80) from hfva] at En
  refine d_r [0,3,4,5,6,7,8,10,13,14,19] [] EC fun _ aI => ze <| wp_block <| ZR (fun aJ ac wo => ∃ (t4 : Nat) (sb : List UInt64), aJ = (8 - t4 : Nat) ∧ Env ac 211 [(0, .slice Ea (zb bl) Eb), (3, pt Ef), (4, .slice none 0 0), (5, pt Ed), (6, ni (128 * q)), (7, pt Ec), (8, ni t1), (10, ni (16 + t2)), (13, pt Ee), (14, ni t3), (19, ni t4)] ∧ Ev w [] wo [.box Ef (zh sb) 99, .box Ee (zh (rr64 (rsF64 (rwF64 bl (128 * q) 16) 64) sx 80)) 99, .box Ec (zh (rsF64 (rwF64 bl (128 * q) 16) 64)) 129, .vec Ea Eb 1 (bys bl) 5, .box Ed (zh K64) 129] ∧ (t4 ≤ 8) ∧ (zb sb = 8) ∧ (sb = XQ sx (rr64 (rsF64 (rwF64 bl (128 * q) 16) 64) sx 80) t4)) ⟨_, 0, sx, rfl, aI.sb, En.pk [2, 0, 1, 3, 4], by omega, hlx, rfl⟩ ?_
  rintro ef _ _ ⟨t4, sb, rfl, aK, Eo, hisb, hlsb, hesb⟩
  refine wp_seq <| wp_seq <| d_r [0,3,4,5,6,7,8,10,13,14,19,180] [] aK fun _ Eu => ?_
  refine ze <| c_d (((t4 : Nat) : Int) < (8 : Int)) Eu (fun aL => ?_) (fun aL => ?_)
  ·
   refine wp_skip <| ze <| wp_seq <| wp_block <| r_c (fun ac wo => Env ac 211 [(0, .slice Ea (zb bl) Eb), (3, pt Ef), (4, .slice none 0 0), (5, pt Ed), (6, ni (128 * q)), (7, pt Ec), (8, ni t1), (10, ni (16 + t2)), (13, pt Ee), (14, ni t3), (19, ni t4)] ∧ Ev w [] wo [.box Ef (zh (zp sb t4 ((za sb t4 0) + (za (rr64 (rsF64 (rwF64 bl (128 * q) 16) 64) sx 80) t4 0)))) 99, .box Ee (zh (rr64 (rsF64 (rwF64 bl (128 * q) 16) 64) sx 80)) 99, .box Ec (zh (rsF64 (rwF64 bl (128 * q) 16) 64)) 129, .vec Ea Eb 1 (bys bl) 5, .box Ed (zh K64) 129]) ?_ ?_
   ·
    refine h_s (fun wv => Ev w [] wv [.box Ef (zh sb) 99, .box Ee (zh (rr64 (rsF64 (rwF64 bl (128 * q) 16) 64) sx 80)) 99]) [9] 10 ?_
    have Ei := Eo.trans (zO Eo.heap)
    refine q_s [0,1] [] 8 Eu (Ei.pk [0, 1]) fun _ aM => q_f 2 (s := Instr.indexAt 99 (pt Ef) (ni t4)) (v := .pointer (some ⟨Ef, t4, none⟩)) aM (fun _ => Go.Dbr.run_indexarr (e := 31) (sz := 1) (m := 8) (j := t4) (o := t4) (by kernel_rfl) (by kernel_rfl) (by omega) (by omega) (by omega) _) (fun _ => Ei.pk [0, 1]) fun _ aN => ?_
    have aO : t4 < zb sb := by rw [hlsb]; omega
    refine q_r 3 (s := Instr.loadAt 31 (.pointer (some ⟨Ef, t4, none⟩))) (v := zm (za sb t4 0)) aN (fun w hS => Zf (by kernel_rfl) (hS.heap.cell (k := 0) rfl (zx aO))) (Ei.pk [0, 1]) fun _ aP => q_s [4] [] 5 aP (Ei.pk [0, 1]) fun _ aQ => q_f 5 (s := Instr.indexAt 99 (pt Ee) (ni t4)) (v := .pointer (some ⟨Ee, t4, none⟩)) aQ (fun _ => Go.Dbr.run_indexarr (e := 31) (sz := 1) (m := 8) (j := t4) (o := t4) (by kernel_rfl) (by kernel_rfl) (by omega) (by omega) (by omega) _) (fun _ => Ei.pk [0, 1]) fun _ aR => ?_
    have aS : t4 < zb (rr64 (rsF64 (rwF64 bl (128 * q) 16) 64) sx 80) := by rw [(rr64_len _ hlx _)]; omega
    refine q_r 6 (s := Instr.loadAt 31 (.pointer (some ⟨Ee, t4, none⟩))) (v := zm (za (rr64 (rsF64 (rwF64 bl (128 * q) 16) 64) sx 80) t4 0)) aR (fun w hS => Zf (by kernel_rfl) (hS.heap.cell (k := 1) rfl (zx aS))) (Ei.pk [0, 1]) fun _ aT => q_s [7] [(7, g_i .u64 (Go.Dbr.u64_add (x := za sb t4 0) (y := za (rr64 (rsF64 (rwF64 bl (128 * q) 16) 64) sx 80) t4 0) rfl rfl))] 2 aT (Ei.pk [0, 1]) fun _ aU => q_f 8 (s := Instr.indexAt 99 (pt Ef) (ni t4)) (v := .pointer (some ⟨Ef, t4, none⟩)) aU (fun _ => Go.Dbr.run_indexarr (e := 31) (sz := 1) (m := 8) (j := t4) (o := t4) (by kernel_rfl) (by kernel_rfl) (by omega) (by omega) (by omega) _) (fun _ => Ei.pk [0, 1]) fun _ aV => q_t 9 ?_
    have aW : t4 < zb sb := by rw [hlsb]; omega
    refine m_t 0 t4 (zm ((za sb t4 0) + (za (rr64 (rsF64 (rwF64 bl (128 * q) 16) 64) sx 80) t4 0))) [.box Ef (zh (zp sb t4 ((za sb t4 0) + (za (rr64 (rsF64 (rwF64 bl (128 * q) 16) 64) sx 80) t4 0)))) 99, .box Ee (zh (rr64 (rsF64 (rwF64 bl (128 * q) 16) 64) sx 80)) 99, .box Ec (zh (rsF64 (rwF64 bl (128 * q) 16) 64)) 129, .vec Ea Eb 1 (bys bl) 5, .box Ed (zh K64) 129] aV Ei rfl (zx aW) (ZU _ _ _) rfl fun _ _ aX aY => ⟨q_y, ?_⟩
    exact h_e ⟨aX.sb, aY.pk [0, 1, 2, 3, 4]⟩
   rintro _ _ ⟨aZ, a0⟩
   refine zv <| ze <| d_r [0,3,4,5,6,7,8,10,13,14,19] [(1, g_n (w_a t4 1))] aZ fun _ a1 => ze <| ⟨_, ⟨t4 + 1, (zp sb t4 ((za sb t4 0) + (za (rr64 (rsF64 (rwF64 bl (128 * q) 16) 64) sx 80) t4 0))), rfl, a1.sb, a0.pk [0, 1, 2, 3, 4], by omega, (List.length_set.trans hlsb), by first | (rw [hesb]; rfl) | (rw [hesb, dR]; rfl) | rfl⟩, ?_⟩
   omega
  refine wp_exit <| zy <| zy <| zL <| zv <| ze ?_
  have hnsb : t4 = 8 := by omega
  have hfsb : sb = XQ sx (rr64 (rsF64 (rwF64 bl (128 * q) 16) 64) sx 80) 8 := by rw [hesb, hnsb] <;> rfl
  rw [show sb = (XQ sx (rr64 (rsF64 (rwF64 bl (128 * q) 16) 64) sx 80) 8) from hfsb] at Eo
  refine d_r [0,3,4,5,6,7,8,10,13,14,19] [(1, g_n (w_a (128 * q) 128))] Eu fun _ a2 => ze <| ⟨_, ⟨q + 1, (XQ sx (rr64 (rsF64 (rwF64 bl (128 * q) 16) 64) sx 80) 8), rfl, a2.sb, Eo.pk [0, 3, 4], by omega, (add64_len hlx _ _), by rw [hes]; rfl⟩, ?_⟩
  omega
 refine wp_exit <| zy <| zy <| zL <| ze <| wp_seq ?_
 have hqe : q = zb bl / 128 := by omega
 refine d_r [0,3,4,5,6,20] [] Hz fun _ a3 => ze <| wp_seq <| wp_seq <| d_r [0,3,4,5,6,20,21] [] a3 fun _ a4 => ze <| wp_block ?_
 have a5 := Ev.nil (sz := 1) (T := 5) cH
 refine ZR (fun a6 ac wo => ∃ (i : Nat) (a7 : Option Addr) (c7 : Nat) (ol : List UInt8), a6 = (8 - i : Nat) ∧ Env ac 211 [(0, .slice Ea (zb bl) Eb), (3, pt Ef), (4, .slice none 0 0), (5, pt Ed), (6, ni (128 * q)), (20, .slice a7 (zb ol) c7), (21, ni i)] ∧ Ev w [] wo [.vec a7 c7 1 (bys ol) 5, .box Ef (zh sx) 99, .vec Ea Eb 1 (bys bl) 5, .box Ed (zh K64) 129] ∧ (i ≤ 8) ∧ (ol = ro64 sx i) ∧ (zb ol = 8 * i)) ⟨_, 0, none, 0, [], rfl, a4.sb, a5.pk [3, 0, 1, 2], by omega, rfl, rfl⟩ ?_
 rintro eg _ _ ⟨i, a7, c7, ol, rfl, a8, Ew, hi, heo, hol⟩
 refine wp_seq <| wp_seq <| d_r [0,3,4,5,6,20,21,193] [] a8 fun _ Ex => ?_
 refine ze <| c_d (((i : Nat) : Int) < (8 : Int)) Ex (fun a9 => ?_) (fun a9 => ?_)
 ·
  refine wp_skip <| ze <| wp_seq <| wp_block <| wp_seq <| d_r [0,3,4,5,6,20,21,22] [] Ex fun _ ba => ze <| wp_block <| QI ?_
  refine zF <| wp_seq <| wp_seq <| d_r [0,3,4,5,6,20,21,22,197] [] ba fun _ EG => ze <| c_t EG ?_
  refine wp_skip <| ze <| wp_seq <| wp_block <| zk <| d_k [0,3,4,5,6,20,21,22,200,201] [] 2 EG fun _ bb => f_o <| q_v (x := Instr.indexAt 99 (pt Ef) (ni i)) (v := .pointer (some ⟨Ef, i, none⟩)) bb (Go.Dbr.run_indexarr (e := 31) (sz := 1) (m := 8) (j := i) (o := i) (by kernel_rfl) (by kernel_rfl) (by omega) (by omega) (by omega) _) fun _ bc => f_o ?_
  have bd : i < zb sx := by rw [hlx]; omega
  refine m_v 1 i (zm (za sx i 0)) bc Ew rfl (zx bd) fun _ be => d_k [0,3,4,5,6,20,21,22,200,207] [(6, g_i .u64 (Go.Dbr.u64_shr (x := za sx i 0) (n := 56) rfl (by decide))), (7, g_i .u8 (Go.Dbr.u64_to_u8 (x := (za sx i 0) >>> zc 56) rfl))] 8 be fun _ bf => f_o <| ZO (d := some 208) (t := 23) (T := 5) (m := 1) (parts := #[(0, bv (zj ((za sx i 0) >>> zc 56)))]) (xs := bys [zj ((za sx i 0) >>> zc 56)]) (sz := 1) bf (by kernel_rfl) (by kernel_rfl) rfl (by decide) Ew ?_
  intro _ _ bg bh EH
  refine f_o <| Zk (d := some 209) (t := 23) (tx := 23) (ty := 23) (k := 0) (p := zb ol) (m := 1) (x := .slice (some ⟨bg, 0, none⟩) 1 1) (bytes := 1) bh (by kernel_rfl) EH rfl (ZD _) (Zg (size := 1) (tx := 23) (e' := 5) (by kernel_rfl) (EH.heap.reads (k := 4) rfl) rfl (fun e => by cases e) (Zj _)) (by kernel_rfl) (z := .int .u8 0) (by kernel_rfl) rfl (by decide) (by omega) (by unfold maxLen; omega) ?_
  intro _ _ bi bj EI EJ hnz _
  clear hnz
  rw [← Zd] at EJ
  have Ho : (zb ol) + 1 = zb (ol ++ [zj ((za sx i 0) >>> zc 56)]) := (by first | (simp; done) | (simp; omega) | omega)
  rw [Ho] at EI
  refine d_e [0,3,4,5,6,20,21,22] [] EI fun _ bk => zv <| ze ?_
  have EK := EJ.pk [0, 1, 2, 3] (M := [.vec bi bj 1 (bys (ol ++ [zj ((za sx i 0) >>> zc 56)])) 5, .box Ef (zh sx) 99, .vec Ea Eb 1 (bys bl) 5, .box Ed (zh K64) 129])
  refine d_r [0,3,4,5,6,20,21,22] [] bk fun _ bm => ze <| zF <| wp_seq <| wp_seq <| d_r [0,3,4,5,6,20,21,22,197] [] bm fun _ EL => ze <| c_t EL ?_
  refine wp_skip <| ze <| wp_seq <| wp_block <| zk <| d_k [0,3,4,5,6,20,21,22,200,201] [] 2 EL fun _ bn => f_o <| q_v (x := Instr.indexAt 99 (pt Ef) (ni i)) (v := .pointer (some ⟨Ef, i, none⟩)) bn (Go.Dbr.run_indexarr (e := 31) (sz := 1) (m := 8) (j := i) (o := i) (by kernel_rfl) (by kernel_rfl) (by omega) (by omega) (by omega) _) fun _ bo => f_o ?_
  have bp : i < zb sx := by rw [hlx]; omega
  refine m_v 1 i (zm (za sx i 0)) bo EK rfl (zx bp) fun _ bq => d_k [0,3,4,5,6,20,21,22,200,207] [(6, g_i .u64 (Go.Dbr.u64_shr (x := za sx i 0) (n := 48) rfl (by decide))), (7, g_i .u8 (Go.Dbr.u64_to_u8 (x := (za sx i 0) >>> zc 48) rfl))] 8 bq fun _ br => f_o <| ZO (d := some 208) (t := 23) (T := 5) (m := 1) (parts := #[(0, bv (zj ((za sx i 0) >>> zc 48)))]) (xs := bys [zj ((za sx i 0) >>> zc 48)]) (sz := 1) br (by kernel_rfl) (by kernel_rfl) rfl (by decide) EK ?_
  intro _ _ bs bt EM
  refine f_o <| Zk (d := some 209) (t := 23) (tx := 23) (ty := 23) (k := 0) (p := zb (ol ++ [zj ((za sx i 0) >>> zc 56)])) (m := 1) (x := .slice (some ⟨bs, 0, none⟩) 1 1) (bytes := 1) bt (by kernel_rfl) EM rfl (ZD _) (Zg (size := 1) (tx := 23) (e' := 5) (by kernel_rfl) (EM.heap.reads (k := 4) rfl) rfl (fun e => by cases e) (Zj _)) (by kernel_rfl) (z := .int .u8 0) (by kernel_rfl) rfl (by decide) (by omega) (by unfold maxLen; omega) ?_
  intro _ _ bu bw EN EO hnz _
  clear hnz
  rw [← Zd] at EO
  have Hp : (zb (ol ++ [zj ((za sx i 0) >>> zc 56)])) + 1 = zb ((ol ++ [zj ((za sx i 0) >>> zc 56)]) ++ [zj ((za sx i 0) >>> zc 48)]) := (by first | (simp; done) | (simp; omega) | omega)
  rw [Hp] at EN
  refine d_e [0,3,4,5,6,20,21,22] [] EN fun _ bx => zv <| ze ?_
  have EP := EO.pk [0, 1, 2, 3] (M := [.vec bu bw 1 (bys ((ol ++ [zj ((za sx i 0) >>> zc 56)]) ++ [zj ((za sx i 0) >>> zc 48)])) 5, .box Ef (zh sx) 99, .vec Ea Eb 1 (bys bl) 5, .box Ed (zh K64) 129])
  refine d_r [0,3,4,5,6,20,21,22] [] bx fun _ bz => ze <| zF <| wp_seq <| wp_seq <| d_r [0,3,4,5,6,20,21,22,197] [] bz fun _ EQ => ze <| c_t EQ ?_
  refine wp_skip <| ze <| wp_seq <| wp_block <| zk <| d_k [0,3,4,5,6,20,21,22,200,201] [] 2 EQ fun _ bA => f_o <| q_v (x := Instr.indexAt 99 (pt Ef) (ni i)) (v := .pointer (some ⟨Ef, i, none⟩)) bA (Go.Dbr.run_indexarr (e := 31) (sz := 1) (m := 8) (j := i) (o := i) (by kernel_rfl) (by kernel_rfl) (by omega) (by omega) (by omega) _) fun _ bB => f_o ?_
  have bC : i < zb sx := by rw [hlx]; omega
  refine m_v 1 i (zm (za sx i 0)) bB EP rfl (zx bC) fun _ bD => d_k [0,3,4,5,6,20,21,22,200,207] [(6, g_i .u64 (Go.Dbr.u64_shr (x := za sx i 0) (n := 40) rfl (by decide))), (7, g_i .u8 (Go.Dbr.u64_to_u8 (x := (za sx i 0) >>> zc 40) rfl))] 8 bD fun _ bE => f_o <| ZO (d := some 208) (t := 23) (T := 5) (m := 1) (parts := #[(0, bv (zj ((za sx i 0) >>> zc 40)))]) (xs := bys [zj ((za sx i 0) >>> zc 40)]) (sz := 1) bE (by kernel_rfl) (by kernel_rfl) rfl (by decide) EP ?_
  intro _ _ bF bG ER
  refine f_o <| Zk (d := some 209) (t := 23) (tx := 23) (ty := 23) (k := 0) (p := zb ((ol ++ [zj ((za sx i 0) >>> zc 56)]) ++ [zj ((za sx i 0) >>> zc 48)])) (m := 1) (x := .slice (some ⟨bF, 0, none⟩) 1 1) (bytes := 1) bG (by kernel_rfl) ER rfl (ZD _) (Zg (size := 1) (tx := 23) (e' := 5) (by kernel_rfl) (ER.heap.reads (k := 4) rfl) rfl (fun e => by cases e) (Zj _)) (by kernel_rfl) (z := .int .u8 0) (by kernel_rfl) rfl (by decide) (by omega) (by unfold maxLen; omega) ?_
  intro _ _ bH bI ES ET hnz _
  clear hnz
  rw [← Zd] at ET
  have Hq : (zb ((ol ++ [zj ((za sx i 0) >>> zc 56)]) ++ [zj ((za sx i 0) >>> zc 48)])) + 1 = zb (((ol ++ [zj ((za sx i 0) >>> zc 56)]) ++ [zj ((za sx i 0) >>> zc 48)]) ++ [zj ((za sx i 0) >>> zc 40)]) := (by first | (simp; done) | (simp; omega) | omega)
  rw [Hq] at ES
  refine d_e [0,3,4,5,6,20,21,22] [] ES fun _ bJ => zv <| ze ?_
  have EU := ET.pk [0, 1, 2, 3] (M := [.vec bH bI 1 (bys (((ol ++ [zj ((za sx i 0) >>> zc 56)]) ++ [zj ((za sx i 0) >>> zc 48)]) ++ [zj ((za sx i 0) >>> zc 40)])) 5, .box Ef (zh sx) 99, .vec Ea Eb 1 (bys bl) 5, .box Ed (zh K64) 129])
  refine d_r [0,3,4,5,6,20,21,22] [] bJ fun _ bK => ze <| zF <| wp_seq <| wp_seq <| d_r [0,3,4,5,6,20,21,22,197] [] bK fun _ EV => ze <| c_t EV ?_
  refine wp_skip <| ze <| wp_seq <| wp_block <| zk <| d_k [0,3,4,5,6,20,21,22,200,201] [] 2 EV fun _ bL => f_o <| q_v (x := Instr.indexAt 99 (pt Ef) (ni i)) (v := .pointer (some ⟨Ef, i, none⟩)) bL (Go.Dbr.run_indexarr (e := 31) (sz := 1) (m := 8) (j := i) (o := i) (by kernel_rfl) (by kernel_rfl) (by omega) (by omega) (by omega) _) fun _ bM => f_o ?_
  have bN : i < zb sx := by rw [hlx]; omega
  refine m_v 1 i (zm (za sx i 0)) bM EU rfl (zx bN) fun _ bO => d_k [0,3,4,5,6,20,21,22,200,207] [(6, g_i .u64 (Go.Dbr.u64_shr (x := za sx i 0) (n := 32) rfl (by decide))), (7, g_i .u8 (Go.Dbr.u64_to_u8 (x := (za sx i 0) >>> zc 32) rfl))] 8 bO fun _ bP => f_o <| ZO (d := some 208) (t := 23) (T := 5) (m := 1) (parts := #[(0, bv (zj ((za sx i 0) >>> zc 32)))]) (xs := bys [zj ((za sx i 0) >>> zc 32)]) (sz := 1) bP (by kernel_rfl) (by kernel_rfl) rfl (by decide) EU ?_
  intro _ _ bQ bR EW
  refine f_o <| Zk (d := some 209) (t := 23) (tx := 23) (ty := 23) (k := 0) (p := zb (((ol ++ [zj ((za sx i 0) >>> zc 56)]) ++ [zj ((za sx i 0) >>> zc 48)]) ++ [zj ((za sx i 0) >>> zc 40)])) (m := 1) (x := .slice (some ⟨bQ, 0, none⟩) 1 1) (bytes := 1) bR (by kernel_rfl) EW rfl (ZD _) (Zg (size := 1) (tx := 23) (e' := 5) (by kernel_rfl) (EW.heap.reads (k := 4) rfl) rfl (fun e => by cases e) (Zj _)) (by kernel_rfl) (z := .int .u8 0) (by kernel_rfl) rfl (by decide) (by omega) (by unfold maxLen; omega) ?_
  intro _ _ bS bT EX EY hnz _
  clear hnz
  rw [← Zd] at EY
  have Hr : (zb (((ol ++ [zj ((za sx i 0) >>> zc 56)]) ++ [zj ((za sx i 0) >>> zc 48)]) ++ [zj ((za sx i 0) >>> zc 40)])) + 1 = zb ((((ol ++ [zj ((za sx i 0) >>> zc 56)]) ++ [zj ((za sx i 0) >>> zc 48)]) ++ [zj ((za sx i 0) >>> zc 40)]) ++ [zj ((za sx i 0) >>> zc 32)]) := (by first | (simp; done) | (simp; omega) | omega)
  rw [Hr] at EX
  refine d_e [0,3,4,5,6,20,21,22] [] EX fun _ bU => zv <| ze ?_
  have EZ := EY.pk [0, 1, 2, 3] (M := [.vec bS bT 1 (bys ((((ol ++ [zj ((za sx i 0) >>> zc 56)]) ++ [zj ((za sx i 0) >>> zc 48)]) ++ [zj ((za sx i 0) >>> zc 40)]) ++ [zj ((za sx i 0) >>> zc 32)])) 5, .box Ef (zh sx) 99, .vec Ea Eb 1 (bys bl) 5, .box Ed (zh K64) 129])
  refine d_r [0,3,4,5,6,20,21,22] [] bU fun _ bV => ze <| zF <| wp_seq <| wp_seq <| d_r [0,3,4,5,6,20,21,22,197] [] bV fun _ E0 => ze <| c_t E0 ?_
  refine wp_skip <| ze <| wp_seq <| wp_block <| zk <| d_k [0,3,4,5,6,20,21,22,200,201] [] 2 E0 fun _ bW => f_o <| q_v (x := Instr.indexAt 99 (pt Ef) (ni i)) (v := .pointer (some ⟨Ef, i, none⟩)) bW (Go.Dbr.run_indexarr (e := 31) (sz := 1) (m := 8) (j := i) (o := i) (by kernel_rfl) (by kernel_rfl) (by omega) (by omega) (by omega) _) fun _ bX => f_o ?_
  have bY : i < zb sx := by rw [hlx]; omega
  refine m_v 1 i (zm (za sx i 0)) bX EZ rfl (zx bY) fun _ bZ => d_k [0,3,4,5,6,20,21,22,200,207] [(6, g_i .u64 (Go.Dbr.u64_shr (x := za sx i 0) (n := 24) rfl (by decide))), (7, g_i .u8 (Go.Dbr.u64_to_u8 (x := (za sx i 0) >>> zc 24) rfl))] 8 bZ fun _ b0 => f_o <| ZO (d := some 208) (t := 23) (T := 5) (m := 1) (parts := #[(0, bv (zj ((za sx i 0) >>> zc 24)))]) (xs := bys [zj ((za sx i 0) >>> zc 24)]) (sz := 1) b0 (by kernel_rfl) (by kernel_rfl) rfl (by decide) EZ ?_
  intro _ _ b1 b2 E1
  refine f_o <| Zk (d := some 209) (t := 23) (tx := 23) (ty := 23) (k := 0) (p := zb ((((ol ++ [zj ((za sx i 0) >>> zc 56)]) ++ [zj ((za sx i 0) >>> zc 48)]) ++ [zj ((za sx i 0) >>> zc 40)]) ++ [zj ((za sx i 0) >>> zc 32)])) (m := 1) (x := .slice (some ⟨b1, 0, none⟩) 1 1) (bytes := 1) b2 (by kernel_rfl) E1 rfl (ZD _) (Zg (size := 1) (tx := 23) (e' := 5) (by kernel_rfl) (E1.heap.reads (k := 4) rfl) rfl (fun e => by cases e) (Zj _)) (by kernel_rfl) (z := .int .u8 0) (by kernel_rfl) rfl (by decide) (by omega) (by unfold maxLen; omega) ?_
  intro _ _ b3 b4 E2 E3 hnz _
  clear hnz
  rw [← Zd] at E3
  have Hs : (zb ((((ol ++ [zj ((za sx i 0) >>> zc 56)]) ++ [zj ((za sx i 0) >>> zc 48)]) ++ [zj ((za sx i 0) >>> zc 40)]) ++ [zj ((za sx i 0) >>> zc 32)])) + 1 = zb (((((ol ++ [zj ((za sx i 0) >>> zc 56)]) ++ [zj ((za sx i 0) >>> zc 48)]) ++ [zj ((za sx i 0) >>> zc 40)]) ++ [zj ((za sx i 0) >>> zc 32)]) ++ [zj ((za sx i 0) >>> zc 24)]) := (by first | (simp; done) | (simp; omega) | omega)
  rw [Hs] at E2
  refine d_e [0,3,4,5,6,20,21,22] [] E2 fun _ b5 => zv <| ze ?_
  have E4 := E3.pk [0, 1, 2, 3] (M := [.vec b3 b4 1 (bys (((((ol ++ [zj ((za sx i 0) >>> zc 56)]) ++ [zj ((za sx i 0) >>> zc 48)]) ++ [zj ((za sx i 0) >>> zc 40)]) ++ [zj ((za sx i 0) >>> zc 32)]) ++ [zj ((za sx i 0) >>> zc 24)])) 5, .box Ef (zh sx) 99, .vec Ea Eb 1 (bys bl) 5, .box Ed (zh K64) 129])
  refine d_r [0,3,4,5,6,20,21,22] [] b5 fun _ b6 => ze <| zF <| wp_seq <| wp_seq <| d_r [0,3,4,5,6,20,21,22,197] [] b6 fun _ E5 => ze <| c_t E5 ?_
  refine wp_skip <| ze <| wp_seq <| wp_block <| zk <| d_k [0,3,4,5,6,20,21,22,200,201] [] 2 E5 fun _ b7 => f_o <| q_v (x := Instr.indexAt 99 (pt Ef) (ni i)) (v := .pointer (some ⟨Ef, i, none⟩)) b7 (Go.Dbr.run_indexarr (e := 31) (sz := 1) (m := 8) (j := i) (o := i) (by kernel_rfl) (by kernel_rfl) (by omega) (by omega) (by omega) _) fun _ b8 => f_o ?_
  have b9 : i < zb sx := by rw [hlx]; omega
  refine m_v 1 i (zm (za sx i 0)) b8 E4 rfl (zx b9) fun _ ca => d_k [0,3,4,5,6,20,21,22,200,207] [(6, g_i .u64 (Go.Dbr.u64_shr (x := za sx i 0) (n := 16) rfl (by decide))), (7, g_i .u8 (Go.Dbr.u64_to_u8 (x := (za sx i 0) >>> zc 16) rfl))] 8 ca fun _ cb => f_o <| ZO (d := some 208) (t := 23) (T := 5) (m := 1) (parts := #[(0, bv (zj ((za sx i 0) >>> zc 16)))]) (xs := bys [zj ((za sx i 0) >>> zc 16)]) (sz := 1) cb (by kernel_rfl) (by kernel_rfl) rfl (by decide) E4 ?_
  intro _ _ cc cd E6
  refine f_o <| Zk (d := some 209) (t := 23) (tx := 23) (ty := 23) (k := 0) (p := zb (((((ol ++ [zj ((za sx i 0) >>> zc 56)]) ++ [zj ((za sx i 0) >>> zc 48)]) ++ [zj ((za sx i 0) >>> zc 40)]) ++ [zj ((za sx i 0) >>> zc 32)]) ++ [zj ((za sx i 0) >>> zc 24)])) (m := 1) (x := .slice (some ⟨cc, 0, none⟩) 1 1) (bytes := 1) cd (by kernel_rfl) E6 rfl (ZD _) (Zg (size := 1) (tx := 23) (e' := 5) (by kernel_rfl) (E6.heap.reads (k := 4) rfl) rfl (fun e => by cases e) (Zj _)) (by kernel_rfl) (z := .int .u8 0) (by kernel_rfl) rfl (by decide) (by omega) (by unfold maxLen; omega) ?_
  intro _ _ ce cf E7 E8 hnz _
  clear hnz
  rw [← Zd] at E8
  have Ht : (zb (((((ol ++ [zj ((za sx i 0) >>> zc 56)]) ++ [zj ((za sx i 0) >>> zc 48)]) ++ [zj ((za sx i 0) >>> zc 40)]) ++ [zj ((za sx i 0) >>> zc 32)]) ++ [zj ((za sx i 0) >>> zc 24)])) + 1 = zb ((((((ol ++ [zj ((za sx i 0) >>> zc 56)]) ++ [zj ((za sx i 0) >>> zc 48)]) ++ [zj ((za sx i 0) >>> zc 40)]) ++ [zj ((za sx i 0) >>> zc 32)]) ++ [zj ((za sx i 0) >>> zc 24)]) ++ [zj ((za sx i 0) >>> zc 16)]) := (by first | (simp; done) | (simp; omega) | omega)
  rw [Ht] at E7
  refine d_e [0,3,4,5,6,20,21,22] [] E7 fun _ cg => zv <| ze ?_
  have E9 := E8.pk [0, 1, 2, 3] (M := [.vec ce cf 1 (bys ((((((ol ++ [zj ((za sx i 0) >>> zc 56)]) ++ [zj ((za sx i 0) >>> zc 48)]) ++ [zj ((za sx i 0) >>> zc 40)]) ++ [zj ((za sx i 0) >>> zc 32)]) ++ [zj ((za sx i 0) >>> zc 24)]) ++ [zj ((za sx i 0) >>> zc 16)])) 5, .box Ef (zh sx) 99, .vec Ea Eb 1 (bys bl) 5, .box Ed (zh K64) 129])
  refine d_r [0,3,4,5,6,20,21,22] [] cg fun _ ch => ze <| zF <| wp_seq <| wp_seq <| d_r [0,3,4,5,6,20,21,22,197] [] ch fun _ Ha => ze <| c_t Ha ?_
  refine wp_skip <| ze <| wp_seq <| wp_block <| zk <| d_k [0,3,4,5,6,20,21,22,200,201] [] 2 Ha fun _ ci => f_o <| q_v (x := Instr.indexAt 99 (pt Ef) (ni i)) (v := .pointer (some ⟨Ef, i, none⟩)) ci (Go.Dbr.run_indexarr (e := 31) (sz := 1) (m := 8) (j := i) (o := i) (by kernel_rfl) (by kernel_rfl) (by omega) (by omega) (by omega) _) fun _ cj => f_o ?_
  have ck : i < zb sx := by rw [hlx]; omega
  refine m_v 1 i (zm (za sx i 0)) cj E9 rfl (zx ck) fun _ cl => d_k [0,3,4,5,6,20,21,22,200,207] [(6, g_i .u64 (Go.Dbr.u64_shr (x := za sx i 0) (n := 8) rfl (by decide))), (7, g_i .u8 (Go.Dbr.u64_to_u8 (x := (za sx i 0) >>> zc 8) rfl))] 8 cl fun _ cm => f_o <| ZO (d := some 208) (t := 23) (T := 5) (m := 1) (parts := #[(0, bv (zj ((za sx i 0) >>> zc 8)))]) (xs := bys [zj ((za sx i 0) >>> zc 8)]) (sz := 1) cm (by kernel_rfl) (by kernel_rfl) rfl (by decide) E9 ?_
  intro _ _ cn cp Hb
  refine f_o <| Zk (d := some 209) (t := 23) (tx := 23) (ty := 23) (k := 0) (p := zb ((((((ol ++ [zj ((za sx i 0) >>> zc 56)]) ++ [zj ((za sx i 0) >>> zc 48)]) ++ [zj ((za sx i 0) >>> zc 40)]) ++ [zj ((za sx i 0) >>> zc 32)]) ++ [zj ((za sx i 0) >>> zc 24)]) ++ [zj ((za sx i 0) >>> zc 16)])) (m := 1) (x := .slice (some ⟨cn, 0, none⟩) 1 1) (bytes := 1) cp (by kernel_rfl) Hb rfl (ZD _) (Zg (size := 1) (tx := 23) (e' := 5) (by kernel_rfl) (Hb.heap.reads (k := 4) rfl) rfl (fun e => by cases e) (Zj _)) (by kernel_rfl) (z := .int .u8 0) (by kernel_rfl) rfl (by decide) (by omega) (by unfold maxLen; omega) ?_
  intro _ _ cq cr Hc Hd hnz _
  clear hnz
  rw [← Zd] at Hd
  have Hu : (zb ((((((ol ++ [zj ((za sx i 0) >>> zc 56)]) ++ [zj ((za sx i 0) >>> zc 48)]) ++ [zj ((za sx i 0) >>> zc 40)]) ++ [zj ((za sx i 0) >>> zc 32)]) ++ [zj ((za sx i 0) >>> zc 24)]) ++ [zj ((za sx i 0) >>> zc 16)])) + 1 = zb (((((((ol ++ [zj ((za sx i 0) >>> zc 56)]) ++ [zj ((za sx i 0) >>> zc 48)]) ++ [zj ((za sx i 0) >>> zc 40)]) ++ [zj ((za sx i 0) >>> zc 32)]) ++ [zj ((za sx i 0) >>> zc 24)]) ++ [zj ((za sx i 0) >>> zc 16)]) ++ [zj ((za sx i 0) >>> zc 8)]) := (by first | (simp; done) | (simp; omega) | omega)
  rw [Hu] at Hc
  refine d_e [0,3,4,5,6,20,21,22] [] Hc fun _ cs => zv <| ze ?_
  have He := Hd.pk [0, 1, 2, 3] (M := [.vec cq cr 1 (bys (((((((ol ++ [zj ((za sx i 0) >>> zc 56)]) ++ [zj ((za sx i 0) >>> zc 48)]) ++ [zj ((za sx i 0) >>> zc 40)]) ++ [zj ((za sx i 0) >>> zc 32)]) ++ [zj ((za sx i 0) >>> zc 24)]) ++ [zj ((za sx i 0) >>> zc 16)]) ++ [zj ((za sx i 0) >>> zc 8)])) 5, .box Ef (zh sx) 99, .vec Ea Eb 1 (bys bl) 5, .box Ed (zh K64) 129])
  refine d_r [0,3,4,5,6,20,21,22] [] cs fun _ ct => ze <| zF <| wp_seq <| wp_seq <| d_r [0,3,4,5,6,20,21,22,197] [] ct fun _ Hf => ze <| c_t Hf ?_
  refine wp_skip <| ze <| wp_seq <| wp_block <| zk <| d_k [0,3,4,5,6,20,21,22,200,201] [] 2 Hf fun _ cu => f_o <| q_v (x := Instr.indexAt 99 (pt Ef) (ni i)) (v := .pointer (some ⟨Ef, i, none⟩)) cu (Go.Dbr.run_indexarr (e := 31) (sz := 1) (m := 8) (j := i) (o := i) (by kernel_rfl) (by kernel_rfl) (by omega) (by omega) (by omega) _) fun _ cv => f_o ?_
  have cw : i < zb sx := by rw [hlx]; omega
  refine m_v 1 i (zm (za sx i 0)) cv He rfl (zx cw) fun _ cy => d_k [0,3,4,5,6,20,21,22,200,207] [(6, g_i .u64 (Go.Dbr.u64_shr (x := za sx i 0) (n := 0) rfl (by decide))), (7, g_i .u8 (Go.Dbr.u64_to_u8 (x := (za sx i 0) >>> zc 0) rfl))] 8 cy fun _ cz => f_o <| ZO (d := some 208) (t := 23) (T := 5) (m := 1) (parts := #[(0, bv (zj ((za sx i 0) >>> zc 0)))]) (xs := bys [zj ((za sx i 0) >>> zc 0)]) (sz := 1) cz (by kernel_rfl) (by kernel_rfl) rfl (by decide) He ?_
  intro _ _ cA cB Hg
  refine f_o <| Zk (d := some 209) (t := 23) (tx := 23) (ty := 23) (k := 0) (p := zb (((((((ol ++ [zj ((za sx i 0) >>> zc 56)]) ++ [zj ((za sx i 0) >>> zc 48)]) ++ [zj ((za sx i 0) >>> zc 40)]) ++ [zj ((za sx i 0) >>> zc 32)]) ++ [zj ((za sx i 0) >>> zc 24)]) ++ [zj ((za sx i 0) >>> zc 16)]) ++ [zj ((za sx i 0) >>> zc 8)])) (m := 1) (x := .slice (some ⟨cA, 0, none⟩) 1 1) (bytes := 1) cB (by kernel_rfl) Hg rfl (ZD _) (Zg (size := 1) (tx := 23) (e' := 5) (by kernel_rfl) (Hg.heap.reads (k := 4) rfl) rfl (fun e => by cases e) (Zj _)) (by kernel_rfl) (z := .int .u8 0) (by kernel_rfl) rfl (by decide) (by omega) (by unfold maxLen; omega) ?_
  intro _ _ Hh Hi Hj Hk hnz _
  clear hnz
  rw [← Zd] at Hk
  have Hv : (zb (((((((ol ++ [zj ((za sx i 0) >>> zc 56)]) ++ [zj ((za sx i 0) >>> zc 48)]) ++ [zj ((za sx i 0) >>> zc 40)]) ++ [zj ((za sx i 0) >>> zc 32)]) ++ [zj ((za sx i 0) >>> zc 24)]) ++ [zj ((za sx i 0) >>> zc 16)]) ++ [zj ((za sx i 0) >>> zc 8)])) + 1 = zb ((((((((ol ++ [zj ((za sx i 0) >>> zc 56)]) ++ [zj ((za sx i 0) >>> zc 48)]) ++ [zj ((za sx i 0) >>> zc 40)]) ++ [zj ((za sx i 0) >>> zc 32)]) ++ [zj ((za sx i 0) >>> zc 24)]) ++ [zj ((za sx i 0) >>> zc 16)]) ++ [zj ((za sx i 0) >>> zc 8)]) ++ [zj ((za sx i 0) >>> zc 0)]) := (by first | (simp; done) | (simp; omega) | omega)
  rw [Hv] at Hj
  refine d_e [0,3,4,5,6,20,21,22] [] Hj fun _ cC => zv <| ze ?_
  have cD := Hk.pk [0, 1, 2, 3] (M := [.vec Hh Hi 1 (bys ((((((((ol ++ [zj ((za sx i 0) >>> zc 56)]) ++ [zj ((za sx i 0) >>> zc 48)]) ++ [zj ((za sx i 0) >>> zc 40)]) ++ [zj ((za sx i 0) >>> zc 32)]) ++ [zj ((za sx i 0) >>> zc 24)]) ++ [zj ((za sx i 0) >>> zc 16)]) ++ [zj ((za sx i 0) >>> zc 8)]) ++ [zj ((za sx i 0) >>> zc 0)])) 5, .box Ef (zh sx) 99, .vec Ea Eb 1 (bys bl) 5, .box Ed (zh K64) 129])
  refine d_r [0,3,4,5,6,20,21,22] [] cC fun _ cE => ze <| zF <| wp_seq <| wp_seq <| d_r [0,3,4,5,6,20,21,22,197] [] cE fun _ Hl => ze <| c_f Hl ?_
  refine wp_exit <| zy <| zy <| zL <| zv <| ze <| d_r [0,3,4,5,6,20,21,22] [(1, g_n (w_a i 1))] Hl fun _ cF => ze <| ⟨_, ⟨i + 1, Hh, Hi, ((((((((ol ++ [zj ((za sx i 0) >>> zc 56)]) ++ [zj ((za sx i 0) >>> zc 48)]) ++ [zj ((za sx i 0) >>> zc 40)]) ++ [zj ((za sx i 0) >>> zc 32)]) ++ [zj ((za sx i 0) >>> zc 24)]) ++ [zj ((za sx i 0) >>> zc 16)]) ++ [zj ((za sx i 0) >>> zc 8)]) ++ [zj ((za sx i 0) >>> zc 0)]), rfl, cF.sb, cD.pk [0, 1, 2, 3], by omega, by rw [heo]; simp [ro64, be8], by simp [hol]; omega⟩, ?_⟩
  omega
 refine wp_exit <| zy <| zy <| zL <| ze <| wp_seq <| d_r [0,3,4,5,6,20,21] [] Ex fun _ cG => ze <| wp_ret <| Qu (t := 4) (v := .slice a7 (zb ol) c7) cG (by kernel_rfl) (by kernel_rfl) ?_
 have hi8 : i = 8 := by omega
 have hoe : ol = ro64 (rfeed64 s0 (lx ++ Jp 128 (zb lx % 128) (zb lx)) (zb (lx ++ Jp 128 (zb lx % 128) (zb lx)) / 128)) 8 := by rw [heo, hi8, hes, hqe, hbe]
 subst hoe
 exact ⟨_, _, rfl, Ew.pk [0]⟩
end Go.Proofs.YtlnogkmnklfjlaaGreatDoor.Sh

namespace Go.Proofs.YtlnogkmnklfjlaaGreatDoor.Sh
open Go.Dbr
set_option maxRecDepth 100000
set_option maxHeartbeats 2000000
set_option linter.unusedVariables false
set_option linter.unusedSimpArgs false
theorem ch64 (e f g : UInt64) : (e &&& f) ^^^ (((18446744073709551615 : UInt64) ^^^ e) &&& g) = g ^^^ (e &&& (f ^^^ g)) := by
  apply Xl
  apply Xo
  intro i hi
  have hm : (18446744073709551615 : UInt64).toBitVec.getLsbD i = true := by
    show (BitVec.allOnes 64).getLsbD i = true
    rw [BitVec.getLsbD_allOnes]
    exact decide_eq_true hi
  simp only [XW, XX, Ka, Kb, hm]
  cases e.toBitVec.getLsbD i <;> cases f.toBitVec.getLsbD i <;> cases g.toBitVec.getLsbD i <;> rfl
theorem maj64 (x y z : UInt64) : ((x &&& y) ^^^ (x &&& z)) ^^^ (y &&& z) = (x &&& y) ||| (z &&& (x ||| y)) := by
  apply Xl
  apply Xo
  intro i hi
  simp only [XW, XX, UInt64.toBitVec_or, Ka, Kb, BitVec.getLsbD_or]
  cases x.toBitVec.getLsbD i <;> cases y.toBitVec.getLsbD i <;> cases z.toBitVec.getLsbD i <;> rfl
theorem rst64_eq (v : List UInt64) (k w : UInt64) : rst64 v k w = step64 v k w := by
  unfold rst64 step64 rx64 ry64 x64 y64
  rw [ch64, maj64]
theorem rr64_eq (W v : List UInt64) (j : Nat) : rr64 W v j = rnd64 W v j := by
  induction j with
  | zero => rfl
  | succ j ih => rw [rr64, rnd64, ih, rst64_eq]
theorem getD_left64 {a c : List UInt64} {i : Nat} (h : i < a.length) : za (a ++ c) i 0 = za a i 0 := by
  rw [zI, zI, List.getElem?_append_left h]
theorem rsF64_eq {w : List UInt64} (hw : w.length = 16) : ∀ q, q ≤ 64 → rsF64 (w ++ zd 64 0) q = sch64 w q ++ zd (64 - q) 0
  | 0, _ => rfl
  | q + 1, h => by
    have hl : (sch64 w q).length = 16 + q := by rw [sch64_len, hw]
    rw [rsF64, rsF64_eq hw q (by omega), sch64, getD_left64 (by omega), getD_left64 (by omega), getD_left64 (by omega), getD_left64 (by omega)]
    rw [XE _ _ (by omega), hl, Yl, show 64 - q = (64 - (q + 1)) + 1 by omega, Jb, Kc, Qj]
    rfl
theorem getD_in {bl : List UInt8} {f m z t i : Nat} (h : z * t + i < m) (hi : i < z) : za (zn z (zo (z * t) (zn m (zo f bl)))) i 0 = za bl (f + z * t + i) 0 := by
  rw [zI, ZT, if_pos hi, QJ, ZT, if_pos h, QJ, ← zI, Nat.add_assoc]
theorem rby64_eq {bl : List UInt8} {f t : Nat} (ht : t < 16) : ∀ i, i ≤ 8 → rby64 bl f t i = beP64 (zn 8 (zo (8 * t) (zn 128 (zo f bl)))) i
  | 0, _ => rfl
  | i + 1, h => by rw [rby64, beP64, rby64_eq ht i (by omega), getD_in (by omega) (by omega)]
theorem rwI64_eq {V : List UInt64} {bl : List UInt8} {f t : Nat} (ht : t < V.length) (h0 : za V t 0 = 0) : ∀ i, rwI64 V bl f t i = zp V t (rby64 bl f t i)
  | 0 => by
    rw [rwI64, rby64, ← h0]
    simp [za, ht]
  | i + 1 => by
    rw [rwI64, rwI64_eq ht h0 i, rby64, getD_set, if_pos ⟨rfl, ht⟩, List.set_set]
theorem rwF64_eq {bl : List UInt8} {f : Nat} : ∀ t, t ≤ 16 → rwF64 bl f t = wB64 (zn 128 (zo f bl)) t ++ zd (80 - t) 0
  | 0, _ => rfl
  | t + 1, h => by
    have hz : za (wB64 (zn 128 (zo f bl)) t ++ zd (80 - t) 0) t 0 = 0 := by
      rw [zI, List.getElem?_append_right (by rw [Ji]; exact ZP _), List.getElem?_replicate]
      split <;> rfl
    rw [rwF64, rwF64_eq t (by omega), rwI64_eq (by rw [zC, Ji, zi]; omega) hz, wB64, XE _ _ (by rw [Ji]; exact ZP _), Ji, Yl, show 80 - t = (80 - (t + 1)) + 1 by omega, Jb, Kc, rby64_eq (by omega) 8 (ZP _), Qj]
    rfl
theorem ro64_eq (s : List UInt64) (i : Nat) : ro64 s i = out64 s i := by
  induction i with
  | zero => rfl
  | succ i ih => rw [ro64, out64, ih]
theorem rfeed64_eq (s : List UInt64) (bl : List UInt8) (q : Nat) : rfeed64 s bl q = feed64 s bl q := by
  induction q with
  | zero => rfl
  | succ q ih =>
    rw [rfeed64, feed64, ih, rr64_eq, rwF64_eq 16 (ZP _), rsF64_eq (Ji _ _) 64 (ZP _), Yl]
    unfold blk64
    rw [show zd 0 (0 : UInt64) = [] from rfl, List.append_nil]
theorem sum_same2 {h : Int} (hh : h = 2 ∨ h = 3) (al : List UInt8) : zn (sizeOfH h) (ro64 (rfeed64 (YI h) (al ++ Jp 128 (al.length % 128) al.length) ((al ++ Jp 128 (al.length % 128) al.length).length / 128)) 8) = sumF h al := by
  unfold sumF
  rw [if_neg (by omega), ro64_eq, rfeed64_eq, pad_go2 hh]
  unfold S64 st64
  rw [if_neg (by omega)]
end Go.Proofs.YtlnogkmnklfjlaaGreatDoor.Sh

namespace Go.Proofs.YtlnogkmnklfjlaaGreatDoor.Sh
open Go.Dbr
set_option maxRecDepth 100000
set_option maxHeartbeats 2000000
set_option linter.unusedVariables false
set_option linter.unusedSimpArgs false
theorem docof3 (w : World) (ax : Option Addr) (nx cx : Nat) (lx : List UInt8) (ex : nx = zb lx) (ix : InB w [] ax cx lx) : Calls Tryz.prog 47 #[.int .i64 3, .slice ax nx cx] w fun e w' => ∃ ao co, e = .returned (.slice ao (zb (sumF 3 lx)) co) ∧ Ev w [] w' [.vec ao co 1 (bys (sumF 3 lx)) 5] := by
 subst ex
 have hs := ix.small
 have hcx := ix.cap
 refine d_0 [(0, .int .i64 3), (1, .slice ax (zb lx) cx)] 21 Go.Proofs.Tryz.func47 Go.Proofs.Tryz.ntmps47 (Heap.nil _) fun El Em Ei => wp_seq <| d_r [0,1,4] [] Em fun _ En => ze <| wp_seq <| wp_seq <| d_r [1,4,5] [] En fun _ Eo => ze <| wp_block <| wp_seq <| d_r [1,4,5,6] [] Eo fun _ Ej => ?_
 refine ze <| c_f Ej ?_
 refine wp_seq <| d_r [1,4,5,10] [] Ej fun _ Ek => ze <| c_f Ek ?_
 refine wp_seq <| d_r [1,4,5,16] [] Ek fun _ Ec => ze <| c_t Ec ?_
 refine wp_seq ?_
 have hl64 : ∀ s, zb (ro64 s 8) = 64 := fun s => by rw [ro64_eq, out64_len]
 have hl := hl64 (rfeed64 (YI 3) (lx ++ Jp 128 (zb lx % 128) (zb lx)) (zb (lx ++ Jp 128 (zb lx % 128) (zb lx)) / 128))
 refine zk <| d_k [1,4,5,18,19] [] 2 Ec fun _ Ed => f_o <| c_0 Ed Ei (sum64_ref _ ax (zb lx) cx lx (by first | rfl | (simp; done) | (simp; omega) | omega) ((ix.ev Ei).pick [] (by kernel_rfl)) (YI 3) (init64_len _)) ?_
 rintro _ _ ⟨Ea, Eb, rfl, Ee⟩
 refine ⟨_, _, _, rfl, Ee, rfl, fun _ Ef Eg => ?_⟩
 refine d_e [1,4,5] [] Ef fun _ Eh => ze <| wp_ret <| block_ret <| then_ret <| Qu (t := 4) (v := .slice Ea (zb (ro64 (rfeed64 (YI 3) (lx ++ Jp 128 (zb lx % 128) (zb lx)) (zb (lx ++ Jp 128 (zb lx % 128) (zb lx)) / 128)) 8)) Eb) Eh (by kernel_rfl) (by kernel_rfl) ?_
 have Hf23 := Eg.pk [0] (M := [.vec Ea Eb 1 (bys (ro64 (rfeed64 (YI 3) (lx ++ Jp 128 (zb lx % 128) (zb lx)) (zb (lx ++ Jp 128 (zb lx % 128) (zb lx)) / 128)) 8)) 5])
 have hse : ro64 (rfeed64 (YI 3) (lx ++ Jp 128 (zb lx % 128) (zb lx)) (zb (lx ++ Jp 128 (zb lx % 128) (zb lx)) / 128)) 8 = sumF 3 lx := by rw [← sum_same2 (h := 3) (by decide), show sizeOfH 3 = 64 from rfl]; rw [List.take_of_length_le (by omega)]
 rw [hse] at Hf23
 exact ⟨_, _, by rw [hse], Hf23⟩
end Go.Proofs.YtlnogkmnklfjlaaGreatDoor.Sh
