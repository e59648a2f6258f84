/- Layer 3: numerals; the builder of texts. -/
import Derived.Test.YtfcfgbejpcmmkaaDoorA1
import Derived.Test.YtfcfgbejpcmmkaaDoorBld
import Derived.Test.YtfcfgbejpcmmkaaDoorCutS
namespace Go.Proofs.YtfcfgbejpcmmkaaDoor
open Go.Dbr
set_option maxRecDepth 100000
set_option maxHeartbeats 2000000
set_option linter.unusedVariables false
set_option linter.unusedSimpArgs false

/-- the decimal numeral -/
def decL (n : Nat) : Bs := Lib.decDigits n
/-- the table of powers of ten stands in its variable; nobody owns it -/
structure InT (w : World) (L : List Ent) : Prop where
  tab : Lib.TabIs Tryd.prog w "internal/strconv.uint64pow10" .u64 Lib.pow10Tab
  own : ¬ Owns L 0
theorem g0 : Tryd.prog.globalNamed "internal/strconv.uint64pow10" = some 0 := by kernel_rfl
theorem InT.lt {w : World} {L : List Ent} (h : InT w L) : 0 < w.heap.size := by
  have ht := h.tab
  unfold Lib.TabIs World.var? at ht
  rw [g0] at ht
  rcases Nat.eq_zero_or_pos w.heap.size with h0 | h0
  · simp [Array.getElem?_eq_none (show w.heap.size ≤ 0 by omega)] at ht
  · exact h0
theorem InT.ev {w w' : World} {L L' : List Ent} (h : InT w L) (e : Ev w L w' L') : InT w' L' := by
  refine ⟨?_, fun o => ?_⟩
  · have ht := h.tab
    unfold Lib.TabIs World.var? at ht ⊢
    rw [g0] at ht ⊢
    simp only [Option.bind_some] at ht ⊢
    rw [e.chg.block 0 h.lt h.own]
    exact ht
  · rcases e.new 0 o with h1 | h1
    · exact h.own h1
    · have := h.lt; omega
theorem InT.pick {w : World} {L M : List Ent} (h : InT w L) (is : List Nat) (hm : M.map some = is.map (fun i => L[i]?)) : InT w M := ⟨h.tab, fun o => h.own (owns_pick hm o)⟩
theorem InT.nil {w : World} {L : List Ent} (h : InT w L) : InT w [] := ⟨h.tab, Owns.nil⟩
theorem ev_grow {w : World} (k : Nat) (os : Array Obj) : Ev w [] (Sort.grow (w.drewN k) os) [] :=
  ⟨Heap.nil _, ⟨rfl, rfl, rfl, by simp [Sort.grow, World.drewN], fun j hj _ => by simp only [Sort.grow, World.drewN]; exact Array.getElem?_append_left hj⟩, fun _ h => (Owns.nil h).elim⟩
theorem ifu_go (w : World) (u : UInt64) (gt : InT w []) : Calls Tryd.prog 41 #[uv64 u, .int .i64 10] w fun e w' => e = .returned (.string (bstr (decL (UInt64.toNat u)))) ∧ Ev w [] w' [] := by
  by_cases h : UInt64.toNat u < 100
  · refine (Tryd.fu_small _ h w).mono ?_
    rintro e w' ⟨rfl, rfl⟩
    exact ⟨rfl, Ev.refl (Heap.nil _)⟩
  · refine (Tryd.fu_big _ (by omega) (UInt64.toNat_lt u) w gt.tab).mono ?_
    rintro e w' ⟨rfl, k, os, rfl⟩
    exact ⟨rfl, ev_grow k os⟩
theorem dec_len (n : Nat) (h : n < 18446744073709551616) : 1 ≤ (decL n).length ∧ (decL n).length ≤ 20 := by
  rw [decL, Lib.decDigits_length]
  by_cases h0 : n < 10
  · rw [Lib.nDigits_small h0]; omega
  · have := Lib.numDigits_eq n (by omega) h
    have h2 : 1 ≤ Lib.nDigits n := by rw [Lib.nDigits_big h0]; omega
    refine ⟨h2, ?_⟩
    split at this <;> omega
/-- what a builder's first cell holds: nil till it is used -/
def bp (u : Bool) (b : Nat) : Value := bif u then pt b else .pointer none
theorem copy_go (w : World) (u : Bool) (b : Nat) (x : Value) (hH : Heap w [.box b [bp u b, x] 61]) : Calls Tryd.prog 40 #[pt b] w fun e w' => e = .returned (.tuple #[]) ∧ Ev w [.box b [bp u b, x] 61] w' [.box b [bp true b, x] 61] := by
  have hb := hH.holds 0 _ rfl
  have h0 : w.cell? ⟨b, 0, none⟩ = some (bp u b) := hH.cell (k := 0) rfl rfl
  have hsh : w.shape? b = some (61, 2) := by
    have : w.heap[b]? = some (.cells #[bp u b, x] 61 (0, 0)) := hb
    simp [World.shape?, this]
  have hfz : w.frozen? ⟨b, 0, none⟩ = false := frozen_of_row w b 0 _ _ hb
  obtain ⟨j, hj, hjs⟩ := Option.map_eq_some_iff.1 (show (Tryd.prog.info? 61).map (·.size) = some 2 by kernel_rfl)
  cases u with
  | true =>
    have hh : w.cell? ⟨b, 0, none⟩ = some (pt b) := h0
    clear h0
    go_enter Tryd.func40, Tryd.ntmps40
    go_wp2
    rw [Lib.run_neq_ptr_same w _ Tryd.underlying58 hj]
    go_wp2
    go_end0
    exact ⟨rfl, Ev.refl hH⟩
  | false =>
    have hh : w.cell? ⟨b, 0, none⟩ = some (.pointer none) := h0
    clear h0
    go_enter Tryd.func40, Tryd.ntmps40
    go_wp2
    rw [Lib.run_to_unsafe w ⟨b, 0, none⟩ Tryd.underlying58 Tryd.underlying99 hj (by rw [hjs]; decide) hsh (Nat.zero_lt_succ 1)]
    simp only [Result.andThen]
    rw [Oper.upon_value]
    go_wp2
    rw [run_callFunc_extern Tryd.func56 (by kernel_rfl) (by kernel_rfl) (by kernel_rfl) (e := Extern.AbiNoEscape.same) (by kernel_rfl)]
    rw [Lib.run_noEscape]
    simp only [Result.andThen]
    rw [Oper.upon_value]
    go_wp2
    rw [Lib.run_from_unsafe w ⟨b, 0, none⟩ Tryd.underlying99 Tryd.underlying58 hj hsh (by kernel_rfl)]
    simp only [Result.andThen]
    rw [Oper.upon_value]
    go_wp2
    go_end0
    exact ⟨rfl, hH.setBox (k := 0) (pt b) rfl⟩

theorem fu_go (w : World) (u : UInt64) (gt : InT w []) : Calls Tryd.prog 21 #[uv64 u, .int .i64 10] w fun e w' => e = .returned (.string (bstr (decL (UInt64.toNat u)))) ∧ Ev w [] w' [] := by
 refine d_0 [(0, uv64 u), (1, .int .i64 10)] 8 Go.Proofs.Tryd.func21 Go.Proofs.Tryd.ntmps21 (Heap.nil _) fun act0 En0 Hv0 => ?_
 refine d_s [0,1,4] [] En0 fun ac1 En2 => ?_
 refine wp_seq ?_
 refine region_from ?_
 refine d_k [4,5,6] [] 2 En2 fun ac3 En4 => ?_
 refine f_o ?_
 refine c_p En4 Hv0 (ifu_go _ u ((gt.ev Hv0).nil)) fun ac9 wo6 En10 Hv11 => ?_
 refine d_e [4] [] En10 fun ac12 En13 => ?_
 refine then_normal ?_
 refine wp_ret ?_
 refine d_ret1 (t := 4) (v := .string (bstr (decL (UInt64.toNat u)))) En13 (by kernel_rfl) (by kernel_rfl) ?_
 exact ⟨rfl, Hv11.pick [] (by kernel_rfl) (by decide)⟩

theorem write_go (w : World) (u : Bool) (sb : Nat) (a : Option Addr) (c : Nat) (l : Bs) (s : Bs) (hl : List.length l + List.length s ≤ 70368744177664) (hH : Heap w [.box sb [bp u sb, .slice a (List.length l) c] 61, .vec a c 1 (bys l) 5]) : Calls Tryd.prog 20 #[pt sb, .string (bstr s)] w fun e w' => ∃ a' c', e = .returned (.tuple #[.int .i64 ((List.length s : Nat) : Int), .nilIface]) ∧ Ev w [.box sb [bp u sb, .slice a (List.length l) c] 61, .vec a c 1 (bys l) 5] w' [.box sb [bp true sb, .slice a' (List.length (l ++ s)) c'] 61, .vec a' c' 1 (bys (l ++ s)) 5] := by
 refine d_0 [(0, pt sb), (1, .string (bstr s))] 19 Go.Proofs.Tryd.func20 Go.Proofs.Tryd.ntmps20 (hH) fun act0 En0 Hv0 => ?_
 refine d_s [0,1,4,5] [] En0 fun ac1 En2 => ?_
 refine wp_seq ?_
 refine region_from ?_
 refine d_k [0,1,4,5,6] [] 1 En2 fun ac3 En4 => ?_
 refine f_o ?_
 refine c_l [0] (M := [.box sb [bp u sb, .slice a (List.length l) c] 61]) En4 Hv0 (fun hM5 => copy_go _ u sb (.slice a (List.length l) c) hM5) ?_
 rintro _ wo6 ⟨rfl, he7⟩
 refine ⟨_, _, [.box sb [bp true sb, .slice a (List.length l) c] 61, .vec a c 1 (bys l) 5], rfl, he7, by kernel_rfl, fun ac9 En10 Hv11 => ?_⟩
 refine f_e ?_
 refine then_normal ?_
 refine wp_seq ?_
 refine region_from ?_
 refine d_k [0,1,4,5,8,11] [] 4 En10 fun ac12 En13 => ?_
 refine f_o ?_
 refine m_l 0 En13 Hv11 fun ac14 En15 => ?_
 refine d_k [0,1,4,5,8,12,13] [] 6 En15 fun ac16 En17 => ?_
 refine f_o ?_
 refine op_append (d := some 14) (t := 59) (tx := 9) (ty := 59) (k := 1) (p := List.length l) (m := List.length s) (x := .string (bstr s)) (bytes := 1) En17 (by kernel_rfl) Hv11 rfl (bys_len _) (src_str (by kernel_rfl) s) (by kernel_rfl) (z := .int .u8 0) (by kernel_rfl) rfl (by decide) (by omega) (by unfold maxLen; omega) ?_
 intro ac22 wo23 ao18 cp19 En24 Hv25 hnz _
 clear hnz
 rw [← bys_append] at Hv25
 have ehz20 : (List.length l) + (List.length s) = List.length (l ++ s) := (by first | (simp; done) | (simp; omega) | omega)
 rw [ehz20] at En24
 refine d_k [0,1,4,5,14,16] [] 9 En24 fun ac26 En27 => ?_
 refine f_o ?_
 refine m_s 0 [.box sb [bp true sb, .slice ao18 (List.length (l ++ s)) cp19] 61, .vec ao18 cp19 1 (bys (l ++ s)) 5] En27 Hv25 fun ac28 wo29 En30 Hv31 => ?_
 refine f_e ?_
 refine then_normal ?_
 refine d_s [0,1,4,5] [] En30 fun ac32 En33 => ?_
 refine wp_ret ?_
 refine d_ret2 (t := 4) (u := 5) (v := .int .i64 ((ByteArray.size (bstr s) : Nat) : Int)) (x := .nilIface) En33 (by kernel_rfl) (by kernel_rfl) (by kernel_rfl) ?_
 exact ⟨ao18, cp19, rfl, Hv31.pick [0, 1] (by kernel_rfl) (by decide)⟩

theorem wbyte_go (w : World) (u : Bool) (sb : Nat) (a : Option Addr) (c : Nat) (l : Bs) (x : UInt8) (hl : List.length l + 1 ≤ 70368744177664) (hH : Heap w [.box sb [bp u sb, .slice a (List.length l) c] 61, .vec a c 1 (bys l) 5]) : Calls Tryd.prog 23 #[pt sb, bv x] w fun e w' => ∃ a' c', e = .returned (.nilIface) ∧ Ev w [.box sb [bp u sb, .slice a (List.length l) c] 61, .vec a c 1 (bys l) 5] w' [.box sb [bp true sb, .slice a' (List.length (l ++ [x])) c'] 61, .vec a' c' 1 (bys (l ++ [x])) 5] := by
 refine d_0 [(0, pt sb), (1, bv x)] 17 Go.Proofs.Tryd.func23 Go.Proofs.Tryd.ntmps23 (hH) fun act0 En0 Hv0 => ?_
 refine d_s [0,1,4] [] En0 fun ac1 En2 => ?_
 refine wp_seq ?_
 refine region_from ?_
 refine d_k [0,1,4,5] [] 1 En2 fun ac3 En4 => ?_
 refine f_o ?_
 refine c_l [0] (M := [.box sb [bp u sb, .slice a (List.length l) c] 61]) En4 Hv0 (fun hM5 => copy_go _ u sb (.slice a (List.length l) c) hM5) ?_
 rintro _ wo6 ⟨rfl, he7⟩
 refine ⟨_, _, [.box sb [bp true sb, .slice a (List.length l) c] 61, .vec a c 1 (bys l) 5], rfl, he7, by kernel_rfl, fun ac9 En10 Hv11 => ?_⟩
 refine f_e ?_
 refine then_normal ?_
 refine wp_seq ?_
 refine region_from ?_
 refine d_k [0,1,4,7,10] [] 4 En10 fun ac12 En13 => ?_
 refine f_o ?_
 refine m_l 0 En13 Hv11 fun ac14 En15 => ?_
 refine d_k [0,4,7,11,12] [] 6 En15 fun ac16 En17 => ?_
 refine f_o ?_
 refine op_lit (d := some 13) (t := 59) (T := 5) (m := 1) (parts := #[(0, bv x)]) (xs := bys [x]) (sz := 1) En17 (by kernel_rfl) (by kernel_rfl) rfl (by decide) Hv11 ?_
 intro ac19 wo20 bk18 En21 Hv22
 refine f_o ?_
 refine op_append (d := some 14) (t := 59) (tx := 59) (ty := 59) (k := 1) (p := List.length l) (m := 1) (x := .slice (some ⟨bk18, 0, none⟩) 1 1) (bytes := 1) En21 (by kernel_rfl) Hv22 rfl (bys_len _) (Reads.src (size := 1) (tx := 59) (e' := 5) (by kernel_rfl) (Hv22.heap.reads (k := 2) rfl) rfl (fun e => by cases e) (bys_one _)) (by kernel_rfl) (z := .int .u8 0) (by kernel_rfl) rfl (by decide) (by omega) (by unfold maxLen; omega) ?_
 intro ac27 wo28 ao23 cp24 En29 Hv30 hnz _
 clear hnz
 rw [← bys_append] at Hv30
 have ehz25 : (List.length l) + 1 = List.length (l ++ [x]) := (by first | (simp; done) | (simp; omega) | omega)
 rw [ehz25] at En29
 refine d_k [0,4,14,16] [] 10 En29 fun ac31 En32 => ?_
 refine f_o ?_
 refine m_s 0 [.box sb [bp true sb, .slice ao23 (List.length (l ++ [x])) cp24] 61, .vec ao23 cp24 1 (bys (l ++ [x])) 5, .vec (some ⟨bk18, 0, none⟩) 1 1 (bys [x]) 5] En32 Hv30 fun ac33 wo34 En35 Hv36 => ?_
 refine f_e ?_
 refine then_normal ?_
 refine d_s [0,4] [] En35 fun ac37 En38 => ?_
 refine wp_ret ?_
 refine d_ret1 (t := 4) (v := .nilIface) En38 (by kernel_rfl) (by kernel_rfl) ?_
 exact ⟨ao23, cp24, rfl, Hv36.pick [0, 1] (by kernel_rfl) (by decide)⟩

theorem blen_go (w : World) (u : Bool) (sb : Nat) (a : Option Addr) (c : Nat) (l : Bs) (hH : Heap w [.box sb [bp u sb, .slice a (List.length l) c] 61]) : Calls Tryd.prog 24 #[pt sb] w fun e w' => e = .returned (.int .i64 ((List.length l : Nat) : Int)) ∧ Ev w [.box sb [bp u sb, .slice a (List.length l) c] 61] w' [.box sb [bp u sb, .slice a (List.length l) c] 61] := by
 refine d_0 [(0, pt sb)] 8 Go.Proofs.Tryd.func24 Go.Proofs.Tryd.ntmps24 (hH) fun act0 En0 Hv0 => ?_
 refine d_s [0,2] [] En0 fun ac1 En2 => ?_
 refine wp_seq ?_
 refine region_from ?_
 refine d_k [2,5] [] 3 En2 fun ac3 En4 => ?_
 refine f_o ?_
 refine m_l 0 En4 Hv0 fun ac5 En6 => ?_
 refine d_e [2] [] En6 fun ac7 En8 => ?_
 refine then_normal ?_
 refine wp_ret ?_
 refine d_ret1 (t := 2) (v := .int .i64 ((List.length l : Nat) : Int)) En8 (by kernel_rfl) (by kernel_rfl) ?_
 exact ⟨rfl, Hv0.pick [0] (by kernel_rfl) (by decide)⟩

theorem bstr_go (w : World) (u : Bool) (sb : Nat) (a : Option Addr) (c : Nat) (l : Bs) (hl0 : l ≠ []) (hl : List.length l ≤ 140737488355328) (hH : Heap w [.box sb [bp u sb, .slice a (List.length l) c] 61, .vec a c 1 (bys l) 5]) : Calls Tryd.prog 25 #[pt sb] w fun e w' => e = .returned (.string (bstr l)) ∧ Ev w [.box sb [bp u sb, .slice a (List.length l) c] 61, .vec a c 1 (bys l) 5] w' [.box sb [bp u sb, .slice a (List.length l) c] 61] := by
 refine d_0 [(0, pt sb)] 14 Go.Proofs.Tryd.func25 Go.Proofs.Tryd.ntmps25 (hH) fun act0 En0 Hv0 => ?_
 refine wp_seq ?_
 refine d_r [0,2] [] En0 fun ac1 En2 => ?_
 refine then_normal ?_
 refine wp_seq ?_
 have hcp := bys_vcap hH (k := 1) rfl
 have hlp := List.length_pos_iff.2 hl0
 refine r_c (fun ac wo => Env ac 14 [(2, .string (bstr l))] ∧ Ev w [.box sb [bp u sb, .slice a (List.length l) c] 61, .vec a c 1 (bys l) 5] wo [.box sb [bp u sb, .slice a (List.length l) c] 61]) ?_ ?_
 ·
  refine h_s (fun wv => Ev w [.box sb [bp u sb, .slice a (List.length l) c] 61, .vec a c 1 (bys l) 5] wv [.box sb [bp u sb, .slice a (List.length l) c] 61]) [] 12 ?_
  have wo3 := Hv0.trans (Ev.drew Hv0.heap)
  refine q_s [0,1,2] [] 9 En2 (wo3.pick [0] (by kernel_rfl) (by decide)) fun ac64 En65 => ?_
  refine q_l 0 3 En65 (wo3.pick [0] (by kernel_rfl) (by decide)) fun ac66 En67 => ?_
  refine q_s [5,6,7] [] 5 En67 (wo3.pick [0] (by kernel_rfl) (by decide)) fun ac68 En69 => ?_
  refine q_l 0 8 En69 (wo3.pick [0] (by kernel_rfl) (by decide)) fun ac70 En71 => ?_
  refine q_s [9] [] 3 En71 (wo3.pick [0] (by kernel_rfl) (by decide)) fun ac72 En73 => ?_
  refine q_t 4 ?_
  refine q_v (x := Builtin.unsafeSliceData_ #[59] 91 #[.slice a (List.length l) c]) (v := .pointer a) En73 (run_sdata _ _ _ _ _ (by omega)) fun ac74 En75 => ?_
  refine ⟨fun _ => wo3.pick [0] (by kernel_rfl) (by decide), ?_⟩
  refine q_t 10 ?_
  refine op_ustr (d := some 13) (pt := 91) (it := 3) (ty := 9) (e := 5) (k := 1) (s := l) En75 (by kernel_rfl) (by kernel_rfl) (by kernel_rfl) wo3 rfl (by assumption) (by omega) fun ac76 wo77 En78 Hv79 => ?_
  refine ⟨fun _ => Hv79.pick [0] (by kernel_rfl) (by decide), ?_⟩
  refine q_s [11] [] 0 En78 (Hv79.pick [0] (by kernel_rfl) (by decide)) fun ac80 En81 => ?_
  exact h_e ⟨En81.sub (by kernel_rfl), Hv79.pick [0] (by kernel_rfl) (by decide)⟩
 rintro ac82 wo83 ⟨En84, Hv85⟩
 refine then_normal ?_
 refine wp_ret ?_
 refine d_ret1 (t := 2) (v := .string (bstr l)) En84 (by kernel_rfl) (by kernel_rfl) ?_
 exact ⟨rfl, Hv85.pick [0] (by kernel_rfl) (by decide)⟩

end Go.Proofs.YtfcfgbejpcmmkaaDoor
