import Derived.Test.YtfcfgbejpcmmkaaDoorBk3
import Derived.Lib.UnsafeStr
import Derived.Lib.Builder
import Derived.Deep.AppendSrc
/- strings.Builder: texts are appended; the bytes become a text. Over any program. -/





namespace Go.Dbr
open Go Go.RowKit
section
variable {P : Program} {ops : Array Oper} {Q : Exit → Act → World → Prop} {n i : Nat} {l : List (Nat × Value)} {a : Act} {w w0 : World} {L L0 : List Ent} {d : Option Tmp} {K : Act → World → Prop}
theorem src_str {tx : TypeId} (hk : P.underlying tx = some .string) (s : List UInt8) : Src P 1 tx (.string (bstr s)) s.length (bys s) w := by
  have h := Src.ofString (w := w) hk (bstr s)
  rw [bstr_size, show byteCells (bstr s) = bys s from by simp only [byteCells, bstr, bys]; rfl] at h
  exact h
theorem run_sdata (ts : Array TypeId) (ty : TypeId) (ao : Option Addr) (m c : Nat) (hc : c ≠ 0) : (Builtin.unsafeSliceData_ ts ty #[.slice ao m c]).run P w = .ok (.pointer ao) w := by
  cases ao with
  | none => exact Lib.run_unsafeSliceData_nil (P := P) w ts ty m c
  | some ad => exact Lib.run_unsafeSliceData_row (P := P) w ts ty ad m c hc
theorem lies_at {e : TypeId} (hc : P.cellsOf e = 1) (count off n : Nat) (hn : off + n ≤ count) : liesAt P P.depth e count off e n = true := by
  have hd : P.depth = (2 * (P.types.size + Made.depth) + 1) + 1 := rfl
  rw [hd]
  simp only [liesAt, Bool.or_eq_true]
  left
  rw [hd]
  simp [rowAt, hc, hn, sameLayout, Nat.mod_one]
theorem run_ustr (pt it ty e : TypeId) (hp : P.underlying pt = some (.pointer e)) (hc : P.cellsOf e = 1) {k : Nat} {ao : Option Addr} {cap : Nat} {s : List UInt8} (h : Heap w L) (hk : L[k]? = some (.vec ao cap 1 (bys s) e)) (h0 : s ≠ []) (hs : s.length ≤ 140737488355328) :
    ∃ w', (Builtin.unsafeString_ #[pt, it] ty #[.pointer ao, .int .i64 ((s.length : Nat) : Int)]).run P w = .ok (.string (bstr s)) w' ∧ Ev w L w' (L.set k (.vec none 0 1 [] e)) := by
  have hh := h.holds k _ hk
  cases ao with
  | none => exact absurd (List.eq_nil_of_length_eq_zero (by have := congrArg List.length hh.2; rw [bys_length] at this; exact this)) h0
  | some ad =>
    obtain ⟨h3, h4, h5, cur, fz, h6, hfz, h7, h8⟩ := hh
    obtain ⟨b, o, sp⟩ := ad
    simp only at h3 h6 h7 h8
    subst h3
    have hl : s.length ≠ 0 := fun e => h0 (List.eq_nil_of_length_eq_zero e)
    rw [bys_length] at h5 h8
    have hsh : w.shape? b = some (e, cur.size) := by simp [World.shape?, h6]
    have hlb := Lib.run_loadBytes (P := P) w s ⟨b, o, none⟩ .empty (fun j x hj => by
      have hj2 : j < s.length := (List.getElem?_eq_some_iff.1 hj).1
      have := h8 j hj2
      rw [add_off, cell_of_row w b _ cur e fz h6, this]
      simp [bys, hj]
      rfl)
    have hlies := lies_at (P := P) hc (cur.size / P.cellsOf e) o s.length (by rw [hc, Nat.div_one]; omega)
    have h63' : ¬ (9223372036854775807 : Int) < (s.length : Int) := by omega
    have hmax : IntKind.i64.max = 9223372036854775807 := rfl
    have hneg : ¬ (s.length : Int) < 0 := by omega
    refine ⟨w.freeze ⟨b, o, none⟩ s.length, ?_, ?_⟩
    · refine (congrArg (fun z : Sem Value => z.run P w) (show Builtin.unsafeString_ #[pt, it] ty #[.pointer (some ⟨b, o, none⟩), .int .i64 ((s.length : Nat) : Int)] = asInt (.int .i64 ((s.length : Nat) : Int)) >>= _ from rfl)).trans ?_
      simp [asInt, asIntOf, hmax, h63', hneg, hl, variablesAt, hsh, elemOf, run_underlying hp, hlies, hlb]
      rfl
    · refine Ev.change h hk ?_ ⟨rfl, rfl⟩ (fun c hc => by cases hc)
      unfold World.freeze
      rw [if_neg hl]
      refine ⟨rfl, rfl, rfl, by simp, fun j hj hn => ?_⟩
      simp only [Array.getElem?_modify]
      rw [if_neg (fun e => hn (by subst e; rfl))]
theorem op_ustr (E : Env a n l) {pt it ty e : TypeId} {k : Nat} {ao : Option Addr} {cap : Nat} {s : List UInt8} (h : opAt ops n i l = some (.run d (nv (Builtin.unsafeString_ #[pt, it] ty #[.pointer ao, .int .i64 ((s.length : Nat) : Int)]))))
    (hp : P.underlying pt = some (.pointer e)) (hc : P.cellsOf e = 1) (H : Ev w0 L0 w L) (hk : L[k]? = some (.vec ao cap 1 (bys s) e)) (h0 : s ≠ []) (hs : s.length ≤ 140737488355328)
    (next : ∀ a' w', Env a' n (putl d (.string (bstr s)) l) → Ev w0 L0 w' (L.set k (.vec none 0 1 [] e)) → K a' w') : wpOp P ops Q i K a w := by
  obtain ⟨w', hr, he⟩ := run_ustr (P := P) pt it ty e hp hc H.heap hk h0 hs
  exact any_run E h (run_nv hr) fun a' E' => next a' w' E' (H.trans he)
end
end Go.Dbr

/- Slices of structs are cut and joined; texts in their order; keys are taken out of maps. -/


namespace Go.Dbr
open Go Go.RowKit

section
variable {α : Type}
end

section
variable {P : Program} {ops : Array Oper} {Q : Exit → Act → World → Prop} {n i : Nat} {l : List (Nat × Value)} {a : Act} {w w0 : World} {d : Option Tmp} {L L0 : List Ent} {K : Act → World → Prop}
end
section
variable {P : Program} {ops : Array Oper} {Q : Exit → Act → World → Prop} {n i : Nat} {l : List (Nat × Value)} {a : Act} {w w0 : World} {d : Option Tmp} {L L0 : List Ent} {K : Act → World → Prop}
end
end Go.Dbr

/- Layer 3: numerals; the builder of texts. -/



namespace Go.Proofs.YtfcfgbejpcmmkaaDoor
open Go.Dbr
set_option maxRecDepth 100000
set_option maxHeartbeats 2000000
set_option linter.unusedVariables false
set_option linter.unusedSimpArgs false

/-- the decimal numeral -/
def decL (n : Nat) : Bs := Lib.decDigits n
/-- the table of powers of ten stands in its variable; nobody owns it -/
structure InT (w : World) (L : List Ent) : Prop where
  tab : Lib.TabIs Tryd.prog w "internal/strconv.uint64pow10" .u64 Lib.pow10Tab
  own : ¬ Owns L 0
theorem g0 : Tryd.prog.globalNamed "internal/strconv.uint64pow10" = some 0 := by kernel_rfl
theorem InT.lt {w : World} {L : List Ent} (h : InT w L) : 0 < w.heap.size := by
  have ht := h.tab
  unfold Lib.TabIs World.var? at ht
  rw [g0] at ht
  rcases Nat.eq_zero_or_pos w.heap.size with h0 | h0
  · simp [Array.getElem?_eq_none (show w.heap.size ≤ 0 by omega)] at ht
  · exact h0
theorem InT.ev {w w' : World} {L L' : List Ent} (h : InT w L) (e : Ev w L w' L') : InT w' L' := by
  refine ⟨?_, fun o => ?_⟩
  · have ht := h.tab
    unfold Lib.TabIs World.var? at ht ⊢
    rw [g0] at ht ⊢
    simp only [Option.bind_some] at ht ⊢
    rw [e.chg.block 0 h.lt h.own]
    exact ht
  · rcases e.new 0 o with h1 | h1
    · exact h.own h1
    · have := h.lt; omega
theorem InT.pick {w : World} {L M : List Ent} (h : InT w L) (is : List Nat) (hm : M.map some = is.map (fun i => L[i]?)) : InT w M := ⟨h.tab, fun o => h.own (owns_pick hm o)⟩
theorem InT.nil {w : World} {L : List Ent} (h : InT w L) : InT w [] := ⟨h.tab, Owns.nil⟩
theorem ev_grow {w : World} (k : Nat) (os : Array Obj) : Ev w [] (Sort.grow (w.drewN k) os) [] :=
  ⟨Heap.nil _, ⟨rfl, rfl, rfl, by simp [Sort.grow, World.drewN], fun j hj _ => by simp only [Sort.grow, World.drewN]; exact Array.getElem?_append_left hj⟩, fun _ h => (Owns.nil h).elim⟩
theorem ifu_go (w : World) (u : UInt64) (gt : InT w []) : Calls Tryd.prog 41 #[uv64 u, .int .i64 10] w fun e w' => e = .returned (.string (bstr (decL (UInt64.toNat u)))) ∧ Ev w [] w' [] := by
  by_cases h : UInt64.toNat u < 100
  · refine (Tryd.fu_small _ h w).mono ?_
    rintro e w' ⟨rfl, rfl⟩
    exact ⟨rfl, Ev.refl (Heap.nil _)⟩
  · refine (Tryd.fu_big _ (by omega) (UInt64.toNat_lt u) w gt.tab).mono ?_
    rintro e w' ⟨rfl, k, os, rfl⟩
    exact ⟨rfl, ev_grow k os⟩
theorem dec_len (n : Nat) (h : n < 18446744073709551616) : 1 ≤ (decL n).length ∧ (decL n).length ≤ 20 := by
  rw [decL, Lib.decDigits_length]
  by_cases h0 : n < 10
  · rw [Lib.nDigits_small h0]; omega
  · have := Lib.numDigits_eq n (by omega) h
    have h2 : 1 ≤ Lib.nDigits n := by rw [Lib.nDigits_big h0]; omega
    refine ⟨h2, ?_⟩
    split at this <;> omega
/-- what a builder's first cell holds: nil till it is used -/
def bp (u : Bool) (b : Nat) : Value := bif u then pt b else .pointer none
theorem copy_go (w : World) (u : Bool) (b : Nat) (x : Value) (hH : Heap w [.box b [bp u b, x] 61]) : Calls Tryd.prog 40 #[pt b] w fun e w' => e = .returned (.tuple #[]) ∧ Ev w [.box b [bp u b, x] 61] w' [.box b [bp true b, x] 61] := by
  have hb := hH.holds 0 _ rfl
  have h0 : w.cell? ⟨b, 0, none⟩ = some (bp u b) := hH.cell (k := 0) rfl rfl
  have hsh : w.shape? b = some (61, 2) := by
    have : w.heap[b]? = some (.cells #[bp u b, x] 61 (0, 0)) := hb
    simp [World.shape?, this]
  have hfz : w.frozen? ⟨b, 0, none⟩ = false := frozen_of_row w b 0 _ _ hb
  obtain ⟨j, hj, hjs⟩ := Option.map_eq_some_iff.1 (show (Tryd.prog.info? 61).map (·.size) = some 2 by kernel_rfl)
  cases u with
  | true =>
    have hh : w.cell? ⟨b, 0, none⟩ = some (pt b) := h0
    clear h0
    go_enter Tryd.func40, Tryd.ntmps40
    go_wp2
    rw [Lib.run_neq_ptr_same w _ Tryd.underlying58 hj]
    go_wp2
    go_end0
    exact ⟨rfl, Ev.refl hH⟩
  | false =>
    have hh : w.cell? ⟨b, 0, none⟩ = some (.pointer none) := h0
    clear h0
    go_enter Tryd.func40, Tryd.ntmps40
    go_wp2
    rw [Lib.run_to_unsafe w ⟨b, 0, none⟩ Tryd.underlying58 Tryd.underlying99 hj (by rw [hjs]; decide) hsh (Nat.zero_lt_succ 1)]
    simp only [Result.andThen]
    rw [Oper.upon_value]
    go_wp2
    rw [run_callFunc_extern Tryd.func56 (by kernel_rfl) (by kernel_rfl) (by kernel_rfl) (e := Extern.AbiNoEscape.same) (by kernel_rfl)]
    rw [Lib.run_noEscape]
    simp only [Result.andThen]
    rw [Oper.upon_value]
    go_wp2
    rw [Lib.run_from_unsafe w ⟨b, 0, none⟩ Tryd.underlying99 Tryd.underlying58 hj hsh (by kernel_rfl)]
    simp only [Result.andThen]
    rw [Oper.upon_value]
    go_wp2
    go_end0
    exact ⟨rfl, hH.setBox (k := 0) (pt b) rfl⟩

theorem fu_go (w : World) (u : UInt64) (gt : InT w []) : Calls Tryd.prog 21 #[uv64 u, .int .i64 10] w fun e w' => e = .returned (.string (bstr (decL (UInt64.toNat u)))) ∧ Ev w [] w' [] := by
 refine d_0 [(0, uv64 u), (1, .int .i64 10)] 8 Go.Proofs.Tryd.func21 Go.Proofs.Tryd.ntmps21 (Heap.nil _) fun act0 En0 Hv0 => ?_
 refine d_s [0,1,4] [] En0 fun ac1 En2 => ?_
 refine wp_seq ?_
 refine region_from ?_
 refine d_k [4,5,6] [] 2 En2 fun ac3 En4 => ?_
 refine f_o ?_
 refine c_p En4 Hv0 (ifu_go _ u ((gt.ev Hv0).nil)) fun ac9 wo6 En10 Hv11 => ?_
 refine d_e [4] [] En10 fun ac12 En13 => ?_
 refine then_normal ?_
 refine wp_ret ?_
 refine d_ret1 (t := 4) (v := .string (bstr (decL (UInt64.toNat u)))) En13 (by kernel_rfl) (by kernel_rfl) ?_
 exact ⟨rfl, Hv11.pick [] (by kernel_rfl) (by decide)⟩

theorem write_go (w : World) (u : Bool) (sb : Nat) (a : Option Addr) (c : Nat) (l : Bs) (s : Bs) (hl : List.length l + List.length s ≤ 70368744177664) (hH : Heap w [.box sb [bp u sb, .slice a (List.length l) c] 61, .vec a c 1 (bys l) 5]) : Calls Tryd.prog 20 #[pt sb, .string (bstr s)] w fun e w' => ∃ a' c', e = .returned (.tuple #[.int .i64 ((List.length s : Nat) : Int), .nilIface]) ∧ Ev w [.box sb [bp u sb, .slice a (List.length l) c] 61, .vec a c 1 (bys l) 5] w' [.box sb [bp true sb, .slice a' (List.length (l ++ s)) c'] 61, .vec a' c' 1 (bys (l ++ s)) 5] := by
 refine d_0 [(0, pt sb), (1, .string (bstr s))] 19 Go.Proofs.Tryd.func20 Go.Proofs.Tryd.ntmps20 (hH) fun act0 En0 Hv0 => ?_
 refine d_s [0,1,4,5] [] En0 fun ac1 En2 => ?_
 refine wp_seq ?_
 refine region_from ?_
 refine d_k [0,1,4,5,6] [] 1 En2 fun ac3 En4 => ?_
 refine f_o ?_
 refine c_l [0] (M := [.box sb [bp u sb, .slice a (List.length l) c] 61]) En4 Hv0 (fun hM5 => copy_go _ u sb (.slice a (List.length l) c) hM5) ?_
 rintro _ wo6 ⟨rfl, he7⟩
 refine ⟨_, _, [.box sb [bp true sb, .slice a (List.length l) c] 61, .vec a c 1 (bys l) 5], rfl, he7, by kernel_rfl, fun ac9 En10 Hv11 => ?_⟩
 refine f_e ?_
 refine then_normal ?_
 refine wp_seq ?_
 refine region_from ?_
 refine d_k [0,1,4,5,8,11] [] 4 En10 fun ac12 En13 => ?_
 refine f_o ?_
 refine m_l 0 En13 Hv11 fun ac14 En15 => ?_
 refine d_k [0,1,4,5,8,12,13] [] 6 En15 fun ac16 En17 => ?_
 refine f_o ?_
 refine op_append (d := some 14) (t := 59) (tx := 9) (ty := 59) (k := 1) (p := List.length l) (m := List.length s) (x := .string (bstr s)) (bytes := 1) En17 (by kernel_rfl) Hv11 rfl (bys_len _) (src_str (by kernel_rfl) s) (by kernel_rfl) (z := .int .u8 0) (by kernel_rfl) rfl (by decide) (by omega) (by unfold maxLen; omega) ?_
 intro ac22 wo23 ao18 cp19 En24 Hv25 hnz _
 clear hnz
 rw [← bys_append] at Hv25
 have ehz20 : (List.length l) + (List.length s) = List.length (l ++ s) := (by first | (simp; done) | (simp; omega) | omega)
 rw [ehz20] at En24
 refine d_k [0,1,4,5,14,16] [] 9 En24 fun ac26 En27 => ?_
 refine f_o ?_
 refine m_s 0 [.box sb [bp true sb, .slice ao18 (List.length (l ++ s)) cp19] 61, .vec ao18 cp19 1 (bys (l ++ s)) 5] En27 Hv25 fun ac28 wo29 En30 Hv31 => ?_
 refine f_e ?_
 refine then_normal ?_
 refine d_s [0,1,4,5] [] En30 fun ac32 En33 => ?_
 refine wp_ret ?_
 refine d_ret2 (t := 4) (u := 5) (v := .int .i64 ((ByteArray.size (bstr s) : Nat) : Int)) (x := .nilIface) En33 (by kernel_rfl) (by kernel_rfl) (by kernel_rfl) ?_
 exact ⟨ao18, cp19, rfl, Hv31.pick [0, 1] (by kernel_rfl) (by decide)⟩

theorem wbyte_go (w : World) (u : Bool) (sb : Nat) (a : Option Addr) (c : Nat) (l : Bs) (x : UInt8) (hl : List.length l + 1 ≤ 70368744177664) (hH : Heap w [.box sb [bp u sb, .slice a (List.length l) c] 61, .vec a c 1 (bys l) 5]) : Calls Tryd.prog 23 #[pt sb, bv x] w fun e w' => ∃ a' c', e = .returned (.nilIface) ∧ Ev w [.box sb [bp u sb, .slice a (List.length l) c] 61, .vec a c 1 (bys l) 5] w' [.box sb [bp true sb, .slice a' (List.length (l ++ [x])) c'] 61, .vec a' c' 1 (bys (l ++ [x])) 5] := by
 refine d_0 [(0, pt sb), (1, bv x)] 17 Go.Proofs.Tryd.func23 Go.Proofs.Tryd.ntmps23 (hH) fun act0 En0 Hv0 => ?_
 refine d_s [0,1,4] [] En0 fun ac1 En2 => ?_
 refine wp_seq ?_
 refine region_from ?_
 refine d_k [0,1,4,5] [] 1 En2 fun ac3 En4 => ?_
 refine f_o ?_
 refine c_l [0] (M := [.box sb [bp u sb, .slice a (List.length l) c] 61]) En4 Hv0 (fun hM5 => copy_go _ u sb (.slice a (List.length l) c) hM5) ?_
 rintro _ wo6 ⟨rfl, he7⟩
 refine ⟨_, _, [.box sb [bp true sb, .slice a (List.length l) c] 61, .vec a c 1 (bys l) 5], rfl, he7, by kernel_rfl, fun ac9 En10 Hv11 => ?_⟩
 refine f_e ?_
 refine then_normal ?_
 refine wp_seq ?_
 refine region_from ?_
 refine d_k [0,1,4,7,10] [] 4 En10 fun ac12 En13 => ?_
 refine f_o ?_
 refine m_l 0 En13 Hv11 fun ac14 En15 => ?_
 refine d_k [0,4,7,11,12] [] 6 En15 fun ac16 En17 => ?_
 refine f_o ?_
 refine op_lit (d := some 13) (t := 59) (T := 5) (m := 1) (parts := #[(0, bv x)]) (xs := bys [x]) (sz := 1) En17 (by kernel_rfl) (by kernel_rfl) rfl (by decide) Hv11 ?_
 intro ac19 wo20 bk18 En21 Hv22
 refine f_o ?_
 refine op_append (d := some 14) (t := 59) (tx := 59) (ty := 59) (k := 1) (p := List.length l) (m := 1) (x := .slice (some ⟨bk18, 0, none⟩) 1 1) (bytes := 1) En21 (by kernel_rfl) Hv22 rfl (bys_len _) (Reads.src (size := 1) (tx := 59) (e' := 5) (by kernel_rfl) (Hv22.heap.reads (k := 2) rfl) rfl (fun e => by cases e) (bys_one _)) (by kernel_rfl) (z := .int .u8 0) (by kernel_rfl) rfl (by decide) (by omega) (by unfold maxLen; omega) ?_
 intro ac27 wo28 ao23 cp24 En29 Hv30 hnz _
 clear hnz
 rw [← bys_append] at Hv30
 have ehz25 : (List.length l) + 1 = List.length (l ++ [x]) := (by first | (simp; done) | (simp; omega) | omega)
 rw [ehz25] at En29
 refine d_k [0,4,14,16] [] 10 En29 fun ac31 En32 => ?_
 refine f_o ?_
 refine m_s 0 [.box sb [bp true sb, .slice ao23 (List.length (l ++ [x])) cp24] 61, .vec ao23 cp24 1 (bys (l ++ [x])) 5, .vec (some ⟨bk18, 0, none⟩) 1 1 (bys [x]) 5] En32 Hv30 fun ac33 wo34 En35 Hv36 => ?_
 refine f_e ?_
 refine then_normal ?_
 refine d_s [0,4] [] En35 fun ac37 En38 => ?_
 refine wp_ret ?_
 refine d_ret1 (t := 4) (v := .nilIface) En38 (by kernel_rfl) (by kernel_rfl) ?_
 exact ⟨ao23, cp24, rfl, Hv36.pick [0, 1] (by kernel_rfl) (by decide)⟩

theorem blen_go (w : World) (u : Bool) (sb : Nat) (a : Option Addr) (c : Nat) (l : Bs) (hH : Heap w [.box sb [bp u sb, .slice a (List.length l) c] 61]) : Calls Tryd.prog 24 #[pt sb] w fun e w' => e = .returned (.int .i64 ((List.length l : Nat) : Int)) ∧ Ev w [.box sb [bp u sb, .slice a (List.length l) c] 61] w' [.box sb [bp u sb, .slice a (List.length l) c] 61] := by
 refine d_0 [(0, pt sb)] 8 Go.Proofs.Tryd.func24 Go.Proofs.Tryd.ntmps24 (hH) fun act0 En0 Hv0 => ?_
 refine d_s [0,2] [] En0 fun ac1 En2 => ?_
 refine wp_seq ?_
 refine region_from ?_
 refine d_k [2,5] [] 3 En2 fun ac3 En4 => ?_
 refine f_o ?_
 refine m_l 0 En4 Hv0 fun ac5 En6 => ?_
 refine d_e [2] [] En6 fun ac7 En8 => ?_
 refine then_normal ?_
 refine wp_ret ?_
 refine d_ret1 (t := 2) (v := .int .i64 ((List.length l : Nat) : Int)) En8 (by kernel_rfl) (by kernel_rfl) ?_
 exact ⟨rfl, Hv0.pick [0] (by kernel_rfl) (by decide)⟩

theorem bstr_go (w : World) (u : Bool) (sb : Nat) (a : Option Addr) (c : Nat) (l : Bs) (hl0 : l ≠ []) (hl : List.length l ≤ 140737488355328) (hH : Heap w [.box sb [bp u sb, .slice a (List.length l) c] 61, .vec a c 1 (bys l) 5]) : Calls Tryd.prog 25 #[pt sb] w fun e w' => e = .returned (.string (bstr l)) ∧ Ev w [.box sb [bp u sb, .slice a (List.length l) c] 61, .vec a c 1 (bys l) 5] w' [.box sb [bp u sb, .slice a (List.length l) c] 61] := by
 refine d_0 [(0, pt sb)] 14 Go.Proofs.Tryd.func25 Go.Proofs.Tryd.ntmps25 (hH) fun act0 En0 Hv0 => ?_
 refine wp_seq ?_
 refine d_r [0,2] [] En0 fun ac1 En2 => ?_
 refine then_normal ?_
 refine wp_seq ?_
 have hcp := bys_vcap hH (k := 1) rfl
 have hlp := List.length_pos_iff.2 hl0
 refine r_c (fun ac wo => Env ac 14 [(2, .string (bstr l))] ∧ Ev w [.box sb [bp u sb, .slice a (List.length l) c] 61, .vec a c 1 (bys l) 5] wo [.box sb [bp u sb, .slice a (List.length l) c] 61]) ?_ ?_
 ·
  refine h_s (fun wv => Ev w [.box sb [bp u sb, .slice a (List.length l) c] 61, .vec a c 1 (bys l) 5] wv [.box sb [bp u sb, .slice a (List.length l) c] 61]) [] 12 ?_
  have wo3 := Hv0.trans (Ev.drew Hv0.heap)
  refine q_s [0,1,2] [] 9 En2 (wo3.pick [0] (by kernel_rfl) (by decide)) fun ac64 En65 => ?_
  refine q_l 0 3 En65 (wo3.pick [0] (by kernel_rfl) (by decide)) fun ac66 En67 => ?_
  refine q_s [5,6,7] [] 5 En67 (wo3.pick [0] (by kernel_rfl) (by decide)) fun ac68 En69 => ?_
  refine q_l 0 8 En69 (wo3.pick [0] (by kernel_rfl) (by decide)) fun ac70 En71 => ?_
  refine q_s [9] [] 3 En71 (wo3.pick [0] (by kernel_rfl) (by decide)) fun ac72 En73 => ?_
  refine q_t 4 ?_
  refine q_v (x := Builtin.unsafeSliceData_ #[59] 91 #[.slice a (List.length l) c]) (v := .pointer a) En73 (run_sdata _ _ _ _ _ (by omega)) fun ac74 En75 => ?_
  refine ⟨fun _ => wo3.pick [0] (by kernel_rfl) (by decide), ?_⟩
  refine q_t 10 ?_
  refine op_ustr (d := some 13) (pt := 91) (it := 3) (ty := 9) (e := 5) (k := 1) (s := l) En75 (by kernel_rfl) (by kernel_rfl) (by kernel_rfl) wo3 rfl (by assumption) (by omega) fun ac76 wo77 En78 Hv79 => ?_
  refine ⟨fun _ => Hv79.pick [0] (by kernel_rfl) (by decide), ?_⟩
  refine q_s [11] [] 0 En78 (Hv79.pick [0] (by kernel_rfl) (by decide)) fun ac80 En81 => ?_
  exact h_e ⟨En81.sub (by kernel_rfl), Hv79.pick [0] (by kernel_rfl) (by decide)⟩
 rintro ac82 wo83 ⟨En84, Hv85⟩
 refine then_normal ?_
 refine wp_ret ?_
 refine d_ret1 (t := 2) (v := .string (bstr l)) En84 (by kernel_rfl) (by kernel_rfl) ?_
 exact ⟨rfl, Hv85.pick [0] (by kernel_rfl) (by decide)⟩

end Go.Proofs.YtfcfgbejpcmmkaaDoor

/- Layer 3: texts between quotes. -/


namespace Go.Proofs.YtfcfgbejpcmmkaaDoor
open Go.Dbr
set_option maxRecDepth 100000
set_option maxHeartbeats 2000000
set_option linter.unusedVariables false
set_option linter.unusedSimpArgs false

def hexD (n : Nat) : UInt8 := ([48, 49, 50, 51, 52, 53, 54, 55, 56, 57, 97, 98, 99, 100, 101, 102] : Bs).getD n 0
def hexS (c : UInt8) : Bs := [92, 120, hexD (c.toNat / 16), hexD (c.toNat % 16)]
def escB (c : UInt8) : Bs := if plB c then [c] else if c = 34 ∨ c = 92 then [92, c] else hexS c
def quoL (s : Bs) : Bs := 34 :: (s.flatMap escB ++ [34])
theorem esc_p {c : UInt8} (h : plB c = true) : escB c = [c] := if_pos h
theorem esc_q {c : UInt8} (h : c = 34 ∨ c = 92) : escB c = [92, c] := by
  rw [escB, if_neg ?_, if_pos h]
  rcases h with rfl | rfl <;> decide
theorem esc_h {c : UInt8} (h : ¬ plB c = true) (g : ¬ (c = 34 ∨ c = 92)) : escB c = hexS c := by rw [escB, if_neg h, if_neg g]
theorem esc_len (c : UInt8) : 1 ≤ (escB c).length ∧ (escB c).length ≤ 4 := by
  unfold escB
  split
  · simp
  · split <;> simp [hexS]
theorem esc_next {s : Bs} {i : Nat} (hi : i < s.length) : (s.take (i + 1)).flatMap escB = (s.take i).flatMap escB ++ escB (s.getD i 0) := by
  rw [List.take_add_one, List.flatMap_append, List.getElem?_eq_getElem hi, List.getD_eq_getElem?_getD, List.getElem?_eq_getElem hi]
  simp
theorem esc_all (s : Bs) : s.length ≤ (s.flatMap escB).length ∧ (s.flatMap escB).length ≤ 4 * s.length := by
  induction s with
  | nil => simp
  | cons x r ih =>
    have := esc_len x
    rw [List.flatMap_cons, List.length_append, List.length_cons]
    omega
theorem quo_len (s : Bs) : s.length + 2 ≤ (quoL s).length ∧ (quoL s).length ≤ 4 * s.length + 2 := by
  have := esc_all s
  rw [quoL, List.length_cons, List.length_append]
  simp only [List.length_cons, List.length_nil]
  omega
theorem q_p {l m s : Bs} {i : Nat} (h : m = l ++ 34 :: (s.take i).flatMap escB) (hi : i < s.length) (g : plB (s.getD i 0) = true) : m ++ [s.getD i 0] = l ++ 34 :: (s.take (i + 1)).flatMap escB := by
  rw [h, esc_next hi, esc_p g]; simp
theorem q_q {l m s : Bs} {i : Nat} (h : m = l ++ 34 :: (s.take i).flatMap escB) (hi : i < s.length) (g : s.getD i 0 = 34 ∨ s.getD i 0 = 92) : m ++ [92] ++ [s.getD i 0] = l ++ 34 :: (s.take (i + 1)).flatMap escB := by
  rw [h, esc_next hi, esc_q g]; simp
theorem q_h {l m s : Bs} {i : Nat} (h : m = l ++ 34 :: (s.take i).flatMap escB) (hi : i < s.length) (g : ¬ plB (s.getD i 0) = true) (k : ¬ (s.getD i 0 = 34 ∨ s.getD i 0 = 92)) : m ++ hexS (s.getD i 0) = l ++ 34 :: (s.take (i + 1)).flatMap escB := by
  rw [h, esc_next hi, esc_h g k]; simp
theorem q_end {l m s : Bs} {i : Nat} (h : m = l ++ 34 :: (s.take i).flatMap escB) (hi : i = min s.length 1025) : m ++ [34] = l ++ quoL (s.take 1025) := by
  have : s.take i = s.take 1025 := by
    subst hi
    rcases Nat.le_total s.length 1025 with h1 | h1
    · rw [Nat.min_eq_left h1, List.take_length, List.take_of_length_le h1]
    · rw [Nat.min_eq_right h1]
  rw [h, this, quoL]; simp
theorem hex_next {m m2 x : Bs} {j : Nat} (h : m2 = m ++ x.take j) (hj : j < x.length) : m2 ++ [x.getD j 0] = m ++ x.take (j + 1) := by
  rw [h, List.take_add_one, List.getElem?_eq_getElem hj, List.getD_eq_getElem?_getD, List.getElem?_eq_getElem hj]; simp
theorem hex_hi (c : UInt8) : UInt8.toNat (c >>> UInt8.ofNat 4) < List.length ([48, 49, 50, 51, 52, 53, 54, 55, 56, 57, 97, 98, 99, 100, 101, 102] : Bs) := by
  rw [UInt8.toNat_shiftRight, Nat.shiftRight_eq_div_pow]
  have := UInt8.toNat_lt c
  show c.toNat / 16 < 16
  omega
theorem hex_lo (c : UInt8) : UInt8.toNat (c &&& (15 : UInt8)) < List.length ([48, 49, 50, 51, 52, 53, 54, 55, 56, 57, 97, 98, 99, 100, 101, 102] : Bs) := by
  rw [UInt8.toNat_and]
  exact Nat.lt_of_le_of_lt Nat.and_le_right (by decide)
theorem hex_s (c : UInt8) : ([92, 120, List.getD [48, 49, 50, 51, 52, 53, 54, 55, 56, 57, 97, 98, 99, 100, 101, 102] (UInt8.toNat (c >>> UInt8.ofNat 4)) 0, List.getD [48, 49, 50, 51, 52, 53, 54, 55, 56, 57, 97, 98, 99, 100, 101, 102] (UInt8.toNat (c &&& (15 : UInt8))) 0] : Bs) = hexS c := by
  have h1 : UInt8.toNat (c >>> UInt8.ofNat 4) = c.toNat / 16 := by rw [UInt8.toNat_shiftRight, Nat.shiftRight_eq_div_pow]; rfl
  have h2 : UInt8.toNat (c &&& (15 : UInt8)) = c.toNat % 16 := by rw [UInt8.toNat_and]; exact Nat.and_two_pow_sub_one_eq_mod c.toNat 4
  rw [h1, h2]; rfl
theorem min_n (s : Bs) : (if (1025 : Int) < ((ByteArray.size (bstr s) : Nat) : Int) then (1025 : Int) else ((ByteArray.size (bstr s) : Nat) : Int)) = ((min (List.length s) 1025 : Nat) : Int) := by
  rw [bstr_size]; split <;> omega
theorem u8_34 {c : UInt8} (h : ((UInt8.toNat c : Nat) : Int) = 34) : c = 34 ∨ c = 92 := .inl (UInt8.toNat_inj.1 (by show c.toNat = 34; omega))
theorem u8_92 {c : UInt8} (h : ((UInt8.toNat c : Nat) : Int) = 92) : c = 34 ∨ c = 92 := .inr (UInt8.toNat_inj.1 (by show c.toNat = 92; omega))
theorem u8_n {c : UInt8} (h : ¬ ((UInt8.toNat c : Nat) : Int) = 34) (g : ¬ ((UInt8.toNat c : Nat) : Int) = 92) : ¬ (c = 34 ∨ c = 92) := by
  rintro (rfl | rfl)
  · exact h rfl
  · exact g rfl

theorem quote_go (w : World) (u : Bool) (sb : Nat) (a : Option Addr) (c : Nat) (l s : Bs) (hl : List.length l + 8192 ≤ 70368744177664) (hs : List.length s ≤ 140737488351232) (hH : Heap w [.box sb [bp u sb, .slice a (List.length l) c] 61, .vec a c 1 (bys l) 5]) : Calls Tryd.prog 22 #[.string (bstr s), .func (.func 23) #[pt sb] #[]] w fun e w' => ∃ a' c', e = .returned (.tuple #[]) ∧ Ev w [.box sb [bp u sb, .slice a (List.length l) c] 61, .vec a c 1 (bys l) 5] w' [.box sb [bp true sb, .slice a' (List.length (l ++ quoL (List.take 1025 s))) c'] 61, .vec a' c' 1 (bys (l ++ quoL (List.take 1025 s))) 5] := by
 refine d_0 [(0, .string (bstr s)), (1, .func (.func 23) #[pt sb] #[])] 53 Go.Proofs.Tryd.func22 Go.Proofs.Tryd.ntmps22 (hH) fun act0 En0 Hv0 => ?_
 refine wp_seq ?_
 refine region_from ?_
 refine d_k [0,1,8] [] 1 En0 fun ac1 En2 => ?_
 refine f_o ?_
 refine c_l [0,1] (M := [.box sb [bp u sb, .slice a (List.length l) c] 61, .vec a c 1 (bys l) 5]) En2 Hv0 (fun hM5 => wbyte_go _ u sb a c l (34 : UInt8) (by first | omega | (simp only [List.length_append, List.length_cons, List.length_nil] at *; omega)) hM5) ?_
 rintro _ wo6 ⟨ab3, cb4, rfl, he7⟩
 refine ⟨_, _, [.box sb [bp true sb, .slice ab3 (List.length (l ++ [(34 : UInt8)])) cb4] 61, .vec ab3 cb4 1 (bys (l ++ [(34 : UInt8)])) 5], rfl, he7, by kernel_rfl, fun ac9 En10 Hv11 => ?_⟩
 refine f_e ?_
 refine then_normal ?_
 refine wp_seq ?_
 refine d_s [0,1,12,13] [(2, g_i .i64 (min_n s))] En10 fun ac12 En13 => ?_
 refine wp_block ?_
 refine loop_m (fun ms14 ac wo => ∃ (i : Nat) (a2 : Option Addr) (c2 : Nat) (m : Bs), ms14 = (min (List.length s) 1025 - i : Nat) ∧ Env ac 53 [(0, .string (bstr s)), (1, .func (.func 23) #[pt sb] #[]), (12, .int .i64 ((min (List.length s) 1025 : Nat) : Int)), (13, ni i)] ∧ Ev w [.box sb [bp u sb, .slice a (List.length l) c] 61, .vec a c 1 (bys l) 5] wo [.box sb [bp true sb, .slice a2 (List.length m) c2] 61, .vec a2 c2 1 (bys m) 5] ∧ (i ≤ min (List.length s) 1025) ∧ (m = l ++ 34 :: List.flatMap escB (List.take i s)) ∧ (List.length m ≤ List.length l + 1 + 4 * i)) ⟨_, 0, ab3, cb4, (l ++ [(34 : UInt8)]), rfl, En13.sub (by kernel_rfl), Hv11.pick [0, 1] (by kernel_rfl) (by decide), (Nat.zero_le _), (by simp), (by simp)⟩ ?_
 rintro mm20 ac16 wo17 ⟨i, a2, c2, m, rfl, En18, Hv19, hi, hm, hml⟩
 refine d_s [0,1,12,13,14] [] En18 fun ac21 En22 => ?_
 refine wp_seq ?_
 refine c_d (((i : Nat) : Int) < ((min (List.length s) 1025 : Nat) : Int)) En22 (fun hc23 => ?_) (fun hc23 => ?_)
 ·
  refine wp_skip ?_
  refine then_normal ?_
  refine wp_seq ?_
  refine wp_block ?_
  refine d_s [0,1,4,12,13] [] En22 fun ac24 En25 => ?_
  have hb26 : i < List.length s := by first | omega | exact hex_hi _ | exact hex_lo _
  refine wp_seq ?_
  refine region_from ?_
  refine d_k [0,1,12,13,16,17] [] 2 En25 fun ac27 En28 => ?_
  refine f_o ?_
  refine q_v (x := Instr.index 9 (.string (bstr s)) (ni i)) (v := .int .u8 ((UInt8.toNat (List.getD s i 0) : Nat) : Int)) En28 (Go.Dbr.run_indexstr (s := s) (j := i) (by kernel_rfl) (by omega) hb26 _) fun ac29 En30 => ?_
  refine d_e [0,1,5,12,13] [] En30 fun ac31 En32 => ?_
  refine then_normal ?_
  refine wp_block ?_
  refine wp_seq ?_
  refine wp_block ?_
  refine wp_seq ?_
  refine wp_block ?_
  refine wp_seq ?_
  refine wp_block ?_
  refine wp_seq ?_
  refine wp_seq ?_
  refine wp_seq ?_
  refine region_from ?_
  refine d_k [0,1,5,12,13,22] [] 3 En32 fun ac33 En34 => ?_
  rcases Bool.eq_false_or_eq_true (((UInt8.toNat (List.getD s i 0) : Nat) : Int) == (34 : Int)) with hb35 | hb35
  ·
   have En36 := En34.fx (t := 22) (congrArg Value.bool hb35)
   have hp37 : ((UInt8.toNat (List.getD s i 0) : Nat) : Int) = (34 : Int) := eq_of_beq hb35
   refine d_e [0,1,5,12,13,19] [] En36 fun ac38 En39 => ?_
   refine then_normal ?_
   refine c_t En39 ?_
   refine wp_exit ?_
   refine then_exit ?_
   refine then_exit ?_
   refine block_exit ?_
   refine then_normal ?_
   refine region_from ?_
   refine d_k [0,1,5,12,13,29] [] 1 En39 fun ac40 En41 => ?_
   refine f_o ?_
   refine c_l [0,1] (M := [.box sb [bp true sb, .slice a2 (List.length m) c2] 61, .vec a2 c2 1 (bys m) 5]) En41 Hv19 (fun hM44 => wbyte_go _ true sb a2 c2 m (92 : UInt8) (by first | omega | (simp only [List.length_append, List.length_cons, List.length_nil] at *; omega)) hM44) ?_
   rintro _ wo45 ⟨ab42, cb43, rfl, he46⟩
   refine ⟨_, _, [.box sb [bp true sb, .slice ab42 (List.length (m ++ [(92 : UInt8)])) cb43] 61, .vec ab42 cb43 1 (bys (m ++ [(92 : UInt8)])) 5], rfl, he46, by kernel_rfl, fun ac48 En49 Hv50 => ?_⟩
   refine f_e ?_
   refine block_normal ?_
   refine then_normal ?_
   refine wp_seq ?_
   refine region_from ?_
   refine d_k [0,1,5,12,13,31,32] [] 2 En49 fun ac51 En52 => ?_
   refine f_o ?_
   refine c_l [0,1] (M := [.box sb [bp true sb, .slice ab42 (List.length (m ++ [(92 : UInt8)])) cb43] 61, .vec ab42 cb43 1 (bys (m ++ [(92 : UInt8)])) 5]) En52 Hv50 (fun hM55 => wbyte_go _ true sb ab42 cb43 (m ++ [(92 : UInt8)]) (List.getD s i 0) (by first | omega | (simp only [List.length_append, List.length_cons, List.length_nil] at *; omega)) hM55) ?_
   rintro _ wo56 ⟨ab53, cb54, rfl, he57⟩
   refine ⟨_, _, [.box sb [bp true sb, .slice ab53 (List.length ((m ++ [(92 : UInt8)]) ++ [List.getD s i 0])) cb54] 61, .vec ab53 cb54 1 (bys ((m ++ [(92 : UInt8)]) ++ [List.getD s i 0])) 5], rfl, he57, by kernel_rfl, fun ac59 En60 Hv61 => ?_⟩
   refine f_e ?_
   refine then_normal ?_
   refine wp_exit ?_
   refine block_past (by kernel_rfl) ?_
   refine then_exit ?_
   refine block_exit ?_
   refine block_normal ?_
   refine then_normal ?_
   refine d_r [0,1,5,12,13] [(0, g_n (w_a i 1))] En60 fun ac62 En63 => ?_
   refine then_normal ?_
   refine ⟨_, ⟨i + 1, ab53, cb54, ((m ++ [(92 : UInt8)]) ++ [List.getD s i 0]), rfl, En63.sub (by kernel_rfl), Hv61.pick [0, 1] (by kernel_rfl) (by decide), (by omega), (by first | exact q_p hm (by omega) (by assumption) | exact q_q hm (by omega) (u8_34 (by assumption)) | exact q_q hm (by omega) (u8_92 (by assumption)) | (rw [hm2, show j = 4 from by omega]; exact q_h hm (by omega) (by assumption) (u8_n (by assumption) (by assumption)))), (by first | (simp only [List.length_append, List.length_cons, List.length_nil]; omega) | (have := congrArg List.length hm2; simp [hexS] at this; omega))⟩, ?_⟩
   omega
  ·
   have En64 := En34.fx (t := 22) (congrArg Value.bool hb35)
   have hp65 : ¬ (((UInt8.toNat (List.getD s i 0) : Nat) : Int) = (34 : Int)) := ne_of_beq_false hb35
   refine d_e [0,1,5,12,13,19] [] En64 fun ac66 En67 => ?_
   refine then_normal ?_
   refine c_e ((UInt8.toNat (List.getD s i 0) : Nat) : Int) (92 : Int) En67 (fun hc68 => ?_) (fun hc68 => ?_)
   ·
    refine wp_exit ?_
    refine then_exit ?_
    refine then_exit ?_
    refine block_exit ?_
    refine then_normal ?_
    refine region_from ?_
    refine d_k [0,1,5,12,13,29] [] 1 En67 fun ac69 En70 => ?_
    refine f_o ?_
    refine c_l [0,1] (M := [.box sb [bp true sb, .slice a2 (List.length m) c2] 61, .vec a2 c2 1 (bys m) 5]) En70 Hv19 (fun hM73 => wbyte_go _ true sb a2 c2 m (92 : UInt8) (by first | omega | (simp only [List.length_append, List.length_cons, List.length_nil] at *; omega)) hM73) ?_
    rintro _ wo74 ⟨ab71, cb72, rfl, he75⟩
    refine ⟨_, _, [.box sb [bp true sb, .slice ab71 (List.length (m ++ [(92 : UInt8)])) cb72] 61, .vec ab71 cb72 1 (bys (m ++ [(92 : UInt8)])) 5], rfl, he75, by kernel_rfl, fun ac77 En78 Hv79 => ?_⟩
    refine f_e ?_
    refine block_normal ?_
    refine then_normal ?_
    refine wp_seq ?_
    refine region_from ?_
    refine d_k [0,1,5,12,13,31,32] [] 2 En78 fun ac80 En81 => ?_
    refine f_o ?_
    refine c_l [0,1] (M := [.box sb [bp true sb, .slice ab71 (List.length (m ++ [(92 : UInt8)])) cb72] 61, .vec ab71 cb72 1 (bys (m ++ [(92 : UInt8)])) 5]) En81 Hv79 (fun hM84 => wbyte_go _ true sb ab71 cb72 (m ++ [(92 : UInt8)]) (List.getD s i 0) (by first | omega | (simp only [List.length_append, List.length_cons, List.length_nil] at *; omega)) hM84) ?_
    rintro _ wo85 ⟨ab82, cb83, rfl, he86⟩
    refine ⟨_, _, [.box sb [bp true sb, .slice ab82 (List.length ((m ++ [(92 : UInt8)]) ++ [List.getD s i 0])) cb83] 61, .vec ab82 cb83 1 (bys ((m ++ [(92 : UInt8)]) ++ [List.getD s i 0])) 5], rfl, he86, by kernel_rfl, fun ac88 En89 Hv90 => ?_⟩
    refine f_e ?_
    refine then_normal ?_
    refine wp_exit ?_
    refine block_past (by kernel_rfl) ?_
    refine then_exit ?_
    refine block_exit ?_
    refine block_normal ?_
    refine then_normal ?_
    refine d_r [0,1,5,12,13] [(0, g_n (w_a i 1))] En89 fun ac91 En92 => ?_
    refine then_normal ?_
    refine ⟨_, ⟨i + 1, ab82, cb83, ((m ++ [(92 : UInt8)]) ++ [List.getD s i 0]), rfl, En92.sub (by kernel_rfl), Hv90.pick [0, 1] (by kernel_rfl) (by decide), (by omega), (by first | exact q_p hm (by omega) (by assumption) | exact q_q hm (by omega) (u8_34 (by assumption)) | exact q_q hm (by omega) (u8_92 (by assumption)) | (rw [hm2, show j = 4 from by omega]; exact q_h hm (by omega) (by assumption) (u8_n (by assumption) (by assumption)))), (by first | (simp only [List.length_append, List.length_cons, List.length_nil]; omega) | (have := congrArg List.length hm2; simp [hexS] at this; omega))⟩, ?_⟩
    omega
   ·
    refine wp_skip ?_
    refine then_normal ?_
    refine wp_seq ?_
    refine region_from ?_
    refine d_k [0,1,5,12,13,27] [] 1 En67 fun ac93 En94 => ?_
    refine f_o ?_
    refine c_p En94 Hv19 (plain_go _ (List.getD s i 0)) fun ac99 wo96 En100 Hv101 => ?_
    refine d_e [0,1,5,12,13,26] [] En100 fun ac102 En103 => ?_
    refine then_normal ?_
    refine cond_at En103 (t := plB (List.getD s i 0)) (by kernel_rfl) (fun hc104 => ?_) (fun hc104 => ?_)
    ·
     replace hc104 : plB (List.getD s i 0) = true := hc104
     refine wp_exit ?_
     refine then_exit ?_
     refine block_past (by kernel_rfl) ?_
     refine then_exit ?_
     refine block_exit ?_
     refine then_normal ?_
     refine wp_seq ?_
     refine region_from ?_
     refine d_k [0,1,5,12,13,31,32] [] 2 En103 fun ac105 En106 => ?_
     refine f_o ?_
     refine c_l [0,1] (M := [.box sb [bp true sb, .slice a2 (List.length m) c2] 61, .vec a2 c2 1 (bys m) 5]) En106 Hv101 (fun hM109 => wbyte_go _ true sb a2 c2 m (List.getD s i 0) (by first | omega | (simp only [List.length_append, List.length_cons, List.length_nil] at *; omega)) hM109) ?_
     rintro _ wo110 ⟨ab107, cb108, rfl, he111⟩
     refine ⟨_, _, [.box sb [bp true sb, .slice ab107 (List.length (m ++ [List.getD s i 0])) cb108] 61, .vec ab107 cb108 1 (bys (m ++ [List.getD s i 0])) 5], rfl, he111, by kernel_rfl, fun ac113 En114 Hv115 => ?_⟩
     refine f_e ?_
     refine then_normal ?_
     refine wp_exit ?_
     refine block_past (by kernel_rfl) ?_
     refine then_exit ?_
     refine block_exit ?_
     refine block_normal ?_
     refine then_normal ?_
     refine d_r [0,1,5,12,13] [(0, g_n (w_a i 1))] En114 fun ac116 En117 => ?_
     refine then_normal ?_
     refine ⟨_, ⟨i + 1, ab107, cb108, (m ++ [List.getD s i 0]), rfl, En117.sub (by kernel_rfl), Hv115.pick [0, 1] (by kernel_rfl) (by decide), (by omega), (by first | exact q_p hm (by omega) (by assumption) | exact q_q hm (by omega) (u8_34 (by assumption)) | exact q_q hm (by omega) (u8_92 (by assumption)) | (rw [hm2, show j = 4 from by omega]; exact q_h hm (by omega) (by assumption) (u8_n (by assumption) (by assumption)))), (by first | (simp only [List.length_append, List.length_cons, List.length_nil]; omega) | (have := congrArg List.length hm2; simp [hexS] at this; omega))⟩, ?_⟩
     omega
    ·
     replace hc104 : ¬ (plB (List.getD s i 0) = true) := Bool.eq_false_iff.1 hc104
     refine wp_skip ?_
     refine then_normal ?_
     refine wp_exit ?_
     refine block_past (by kernel_rfl) ?_
     refine then_exit ?_
     refine block_past (by kernel_rfl) ?_
     refine then_exit ?_
     refine block_exit ?_
     refine then_normal ?_
     refine wp_seq ?_
     refine wp_seq ?_
     refine r_c (fun ac wo => ∃ (bk131 : Nat), Env ac 53 [(0, .string (bstr s)), (1, .func (.func 23) #[pt sb] #[]), (5, .int .u8 ((UInt8.toNat (List.getD s i 0) : Nat) : Int)), (12, .int .i64 ((min (List.length s) 1025 : Nat) : Int)), (13, ni i), (40, .slice (some ⟨bk131, 0, none⟩) 4 4), (41, .int .i64 4), (42, .int .i64 0)] ∧ Ev w [.box sb [bp u sb, .slice a (List.length l) c] 61, .vec a c 1 (bys l) 5] wo [.box sb [bp true sb, .slice a2 (List.length m) c2] 61, .vec a2 c2 1 (bys m) 5, .vec (some ⟨bk131, 0, none⟩) 4 1 (bys [(92 : UInt8), (120 : UInt8), List.getD [48, 49, 50, 51, 52, 53, 54, 55, 56, 57, 97, 98, 99, 100, 101, 102] (UInt8.toNat ((List.getD s i 0) >>> UInt8.ofNat 4)) 0, List.getD [48, 49, 50, 51, 52, 53, 54, 55, 56, 57, 97, 98, 99, 100, 101, 102] (UInt8.toNat ((List.getD s i 0) &&& (15 : UInt8))) 0]) 5]) ?_ ?_
     ·
      refine draw_any (by kernel_rfl) 9 (by kernel_rfl) ?_
      have wo118 := Hv101.trans (Ev.drew Hv101.heap)
      have hb138 : UInt8.toNat ((List.getD s i 0) >>> UInt8.ofNat 4) < List.length [48, 49, 50, 51, 52, 53, 54, 55, 56, 57, 97, 98, 99, 100, 101, 102] := by first | omega | exact hex_hi _ | exact hex_lo _
      refine q_a [0,1] [(1, g_i .u8 (Go.Dbr.u8_shr (x := List.getD s i 0) (n := 4) rfl (by decide)))] 7 En103 fun ac139 En140 => ?_
      refine q_g 2 (s := Instr.index 9 (.string (bstr [48, 49, 50, 51, 52, 53, 54, 55, 56, 57, 97, 98, 99, 100, 101, 102])) (.int .u8 ((UInt8.toNat ((List.getD s i 0) >>> UInt8.ofNat 4) : Nat) : Int))) (v := .int .u8 ((UInt8.toNat (List.getD [48, 49, 50, 51, 52, 53, 54, 55, 56, 57, 97, 98, 99, 100, 101, 102] (UInt8.toNat ((List.getD s i 0) >>> UInt8.ofNat 4)) 0) : Nat) : Int)) En140 (fun _ => Go.Dbr.run_indexstr (s := [48, 49, 50, 51, 52, 53, 54, 55, 56, 57, 97, 98, 99, 100, 101, 102]) (j := (UInt8.toNat ((List.getD s i 0) >>> UInt8.ofNat 4))) (by kernel_rfl) (by omega) hb138 _) fun ac141 En142 => ?_
      have hb143 : UInt8.toNat ((List.getD s i 0) &&& (15 : UInt8)) < List.length [48, 49, 50, 51, 52, 53, 54, 55, 56, 57, 97, 98, 99, 100, 101, 102] := by first | omega | exact hex_hi _ | exact hex_lo _
      refine q_a [3,4] [(4, g_i .u8 (Go.Dbr.u8_and (x := List.getD s i 0) (y := (15 : UInt8)) rfl rfl))] 4 En142 fun ac144 En145 => ?_
      refine q_g 5 (s := Instr.index 9 (.string (bstr [48, 49, 50, 51, 52, 53, 54, 55, 56, 57, 97, 98, 99, 100, 101, 102])) (.int .u8 ((UInt8.toNat ((List.getD s i 0) &&& (15 : UInt8)) : Nat) : Int))) (v := .int .u8 ((UInt8.toNat (List.getD [48, 49, 50, 51, 52, 53, 54, 55, 56, 57, 97, 98, 99, 100, 101, 102] (UInt8.toNat ((List.getD s i 0) &&& (15 : UInt8))) 0) : Nat) : Int)) En145 (fun _ => Go.Dbr.run_indexstr (s := [48, 49, 50, 51, 52, 53, 54, 55, 56, 57, 97, 98, 99, 100, 101, 102]) (j := (UInt8.toNat ((List.getD s i 0) &&& (15 : UInt8)))) (by kernel_rfl) (by omega) hb143 _) fun ac146 En147 => ?_
      refine q_a [8] [] 2 En147 fun ac148 En149 => ?_
      refine q_u 6 ?_
      refine op_lit (d := some 40) (t := 59) (T := 5) (m := 4) (parts := #[(0, .int .u8 92), (1, .int .u8 120), (2, .int .u8 ((UInt8.toNat (List.getD [48, 49, 50, 51, 52, 53, 54, 55, 56, 57, 97, 98, 99, 100, 101, 102] (UInt8.toNat ((List.getD s i 0) >>> UInt8.ofNat 4)) 0) : Nat) : Int)), (3, .int .u8 ((UInt8.toNat (List.getD [48, 49, 50, 51, 52, 53, 54, 55, 56, 57, 97, 98, 99, 100, 101, 102] (UInt8.toNat ((List.getD s i 0) &&& (15 : UInt8))) 0) : Nat) : Int))]) (xs := bys [(92 : UInt8), (120 : UInt8), List.getD [48, 49, 50, 51, 52, 53, 54, 55, 56, 57, 97, 98, 99, 100, 101, 102] (UInt8.toNat ((List.getD s i 0) >>> UInt8.ofNat 4)) 0, List.getD [48, 49, 50, 51, 52, 53, 54, 55, 56, 57, 97, 98, 99, 100, 101, 102] (UInt8.toNat ((List.getD s i 0) &&& (15 : UInt8))) 0]) (sz := 1) En149 (by kernel_rfl) (by kernel_rfl) rfl (by decide) wo118 ?_
      intro ac151 wo152 bk150 En153 Hv154
      refine q_a [7] [] 0 En153 fun ac155 En156 => ?_
      exact a_e ⟨bk150, En156.sub (by kernel_rfl), Hv154.pick [0, 1, 2] (by kernel_rfl) (by decide)⟩
     rintro ac157 wo158 ⟨bk131, En159, Hv160⟩
     refine then_normal ?_
     refine wp_block ?_
     refine loop_m (fun ms161 ac wo => ∃ (j : Nat) (a3 : Option Addr) (c3 : Nat) (m2 : Bs), ms161 = (4 - j : Nat) ∧ Env ac 53 [(0, .string (bstr s)), (1, .func (.func 23) #[pt sb] #[]), (5, .int .u8 ((UInt8.toNat (List.getD s i 0) : Nat) : Int)), (12, .int .i64 ((min (List.length s) 1025 : Nat) : Int)), (13, ni i), (40, .slice (some ⟨bk131, 0, none⟩) 4 4), (41, .int .i64 4), (42, ni j)] ∧ Ev w [.box sb [bp u sb, .slice a (List.length l) c] 61, .vec a c 1 (bys l) 5] wo [.box sb [bp true sb, .slice a3 (List.length m2) c3] 61, .vec a3 c3 1 (bys m2) 5, .vec (some ⟨bk131, 0, none⟩) 4 1 (bys [(92 : UInt8), (120 : UInt8), List.getD [48, 49, 50, 51, 52, 53, 54, 55, 56, 57, 97, 98, 99, 100, 101, 102] (UInt8.toNat ((List.getD s i 0) >>> UInt8.ofNat 4)) 0, List.getD [48, 49, 50, 51, 52, 53, 54, 55, 56, 57, 97, 98, 99, 100, 101, 102] (UInt8.toNat ((List.getD s i 0) &&& (15 : UInt8))) 0]) 5] ∧ (j ≤ 4) ∧ (m2 = m ++ List.take j (hexS (s.getD i 0))) ∧ (List.length m2 ≤ List.length m + j)) ⟨_, 0, a2, c2, m, rfl, En159.sub (by kernel_rfl), Hv160.pick [0, 1, 2] (by kernel_rfl) (by decide), (Nat.zero_le _), (by simp), (Nat.le_refl _)⟩ ?_
     rintro mm167 ac163 wo164 ⟨j, a3, c3, m2, rfl, En165, Hv166, hj, hm2, hm2l⟩
     refine d_s [0,1,5,12,13,40,41,42,43] [] En165 fun ac168 En169 => ?_
     refine wp_seq ?_
     refine c_d (((j : Nat) : Int) < (4 : Int)) En169 (fun hc170 => ?_) (fun hc170 => ?_)
     ·
      refine wp_skip ?_
      refine then_normal ?_
      refine wp_seq ?_
      refine wp_block ?_
      have hb173 : j < 4 := (by omega)
      refine wp_seq ?_
      refine region_from ?_
      refine f_o ?_
      refine q_v (x := Instr.indexAt 59 (.slice (some ⟨bk131, 0, none⟩) 4 4) (ni j)) (v := .pointer (some (Addr.add ⟨bk131, 0, none⟩ j))) En169 (Go.Dbr.run_indexsl (e := 5) (sz := 1) (j := j) (jo := j) rfl (by kernel_rfl) (by kernel_rfl) (by omega) hb173 (Nat.mul_one _) _) fun ac174 En175 => ?_
      refine f_o ?_
      have hb176 : j < List.length [(92 : UInt8), (120 : UInt8), List.getD [48, 49, 50, 51, 52, 53, 54, 55, 56, 57, 97, 98, 99, 100, 101, 102] (UInt8.toNat ((List.getD s i 0) >>> UInt8.ofNat 4)) 0, List.getD [48, 49, 50, 51, 52, 53, 54, 55, 56, 57, 97, 98, 99, 100, 101, 102] (UInt8.toNat ((List.getD s i 0) &&& (15 : UInt8))) 0] := by omega
      refine op_loadel (d := some 45) (t := 5) (ad := ⟨bk131, 0, none⟩) (ao := some ⟨bk131, 0, none⟩) (xs := bys [(92 : UInt8), (120 : UInt8), List.getD [48, 49, 50, 51, 52, 53, 54, 55, 56, 57, 97, 98, 99, 100, 101, 102] (UInt8.toNat ((List.getD s i 0) >>> UInt8.ofNat 4)) 0, List.getD [48, 49, 50, 51, 52, 53, 54, 55, 56, 57, 97, 98, 99, 100, 101, 102] (UInt8.toNat ((List.getD s i 0) &&& (15 : UInt8))) 0]) (j := j) (v := .int .u8 ((UInt8.toNat (List.getD [(92 : UInt8), (120 : UInt8), List.getD [48, 49, 50, 51, 52, 53, 54, 55, 56, 57, 97, 98, 99, 100, 101, 102] (UInt8.toNat ((List.getD s i 0) >>> UInt8.ofNat 4)) 0, List.getD [48, 49, 50, 51, 52, 53, 54, 55, 56, 57, 97, 98, 99, 100, 101, 102] (UInt8.toNat ((List.getD s i 0) &&& (15 : UInt8))) 0] j 0) : Nat) : Int)) En175 (by kernel_rfl) (Hv166.heap.reads (k := 2) rfl) rfl (bys_getD hb176) (by kernel_rfl) ?_
      intro ac177 En178
      refine d_e [0,1,5,7,12,13,40,41,42] [] En178 fun ac179 En180 => ?_
      refine then_normal ?_
      refine region_from ?_
      refine d_k [0,1,5,12,13,40,41,42,46,47] [] 2 En180 fun ac181 En182 => ?_
      refine f_o ?_
      refine c_l [0,1] (M := [.box sb [bp true sb, .slice a3 (List.length m2) c3] 61, .vec a3 c3 1 (bys m2) 5]) En182 Hv166 (fun hM185 => wbyte_go _ true sb a3 c3 m2 (List.getD [(92 : UInt8), (120 : UInt8), List.getD [48, 49, 50, 51, 52, 53, 54, 55, 56, 57, 97, 98, 99, 100, 101, 102] (UInt8.toNat ((List.getD s i 0) >>> UInt8.ofNat 4)) 0, List.getD [48, 49, 50, 51, 52, 53, 54, 55, 56, 57, 97, 98, 99, 100, 101, 102] (UInt8.toNat ((List.getD s i 0) &&& (15 : UInt8))) 0] j 0) (by first | omega | (simp only [List.length_append, List.length_cons, List.length_nil] at *; omega)) hM185) ?_
      rintro _ wo186 ⟨ab183, cb184, rfl, he187⟩
      refine ⟨_, _, [.box sb [bp true sb, .slice ab183 (List.length (m2 ++ [List.getD [(92 : UInt8), (120 : UInt8), List.getD [48, 49, 50, 51, 52, 53, 54, 55, 56, 57, 97, 98, 99, 100, 101, 102] (UInt8.toNat ((List.getD s i 0) >>> UInt8.ofNat 4)) 0, List.getD [48, 49, 50, 51, 52, 53, 54, 55, 56, 57, 97, 98, 99, 100, 101, 102] (UInt8.toNat ((List.getD s i 0) &&& (15 : UInt8))) 0] j 0])) cb184] 61, .vec ab183 cb184 1 (bys (m2 ++ [List.getD [(92 : UInt8), (120 : UInt8), List.getD [48, 49, 50, 51, 52, 53, 54, 55, 56, 57, 97, 98, 99, 100, 101, 102] (UInt8.toNat ((List.getD s i 0) >>> UInt8.ofNat 4)) 0, List.getD [48, 49, 50, 51, 52, 53, 54, 55, 56, 57, 97, 98, 99, 100, 101, 102] (UInt8.toNat ((List.getD s i 0) &&& (15 : UInt8))) 0] j 0])) 5, .vec (some ⟨bk131, 0, none⟩) 4 1 (bys [(92 : UInt8), (120 : UInt8), List.getD [48, 49, 50, 51, 52, 53, 54, 55, 56, 57, 97, 98, 99, 100, 101, 102] (UInt8.toNat ((List.getD s i 0) >>> UInt8.ofNat 4)) 0, List.getD [48, 49, 50, 51, 52, 53, 54, 55, 56, 57, 97, 98, 99, 100, 101, 102] (UInt8.toNat ((List.getD s i 0) &&& (15 : UInt8))) 0]) 5], rfl, he187, by kernel_rfl, fun ac189 En190 Hv191 => ?_⟩
      refine f_e ?_
      refine block_normal ?_
      refine then_normal ?_
      refine d_r [0,1,5,12,13,40,41,42] [(0, g_n (w_a j 1))] En190 fun ac192 En193 => ?_
      refine then_normal ?_
      refine ⟨_, ⟨j + 1, ab183, cb184, (m2 ++ [List.getD [(92 : UInt8), (120 : UInt8), List.getD [48, 49, 50, 51, 52, 53, 54, 55, 56, 57, 97, 98, 99, 100, 101, 102] (UInt8.toNat ((List.getD s i 0) >>> UInt8.ofNat 4)) 0, List.getD [48, 49, 50, 51, 52, 53, 54, 55, 56, 57, 97, 98, 99, 100, 101, 102] (UInt8.toNat ((List.getD s i 0) &&& (15 : UInt8))) 0] j 0]), rfl, En193.sub (by kernel_rfl), Hv191.pick [0, 1, 2] (by kernel_rfl) (by decide), (by omega), (by rw [hex_s]; exact hex_next hm2 (by simp [hexS]; omega)), (by simp only [List.length_append, List.length_cons, List.length_nil]; omega)⟩, ?_⟩
      omega
     ·
      refine wp_exit ?_
      refine then_exit ?_
      refine then_exit ?_
      refine block_exit ?_
      refine then_normal ?_
      refine wp_exit ?_
      refine block_exit ?_
      refine block_normal ?_
      refine then_normal ?_
      refine d_r [0,1,5,12,13,40,41,42] [(0, g_n (w_a i 1))] En169 fun ac194 En195 => ?_
      refine then_normal ?_
      refine ⟨_, ⟨i + 1, a3, c3, m2, rfl, En195.sub (by kernel_rfl), Hv166.pick [0, 1] (by kernel_rfl) (by decide), (by omega), (by first | exact q_p hm (by omega) (by assumption) | exact q_q hm (by omega) (u8_34 (by assumption)) | exact q_q hm (by omega) (u8_92 (by assumption)) | (rw [hm2, show j = 4 from by omega]; exact q_h hm (by omega) (by assumption) (u8_n (by assumption) (by assumption)))), (by first | (simp only [List.length_append, List.length_cons, List.length_nil]; omega) | (have := congrArg List.length hm2; simp [hexS] at this; omega))⟩, ?_⟩
      omega
 ·
  refine wp_exit ?_
  refine then_exit ?_
  refine then_exit ?_
  refine block_exit ?_
  refine then_normal ?_
  refine region_from ?_
  refine d_k [0,1,12,13,51] [] 1 En22 fun ac196 En197 => ?_
  refine f_o ?_
  refine c_l [0,1] (M := [.box sb [bp true sb, .slice a2 (List.length m) c2] 61, .vec a2 c2 1 (bys m) 5]) En197 Hv19 (fun hM200 => wbyte_go _ true sb a2 c2 m (34 : UInt8) (by first | omega | (simp only [List.length_append, List.length_cons, List.length_nil] at *; omega)) hM200) ?_
  rintro _ wo201 ⟨ab198, cb199, rfl, he202⟩
  refine ⟨_, _, [.box sb [bp true sb, .slice ab198 (List.length (m ++ [(34 : UInt8)])) cb199] 61, .vec ab198 cb199 1 (bys (m ++ [(34 : UInt8)])) 5], rfl, he202, by kernel_rfl, fun ac204 En205 Hv206 => ?_⟩
  refine f_e ?_
  refine d_end0 En205 (by kernel_rfl) ?_
  rw [show m ++ [34] = l ++ quoL (List.take 1025 s) from q_end hm (by omega)] at Hv206
  exact ⟨ab198, cb199, rfl, Hv206.pick [0, 1] (by kernel_rfl) (by decide)⟩

end Go.Proofs.YtfcfgbejpcmmkaaDoor

/- Layer 3: texts between quotes, as the document writes them. -/


namespace Go.Proofs.YtfcfgbejpcmmkaaDoor
open Go.Dbr
set_option maxRecDepth 100000
set_option maxHeartbeats 2000000
set_option linter.unusedVariables false
set_option linter.unusedSimpArgs false

end Go.Proofs.YtfcfgbejpcmmkaaDoor

/- Layer 3: keys. -/


namespace Go.Proofs.YtfcfgbejpcmmkaaDoor
open Go.Dbr
set_option maxRecDepth 100000
set_option maxHeartbeats 2000000
set_option linter.unusedVariables false
set_option linter.unusedSimpArgs false

abbrev RPair := (List UInt8) × (Bool) × (UInt64) × (List UInt8) × Unit
abbrev fPair : RPair → List Value := (fun p : (List UInt8) × (Bool) × (UInt64) × (List UInt8) × Unit => (fun l : List UInt8 => [.string (bstr l)]) p.1 ++ (fun p : (Bool) × (UInt64) × (List UInt8) × Unit => (fun b : Bool => [.bool b]) p.1 ++ (fun p : (UInt64) × (List UInt8) × Unit => (fun n : UInt64 => [uv64 n]) p.1 ++ (fun p : (List UInt8) × Unit => (fun l : List UInt8 => [.string (bstr l)]) p.1 ++ (fun _ : Unit => []) p.2) p.2) p.2) p.2)
def fdN (t : Bs) : List RPair → Nat
  | [] => 0
  | p :: r => if p.1 = t then 0 else fdN t r + 1
def fdI (t : Bs) (ps : List RPair) : Int := if fdN t ps < ps.length then (fdN t ps : Int) else -1
def hasK (t : Bs) (ps : List RPair) : Bool := decide (fdN t ps < ps.length)
theorem fd_hit {t : Bs} {xs : List RPair} {i : Nat} {x : RPair} (hi : fdN t xs = i + fdN t (List.drop i xs)) (hx : xs[i]? = some x) (e : x.1 = t) : fdN t xs = i := by
  obtain ⟨hl, hg⟩ := List.getElem?_eq_some_iff.1 hx
  rw [hi, List.drop_eq_getElem_cons hl, hg, fdN, if_pos e, Nat.add_zero]
theorem fd_go {t : Bs} {xs : List RPair} {i : Nat} {x : RPair} (hi : fdN t xs = i + fdN t (List.drop i xs)) (hx : xs[i]? = some x) (e : ¬ x.1 = t) : fdN t xs = i + 1 + fdN t (List.drop (i + 1) xs) := by
  obtain ⟨hl, hg⟩ := List.getElem?_eq_some_iff.1 hx
  rw [hi, List.drop_eq_getElem_cons hl, hg, fdN, if_neg e]
  omega
theorem fd_end {t : Bs} {xs : List RPair} {i : Nat} (hi : fdN t xs = i + fdN t (List.drop i xs)) (h : ¬ i < xs.length) : ¬ fdN t xs < xs.length := by rw [hi]; omega
theorem fdI_n {t : Bs} {ps : List RPair} (h : ¬ fdN t ps < ps.length) : fdI t ps = -1 := by rw [fdI, if_neg h]
theorem fdI_y {t : Bs} {ps : List RPair} (h : fdN t ps < ps.length) : fdI t ps = (fdN t ps : Int) := by rw [fdI, if_pos h]
theorem fdI_ge (t : Bs) (ps : List RPair) : decide (fdI t ps ≥ (0 : Int)) = hasK t ps := by
  rw [hasK, fdI]
  split
  · rename_i h; rw [decide_eq_true h]; exact decide_eq_true (by omega)
  · rename_i h; rw [decide_eq_false h]; exact decide_eq_false (by omega)
/-- may a key stand behind pairs? -/
def keyB (k : Bs) (ps : List RPair) : Bool := wordB k && !(k == [116]) && !(k == [101, 118]) && !hasK k ps
theorem key_w {k : Bs} {ps : List RPair} (h : keyB k ps = true) : k.length ≤ 32 := by
  unfold keyB at h
  simp only [Bool.and_eq_true] at h
  exact (word_len h.1.1.1).2

theorem keyed1_go (w : World) (tb : Nat) (t k : Bs) (b : Bool) (n : UInt64) (v : Bs) (hH : Heap w [.box tb [.string (bstr t)] 9]) : Calls Tryd.prog 39 #[.agg #[.string (bstr k), .bool b, uv64 n, .string (bstr v)], pt tb] w fun e w' => e = .returned (.bool (k == t)) ∧ Ev w [.box tb [.string (bstr t)] 9] w' [.box tb [.string (bstr t)] 9] := by
 refine d_0 [(0, .agg #[.string (bstr k), .bool b, uv64 n, .string (bstr v)]), (1, pt tb)] 8 Go.Proofs.Tryd.func39 Go.Proofs.Tryd.ntmps39 (hH) fun act0 En0 Hv0 => ?_
 refine wp_seq ?_
 refine region_from ?_
 refine f_o ?_
 refine m_m 35 [.string (bstr k), .bool b, uv64 n, .string (bstr v)] En0 Hv0 fun ac2 wo3 bk1 En4 Hv5 => ?_
 refine d_e [1,2,3] [] En4 fun ac6 En7 => ?_
 refine then_normal ?_
 refine wp_seq ?_
 refine region_from ?_
 refine d_k [1,3,4] [] 1 En7 fun ac8 En9 => ?_
 refine f_o ?_
 refine m_l 1 En9 Hv5 fun ac10 En11 => ?_
 refine f_o ?_
 refine m_l 0 En11 Hv5 fun ac12 En13 => ?_
 refine d_e [3] [(3, g_v (show (.bool (ByteArray.toList (bstr k) == ByteArray.toList (bstr t)) : Value) = .bool (k == t) by rw [Go.Dbr.bstr_eq k t] <;> rfl))] En13 fun ac14 En15 => ?_
 refine then_normal ?_
 refine wp_ret ?_
 refine d_ret1 (t := 3) (v := .bool (k == t)) En15 (by kernel_rfl) (by kernel_rfl) ?_
 exact ⟨rfl, Hv5.pick [0] (by kernel_rfl) (by decide)⟩

theorem indexf_go (w : World) (tb : Nat) (t : Bs) (al : Option Addr) (cl : Nat) (xs : List RPair) (il : InS fPair 48 (fun y : RPair => ((List.length y.1 ≤ 140737488351232) ∧ (True ∧ (True ∧ ((List.length y.2.2.2.1 ≤ 140737488351232) ∧ (True)))))) w [.box tb [.string (bstr t)] 9] al cl xs) (hH : Heap w [.box tb [.string (bstr t)] 9]) : Calls Tryd.prog 55 #[.slice al (List.length xs) cl, .func (.func 39) #[] #[pt tb]] w fun e w' => e = .returned (.int .i64 (fdI t xs)) ∧ Ev w [.box tb [.string (bstr t)] 9] w' [.box tb [.string (bstr t)] 9] := by
 refine d_0 [(0, .slice al (List.length xs) cl), (1, .func (.func 39) #[] #[pt tb])] 19 Go.Proofs.Tryd.func55 Go.Proofs.Tryd.ntmps55 (hH) fun act0 En0 Hv0 => ?_
 refine wp_seq ?_
 refine d_r [0,1,4] [] En0 fun ac1 En2 => ?_
 refine then_normal ?_
 refine wp_seq ?_
 refine wp_seq ?_
 refine d_r [0,1,4,7,8] [] En2 fun ac3 En4 => ?_
 refine then_normal ?_
 refine wp_block ?_
 refine loop_m (fun ms5 ac wo => ∃ (i : Nat), ms5 = (List.length xs + 1 - i : Nat) ∧ Env ac 19 [(0, .slice al (List.length xs) cl), (1, .func (.func 39) #[] #[pt tb]), (7, .int .i64 ((List.length xs : Nat) : Int)), (8, ni i)] ∧ Ev w [.box tb [.string (bstr t)] 9] wo [.box tb [.string (bstr t)] 9] ∧ (fdN t xs = i + fdN t (List.drop i xs))) ⟨_, 0, rfl, En4.sub (by kernel_rfl), Hv0.pick [0] (by kernel_rfl) (by decide), (by rw [List.drop_zero, Nat.zero_add])⟩ ?_
 rintro mm11 ac7 wo8 ⟨i, rfl, En9, Hv10, hfi⟩
 refine wp_seq ?_
 refine d_r [0,1,7,8,9] [] En9 fun ac12 En13 => ?_
 refine then_normal ?_
 refine wp_seq ?_
 refine c_d (((i : Nat) : Int) < ((List.length xs : Nat) : Int)) En13 (fun hc14 => ?_) (fun hc14 => ?_)
 ·
  refine wp_skip ?_
  refine then_normal ?_
  refine wp_seq ?_
  refine wp_block ?_
  refine wp_seq ?_
  refine d_r [0,1,5,7,8] [] En13 fun ac15 En16 => ?_
  refine then_normal ?_
  refine wp_seq ?_
  have hzl := il.small
  have hb19 : i < List.length xs := (by omega)
  obtain ⟨adr17, had18⟩ := some_of il.nz hb19
  have hb20 : i < List.length xs := by omega
  obtain ⟨⟨x22a, x22b, x22c, x22d, _⟩, hx21⟩ : ∃ x, (xs)[i]? = some x := ⟨_, List.getElem?_eq_getElem hb20⟩
  obtain ⟨s_x22a, _, _, s_x22d, _⟩ := il.each _ (List.mem_of_getElem? hx21)
  replace s_x22a : (List.length x22a ≤ 140737488351232) := s_x22a
  replace s_x22d : (List.length x22d ≤ 140737488351232) := s_x22d
  refine region_from ?_
  refine d_k [0,1,5,7,8,11,12,13] [] 3 En16 fun ac23 En24 => ?_
  refine f_o ?_
  refine q_v (x := Instr.indexAt 23 (.slice al (List.length xs) cl) (ni i)) (v := .pointer (some (Addr.add adr17 (i * 4)))) En24 (Go.Dbr.run_indexsl (e := 35) (sz := 4) (j := i) (jo := i * 4) had18 (by kernel_rfl) (by kernel_rfl) (by omega) hb19 rfl _) fun ac25 En26 => ?_
  refine f_o ?_
  refine op_loadaggat (d := some 15) (t := 35) (ad := adr17) (ao := al) (ys := List.flatMap fPair xs) (o := i * 4) (m := 4) (xs := [.string (bstr x22a), .bool x22b, uv64 x22c, .string (bstr x22d)]) En26 (by kernel_rfl) rfl (il.ro.ev Hv10).reads had18 (fun j hj => ?_) rfl (by kernel_rfl) (by kernel_rfl) ?_
  ·
   exact flat_sub (sz := 4) (off := 0) (m := 4) (fun _ _ => rfl) hx21 (by decide) rfl j hj
  intro ac27 En28
  refine f_o ?_
  refine c_l [0] (M := [.box tb [.string (bstr t)] 9]) En28 Hv10 (fun hM29 => keyed1_go _ tb t x22a x22b x22c x22d hM29) ?_
  rintro _ wo30 ⟨rfl, he31⟩
  refine ⟨_, _, [.box tb [.string (bstr t)] 9], rfl, he31, by kernel_rfl, fun ac33 En34 Hv35 => ?_⟩
  refine f_e ?_
  refine then_normal ?_
  refine cond_at En34 (t := x22a == t) (by kernel_rfl) (fun hc36 => ?_) (fun hc36 => ?_)
  ·
   replace hc36 : x22a = t := eq_of_beq hc36
   refine wp_seq ?_
   refine d_r [0,1,4,5,7,8] [] En34 fun ac37 En38 => ?_
   refine then_normal ?_
   refine wp_ret ?_
   refine block_ret ?_
   refine then_ret ?_
   refine then_ret ?_
   refine block_ret ?_
   refine then_ret ?_
   refine d_ret1 (t := 4) (v := ni i) En38 (by kernel_rfl) (by kernel_rfl) ?_
   have hN := fd_hit hfi hx21 (by assumption)
   have hL : fdN t xs < List.length xs := by rw [hN]; omega
   exact ⟨congrArg (fun z => Ending.returned (Value.int .i64 z)) (by rw [fdI_y hL, hN]), Hv35.pick [0] (by kernel_rfl) (by decide)⟩
  ·
   replace hc36 : ¬ (x22a = t) := ne_of_beq_false hc36
   refine wp_skip ?_
   refine block_normal ?_
   refine then_normal ?_
   refine d_r [0,1,5,7,8] [(0, g_n (w_a i 1))] En34 fun ac39 En40 => ?_
   refine then_normal ?_
   refine ⟨_, ⟨i + 1, rfl, En40.sub (by kernel_rfl), Hv35.pick [0] (by kernel_rfl) (by decide), (fd_go hfi hx21 (by assumption))⟩, ?_⟩
   omega
 ·
  refine wp_exit ?_
  refine then_exit ?_
  refine then_exit ?_
  refine block_exit ?_
  refine then_normal ?_
  refine wp_seq ?_
  refine d_r [0,1,4,7,8] [] En13 fun ac41 En42 => ?_
  refine then_normal ?_
  refine wp_ret ?_
  refine d_ret1 (t := 4) (v := .int .i64 (-1)) En42 (by kernel_rfl) (by kernel_rfl) ?_
  exact ⟨congrArg (fun z => Ending.returned (Value.int .i64 z)) (fdI_n (fd_end hfi (by omega))).symm, Hv10.pick [0] (by kernel_rfl) (by decide)⟩

theorem contf_go (w : World) (tb : Nat) (t : Bs) (al : Option Addr) (cl : Nat) (xs : List RPair) (il : InS fPair 48 (fun y : RPair => ((List.length y.1 ≤ 140737488351232) ∧ (True ∧ (True ∧ ((List.length y.2.2.2.1 ≤ 140737488351232) ∧ (True)))))) w [.box tb [.string (bstr t)] 9] al cl xs) (hH : Heap w [.box tb [.string (bstr t)] 9]) : Calls Tryd.prog 38 #[.slice al (List.length xs) cl, .func (.func 39) #[] #[pt tb]] w fun e w' => e = .returned (.bool (hasK t xs)) ∧ Ev w [.box tb [.string (bstr t)] 9] w' [.box tb [.string (bstr t)] 9] := by
 refine d_0 [(0, .slice al (List.length xs) cl), (1, .func (.func 39) #[] #[pt tb])] 9 Go.Proofs.Tryd.func38 Go.Proofs.Tryd.ntmps38 (hH) fun act0 En0 Hv0 => ?_
 refine d_s [0,1,4] [] En0 fun ac1 En2 => ?_
 refine wp_seq ?_
 refine region_from ?_
 refine d_k [4,5,6] [] 2 En2 fun ac3 En4 => ?_
 refine f_o ?_
 refine c_l [0] (M := [.box tb [.string (bstr t)] 9]) En4 Hv0 (fun hM5 => indexf_go _ tb t al cl xs (il.go Hv0 [0] (by kernel_rfl) (fun _ h => ⟨h.1, h.2.1, h.2.2.1, h.2.2.2.1, h.2.2.2.2⟩)) hM5) ?_
 rintro _ wo6 ⟨rfl, he7⟩
 refine ⟨_, _, [.box tb [.string (bstr t)] 9], rfl, he7, by kernel_rfl, fun ac9 En10 Hv11 => ?_⟩
 refine d_e [4] [(3, g_v (show (.bool (decide (fdI t xs ≥ (0 : Int))) : Value) = .bool (hasK t xs) by rw [fdI_ge t xs] <;> rfl))] En10 fun ac12 En13 => ?_
 refine then_normal ?_
 refine wp_ret ?_
 refine d_ret1 (t := 4) (v := .bool (hasK t xs)) En13 (by kernel_rfl) (by kernel_rfl) ?_
 exact ⟨rfl, Hv11.pick [0] (by kernel_rfl) (by decide)⟩

theorem keyed_go (w : World) (k : Bs) (hk : List.length k ≤ 140737488351232) (m0 : Nat) (al : Option Addr) (cl : Nat) (xs : List RPair) (il : InS fPair 48 (fun y : RPair => ((List.length y.1 ≤ 140737488351232) ∧ (True ∧ (True ∧ ((List.length y.2.2.2.1 ≤ 140737488351232) ∧ (True)))))) w [] al cl xs) (em : m0 = List.length xs) : Calls Tryd.prog 19 #[.string (bstr k), .slice al m0 cl] w fun e w' => e = .returned (.bool (keyB k xs)) ∧ Ev w [] w' [] := by
 subst em
 refine d_0 [(0, .string (bstr k)), (1, .slice al (List.length xs) cl)] 21 Go.Proofs.Tryd.func19 Go.Proofs.Tryd.ntmps19 (Heap.nil _) fun act0 En0 Hv0 => ?_
 refine wp_seq ?_
 refine region_from ?_
 refine f_o ?_
 refine m_m 9 [.string (bstr k)] En0 Hv0 fun ac2 wo3 bk1 En4 Hv5 => ?_
 refine d_e [1,2,4] [] En4 fun ac6 En7 => ?_
 refine then_normal ?_
 refine wp_seq ?_
 refine region_from ?_
 refine f_o ?_
 refine m_l 0 En7 Hv5 fun ac8 En9 => ?_
 refine f_o ?_
 refine c_p En9 Hv5 (word_go _ k (by first | assumption | omega)) fun ac14 wo11 En15 Hv16 => ?_
 refine d_k [1,2,4,7] [] 3 En15 fun ac17 En18 => ?_
 rcases Bool.eq_false_or_eq_true (wordB k) with hb19 | hb19
 ·
  have En20 := En18.fx (t := 7) (congrArg Value.bool hb19)
  have hp21 : wordB k = true := hb19
  refine f_o ?_
  refine m_l 0 En20 Hv16 fun ac22 En23 => ?_
  refine d_k [1,2,4,11] [(4, g_v (show (.bool (!(ByteArray.toList (bstr k) == ByteArray.toList (bstr [116]))) : Value) = .bool (!(k == [116])) by rw [Go.Dbr.bstr_eq k [116]] <;> rfl))] 7 En23 fun ac24 En25 => ?_
  rcases Bool.eq_false_or_eq_true (!(k == [116])) with hb26 | hb26
  ·
   have En27 := En25.fx (t := 11) (congrArg Value.bool hb26)
   have hp28 : k ≠ [116] := by simpa using hb26
   refine f_o ?_
   refine m_l 0 En27 Hv16 fun ac29 En30 => ?_
   refine d_k [1,2,4,15] [(8, g_v (show (.bool (!(ByteArray.toList (bstr k) == ByteArray.toList (bstr [101, 118]))) : Value) = .bool (!(k == [101, 118])) by rw [Go.Dbr.bstr_eq k [101, 118]] <;> rfl))] 11 En30 fun ac31 En32 => ?_
   rcases Bool.eq_false_or_eq_true (!(k == [101, 118])) with hb33 | hb33
   ·
    have En34 := En32.fx (t := 15) (congrArg Value.bool hb33)
    have hp35 : k ≠ [101, 118] := by simpa using hb33
    refine d_k [4,15,16,17] [] 13 En34 fun ac36 En37 => ?_
    refine f_o ?_
    refine c_l [0] (M := [.box bk1 [.string (bstr k)] 9]) En37 Hv16 (fun hM38 => contf_go _ bk1 k al cl xs (il.go Hv16 [0] (by kernel_rfl) (fun _ h => ⟨h.1, h.2.1, h.2.2.1, h.2.2.2.1, h.2.2.2.2⟩)) hM38) ?_
    rintro _ wo39 ⟨rfl, he40⟩
    refine ⟨_, _, [.box bk1 [.string (bstr k)] 9], rfl, he40, by kernel_rfl, fun ac42 En43 Hv44 => ?_⟩
    refine d_e [4] [] En43 fun ac45 En46 => ?_
    refine then_normal ?_
    refine wp_ret ?_
    refine d_ret1 (t := 4) (v := .bool (!(hasK k xs))) En46 (by kernel_rfl) (by kernel_rfl) ?_
    refine ⟨congrArg (fun z => Ending.returned (Value.bool z)) ?_, Hv44.pick [] (by kernel_rfl) (by decide)⟩
    unfold keyB; simp_all
   ·
    have En47 := En32.fx (t := 15) (congrArg Value.bool hb33)
    have hp48 : ¬ (k ≠ [101, 118]) := by simpa using hb33
    refine d_e [4] [] En47 fun ac49 En50 => ?_
    refine then_normal ?_
    refine wp_ret ?_
    refine d_ret1 (t := 4) (v := .bool false) En50 (by kernel_rfl) (by kernel_rfl) ?_
    refine ⟨congrArg (fun z => Ending.returned (Value.bool z)) ?_, Hv16.pick [] (by kernel_rfl) (by decide)⟩
    unfold keyB; simp_all
  ·
   have En51 := En25.fx (t := 11) (congrArg Value.bool hb26)
   have hp52 : ¬ (k ≠ [116]) := by simpa using hb26
   refine d_e [4] [] En51 fun ac53 En54 => ?_
   refine then_normal ?_
   refine wp_ret ?_
   refine d_ret1 (t := 4) (v := .bool false) En54 (by kernel_rfl) (by kernel_rfl) ?_
   refine ⟨congrArg (fun z => Ending.returned (Value.bool z)) ?_, Hv16.pick [] (by kernel_rfl) (by decide)⟩
   unfold keyB; simp_all
 ·
  have En55 := En18.fx (t := 7) (congrArg Value.bool hb19)
  have hp56 : ¬ (wordB k = true) := Bool.eq_false_iff.1 hb19
  refine d_e [4] [] En55 fun ac57 En58 => ?_
  refine then_normal ?_
  refine wp_ret ?_
  refine d_ret1 (t := 4) (v := .bool false) En58 (by kernel_rfl) (by kernel_rfl) ?_
  refine ⟨congrArg (fun z => Ending.returned (Value.bool z)) ?_, Hv16.pick [] (by kernel_rfl) (by decide)⟩
  unfold keyB; simp_all

end Go.Proofs.YtfcfgbejpcmmkaaDoor
