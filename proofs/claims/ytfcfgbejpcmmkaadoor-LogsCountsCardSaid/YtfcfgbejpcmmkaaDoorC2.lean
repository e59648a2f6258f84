/- Layer 3: counters. -/
import Derived.Test.YtfcfgbejpcmmkaaDoorC1
import Derived.Test.YtfcfgbejpcmmkaaDoorMap
import Derived.Test.YtfcfgbejpcmmkaaDoorCutS
import Derived.Test.YtfcfgbejpcmmkaaDoorBuild
namespace Go.Proofs.YtfcfgbejpcmmkaaDoor
open Go.Dbr
set_option maxRecDepth 100000
set_option maxHeartbeats 2000000
set_option linter.unusedVariables false
set_option linter.unusedSimpArgs false

theorem lookC (m : CM) (k : Bs) : (if false then Value.tuple #[((kvAt m k).map (fun x => uv64 x)).getD (.int .u64 0), .bool (kvAt m k).isSome] else ((kvAt m k).map (fun x => uv64 x)).getD (.int .u64 0)) = uv64 (mAt m k) := by
  unfold mAt
  cases kvAt m k <;> rfl
def cntM (m : CM) (k : Bs) (n : UInt64) : CM := if wordB k then putC m k n else m
def cntX (xs : List RCnt) (k : Bs) (n : UInt64) : List RCnt := if wordB k then cntR k n false xs else xs
def cntE (k : Bs) : Int := if wordB k then 0 else 31
theorem sat_y {a n : UInt64} (h : ((UInt64.toNat n : Nat) : Int) ≤ ((UInt64.toNat (a + n) : Nat) : Int)) : satA a n = a + n := if_pos (UInt64.le_iff_toNat_le.2 (by omega))
theorem sat_n {a n : UInt64} (h : ¬ ((UInt64.toNat n : Nat) : Int) ≤ ((UInt64.toNat (a + n) : Nat) : Int)) : satA a n = 18446744073709551615 := if_neg (fun g => h (by have := UInt64.le_iff_toNat_le.1 g; omega))
theorem sub_max (n : UInt64) : ((18446744073709551615 : UInt64) - n).toNat = 18446744073709551615 - n.toNat := by
  rw [UInt64.toNat_sub_of_le]
  · rfl
  · exact UInt64.le_iff_toNat_le.2 (by have := UInt64.toNat_lt n; show n.toNat ≤ 18446744073709551615; omega)
theorem sat_gt {a n : UInt64} (h : ((UInt64.toNat a : Nat) : Int) > ((UInt64.toNat ((18446744073709551615 : UInt64) - n) : Nat) : Int)) : satA a n = 18446744073709551615 := by
  have h1 := sub_max n
  have h2 := UInt64.toNat_lt n
  have h3 := UInt64.toNat_lt a
  refine sat_n fun g => ?_
  rw [UInt64.toNat_add] at g
  rw [h1] at h
  omega
theorem sat_le {a n : UInt64} (h : ¬ ((UInt64.toNat a : Nat) : Int) > ((UInt64.toNat ((18446744073709551615 : UInt64) - n) : Nat) : Int)) : satA a n = a + n := by
  have h1 := sub_max n
  have h2 := UInt64.toNat_lt n
  have h3 := UInt64.toNat_lt a
  refine sat_y ?_
  rw [UInt64.toNat_add]
  rw [h1] at h
  omega
theorem sortK_in {m : CM} {k : Bs} (h : k ∈ sortK m) : k ∈ m.map (·.1) := List.mem_mergeSort.1 h
theorem cnts_len (m : CM) : (cnts m).length = m.length := by rw [cnts, List.length_map, sortK_len]
theorem cnts_next {m : CM} {i : Nat} {k : Bs} (h : (sortK m)[i]? = some k) : (List.take i (sortK m)).map (fun k => ((k, mAt m k, ()) : RCnt)) ++ [(k, mAt m k, ())] = (List.take (i + 1) (sortK m)).map (fun k => ((k, mAt m k, ()) : RCnt)) := by
  rw [List.take_add_one, h, List.map_append]; rfl
theorem go_ins {nm : Bs} {n : UInt64} {R xs ot : List RCnt} {i : Nat} {c : RCnt} (h : ot ++ cntR nm n false (xs.drop i) = R) (hx : xs[i]? = some c) (g : nm < c.1) : (ot ++ [((nm, n, ()) : RCnt)]) ++ [c] ++ cntR nm n true (xs.drop (i + 1)) = R := by
  obtain ⟨hl, hg⟩ := List.getElem?_eq_some_iff.1 hx
  rw [List.drop_eq_getElem_cons hl, hg, cntR, if_pos ⟨rfl, g⟩, upC, if_neg (fun e => by rw [e] at g; exact List.lt_irrefl _ g), decide_eq_true g, Bool.or_true, Bool.true_or] at h
  rw [← h]; simp
theorem go_eq {nm : Bs} {n v : UInt64} {R xs ot : List RCnt} {i : Nat} {c : RCnt} {d : Bool} (h : ot ++ cntR nm n d (xs.drop i) = R) (hx : xs[i]? = some c) (e : c.1 = nm) (hv : satA c.2.1 n = v) : ot ++ [((c.1, v, ()) : RCnt)] ++ cntR nm n true (xs.drop (i + 1)) = R := by
  obtain ⟨hl, hg⟩ := List.getElem?_eq_some_iff.1 hx
  rw [List.drop_eq_getElem_cons hl, hg, cntR, if_neg (fun q => by have := q.2; rw [e] at this; exact List.lt_irrefl _ this), upC, if_pos e, decide_eq_true e, Bool.or_true, hv] at h
  rw [← h]; simp
theorem go_t {nm : Bs} {n : UInt64} {R xs ot : List RCnt} {i : Nat} {c : RCnt} (h : ot ++ cntR nm n true (xs.drop i) = R) (hx : xs[i]? = some c) (e : ¬ c.1 = nm) : ot ++ [c] ++ cntR nm n true (xs.drop (i + 1)) = R := by
  obtain ⟨hl, hg⟩ := List.getElem?_eq_some_iff.1 hx
  rw [List.drop_eq_getElem_cons hl, hg, cntR, if_neg (fun q => by cases q.1), upC, if_neg e, Bool.true_or, Bool.true_or] at h
  rw [← h]; simp
theorem go_f {nm : Bs} {n : UInt64} {R xs ot : List RCnt} {i : Nat} {c : RCnt} (h : ot ++ cntR nm n false (xs.drop i) = R) (hx : xs[i]? = some c) (g : ¬ nm < c.1) (e : ¬ c.1 = nm) : ot ++ [c] ++ cntR nm n false (xs.drop (i + 1)) = R := by
  obtain ⟨hl, hg⟩ := List.getElem?_eq_some_iff.1 hx
  rw [List.drop_eq_getElem_cons hl, hg, cntR, if_neg (fun q => g q.2), upC, if_neg e, decide_eq_false g, decide_eq_false e] at h
  rw [← h]; simp
theorem end_t {nm : Bs} {n : UInt64} {R xs ot : List RCnt} {i : Nat} (h : ot ++ cntR nm n true (xs.drop i) = R) (hi : i = xs.length) : R = ot := by rw [← h, hi, List.drop_length, cntR, if_pos rfl, List.append_nil]
theorem end_f {nm : Bs} {n : UInt64} {R xs ot : List RCnt} {i : Nat} (h : ot ++ cntR nm n false (xs.drop i) = R) (hi : i = xs.length) : R = ot ++ [(nm, n, ())] := by rw [← h, hi, List.drop_length, cntR, if_neg (by decide)]

theorem newm_go (w : World) : Calls Tryd.prog 11 #[.int .i64 1] w fun e w' => ∃ g mb, e = .returned (.tuple #[pt g, .int .i64 0]) ∧ Ev w [] w' [.box g [.int .i64 1, .slice none 0 0, .int .u64 0, .map (some mb)] 79, .map mb (kvs uv64 [])] := by
 refine d_0 [(0, .int .i64 1)] 14 Go.Proofs.Tryd.func11 Go.Proofs.Tryd.ntmps11 (Heap.nil _) fun act0 En0 Hv0 => ?_
 refine d_s [0,2,3] [] En0 fun ac1 En2 => ?_
 refine wp_seq ?_
 refine d_s [0,2,3,9] [] En2 fun ac3 En4 => ?_
 refine c_f En4 ?_
 refine wp_skip ?_
 refine then_normal ?_
 refine wp_seq ?_
 refine region_from ?_
 refine d_k [0,2,3,10] [] 1 En4 fun ac5 En6 => ?_
 refine f_o ?_
 refine op_makemap (d := some 11) (t := 77) En6 (by kernel_rfl) Hv0 ?_
 intro ac8 wo9 bk7 En10 Hv11
 replace Hv11 : Ev w [] wo9 [.map bk7 (kvs uv64 [])] := Hv11
 refine d_k [0,2,3,12] [] 3 En10 fun ac12 En13 => ?_
 refine f_o ?_
 refine m_m 79 [.int .i64 1, .slice none 0 0, .int .u64 0, .map (some bk7)] En13 Hv11 fun ac15 wo16 bk14 En17 Hv18 => ?_
 refine d_e [0,2,3] [] En17 fun ac19 En20 => ?_
 refine then_normal ?_
 refine wp_ret ?_
 refine d_ret2 (t := 2) (u := 3) (v := pt bk14) (x := .int .i64 0) En20 (by kernel_rfl) (by kernel_rfl) (by kernel_rfl) ?_
 exact ⟨bk14, bk7, rfl, Hv18.pick [1, 0] (by kernel_rfl) (by decide)⟩

theorem count_go (w : World) (g : Nat) (n : Int) (x : Value) (o : UInt64) (mb : Nat) (m : CM) (nm : Bs) (v : UInt64) (hnm : List.length nm ≤ 140737488351232) (hH : Heap w [.box g [.int .i64 n, x, uv64 o, .map (some mb)] 79, .map mb (kvs uv64 m)]) : Calls Tryd.prog 16 #[pt g, .string (bstr nm), uv64 v] w fun e w' => e = .returned (.int .i64 (cntE nm)) ∧ Ev w [.box g [.int .i64 n, x, uv64 o, .map (some mb)] 79, .map mb (kvs uv64 m)] w' [.box g [.int .i64 n, x, uv64 o, .map (some mb)] 79, .map mb (kvs uv64 (cntM m nm v))] := by
 refine d_0 [(0, pt g), (1, .string (bstr nm)), (2, uv64 v)] 33 Go.Proofs.Tryd.func16 Go.Proofs.Tryd.ntmps16 (hH) fun act0 En0 Hv0 => ?_
 refine d_s [0,1,2,6] [] En0 fun ac1 En2 => ?_
 refine wp_seq ?_
 refine wp_seq ?_
 refine region_from ?_
 refine d_k [0,1,2,6,8] [] 1 En2 fun ac3 En4 => ?_
 refine f_o ?_
 refine c_p En4 Hv0 (word_go _ nm (by first | assumption | omega)) fun ac9 wo6 En10 Hv11 => ?_
 refine d_e [0,1,2,6,10] [] En10 fun ac12 En13 => ?_
 refine then_normal ?_
 refine cond_at En13 (t := !(wordB nm)) (by kernel_rfl) (fun hc14 => ?_) (fun hc14 => ?_)
 ·
  replace hc14 : ¬ (wordB nm = true) := by simpa using hc14
  refine d_s [0,1,2,6] [] En13 fun ac15 En16 => ?_
  refine wp_ret ?_
  refine then_ret ?_
  refine d_ret1 (t := 6) (v := .int .i64 31) En16 (by kernel_rfl) (by kernel_rfl) ?_
  rw [show cntM m nm v = m from if_neg (by assumption), show cntE nm = 31 from if_neg (by assumption)]
  exact ⟨rfl, Hv11.pick [0, 1] (by kernel_rfl) (by decide)⟩
 ·
  replace hc14 : wordB nm = true := by simpa using hc14
  refine wp_skip ?_
  refine then_normal ?_
  refine wp_seq ?_
  refine wp_seq ?_
  refine region_from ?_
  refine d_k [0,1,2,6,13] [] 3 En13 fun ac17 En18 => ?_
  refine f_o ?_
  refine m_l 0 En18 Hv11 fun ac19 En20 => ?_
  refine d_k [0,1,2,6,14,15] [] 5 En20 fun ac21 En22 => ?_
  refine f_o ?_
  refine op_lookup (d := some 16) (t := 77) (kt := 9) (et := 22) (b := mb) (j := 1) (k := nm) (m := m) (f := uv64) (z := .int .u64 0) (v := .int .u64 ((UInt64.toNat (mAt m nm) : Nat) : Int)) (ok := false) En22 (by kernel_rfl) Hv11 rfl (by kernel_rfl) (by kernel_rfl) (by kernel_rfl) (lookC m nm) fun ac23 En24 => ?_
  refine d_e [0,1,2,6,7] [(7, g_i .u64 (Go.Dbr.u64_add (x := mAt m nm) (y := v) rfl rfl))] En24 fun ac25 En26 => ?_
  refine then_normal ?_
  refine d_s [0,1,2,6,7,21] [] En26 fun ac27 En28 => ?_
  refine c_d (((UInt64.toNat ((mAt m nm) + v) : Nat) : Int) ≥ ((UInt64.toNat v : Nat) : Int)) En28 (fun hc29 => ?_) (fun hc29 => ?_)
  ·
   refine region_from ?_
   refine d_k [0,1,2,6,7,24] [] 3 En28 fun ac30 En31 => ?_
   refine f_o ?_
   refine m_l 0 En31 Hv11 fun ac32 En33 => ?_
   refine d_k [0,1,2,6,7,25,26,27] [] 6 En33 fun ac34 En35 => ?_
   refine f_o ?_
   refine op_update (d := none) (t := 77) (kt := 9) (et := 22) (b := mb) (j := 1) (k := nm) (m := m) (f := uv64) (v := (mAt m nm) + v) (V := .int .u64 ((UInt64.toNat ((mAt m nm) + v) : Nat) : Int)) En35 (by kernel_rfl) rfl Hv11 rfl (by kernel_rfl) (by kernel_rfl) fun ac36 wo37 En38 Hv39 => ?_
   refine f_e ?_
   refine then_normal ?_
   refine d_s [0,1,2,6,7] [] En38 fun ac40 En41 => ?_
   refine wp_ret ?_
   refine d_ret1 (t := 6) (v := .int .i64 0) En41 (by kernel_rfl) (by kernel_rfl) ?_
   rw [show cntM m nm v = kvPut nm ((mAt m nm) + v) m from (if_pos (by assumption)).trans (congrArg (fun z => kvPut nm z m) (by first | exact sat_y (by assumption) | exact sat_n (by assumption))), show cntE nm = 0 from if_pos (by assumption)]
   exact ⟨rfl, Hv39.pick [0, 1] (by kernel_rfl) (by decide)⟩
  ·
   refine region_from ?_
   refine d_k [0,1,2,6,7,30] [] 3 En28 fun ac42 En43 => ?_
   refine f_o ?_
   refine m_l 0 En43 Hv11 fun ac44 En45 => ?_
   refine d_k [0,1,2,6,7,31,32] [] 5 En45 fun ac46 En47 => ?_
   refine f_o ?_
   refine op_update (d := none) (t := 77) (kt := 9) (et := 22) (b := mb) (j := 1) (k := nm) (m := m) (f := uv64) (v := (18446744073709551615 : UInt64)) (V := .int .u64 18446744073709551615) En47 (by kernel_rfl) rfl Hv11 rfl (by kernel_rfl) (by kernel_rfl) fun ac48 wo49 En50 Hv51 => ?_
   refine f_e ?_
   refine then_normal ?_
   refine d_s [0,1,2,6,7] [] En50 fun ac52 En53 => ?_
   refine wp_ret ?_
   refine d_ret1 (t := 6) (v := .int .i64 0) En53 (by kernel_rfl) (by kernel_rfl) ?_
   rw [show cntM m nm v = kvPut nm (18446744073709551615 : UInt64) m from (if_pos (by assumption)).trans (congrArg (fun z => kvPut nm z m) (by first | exact sat_y (by assumption) | exact sat_n (by assumption))), show cntE nm = 0 from if_pos (by assumption)]
   exact ⟨rfl, Hv51.pick [0, 1] (by kernel_rfl) (by decide)⟩

end Go.Proofs.YtfcfgbejpcmmkaaDoor
