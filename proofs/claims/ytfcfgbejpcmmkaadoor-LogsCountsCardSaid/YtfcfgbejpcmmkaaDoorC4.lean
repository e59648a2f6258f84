/- Layer 3: counters are told in order. -/
import Derived.Test.YtfcfgbejpcmmkaaDoorC3
import Derived.Test.YtfcfgbejpcmmkaaDoorB1
import Derived.Test.YtfcfgbejpcmmkaaDoorSort
import Derived.Test.YtfcfgbejpcmmkaaDoorKeys
namespace Go.Proofs.YtfcfgbejpcmmkaaDoor
open Go.Dbr
set_option maxRecDepth 100000
set_option maxHeartbeats 2000000
set_option linter.unusedVariables false
set_option linter.unusedSimpArgs false

open Go Go.Sort Go.Maps Go.RowKit
theorem keys_of (w : World) (mb : Nat) : Calls Tryd.prog 36 #[.map (some mb)] w fun e w' => ∃ bk, e = .returned (.func (.func 53) #[] #[pt bk]) ∧ Ev w [] w' [.box bk [.map (some mb)] 77] := by
  refine (callsIn_wide.1 (Go.Proofs.Tryd.maps_Keys_36 (some mb) w)).mono ?_
  rintro e w' ⟨rfl, rfl⟩
  exact ⟨_, rfl, Ev.add (Heap.nil w) (chg_alloc _ _ _) (heap_alloc_new w _) (fun b hb => by simp only [Ent.own, Option.some.injEq] at hb; omega)⟩
theorem sorted_of (w : World) (bk mb : Nat) (m : CM) (hl : smallC m) (hm : m.length ≤ 5864062014640) (hH : Heap w [.box bk [.map (some mb)] 77, .map mb (kvs uv64 m)]) :
    Calls Tryd.prog 35 #[.func (.func 53) #[] #[pt bk]] w fun e w' => ∃ ao co, e = .returned (.slice ao (List.length (sortK m)) co) ∧ Ev w [.box bk [.map (some mb)] 77, .map mb (kvs uv64 m)] w' [.box bk [.map (some mb)] 77, .map mb (kvs uv64 m), .vec ao co 1 (List.flatMap fStr (sortK m)) 9] := by
  obtain ⟨D, hown, hp, hsz⟩ := kv_owns (H := Unit) (P := Tryd.prog) (kt := 9) (j := 1) (by kernel_rfl) hH rfl (fun p hp => Nat.le_trans (hl p hp) (by decide)) (Nat.le_trans hm (by decide))
  have hbk := hH.holds 0 _ rfl
  have hlt := (Array.getElem?_eq_some_iff.1 hbk).1
  have hcell : w.cell? ⟨bk, 0, none⟩ = some (.map (some mb)) := by
    have e : w.heap[bk]? = some (.cells #[.map (some mb)] 77 (0, 0)) := hbk
    rw [cell_of_row w bk 0 _ _ _ e]
    rfl
  have hseq : SeqGives Fence.wide 2 Tryd.prog 53 #[pt bk] Go.Proofs.encStr (fun ss => ss.Perm (strKeys D)) (Maps.size D) w :=
    Go.Proofs.AnyZ.keys_gives (ρ := Go.Proofs.Tryd.keys36_ren) { Go.Proofs.Tryd.keys36 with } Fence.wide _ trivial rfl (by omega) bk mb _ D _ hlt hcell hown
  have h := Go.Proofs.AnyZ.sorted_in Go.Proofs.Tryd.sorted35 Fence.wide 5 trivial trivial trivial trivial rfl (by omega) (Go.Proofs.Tryd.sorts35 _) (enters_of Go.Proofs.Tryd.func52 (by kernel_rfl) rfl) 53 #[pt bk] trivial (enters_of Go.Proofs.Tryd.func53 (by kernel_rfl) rfl) _ _ (by rw [hsz]; exact Nat.le_trans hm (by decide)) (by rw [hsz]; omega) w hseq
  refine (callsIn_wide.1 h).mono ?_
  rintro e w' ⟨v, ss, rfl, hS, hrow, -, hb⟩
  have hs2 : ss.mergeSort leB = sortK m := mergeSort_of_perm (hS.trans hp)
  have hlen : ss.length = (sortK m).length := by rw [← hs2, List.length_mergeSort]
  rw [show (ss.mergeSort fun x y => decide (x ≤ y)) = sortK m from hs2, encStr_flat, hlen] at hrow
  obtain ⟨ao, co, rfl, hev⟩ := hH.ofRow hb hrow (Nat.le_refl _)
  exact ⟨ao, co, rfl, hev⟩

theorem counters_go (w : World) (g : Nat) (n : Int) (x : Value) (o : UInt64) (mb : Nat) (m : CM) (hl : smallC m) (hm : m.length ≤ 5864062014640) (hH : Heap w [.box g [.int .i64 n, x, uv64 o, .map (some mb)] 79, .map mb (kvs uv64 m)]) : Calls Tryd.prog 17 #[pt g] w fun e w' => ∃ a' c', e = .returned (.slice a' (List.length (cnts m)) c') ∧ Ev w [.box g [.int .i64 n, x, uv64 o, .map (some mb)] 79, .map mb (kvs uv64 m)] w' [.box g [.int .i64 n, x, uv64 o, .map (some mb)] 79, .map mb (kvs uv64 m), .vec a' c' 2 (List.flatMap fCnt (cnts m)) 54] := by
 refine d_0 [(0, pt g)] 30 Go.Proofs.Tryd.func17 Go.Proofs.Tryd.ntmps17 (hH) fun act0 En0 Hv0 => ?_
 refine wp_seq ?_
 refine d_r [0,2] [] En0 fun ac1 En2 => ?_
 refine then_normal ?_
 refine wp_seq ?_
 refine d_r [0,2,3] [] En2 fun ac3 En4 => ?_
 refine then_normal ?_
 refine wp_seq ?_
 refine wp_seq ?_
 refine region_from ?_
 refine d_k [0,2,3,8] [] 3 En4 fun ac5 En6 => ?_
 refine f_o ?_
 refine m_l 0 En6 Hv0 fun ac7 En8 => ?_
 refine f_o ?_
 refine c_0 En8 Hv0 (keys_of _ mb) ?_
 rintro _ wo11 ⟨bk9, rfl, he12⟩
 refine ⟨_, _, _, rfl, he12, rfl, fun ac14 En15 Hv16 => ?_⟩
 refine f_o ?_
 refine c_l [0,2] (M := [.box bk9 [.map (some mb)] 77, .map mb (kvs uv64 m)]) En15 Hv16 (fun hM19 => sorted_of _ bk9 mb m hl hm hM19) ?_
 rintro _ wo20 ⟨ao17, co18, rfl, he21⟩
 refine ⟨_, _, [.box bk9 [.map (some mb)] 77, .map mb (kvs uv64 m), .vec ao17 co18 1 (List.flatMap fStr (sortK m)) 9, .box g [.int .i64 n, x, uv64 o, .map (some mb)] 79], rfl, he21, by kernel_rfl, fun ac23 En24 Hv25 => ?_⟩
 refine d_e [0,2,3,11,12,13] [] En24 fun ac26 En27 => ?_
 refine then_normal ?_
 refine wp_block ?_
 have Hv28 : Ev w [.box g [.int .i64 n, x, uv64 o, .map (some mb)] 79, .map mb (kvs uv64 m)] wo20 [.box bk9 [.map (some mb)] 77, .map mb (kvs uv64 m), .vec ao17 co18 1 (List.flatMap fStr (sortK m)) 9, .box g [.int .i64 n, x, uv64 o, .map (some mb)] 79, .vec none 0 2 (List.flatMap fCnt []) 54] := Ev.nil (sz := 2) (T := 54) Hv25
 refine loop_m (fun ms29 ac wo => ∃ (i : Nat) (a2 : Option Addr) (c2 : Nat) (ot : List RCnt), ms29 = (List.length (sortK m) - i : Nat) ∧ Env ac 30 [(0, pt g), (2, .slice none 0 0), (3, .slice a2 (List.length ot) c2), (11, .slice ao17 (List.length (sortK m)) co18), (12, .int .i64 ((List.length (sortK m) : Nat) : Int)), (13, ni i)] ∧ Ev w [.box g [.int .i64 n, x, uv64 o, .map (some mb)] 79, .map mb (kvs uv64 m)] wo [.vec a2 c2 2 (List.flatMap fCnt ot) 54, .vec ao17 co18 1 (List.flatMap fStr (sortK m)) 9, .box g [.int .i64 n, x, uv64 o, .map (some mb)] 79, .map mb (kvs uv64 m)] ∧ (i ≤ List.length (sortK m)) ∧ (ot = List.map (fun k => ((k, mAt m k, ()) : RCnt)) (List.take i (sortK m)))) ⟨_, 0, none, 0, [], rfl, En27.sub (by kernel_rfl), Hv28.pick [4, 2, 3, 1] (by kernel_rfl) (by decide), (Nat.zero_le _), (by simp)⟩ ?_
 rintro mm35 ac31 wo32 ⟨i, a2, c2, ot, rfl, En33, Hv34, hil, hot⟩
 refine wp_seq ?_
 refine d_r [0,2,3,11,12,13,14] [] En33 fun ac36 En37 => ?_
 refine then_normal ?_
 refine wp_seq ?_
 refine c_d (((i : Nat) : Int) < ((List.length (sortK m) : Nat) : Int)) En37 (fun hc38 => ?_) (fun hc38 => ?_)
 ·
  refine wp_skip ?_
  refine then_normal ?_
  refine wp_seq ?_
  refine wp_block ?_
  refine wp_seq ?_
  have hb41 : i < List.length (sortK m) := (by omega)
  obtain ⟨adr39, had40⟩ := some_of (sv_nz (f := fStr) (sz := 1) Hv34.heap (k := 1) rfl (fun _ => rfl) (by decide)) hb41
  have hb42 : i < List.length (sortK m) := by omega
  obtain ⟨x44, hx43⟩ : ∃ x, (sortK m)[i]? = some x := ⟨_, List.getElem?_eq_getElem hb42⟩
  refine region_from ?_
  refine f_o ?_
  refine q_v (x := Instr.indexAt 41 (.slice ao17 (List.length (sortK m)) co18) (ni i)) (v := .pointer (some (Addr.add adr39 i))) En37 (Go.Dbr.run_indexsl (e := 9) (sz := 1) (j := i) (jo := i) had40 (by kernel_rfl) (by kernel_rfl) (by omega) hb41 (Nat.mul_one _) _) fun ac45 En46 => ?_
  refine f_o ?_
  refine op_loadf (d := some 16) (t := 9) (ad := adr39) (ao := ao17) (ys := List.flatMap fStr (sortK m)) (o := i) (v := .string (bstr x44)) En46 (by kernel_rfl) rfl (Hv34.heap.reads (k := 1) rfl) had40 ((flat_get1 (fun _ _ => rfl) hx43).trans rfl) (by kernel_rfl) ?_
  intro ac47 En48
  refine d_e [0,2,3,5,11,12,13] [] En48 fun ac49 En50 => ?_
  refine then_normal ?_
  have hol := congrArg List.length hot
  rw [List.length_map, List.length_take] at hol
  have hsl := sortK_len m
  refine region_from ?_
  refine d_k [0,2,3,5,11,12,13,17,18,21] [] 5 En50 fun ac51 En52 => ?_
  refine f_o ?_
  refine m_l 2 En52 Hv34 fun ac53 En54 => ?_
  refine d_k [0,2,3,11,12,13,17,18,22,23] [] 7 En54 fun ac55 En56 => ?_
  refine f_o ?_
  refine op_lookup (d := some 24) (t := 77) (kt := 9) (et := 22) (b := mb) (j := 3) (k := x44) (m := m) (f := uv64) (z := .int .u64 0) (v := .int .u64 ((UInt64.toNat (mAt m x44) : Nat) : Int)) (ok := false) En56 (by kernel_rfl) Hv34 rfl (by kernel_rfl) (by kernel_rfl) (by kernel_rfl) (lookC m x44) fun ac57 En58 => ?_
  refine d_k [0,2,3,11,12,13,17,25] [] 9 En58 fun ac59 En60 => ?_
  refine f_o ?_
  refine op_lit (d := some 26) (t := 47) (T := 54) (m := 1) (parts := #[(0, .agg #[.string (bstr x44), .int .u64 ((UInt64.toNat (mAt m x44) : Nat) : Int)])]) (xs := List.flatMap fCnt ([(x44, mAt m x44, ())] : List (RCnt))) (sz := 2) En60 (by kernel_rfl) (by kernel_rfl) rfl (by decide) Hv34 ?_
  intro ac62 wo63 bk61 En64 Hv65
  refine f_o ?_
  refine op_append (d := some 27) (t := 47) (tx := 47) (ty := 47) (k := 0) (p := List.length ot) (m := 1) (x := .slice (some ⟨bk61, 0, none⟩) 1 1) (bytes := 24) En64 (by kernel_rfl) Hv65 rfl (sv_len (f := fCnt) (sz := 2) (fun _ => rfl) _) (Reads.src (size := 2) (tx := 47) (e' := 54) (by kernel_rfl) (Hv65.heap.reads (k := 4) rfl) rfl (fun e => by cases e) (flat_one (f := fCnt) (fun _ => one_all rfl) _)) (by kernel_rfl) (z := .agg #[.string (bstr []), .int .u64 0]) (by kernel_rfl) rfl (by decide) (by omega) (by unfold maxLen; omega) ?_
  intro ac70 wo71 ao66 cp67 En72 Hv73 hnz _
  clear hnz
  rw [← List.flatMap_append] at Hv73
  have ehz68 : (List.length ot) + 1 = List.length (ot ++ ([(x44, mAt m x44, ())] : List (RCnt))) := (by first | (simp; done) | (simp; omega) | omega)
  rw [ehz68] at En72
  refine d_e [0,2,3,11,12,13] [] En72 fun ac74 En75 => ?_
  refine block_normal ?_
  refine then_normal ?_
  refine d_r [0,2,3,11,12,13] [(0, g_n (w_a i 1))] En75 fun ac76 En77 => ?_
  refine then_normal ?_
  refine ⟨_, ⟨i + 1, ao66, cp67, (ot ++ ([(x44, mAt m x44, ())] : List (RCnt))), rfl, En77.sub (by kernel_rfl), Hv73.pick [0, 1, 2, 3] (by kernel_rfl) (by decide), (by omega), (by rw [hot]; exact cnts_next hx43)⟩, ?_⟩
  omega
 ·
  refine wp_exit ?_
  refine then_exit ?_
  refine then_exit ?_
  refine block_exit ?_
  refine then_normal ?_
  refine wp_seq ?_
  refine d_r [0,2,3,11,12,13] [] En37 fun ac78 En79 => ?_
  refine then_normal ?_
  refine wp_ret ?_
  refine d_ret1 (t := 2) (v := .slice a2 (List.length ot) c2) En79 (by kernel_rfl) (by kernel_rfl) ?_
  have hoe : ot = cnts m := by rw [hot, show i = List.length (sortK m) from by omega, List.take_length]; rfl
  rw [hoe] at Hv34
  rw [hoe]
  exact ⟨a2, c2, rfl, Hv34.pick [2, 3, 0] (by kernel_rfl) (by decide)⟩

end Go.Proofs.YtfcfgbejpcmmkaaDoor
