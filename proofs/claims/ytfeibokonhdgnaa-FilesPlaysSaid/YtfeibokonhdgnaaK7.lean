/- Layer 2: names are told in order. -/
import Derived.Test.YtfeibokonhdgnaaK5
import Derived.Test.YtfeibokonhdgnaaSort
import Derived.Test.YtfeibokonhdgnaaKeys
namespace Go.Proofs.Ytfeibokonhdgnaa
open Go.Dbr
set_option maxRecDepth 100000
set_option maxHeartbeats 2000000
set_option linter.unusedVariables false
set_option linter.unusedSimpArgs false

open Go Go.Sort Go.Maps Go.RowKit
theorem keys_go (w : World) (mb : Nat) : Calls Try.prog 22 #[.map (some mb)] w fun e w' => ∃ bk, e = .returned (.func (.func 34) #[] #[pt bk]) ∧ Ev w [] w' [.box bk [.map (some mb)] 50] := by
  refine (callsIn_wide.1 (Go.Proofs.Try.maps_Keys_22 (some mb) w)).mono ?_
  rintro e w' ⟨rfl, rfl⟩
  exact ⟨_, rfl, Ev.add (Heap.nil w) (chg_alloc _ _ _) (heap_alloc_new w _) (fun b hb => by simp only [Ent.own, Option.some.injEq] at hb; omega)⟩
theorem sorted_go (w : World) (bk mb : Nat) (m : FM) (hl : ∀ p ∈ m, p.1.length ≤ 32) (hm : m.length ≤ 64) (hH : Heap w [.box bk [.map (some mb)] 50, .map mb (kvs FV.v m)]) :
    Calls Try.prog 21 #[.func (.func 34) #[] #[pt bk]] w fun e w' => ∃ ao co, e = .returned (.slice ao (List.length (sortK m)) co) ∧ Ev w [.box bk [.map (some mb)] 50, .map mb (kvs FV.v m)] w' [.box bk [.map (some mb)] 50, .map mb (kvs FV.v m), .vec ao co 1 (List.flatMap (fun l : List UInt8 => [.string (bstr l)]) (sortK m)) 9] := by
  obtain ⟨D, hown, hp, hsz⟩ := kv_owns (H := Unit) (P := Try.prog) (kt := 9) (j := 1) (by kernel_rfl) hH rfl (fun p hp => Nat.le_trans (hl p hp) (by decide)) (Nat.le_trans hm (by decide))
  have hbk := hH.holds 0 _ rfl
  have hlt := (Array.getElem?_eq_some_iff.1 hbk).1
  have hcell : w.cell? ⟨bk, 0, none⟩ = some (.map (some mb)) := by
    have e : w.heap[bk]? = some (.cells #[.map (some mb)] 50 (0, 0)) := hbk
    rw [cell_of_row w bk 0 _ _ _ e]
    rfl
  have hseq : SeqGives Fence.wide 2 Try.prog 34 #[pt bk] Go.Proofs.encStr (fun ss => ss.Perm (strKeys D)) (Maps.size D) w :=
    Go.Proofs.AnyZ.keys_gives (ρ := Go.Proofs.Try.keys22_ren) { Go.Proofs.Try.keys22 with } Fence.wide _ trivial rfl (by omega) bk mb _ D _ hlt hcell hown
  have h := Go.Proofs.AnyZ.sorted_in Go.Proofs.Try.sorted21 Fence.wide 5 trivial trivial trivial trivial rfl (by omega) (Go.Proofs.Try.sorts21 _) (enters_of Go.Proofs.Try.func33 (by kernel_rfl) rfl) 34 #[pt bk] trivial (enters_of Go.Proofs.Try.func34 (by kernel_rfl) rfl) _ _ (by rw [hsz]; exact Nat.le_trans hm (by decide)) (by rw [hsz]; omega) w hseq
  refine (callsIn_wide.1 h).mono ?_
  rintro e w' ⟨v, ss, rfl, hS, hrow, -, hb⟩
  have hs2 : ss.mergeSort leB = sortK m := mergeSort_of_perm (hS.trans hp)
  have hlen : ss.length = (sortK m).length := by rw [← hs2, List.length_mergeSort]
  rw [show (ss.mergeSort fun x y => decide (x ≤ y)) = sortK m from hs2, encStr_flat, hlen] at hrow
  obtain ⟨ao, co, rfl, hev⟩ := hH.ofRow hb hrow (Nat.le_refl _)
  exact ⟨ao, co, rfl, hev⟩

theorem names_go (w : World) (sb mb : Nat) (m : FM) (hl : ∀ p ∈ m, p.1.length ≤ 32) (hm : m.length ≤ 64) (hH : Heap w [.box sb [.map (some mb)] 52, .map mb (kvs FV.v m)]) : Calls Try.prog 15 #[pt sb] w fun e w' => ∃ ao co, e = .returned (.slice ao (List.length (sortK m)) co) ∧ Ev w [.box sb [.map (some mb)] 52, .map mb (kvs FV.v m)] w' [.box sb [.map (some mb)] 52, .map mb (kvs FV.v m), .vec ao co 1 (List.flatMap (fun l : List UInt8 => [.string (bstr l)]) (sortK m)) 9] := by
 refine d_0 [(0, pt sb)] 9 Go.Proofs.Try.func15 Go.Proofs.Try.ntmps15 (hH) fun act0 En0 Hv0 => ?_
 refine d_s [0,2] [] En0 fun ac1 En2 => ?_
 refine wp_seq ?_
 refine region_from ?_
 refine d_k [2,5] [] 3 En2 fun ac3 En4 => ?_
 refine f_o ?_
 refine m_l 0 En4 Hv0 fun ac5 En6 => ?_
 refine f_o ?_
 refine c_0 En6 Hv0 (keys_go _ mb) ?_
 rintro _ wo9 ⟨bk7, rfl, he10⟩
 refine ⟨_, _, _, rfl, he10, rfl, fun ac12 En13 Hv14 => ?_⟩
 refine f_o ?_
 refine c_l [0,2] (M := [.box bk7 [.map (some mb)] 50, .map mb (kvs FV.v m)]) En13 Hv14 (fun hM17 => sorted_go _ bk7 mb m hl hm hM17) ?_
 rintro _ wo18 ⟨ao15, co16, rfl, he19⟩
 refine ⟨_, _, [.box bk7 [.map (some mb)] 50, .map mb (kvs FV.v m), .vec ao15 co16 1 (List.flatMap (fun l : List UInt8 => [.string (bstr l)]) (sortK m)) 9, .box sb [.map (some mb)] 52], rfl, he19, by kernel_rfl, fun ac21 En22 Hv23 => ?_⟩
 refine d_e [2] [] En22 fun ac24 En25 => ?_
 refine then_normal ?_
 refine wp_ret ?_
 refine d_ret1 (t := 2) (v := .slice ao15 (List.length (sortK m)) co16) En25 (by kernel_rfl) (by kernel_rfl) ?_
 exact ⟨ao15, co16, rfl, Hv23.pick [3, 1, 2] (by kernel_rfl) (by decide)⟩

end Go.Proofs.Ytfeibokonhdgnaa
