/- Layer 2: head; files are their own. -/
import Derived.Test.YtfeibokonhdgnaaK4
namespace Go.Proofs.Ytfeibokonhdgnaa
open Go.Dbr
set_option maxRecDepth 100000
set_option maxHeartbeats 2000000
set_option linter.unusedVariables false
set_option linter.unusedSimpArgs false

theorem read_old (w : World) (sb mb : Nat) (m : FM) (name : List UInt8) (hnm : List.length name ≤ 140737488351232) (ht : (kvAt m name).isSome = true) (lo : List UInt8) (a1 : Option Addr) (c1 : Nat) (t1 : Bool) (hx : oldF m name = ⟨a1, List.length lo, c1, none, 0, 0, t1, 0⟩) (iA : InB w [.box sb [.map (some mb)] 52, .map mb (kvs FV.v m)] a1 c1 lo) (hA : List.length lo ≤ 65536) (hH : Heap w [.box sb [.map (some mb)] 52, .map mb (kvs FV.v m)]) :
    Calls Try.prog 11 #[pt sb, .string (bstr name)] w fun e w' => ∃ ao co, e = .returned (.tuple #[.slice ao (List.length lo) co, .int .i64 0]) ∧ Ev w [.box sb [.map (some mb)] 52, .map mb (kvs FV.v m)] w' [.box sb [.map (some mb)] 52, .map mb (kvs FV.v m), .vec ao co 1 (bys lo) 5] := by
  refine (read_go w sb mb m name hnm ht lo [] a1 c1 none 0 t1 0 hx iA (InB.nil _ _) hA (Nat.zero_le _) (Nat.le_refl _) hH).mono ?_
  rintro e w' ⟨ao, co, he, hv⟩
  rw [rd_0] at he hv
  exact ⟨ao, co, he, hv⟩
theorem put_any (w : World) (sb mb : Nat) (m : FM) (name : List UInt8) (hnm : List.length name ≤ 140737488351232) (a : Option Addr) (c : Nat) (l : List UInt8) (i : InB w [.box sb [.map (some mb)] 52, .map mb (kvs FV.v m)] a c l) (hH : Heap w [.box sb [.map (some mb)] 52, .map mb (kvs FV.v m)]) : Calls Try.prog 9 #[pt sb, .string (bstr name), .slice a (List.length l) c] w fun e w' => ∃ r m', e = .returned (.int .i64 r) ∧ Ev w [.box sb [.map (some mb)] 52, .map mb (kvs FV.v m)] w' [.box sb [.map (some mb)] 52, .map mb (kvs FV.v m')] ∧ (∀ q, ¬ q = name → kvAt m' q = kvAt m q) := by
  by_cases hm : mayI name (List.length l) m = 0
  · refine (put_ok w sb mb m name hnm a c l i hm hH).mono ?_
    rintro e w' ⟨ao, co, he, hv⟩
    exact ⟨0, kvPut name ⟨ao, List.length l, co, none, 0, 0, false, 0⟩ m, he, hv.pick [0, 1] (by kernel_rfl) (by decide), fun q hq => kvAt_other hq⟩
  · refine (put_bad w sb mb m name hnm a c l i hm hH).mono ?_
    rintro e w' ⟨he, hv⟩
    exact ⟨_, m, he, hv, fun _ _ => rfl⟩
theorem tear_any (w : World) (sb mb : Nat) (m : FM) (name : List UInt8) (hnm : List.length name ≤ 140737488351232) (a : Option Addr) (c : Nat) (l : List UInt8) (i : InB w [.box sb [.map (some mb)] 52, .map mb (kvs FV.v m)] a c l) (k : Nat) (hk : k ≤ List.length l) (hH : Heap w [.box sb [.map (some mb)] 52, .map mb (kvs FV.v m)]) : Calls Try.prog 10 #[pt sb, .string (bstr name), .slice a (List.length l) c, ni k] w fun e w' => ∃ r m', e = .returned (.int .i64 r) ∧ Ev w [.box sb [.map (some mb)] 52, .map mb (kvs FV.v m)] w' [.box sb [.map (some mb)] 52, .map mb (kvs FV.v m')] ∧ (∀ q, ¬ q = name → kvAt m' q = kvAt m q) := by
  by_cases hm : mayI name (List.length l) m = 0
  · rcases hx : oldF m name with ⟨a1, n1, c1, b1, m1, d1, _ | _, k1⟩
    · refine (tear_ok w sb mb m name hnm a c l i k hk hm a1 n1 c1 b1 m1 d1 k1 hx hH).mono ?_
      rintro e w' ⟨ao, co, he, hv⟩
      exact ⟨0, kvPut name ⟨a1, n1, c1, ao, List.length l, co, true, k⟩ m, he, hv.pick [0, 1] (by kernel_rfl) (by decide), fun q hq => kvAt_other hq⟩
    · refine (tear_torn w sb mb m name hnm a c l i _ hm a1 n1 c1 b1 m1 d1 k1 hx hH).mono ?_
      rintro e w' ⟨he, hv⟩
      exact ⟨_, m, he, hv, fun _ _ => rfl⟩
  · refine (tear_may w sb mb m name hnm a c l i _ hm hH).mono ?_
    rintro e w' ⟨he, hv⟩
    exact ⟨_, m, he, hv, fun _ _ => rfl⟩
theorem bne_s (a : Bs) : (!(a == a)) = false := by rw [beq_self_eq_true]; rfl

theorem head_ok (w : World) : Calls Try.prog 7 #[] w fun e w' => e = .returned (.bool true) ∧ Ev w [] w' [] := by
 refine d_0 [] 37 Go.Proofs.Try.func7 Go.Proofs.Try.ntmps7 (Heap.nil _) fun act0 En0 Hv0 => ?_
 refine d_s [0] [] En0 fun ac1 En2 => ?_
 refine wp_seq ?_
 refine region_from ?_
 refine f_o ?_
 refine c_0 En2 Hv0 (new_go _) ?_
 rintro _ wo6 ⟨sb3, mb4, rfl, he7⟩
 refine ⟨_, _, _, rfl, he7, rfl, fun ac9 En10 Hv11 => ?_⟩
 refine d_e [0,1] [] En10 fun ac12 En13 => ?_
 refine then_normal ?_
 refine wp_seq ?_
 refine d_s [0,1,8] [] En13 fun ac14 En15 => ?_
 refine c_f En15 ?_
 refine wp_skip ?_
 refine then_normal ?_
 refine wp_seq ?_
 refine region_from ?_
 refine d_k [0,1,9] [] 1 En15 fun ac16 En17 => ?_
 refine f_o ?_
 refine op_lit (d := some 10) (t := 22) (T := 5) (m := 6) (parts := #[(0, .int .u8 97), (1, .int .u8 98), (2, .int .u8 99), (3, .int .u8 100), (4, .int .u8 101), (5, .int .u8 102)]) (xs := bys [(97 : UInt8), (98 : UInt8), (99 : UInt8), (100 : UInt8), (101 : UInt8), (102 : UInt8)]) (sz := 1) En17 (by kernel_rfl) (by kernel_rfl) rfl (by decide) Hv11 ?_
 intro ac19 wo20 bk18 En21 Hv22
 refine f_o ?_
 refine op_marked (d := some 11) (t := 22) (e := 5) (k := 2) (cap := 6) (m := 6) (ad := ⟨bk18, 0, none⟩) (xs := bys [(97 : UInt8), (98 : UInt8), (99 : UInt8), (100 : UInt8), (101 : UInt8), (102 : UInt8)]) (T := 5) En21 (by kernel_rfl) (by kernel_rfl) (by kernel_rfl) Hv22 rfl ?_
 intro ac23 wo24  En25 Hv26
 refine f_o ?_
 refine c_l [0,1] (M := [.box sb3 [.map (some mb4)] 52, .map mb4 (kvs FV.v [])]) En25 Hv26 (fun hM29 => put_ok _ sb3 mb4 [] [97] (by first | assumption | omega | decide) (some ⟨bk18, 0, none⟩) 6 [(97 : UInt8), (98 : UInt8), (99 : UInt8), (100 : UInt8), (101 : UInt8), (102 : UInt8)] (bys_in Hv26.heap (k := 2) rfl [0, 1] (by kernel_rfl) rfl (by first | omega | (simp; done) | (simp; omega))) (by decide) hM29) ?_
 rintro _ wo30 ⟨ao27, co28, rfl, he31⟩
 refine ⟨_, _, [.box sb3 [.map (some mb4)] 52, .map mb4 (kvs FV.v (kvPut [97] ⟨ao27, List.length [(97 : UInt8), (98 : UInt8), (99 : UInt8), (100 : UInt8), (101 : UInt8), (102 : UInt8)], co28, none, 0, 0, false, 0⟩ [])), .vec ao27 co28 1 (bys [(97 : UInt8), (98 : UInt8), (99 : UInt8), (100 : UInt8), (101 : UInt8), (102 : UInt8)]) 5, .vec (some ⟨bk18, 0, none⟩) 6 1 (bys [(97 : UInt8), (98 : UInt8), (99 : UInt8), (100 : UInt8), (101 : UInt8), (102 : UInt8)]) 5], rfl, he31, by kernel_rfl, fun ac33 En34 Hv35 => ?_⟩
 refine d_e [0,1,2] [] En34 fun ac36 En37 => ?_
 refine then_normal ?_
 refine wp_seq ?_
 refine region_from ?_
 refine d_k [0,1,2,13] [] 1 En37 fun ac38 En39 => ?_
 refine f_o ?_
 refine op_lit (d := some 14) (t := 22) (T := 5) (m := 3) (parts := #[(0, .int .u8 88), (1, .int .u8 89), (2, .int .u8 90)]) (xs := bys [(88 : UInt8), (89 : UInt8), (90 : UInt8)]) (sz := 1) En39 (by kernel_rfl) (by kernel_rfl) rfl (by decide) Hv35 ?_
 intro ac41 wo42 bk40 En43 Hv44
 refine f_o ?_
 refine op_marked (d := some 15) (t := 22) (e := 5) (k := 4) (cap := 3) (m := 3) (ad := ⟨bk40, 0, none⟩) (xs := bys [(88 : UInt8), (89 : UInt8), (90 : UInt8)]) (T := 5) En43 (by kernel_rfl) (by kernel_rfl) (by kernel_rfl) Hv44 rfl ?_
 intro ac45 wo46  En47 Hv48
 refine f_o ?_
 refine c_l [0,1] (M := [.box sb3 [.map (some mb4)] 52, .map mb4 (kvs FV.v (kvPut [97] ⟨ao27, List.length [(97 : UInt8), (98 : UInt8), (99 : UInt8), (100 : UInt8), (101 : UInt8), (102 : UInt8)], co28, none, 0, 0, false, 0⟩ []))]) En47 Hv48 (fun hM51 => tear_ok _ sb3 mb4 (kvPut [97] ⟨ao27, List.length [(97 : UInt8), (98 : UInt8), (99 : UInt8), (100 : UInt8), (101 : UInt8), (102 : UInt8)], co28, none, 0, 0, false, 0⟩ []) [97] (by first | assumption | omega | decide) (some ⟨bk40, 0, none⟩) 3 [(88 : UInt8), (89 : UInt8), (90 : UInt8)] (bys_in Hv48.heap (k := 4) rfl [0, 1] (by kernel_rfl) rfl (by first | omega | (simp; done) | (simp; omega))) 2 (by first | omega | (simp; done) | (simp; omega)) (may_5 (by decide) (by decide) some_self) ao27 (List.length [(97 : UInt8), (98 : UInt8), (99 : UInt8), (100 : UInt8), (101 : UInt8), (102 : UInt8)]) co28 none 0 0 0 old_self hM51) ?_
 rintro _ wo52 ⟨ao49, co50, rfl, he53⟩
 refine ⟨_, _, [.box sb3 [.map (some mb4)] 52, .map mb4 (kvs FV.v (kvPut [97] ⟨ao27, List.length [(97 : UInt8), (98 : UInt8), (99 : UInt8), (100 : UInt8), (101 : UInt8), (102 : UInt8)], co28, ao49, List.length [(88 : UInt8), (89 : UInt8), (90 : UInt8)], co50, true, 2⟩ (kvPut [97] ⟨ao27, List.length [(97 : UInt8), (98 : UInt8), (99 : UInt8), (100 : UInt8), (101 : UInt8), (102 : UInt8)], co28, none, 0, 0, false, 0⟩ []))), .vec ao49 co50 1 (bys [(88 : UInt8), (89 : UInt8), (90 : UInt8)]) 5, .vec ao27 co28 1 (bys [(97 : UInt8), (98 : UInt8), (99 : UInt8), (100 : UInt8), (101 : UInt8), (102 : UInt8)]) 5, .vec (some ⟨bk18, 0, none⟩) 6 1 (bys [(97 : UInt8), (98 : UInt8), (99 : UInt8), (100 : UInt8), (101 : UInt8), (102 : UInt8)]) 5, .vec (some ⟨bk40, 0, none⟩) 3 1 (bys [(88 : UInt8), (89 : UInt8), (90 : UInt8)]) 5], rfl, he53, by kernel_rfl, fun ac55 En56 Hv57 => ?_⟩
 refine d_e [0,1,2,3] [] En56 fun ac58 En59 => ?_
 refine then_normal ?_
 refine wp_seq ?_
 refine region_from ?_
 refine d_k [0,1,2,3,18] [] 1 En59 fun ac60 En61 => ?_
 refine f_o ?_
 refine c_l [0,1] (M := [.box sb3 [.map (some mb4)] 52, .map mb4 (kvs FV.v (kvPut [97] ⟨ao27, List.length [(97 : UInt8), (98 : UInt8), (99 : UInt8), (100 : UInt8), (101 : UInt8), (102 : UInt8)], co28, ao49, List.length [(88 : UInt8), (89 : UInt8), (90 : UInt8)], co50, true, 2⟩ (kvPut [97] ⟨ao27, List.length [(97 : UInt8), (98 : UInt8), (99 : UInt8), (100 : UInt8), (101 : UInt8), (102 : UInt8)], co28, none, 0, 0, false, 0⟩ [])))]) En61 Hv57 (fun hM64 => read_go _ sb3 mb4 (kvPut [97] ⟨ao27, List.length [(97 : UInt8), (98 : UInt8), (99 : UInt8), (100 : UInt8), (101 : UInt8), (102 : UInt8)], co28, ao49, List.length [(88 : UInt8), (89 : UInt8), (90 : UInt8)], co50, true, 2⟩ (kvPut [97] ⟨ao27, List.length [(97 : UInt8), (98 : UInt8), (99 : UInt8), (100 : UInt8), (101 : UInt8), (102 : UInt8)], co28, none, 0, 0, false, 0⟩ [])) [97] (by first | assumption | omega | decide) some_self [(97 : UInt8), (98 : UInt8), (99 : UInt8), (100 : UInt8), (101 : UInt8), (102 : UInt8)] [(88 : UInt8), (89 : UInt8), (90 : UInt8)] ao27 co28 ao49 co50 true 2 old_self (bys_in Hv57.heap (k := 3) rfl [0, 1] (by kernel_rfl) rfl (by first | omega | (simp; done) | (simp; omega))) (bys_in Hv57.heap (k := 2) rfl [0, 1] (by kernel_rfl) rfl (by first | omega | (simp; done) | (simp; omega))) (by first | omega | (simp; done) | (simp; omega)) (by first | omega | (simp; done) | (simp; omega)) (by first | omega | (simp; done) | (simp; omega)) hM64) ?_
 rintro _ wo65 ⟨ao62, co63, rfl, he66⟩
 refine ⟨_, _, [.box sb3 [.map (some mb4)] 52, .map mb4 (kvs FV.v (kvPut [97] ⟨ao27, List.length [(97 : UInt8), (98 : UInt8), (99 : UInt8), (100 : UInt8), (101 : UInt8), (102 : UInt8)], co28, ao49, List.length [(88 : UInt8), (89 : UInt8), (90 : UInt8)], co50, true, 2⟩ (kvPut [97] ⟨ao27, List.length [(97 : UInt8), (98 : UInt8), (99 : UInt8), (100 : UInt8), (101 : UInt8), (102 : UInt8)], co28, none, 0, 0, false, 0⟩ []))), .vec ao62 co63 1 (bys (rdL [(97 : UInt8), (98 : UInt8), (99 : UInt8), (100 : UInt8), (101 : UInt8), (102 : UInt8)] [(88 : UInt8), (89 : UInt8), (90 : UInt8)] 2)) 5, .vec ao49 co50 1 (bys [(88 : UInt8), (89 : UInt8), (90 : UInt8)]) 5, .vec ao27 co28 1 (bys [(97 : UInt8), (98 : UInt8), (99 : UInt8), (100 : UInt8), (101 : UInt8), (102 : UInt8)]) 5, .vec (some ⟨bk18, 0, none⟩) 6 1 (bys [(97 : UInt8), (98 : UInt8), (99 : UInt8), (100 : UInt8), (101 : UInt8), (102 : UInt8)]) 5, .vec (some ⟨bk40, 0, none⟩) 3 1 (bys [(88 : UInt8), (89 : UInt8), (90 : UInt8)]) 5], rfl, he66, by kernel_rfl, fun ac68 En69 Hv70 => ?_⟩
 refine d_e [0,1,2,3,4,5] [] En69 fun ac71 En72 => ?_
 refine then_normal ?_
 refine wp_seq ?_
 refine region_from ?_
 refine d_k [0,1,32,33] [] 12 En72 fun ac73 En74 => ?_
 refine f_o ?_
 refine op_str (d := some 34) (src := 22) (dst := 9) (e := 5) (ao := ao62) (cap := co63) (p := List.length (rdL [(97 : UInt8), (98 : UInt8), (99 : UInt8), (100 : UInt8), (101 : UInt8), (102 : UInt8)] [(88 : UInt8), (89 : UInt8), (90 : UInt8)] 2)) (bs := rdL [(97 : UInt8), (98 : UInt8), (99 : UInt8), (100 : UInt8), (101 : UInt8), (102 : UInt8)] [(88 : UInt8), (89 : UInt8), (90 : UInt8)] 2) En74 (by kernel_rfl) rfl (by kernel_rfl) (by kernel_rfl) (by kernel_rfl) (Hv70.heap.reads (k := 2) rfl) (bys_vnz Hv70.heap (k := 2) rfl) ?_
 intro ac75 En76
 refine d_e [0,1] [(13, g_v (show (.bool (ByteArray.toList (bstr (rdL [(97 : UInt8), (98 : UInt8), (99 : UInt8), (100 : UInt8), (101 : UInt8), (102 : UInt8)] [(88 : UInt8), (89 : UInt8), (90 : UInt8)] 2)) == ByteArray.toList (bstr [88, 89, 99, 100, 101, 102])) : Value) = .bool true by rw [Go.Dbr.bstr_eq (rdL [(97 : UInt8), (98 : UInt8), (99 : UInt8), (100 : UInt8), (101 : UInt8), (102 : UInt8)] [(88 : UInt8), (89 : UInt8), (90 : UInt8)] 2) [88, 89, 99, 100, 101, 102], show ((rdL [(97 : UInt8), (98 : UInt8), (99 : UInt8), (100 : UInt8), (101 : UInt8), (102 : UInt8)] [(88 : UInt8), (89 : UInt8), (90 : UInt8)] 2) == [88, 89, 99, 100, 101, 102]) = true from (by first | rfl | decide)] <;> rfl))] En76 fun ac77 En78 => ?_
 refine then_normal ?_
 refine wp_ret ?_
 refine d_ret1 (t := 0) (v := .bool true) En78 (by kernel_rfl) (by kernel_rfl) ?_
 exact ⟨rfl, Hv70.pick [] (by kernel_rfl) (by decide)⟩

end Go.Proofs.Ytfeibokonhdgnaa
