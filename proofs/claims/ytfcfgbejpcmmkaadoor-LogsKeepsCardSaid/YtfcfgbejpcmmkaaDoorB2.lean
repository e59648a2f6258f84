/- Layer 3: a log. -/
import Derived.Test.YtfcfgbejpcmmkaaDoorB1
import Derived.Test.YtfcfgbejpcmmkaaDoorMap
namespace Go.Proofs.YtfcfgbejpcmmkaaDoor
open Go.Dbr
set_option maxRecDepth 100000
set_option maxHeartbeats 2000000
set_option linter.unusedVariables false
set_option linter.unusedSimpArgs false

/-- the lines, and how many were lost, behind one more -/
def keepL (n : Int) (ls : List Bs) (s : Bs) : List Bs := if n < ((ls ++ [s]).length : Int) then (ls ++ [s]).drop 1 else ls ++ [s]
def keepN (n : Int) (ls : List Bs) (s : Bs) (o : UInt64) : UInt64 := if n < ((ls ++ [s]).length : Int) then o + 1 else o
def addL (n : Int) (ls : List Bs) (r : Bs × Int) : List Bs := if r.2 = 0 then keepL n ls r.1 else ls
def addN (n : Int) (ls : List Bs) (r : Bs × Int) (o : UInt64) : UInt64 := if r.2 = 0 then keepN n ls r.1 o else o
theorem add_len {n : Int} {ls : List Bs} {r : Bs × Int} (hn : 1 ≤ n) (h : (ls.length : Int) ≤ n) : ((addL n ls r).length : Int) ≤ n := by
  unfold addL keepL
  split
  · split
    · rw [List.length_drop, List.length_append, List.length_singleton]; omega
    · rename_i g; omega
  · exact h

theorem new_ok (w : World) (n : Int) (hn : 1 ≤ n ∧ n ≤ 4096) : Calls Tryd.prog 11 #[.int .i64 n] w fun e w' => ∃ g mb, e = .returned (.tuple #[pt g, .int .i64 0]) ∧ Ev w [] w' [.box g [.int .i64 n, .slice none 0 0, .int .u64 0, .map (some mb)] 79] := by
 refine d_0 [(0, .int .i64 n)] 14 Go.Proofs.Tryd.func11 Go.Proofs.Tryd.ntmps11 (Heap.nil _) fun act0 En0 Hv0 => ?_
 refine d_s [0,2,3] [] En0 fun ac1 En2 => ?_
 refine wp_seq ?_
 refine wp_seq ?_
 refine region_from ?_
 refine d_k [0,2,3,6] [] 3 En2 fun ac3 En4 => ?_
 rcases Bool.eq_false_or_eq_true (decide (n < (1 : Int))) with hb5 | hb5
 ·
  have En6 := En4.fx (t := 6) (congrArg Value.bool hb5)
  have hp7 : n < (1 : Int) := of_decide_eq_true hb5
  refine d_e [0,2,3,9] [] En6 fun ac8 En9 => ?_
  refine then_normal ?_
  refine c_t En9 ?_
  refine d_s [0,2,3] [] En9 fun ac10 En11 => ?_
  refine wp_ret ?_
  refine then_ret ?_
  refine d_ret2 (t := 2) (u := 3) (v := .pointer none) (x := .int .i64 1) En11 (by kernel_rfl) (by kernel_rfl) (by kernel_rfl) ?_
  omega
 ·
  have En12 := En4.fx (t := 6) (congrArg Value.bool hb5)
  have hp13 : ¬ (n < (1 : Int)) := of_decide_eq_false hb5
  refine d_e [0,2,3,9] [] En12 fun ac14 En15 => ?_
  refine then_normal ?_
  refine c_d (n > (4096 : Int)) En15 (fun hc16 => ?_) (fun hc16 => ?_)
  ·
   refine d_s [0,2,3] [] En15 fun ac17 En18 => ?_
   refine wp_ret ?_
   refine then_ret ?_
   refine d_ret2 (t := 2) (u := 3) (v := .pointer none) (x := .int .i64 1) En18 (by kernel_rfl) (by kernel_rfl) (by kernel_rfl) ?_
   omega
  ·
   refine wp_skip ?_
   refine then_normal ?_
   refine wp_seq ?_
   refine region_from ?_
   refine d_k [0,2,3,10] [] 1 En15 fun ac19 En20 => ?_
   refine f_o ?_
   refine op_makemap (d := some 11) (t := 77) En20 (by kernel_rfl) Hv0 ?_
   intro ac22 wo23 bk21 En24 Hv25
   replace Hv25 : Ev w [] wo23 [.map bk21 (kvs Value.bool (setKV []))] := Hv25
   refine d_k [0,2,3,12] [] 3 En24 fun ac26 En27 => ?_
   refine f_o ?_
   refine m_m 79 [.int .i64 n, .slice none 0 0, .int .u64 0, .map (some bk21)] En27 Hv25 fun ac29 wo30 bk28 En31 Hv32 => ?_
   refine d_e [0,2,3] [] En31 fun ac33 En34 => ?_
   refine then_normal ?_
   refine wp_ret ?_
   refine d_ret2 (t := 2) (u := 3) (v := pt bk28) (x := .int .i64 0) En34 (by kernel_rfl) (by kernel_rfl) (by kernel_rfl) ?_
   exact ⟨bk28, bk21, rfl, Hv32.pick [1] (by kernel_rfl) (by decide)⟩

theorem new_bad (w : World) (n : Int) (hn : ¬ (1 ≤ n ∧ n ≤ 4096)) : Calls Tryd.prog 11 #[.int .i64 n] w fun e w' => e = .returned (.tuple #[.pointer none, .int .i64 1]) ∧ Ev w [] w' [] := by
 refine d_0 [(0, .int .i64 n)] 14 Go.Proofs.Tryd.func11 Go.Proofs.Tryd.ntmps11 (Heap.nil _) fun act0 En0 Hv0 => ?_
 refine d_s [0,2,3] [] En0 fun ac1 En2 => ?_
 refine wp_seq ?_
 refine wp_seq ?_
 refine region_from ?_
 refine d_k [0,2,3,6] [] 3 En2 fun ac3 En4 => ?_
 rcases Bool.eq_false_or_eq_true (decide (n < (1 : Int))) with hb5 | hb5
 ·
  have En6 := En4.fx (t := 6) (congrArg Value.bool hb5)
  have hp7 : n < (1 : Int) := of_decide_eq_true hb5
  refine d_e [0,2,3,9] [] En6 fun ac8 En9 => ?_
  refine then_normal ?_
  refine c_t En9 ?_
  refine d_s [0,2,3] [] En9 fun ac10 En11 => ?_
  refine wp_ret ?_
  refine then_ret ?_
  refine d_ret2 (t := 2) (u := 3) (v := .pointer none) (x := .int .i64 1) En11 (by kernel_rfl) (by kernel_rfl) (by kernel_rfl) ?_
  exact ⟨rfl, Hv0.pick [] (by kernel_rfl) (by decide)⟩
 ·
  have En12 := En4.fx (t := 6) (congrArg Value.bool hb5)
  have hp13 : ¬ (n < (1 : Int)) := of_decide_eq_false hb5
  refine d_e [0,2,3,9] [] En12 fun ac14 En15 => ?_
  refine then_normal ?_
  refine c_d (n > (4096 : Int)) En15 (fun hc16 => ?_) (fun hc16 => ?_)
  ·
   refine d_s [0,2,3] [] En15 fun ac17 En18 => ?_
   refine wp_ret ?_
   refine then_ret ?_
   refine d_ret2 (t := 2) (u := 3) (v := .pointer none) (x := .int .i64 1) En18 (by kernel_rfl) (by kernel_rfl) (by kernel_rfl) ?_
   exact ⟨rfl, Hv0.pick [] (by kernel_rfl) (by decide)⟩
  ·
   refine wp_skip ?_
   refine then_normal ?_
   refine wp_seq ?_
   refine region_from ?_
   refine d_k [0,2,3,10] [] 1 En15 fun ac19 En20 => ?_
   refine f_o ?_
   refine op_makemap (d := some 11) (t := 77) En20 (by kernel_rfl) Hv0 ?_
   intro ac22 wo23 bk21 En24 Hv25
   replace Hv25 : Ev w [] wo23 [.map bk21 (kvs Value.bool (setKV []))] := Hv25
   refine d_k [0,2,3,12] [] 3 En24 fun ac26 En27 => ?_
   refine f_o ?_
   refine m_m 79 [.int .i64 n, .slice none 0 0, .int .u64 0, .map (some bk21)] En27 Hv25 fun ac29 wo30 bk28 En31 Hv32 => ?_
   refine d_e [0,2,3] [] En31 fun ac33 En34 => ?_
   refine then_normal ?_
   refine wp_ret ?_
   refine d_ret2 (t := 2) (u := 3) (v := pt bk28) (x := .int .i64 0) En34 (by kernel_rfl) (by kernel_rfl) (by kernel_rfl) ?_
   omega

theorem clone_go (w : World) (a : Option Addr) (c : Nat) (ls : List Bs) (hl : ls.length ≤ 1048576) (hH : Heap w [.vec a c 1 (List.flatMap fStr ls) 9]) : Calls Tryd.prog 34 #[.slice a (List.length ls) c] w fun e w' => ∃ a' c', e = .returned (.slice a' (List.length ls) c') ∧ Ev w [.vec a c 1 (List.flatMap fStr ls) 9] w' [.vec a c 1 (List.flatMap fStr ls) 9, .vec a' c' 1 (List.flatMap fStr ls) 9] := by
 refine d_0 [(0, .slice a (List.length ls) c)] 8 Go.Proofs.Tryd.func34 Go.Proofs.Tryd.ntmps34 (hH) fun act0 En0 Hv0 => ?_
 refine d_s [0,2] [] En0 fun ac1 En2 => ?_
 refine wp_seq ?_
 refine wp_seq ?_
 refine region_from ?_
 refine d_k [0,2,3] [] 1 En2 fun ac3 En4 => ?_
 refine f_o ?_
 refine q_v (x := binOp .eql 41 (.slice a (List.length ls) c) (.slice none 0 0)) (v := .bool (Option.isNone a)) En4 (Go.Dbr.run_slicenil (e := 9) (by kernel_rfl) a (List.length ls) c _) fun ac5 En6 => ?_
 refine f_e ?_
 refine then_normal ?_
 refine cond_at En6 (t := Option.isNone a) (by kernel_rfl) (fun hc7 => ?_) (fun hc7 => ?_)
 ·
  replace hc7 : Option.isNone a = true := hc7
  refine d_s [0,2] [] En6 fun ac8 En9 => ?_
  refine wp_ret ?_
  refine then_ret ?_
  refine d_ret1 (t := 2) (v := .slice none 0 0) En9 (by kernel_rfl) (by kernel_rfl) ?_
  have Hv10 : Ev w [.vec a c 1 (List.flatMap fStr ls) 9] w [.vec a c 1 (List.flatMap fStr ls) 9, .vec none 0 1 (List.flatMap fStr []) 9] := Ev.nil (sz := 1) (T := 9) Hv0
  have hl0 : ls = [] := List.eq_nil_of_length_eq_zero (sv_nz (f := fStr) (sz := 1) hH (k := 0) rfl (fun _ => rfl) (by decide) (by cases a with | none => rfl | some x => simp_all))
  subst hl0
  exact ⟨none, 0, rfl, Hv10.pick [0, 1] (by kernel_rfl) (by decide)⟩
 ·
  replace hc7 : ¬ (Option.isNone a = true) := Bool.eq_false_iff.1 hc7
  refine wp_skip ?_
  refine then_normal ?_
  refine wp_seq ?_
  refine region_from ?_
  refine f_o ?_
  refine op_lit (d := some 5) (t := 41) (T := 9) (m := 0) (parts := #[]) (xs := List.flatMap fStr ([] : List (RStr))) (sz := 1) En6 (by kernel_rfl) (by kernel_rfl) rfl (by decide) Hv0 ?_
  intro ac12 wo13 bk11 En14 Hv15
  refine d_k [0,2,5,6] [] 2 En14 fun ac16 En17 => ?_
  refine f_o ?_
  refine op_append (d := some 7) (t := 41) (tx := 41) (ty := 41) (k := 1) (p := 0) (m := List.length ls) (x := .slice a (List.length ls) c) (bytes := 16) En17 (by kernel_rfl) Hv15 rfl rfl (Reads.src (size := 1) (tx := 41) (e' := 9) (by kernel_rfl) (Hv15.heap.reads (k := 0) rfl) (sv_len (f := fStr) (sz := 1) (fun _ => rfl) _) (sv_nz (f := fStr) (sz := 1) Hv15.heap (k := 0) rfl (fun _ => rfl) (by decide)) (flat_one (f := fStr) (fun _ => one_all rfl) _)) (by kernel_rfl) (z := .string (bstr [])) (by kernel_rfl) rfl (by decide) (by omega) (by unfold maxLen; omega) ?_
  intro ac22 wo23 ao18 cp19 En24 Hv25 hnz _
  clear hnz
  rw [← List.flatMap_append] at Hv25
  have ehz20 : 0 + (List.length ls) = List.length (([] : List (RStr)) ++ ls) := (by first | (simp; done) | (simp; omega) | omega)
  rw [ehz20] at En24
  refine d_e [0,2] [] En24 fun ac26 En27 => ?_
  refine then_normal ?_
  refine wp_ret ?_
  refine d_ret1 (t := 2) (v := .slice ao18 (List.length (([] : List (RStr)) ++ ls)) cp19) En27 (by kernel_rfl) (by kernel_rfl) ?_
  exact ⟨ao18, cp19, rfl, Hv25.pick [0, 1] (by kernel_rfl) (by decide)⟩

theorem add_go (w : World) (g : Nat) (n : Int) (a : Option Addr) (c : Nat) (ls : List Bs) (o : UInt64) (mb : Nat) (t : UInt64) (ev : Bs) (hev : List.length ev ≤ 140737488351232) (al : Option Addr) (cl : Nat) (xs : List RPair) (il : InS fPair 48 (fun y : RPair => ((List.length y.1 ≤ 140737488351232) ∧ (True ∧ (True ∧ ((List.length y.2.2.2.1 ≤ 140737488351232) ∧ (True)))))) w [.box g [.int .i64 n, .slice a (List.length ls) c, uv64 o, .map (some mb)] 79, .vec a c 1 (List.flatMap fStr ls) 9] al cl xs) (hn : 1 ≤ n ∧ n ≤ 4096) (hls : (List.length ls : Int) ≤ n) (gt : InT w [.box g [.int .i64 n, .slice a (List.length ls) c, uv64 o, .map (some mb)] 79, .vec a c 1 (List.flatMap fStr ls) 9]) (hH : Heap w [.box g [.int .i64 n, .slice a (List.length ls) c, uv64 o, .map (some mb)] 79, .vec a c 1 (List.flatMap fStr ls) 9]) : Calls Tryd.prog 12 #[pt g, .agg #[uv64 t, .string (bstr ev), .slice al (List.length xs) cl]] w fun e w' => ∃ a' c', e = .returned (.int .i64 (encL t ev xs).2) ∧ Ev w [.box g [.int .i64 n, .slice a (List.length ls) c, uv64 o, .map (some mb)] 79, .vec a c 1 (List.flatMap fStr ls) 9] w' [.box g [.int .i64 n, .slice a' (List.length (addL n ls (encL t ev xs))) c', .int .u64 ((UInt64.toNat (addN n ls (encL t ev xs) o) : Nat) : Int), .map (some mb)] 79, .vec a' c' 1 (List.flatMap fStr (addL n ls (encL t ev xs))) 9] := by
 refine d_0 [(0, pt g), (1, .agg #[uv64 t, .string (bstr ev), .slice al (List.length xs) cl])] 50 Go.Proofs.Tryd.func12 Go.Proofs.Tryd.ntmps12 (hH) fun act0 En0 Hv0 => ?_
 refine wp_seq ?_
 refine region_from ?_
 refine f_o ?_
 refine m_m 25 [uv64 t, .string (bstr ev), .slice al (List.length xs) cl] En0 Hv0 fun ac2 wo3 bk1 En4 Hv5 => ?_
 refine d_e [0,3,4] [] En4 fun ac6 En7 => ?_
 refine then_normal ?_
 refine wp_seq ?_
 refine region_from ?_
 refine f_o ?_
 refine m_a 2 0 3 [uv64 t, .string (bstr ev), .slice al (List.length xs) cl] En7 Hv5 rfl rfl rfl fun ac8 En9 => ?_
 refine f_o ?_
 refine c_p En9 Hv5 (enc_go _ t ev (by first | assumption | omega) al cl xs (il.go Hv5 [] (by kernel_rfl) (fun _ h => ⟨h.1, h.2.1, h.2.2.1, h.2.2.2.1, h.2.2.2.2⟩)) ((gt.ev Hv5).nil)) fun ac14 wo11 En15 Hv16 => ?_
 refine d_e [0,4,5,6] [] En15 fun ac17 En18 => ?_
 refine then_normal ?_
 refine wp_seq ?_
 refine wp_seq ?_
 refine d_r [0,4,5,6,13] [] En18 fun ac19 En20 => ?_
 refine then_normal ?_
 refine c_n ((encL t ev xs).2) (0 : Int) En20 (fun hc21 => ?_) (fun hc21 => ?_)
 ·
  refine wp_seq ?_
  refine d_r [0,4,5,6] [] En20 fun ac22 En23 => ?_
  refine then_normal ?_
  refine wp_ret ?_
  refine then_ret ?_
  refine d_ret1 (t := 4) (v := .int .i64 ((encL t ev xs).2)) En23 (by kernel_rfl) (by kernel_rfl) ?_
  have hE : ¬ (encL t ev xs).2 = 0 := by assumption
  rw [show addL n ls (encL t ev xs) = ls from if_neg hE, show addN n ls (encL t ev xs) o = o from if_neg hE]
  exact ⟨a, c, rfl, Hv16.pick [0, 1] (by kernel_rfl) (by decide)⟩
 ·
  refine wp_skip ?_
  refine then_normal ?_
  refine wp_seq ?_
  have hE : (encL t ev xs).2 = 0 := by omega
  have hll : List.length (ls ++ [(encL t ev xs).1]) = List.length ls + 1 := by simp
  refine region_from ?_
  refine d_k [0,4,5,6,15,18] [] 4 En20 fun ac24 En25 => ?_
  refine f_o ?_
  refine m_l 0 En25 Hv16 fun ac26 En27 => ?_
  refine d_k [0,4,6,15,19,20] [] 6 En27 fun ac28 En29 => ?_
  refine f_o ?_
  refine op_lit (d := some 21) (t := 41) (T := 9) (m := 1) (parts := #[(0, .string (bstr ((encL t ev xs).1)))]) (xs := List.flatMap fStr ([(encL t ev xs).1] : List (RStr))) (sz := 1) En29 (by kernel_rfl) (by kernel_rfl) rfl (by decide) Hv16 ?_
  intro ac31 wo32 bk30 En33 Hv34
  refine f_o ?_
  refine op_append (d := some 22) (t := 41) (tx := 41) (ty := 41) (k := 1) (p := List.length ls) (m := 1) (x := .slice (some ⟨bk30, 0, none⟩) 1 1) (bytes := 16) En33 (by kernel_rfl) Hv34 rfl (sv_len (f := fStr) (sz := 1) (fun _ => rfl) _) (Reads.src (size := 1) (tx := 41) (e' := 9) (by kernel_rfl) (Hv34.heap.reads (k := 3) rfl) rfl (fun e => by cases e) (flat_one (f := fStr) (fun _ => one_all rfl) _)) (by kernel_rfl) (z := .string (bstr [])) (by kernel_rfl) rfl (by decide) (by omega) (by unfold maxLen; omega) ?_
  intro ac39 wo40 ao35 cp36 En41 Hv42 hnz _
  clear hnz
  rw [← List.flatMap_append] at Hv42
  have ehz37 : (List.length ls) + 1 = List.length (ls ++ ([(encL t ev xs).1] : List (RStr))) := (by first | (simp; done) | (simp; omega) | omega)
  rw [ehz37] at En41
  refine d_k [0,4,6,22,24] [] 10 En41 fun ac43 En44 => ?_
  refine f_o ?_
  refine m_s 0 [.box g [.int .i64 n, .slice ao35 (List.length (ls ++ ([(encL t ev xs).1] : List (RStr)))) cp36, uv64 o, .map (some mb)] 79, .vec ao35 cp36 1 (List.flatMap fStr (ls ++ ([(encL t ev xs).1] : List (RStr)))) 9, .box bk1 [uv64 t, .string (bstr ev), .slice al (List.length xs) cl] 25, .vec (some ⟨bk30, 0, none⟩) 1 1 (List.flatMap fStr ([(encL t ev xs).1] : List (RStr))) 9] En44 Hv42 fun ac45 wo46 En47 Hv48 => ?_
  refine f_e ?_
  refine then_normal ?_
  refine wp_seq ?_
  refine wp_seq ?_
  refine r_c (fun ac wo => Env ac 50 [(0, pt g), (4, .int .i64 0), (6, .int .i64 ((encL t ev xs).2)), (34, .bool (decide (((List.length (ls ++ ([(encL t ev xs).1] : List (RStr))) : Nat) : Int) > n)))] ∧ Ev w [.box g [.int .i64 n, .slice a (List.length ls) c, uv64 o, .map (some mb)] 79, .vec a c 1 (List.flatMap fStr ls) 9] wo [.box g [.int .i64 n, .slice ao35 (List.length (ls ++ ([(encL t ev xs).1] : List (RStr)))) cp36, uv64 o, .map (some mb)] 79, .vec ao35 cp36 1 (List.flatMap fStr (ls ++ ([(encL t ev xs).1] : List (RStr)))) 9]) ?_ ?_
  ·
   refine s_g0 [(0, pt g), (4, .int .i64 0), (6, .int .i64 ((encL t ev xs).2))] [0,1,2,3,4,5,6,7,8,9] [(25, pt g), (26, pt g), (27, .pointer (some ⟨g, 1, none⟩)), (28, .slice ao35 (List.length (ls ++ ([(encL t ev xs).1] : List (RStr)))) cp36), (29, .int .i64 ((List.length (ls ++ ([(encL t ev xs).1] : List (RStr))) : Nat) : Int)), (30, pt g), (31, pt g), (32, pt g), (33, .int .i64 n), (34, .bool (decide (((List.length (ls ++ ([(encL t ev xs).1] : List (RStr))) : Nat) : Int) > n)))] 0 [(0, pt g), (4, .int .i64 0), (6, .int .i64 ((encL t ev xs).2)), (34, .bool (decide (((List.length (ls ++ ([(encL t ev xs).1] : List (RStr))) : Nat) : Int) > n)))] (En47.sb) (Hv48.trans (Ev.drew Hv48.heap)) ?_ fun ac59 wo60 En61 Hv62 => ?_
   ·
    refine s_p [] ?_
    refine s_p [] ?_
    refine s_p [] ?_
    refine s_l 0 ?_
    refine s_p [] ?_
    refine s_p [] ?_
    refine s_p [] ?_
    refine s_p [] ?_
    refine s_l 0 ?_
    refine s_p [] ?_
    exact s_n
   exact a_e ⟨En61.sub (by kernel_rfl), Hv62.pick [0, 1] (by kernel_rfl) (by decide)⟩
  rintro ac63 wo64 ⟨En65, Hv66⟩
  refine then_normal ?_
  refine c_d (((List.length (ls ++ ([(encL t ev xs).1] : List (RStr))) : Nat) : Int) > n) En65 (fun hc67 => ?_) (fun hc67 => ?_)
  ·
   refine wp_seq ?_
   refine region_from ?_
   refine d_k [0,4,6,35,38] [] 4 En65 fun ac68 En69 => ?_
   refine f_o ?_
   refine m_l 0 En69 Hv66 fun ac70 En71 => ?_
   refine f_o ?_
   refine c_l [1] (M := [.vec ao35 cp36 1 (List.flatMap fStr (ls ++ ([(encL t ev xs).1] : List (RStr)))) 9]) En71 Hv66 (fun hM72 => delete_go _ ao35 cp36 (ls ++ ([(encL t ev xs).1] : List (RStr))) (by simp) hM72) ?_
   rintro _ wo73 ⟨rfl, he74⟩
   refine ⟨_, _, [.vec ao35 cp36 1 (List.flatMap fStr (List.drop 1 (ls ++ ([(encL t ev xs).1] : List (RStr))))) 9, .box g [.int .i64 n, .slice ao35 (List.length (ls ++ ([(encL t ev xs).1] : List (RStr)))) cp36, uv64 o, .map (some mb)] 79], rfl, he74, by kernel_rfl, fun ac76 En77 Hv78 => ?_⟩
   refine d_k [0,4,6,40,42] [] 8 En77 fun ac79 En80 => ?_
   refine f_o ?_
   refine m_s 1 [.vec ao35 cp36 1 (List.flatMap fStr (List.drop 1 (ls ++ ([(encL t ev xs).1] : List (RStr))))) 9, .box g [.int .i64 n, .slice ao35 (List.length (List.drop 1 (ls ++ ([(encL t ev xs).1] : List (RStr))))) cp36, uv64 o, .map (some mb)] 79] En80 Hv78 fun ac81 wo82 En83 Hv84 => ?_
   refine f_e ?_
   refine then_normal ?_
   refine region_from ?_
   refine d_k [0,4,6,43,45] [] 3 En83 fun ac85 En86 => ?_
   refine f_o ?_
   refine m_l 1 En86 Hv84 fun ac87 En88 => ?_
   refine d_k [0,4,6,47,49] [(4, g_i .u64 (Go.Dbr.u64_add (x := o) (y := (1 : UInt64)) rfl rfl))] 7 En88 fun ac89 En90 => ?_
   refine f_o ?_
   refine m_s 1 [.vec ao35 cp36 1 (List.flatMap fStr (List.drop 1 (ls ++ ([(encL t ev xs).1] : List (RStr))))) 9, .box g [.int .i64 n, .slice ao35 (List.length (List.drop 1 (ls ++ ([(encL t ev xs).1] : List (RStr))))) cp36, .int .u64 ((UInt64.toNat (o + (1 : UInt64)) : Nat) : Int), .map (some mb)] 79] En90 Hv84 fun ac91 wo92 En93 Hv94 => ?_
   refine f_e ?_
   refine then_normal ?_
   refine wp_seq ?_
   refine d_r [0,4,6] [] En93 fun ac95 En96 => ?_
   refine then_normal ?_
   refine wp_ret ?_
   refine d_ret1 (t := 4) (v := .int .i64 0) En96 (by kernel_rfl) (by kernel_rfl) ?_
   rw [show addL n ls (encL t ev xs) = List.drop 1 (ls ++ ([(encL t ev xs).1] : List (RStr))) from (if_pos hE).trans (if_pos (by rw [hll]; omega)), show addN n ls (encL t ev xs) o = o + 1 from (if_pos hE).trans (if_pos (by rw [hll]; omega)), hE]
   exact ⟨ao35, cp36, rfl, Hv94.pick [1, 0] (by kernel_rfl) (by decide)⟩
  ·
   refine wp_skip ?_
   refine then_normal ?_
   refine wp_seq ?_
   refine d_r [0,4,6] [] En65 fun ac97 En98 => ?_
   refine then_normal ?_
   refine wp_ret ?_
   refine d_ret1 (t := 4) (v := .int .i64 0) En98 (by kernel_rfl) (by kernel_rfl) ?_
   rw [show addL n ls (encL t ev xs) = ls ++ ([(encL t ev xs).1] : List (RStr)) from (if_pos hE).trans (if_neg (by rw [hll]; omega)), show addN n ls (encL t ev xs) o = o from (if_pos hE).trans (if_neg (by rw [hll]; omega)), hE]
   exact ⟨ao35, cp36, rfl, Hv66.pick [0, 1] (by kernel_rfl) (by decide)⟩

theorem lines_go (w : World) (g : Nat) (n : Int) (a : Option Addr) (c : Nat) (ls : List Bs) (o : UInt64) (mb : Nat) (hl : ls.length ≤ 1048576) (hH : Heap w [.box g [.int .i64 n, .slice a (List.length ls) c, uv64 o, .map (some mb)] 79, .vec a c 1 (List.flatMap fStr ls) 9]) : Calls Tryd.prog 13 #[pt g] w fun e w' => ∃ a' c', e = .returned (.slice a' (List.length ls) c') ∧ Ev w [.box g [.int .i64 n, .slice a (List.length ls) c, uv64 o, .map (some mb)] 79, .vec a c 1 (List.flatMap fStr ls) 9] w' [.box g [.int .i64 n, .slice a (List.length ls) c, uv64 o, .map (some mb)] 79, .vec a c 1 (List.flatMap fStr ls) 9, .vec a' c' 1 (List.flatMap fStr ls) 9] := by
 refine d_0 [(0, pt g)] 8 Go.Proofs.Tryd.func13 Go.Proofs.Tryd.ntmps13 (hH) fun act0 En0 Hv0 => ?_
 refine d_s [0,2] [] En0 fun ac1 En2 => ?_
 refine wp_seq ?_
 refine region_from ?_
 refine d_k [2,5] [] 3 En2 fun ac3 En4 => ?_
 refine f_o ?_
 refine m_l 0 En4 Hv0 fun ac5 En6 => ?_
 refine f_o ?_
 refine c_l [1] (M := [.vec a c 1 (List.flatMap fStr ls) 9]) En6 Hv0 (fun hM9 => clone_go _ a c ls (by omega) hM9) ?_
 rintro _ wo10 ⟨ac7, cc8, rfl, he11⟩
 refine ⟨_, _, [.vec a c 1 (List.flatMap fStr ls) 9, .vec ac7 cc8 1 (List.flatMap fStr ls) 9, .box g [.int .i64 n, .slice a (List.length ls) c, uv64 o, .map (some mb)] 79], rfl, he11, by kernel_rfl, fun ac13 En14 Hv15 => ?_⟩
 refine d_e [2] [] En14 fun ac16 En17 => ?_
 refine then_normal ?_
 refine wp_ret ?_
 refine d_ret1 (t := 2) (v := .slice ac7 (List.length ls) cc8) En17 (by kernel_rfl) (by kernel_rfl) ?_
 exact ⟨ac7, cc8, rfl, Hv15.pick [2, 0, 1] (by kernel_rfl) (by decide)⟩

theorem lost_go (w : World) (g : Nat) (n : Int) (x : Value) (o : UInt64) (mb : Nat) (hH : Heap w [.box g [.int .i64 n, x, uv64 o, .map (some mb)] 79]) : Calls Tryd.prog 14 #[pt g] w fun e w' => e = .returned (uv64 o) ∧ Ev w [.box g [.int .i64 n, x, uv64 o, .map (some mb)] 79] w' [.box g [.int .i64 n, x, uv64 o, .map (some mb)] 79] := by
 refine d_0 [(0, pt g)] 7 Go.Proofs.Tryd.func14 Go.Proofs.Tryd.ntmps14 (hH) fun act0 En0 Hv0 => ?_
 refine d_s [0,2] [] En0 fun ac1 En2 => ?_
 refine wp_seq ?_
 refine region_from ?_
 refine d_k [2,5] [] 3 En2 fun ac3 En4 => ?_
 refine f_o ?_
 refine m_l 0 En4 Hv0 fun ac5 En6 => ?_
 refine d_e [2] [] En6 fun ac7 En8 => ?_
 refine then_normal ?_
 refine wp_ret ?_
 refine d_ret1 (t := 2) (v := uv64 o) En8 (by kernel_rfl) (by kernel_rfl) ?_
 exact ⟨rfl, Hv0.pick [0] (by kernel_rfl) (by decide)⟩

end Go.Proofs.YtfcfgbejpcmmkaaDoor
