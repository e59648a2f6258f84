/- LogsKeeps: the walk. -/
import Derived.Test.YtfcfgbejpcmmkaaDoorB2
import Derived.Test.YtfcfgbejpcmmkaaDoorSq
namespace Go.Proofs.YtfcfgbejpcmmkaaDoor
open Go.Dbr
set_option maxRecDepth 100000
set_option maxHeartbeats 2000000
set_option linter.unusedVariables false
set_option linter.unusedSimpArgs false

theorem keep_y {n : Int} {ls : List Bs} {r : Bs × Int} {o : UInt64} (h : r.2 = 0) (g : n < ((ls ++ [r.1]).length : Int)) : addL n ls r = List.drop 1 (ls ++ [r.1]) ∧ addN n ls r o = o + 1 := by
  unfold addL addN keepL keepN
  exact ⟨by rw [if_pos h, if_pos g], by rw [if_pos h, if_pos g]⟩
theorem keep_n {n : Int} {ls : List Bs} {r : Bs × Int} {o : UInt64} (h : r.2 = 0) (g : ¬ n < ((ls ++ [r.1]).length : Int)) : addL n ls r = ls ++ [r.1] ∧ addN n ls r o = o := by
  unfold addL addN keepL keepN
  exact ⟨by rw [if_pos h, if_neg g], by rw [if_pos h, if_neg g]⟩
theorem keep_0 {n : Int} {ls : List Bs} {r : Bs × Int} {o : UInt64} (h : ¬ r.2 = 0) : addL n ls r = ls ∧ addN n ls r o = o := ⟨if_neg h, if_neg h⟩
theorem at_drop {gs ws : List Bs} {k : Nat} {x : Bs} (h : List.drop k gs = List.drop k ws) (hx : gs[k]? = some x) : ws[k]? = some x := by
  have h1 : (List.drop k gs)[0]? = (List.drop k ws)[0]? := by rw [h]
  rw [List.getElem?_drop, List.getElem?_drop, Nat.add_zero] at h1
  rw [← h1]; exact hx
theorem flat_set0 {f : Bs → List Value} {x x' : Bs} {v : Value} (hx0 : ∀ y : Bs, (f y).length = 1) : ∀ {xs : List Bs} {i : Nat}, xs[i]? = some x → f x' = [v] → List.set (List.flatMap f xs) i v = List.flatMap f (List.set xs i x')
  | [], _, h, _ => by simp at h
  | y :: r, 0, _, hv => by
    have h1 := hx0 y
    match hy : f y, h1 with
    | [u], _ => rw [List.flatMap_cons, hy, List.set_cons_zero, List.flatMap_cons, hv]; rfl
  | y :: r, i + 1, h, hv => by
    have h1 := hx0 y
    match hy : f y, h1 with
    | [u], _ => rw [List.flatMap_cons, hy, List.set_cons_succ, List.flatMap_cons, hy]; exact congrArg (u :: ·) (flat_set0 hx0 (by simpa using h) hv)
theorem flat_set1 {f : Bs → List Value} {x x' : Bs} {v : Value} {xs : List Bs} {i : Nat} (h : xs[i]? = some x) (hv : f x' = [v]) (hx0 : ∀ y : Bs, (f y).length = 1 := by intro y; rfl) : List.set (List.flatMap f xs) i v = List.flatMap f (List.set xs i x') := flat_set0 hx0 h hv
theorem set_drop {gs ws : List Bs} {k : Nat} {y : Bs} (h : List.drop k gs = List.drop k ws) : List.drop (k + 1) (gs.set k y) = List.drop (k + 1) ws := by
  have e : ∀ x : List Bs, List.drop (k + 1) x = List.drop 1 (List.drop k x) := fun x => by rw [List.drop_drop]
  rw [List.drop_set_of_lt (Nat.lt_succ_self k), e gs, e ws, h]

theorem keeps_ok (mo : Int) (a_lw : Option Addr) (c_lw : Nat) (lw : List ((UInt64) × (List UInt8) × (Sl ((List UInt8) × (Bool) × (UInt64) × (List UInt8) × Unit)) × Unit)) (w : World) (b_mo : (-9223372036854775808 ≤ mo ∧ mo ≤ 9223372036854775807)) (i_lw : InS (fun p : (UInt64) × (List UInt8) × (Sl ((List UInt8) × (Bool) × (UInt64) × (List UInt8) × Unit)) × Unit => (fun n : UInt64 => [uv64 n]) p.1 ++ (fun p : (List UInt8) × (Sl ((List UInt8) × (Bool) × (UInt64) × (List UInt8) × Unit)) × Unit => (fun l : List UInt8 => [.string (bstr l)]) p.1 ++ (fun p : (Sl ((List UInt8) × (Bool) × (UInt64) × (List UInt8) × Unit)) × Unit => (fun s : Sl ((List UInt8) × (Bool) × (UInt64) × (List UInt8) × Unit) => s.f) p.1 ++ (fun _ : Unit => []) p.2) p.2) p.2) 48 (fun x : (UInt64) × (List UInt8) × (Sl ((List UInt8) × (Bool) × (UInt64) × (List UInt8) × Unit)) × Unit => (True ∧ ((List.length x.2.1 ≤ 140737488351232) ∧ (InS (fun p : (List UInt8) × (Bool) × (UInt64) × (List UInt8) × Unit => (fun l : List UInt8 => [.string (bstr l)]) p.1 ++ (fun p : (Bool) × (UInt64) × (List UInt8) × Unit => (fun b : Bool => [.bool b]) p.1 ++ (fun p : (UInt64) × (List UInt8) × Unit => (fun n : UInt64 => [uv64 n]) p.1 ++ (fun p : (List UInt8) × Unit => (fun l : List UInt8 => [.string (bstr l)]) p.1 ++ (fun _ : Unit => []) p.2) p.2) p.2) p.2) 48 (fun x : (List UInt8) × (Bool) × (UInt64) × (List UInt8) × Unit => ((List.length x.1 ≤ 140737488351232) ∧ (True ∧ (True ∧ ((List.length x.2.2.2.1 ≤ 140737488351232) ∧ (True)))))) w [] x.2.2.1.a x.2.2.1.c x.2.2.1.l ∧ (True))))) w [] a_lw c_lw lw) (hn : (1 ≤ mo ∧ mo ≤ 4096)) (gt : InT w []) : Calls Tryd.prog 5 #[.int .i64 mo, .slice a_lw (List.length lw) c_lw] w fun e w' => e = .returned (.bool true) ∧ Ev w [] w' [] := by
 refine d_0 [(0, .int .i64 mo), (1, .slice a_lw (List.length lw) c_lw)] 113 Go.Proofs.Tryd.func5 Go.Proofs.Tryd.ntmps5 (Heap.nil _) fun act0 En0 Hv0 => ?_
 refine wp_seq ?_
 refine d_r [0,1,4] [] En0 fun ac1 En2 => ?_
 refine then_normal ?_
 refine wp_seq ?_
 refine region_from ?_
 refine f_o ?_
 refine c_p En2 Hv0 (head_go _ ((gt.ev Hv0).nil)) fun ac7 wo4 En8 Hv9 => ?_
 refine d_e [0,1,4,5] [] En8 fun ac10 En11 => ?_
 refine then_normal ?_
 refine wp_seq ?_
 refine region_from ?_
 refine d_k [0,1,4,5,17] [] 1 En11 fun ac12 En13 => ?_
 refine f_o ?_
 refine c_0 En13 Hv9 (new_ok _ mo hn) ?_
 rintro _ wo17 ⟨g14, mb15, rfl, he18⟩
 refine ⟨_, _, _, rfl, he18, rfl, fun ac20 En21 Hv22 => ?_⟩
 refine d_e [0,1,4,5,6,7] [] En21 fun ac23 En24 => ?_
 refine then_normal ?_
 refine wp_seq ?_
 refine wp_seq ?_
 refine region_from ?_
 refine d_k [0,1,4,5,6,7,23] [] 3 En24 fun ac25 En26 => ?_
 rcases Bool.eq_false_or_eq_true (decide (mo < (1 : Int))) with hb27 | hb27
 ·
  have En28 := En26.fx (t := 23) (congrArg Value.bool hb27)
  have hp29 : mo < (1 : Int) := of_decide_eq_true hb27
  refine d_e [0,1,4,5,6,7,26] [] En28 fun ac30 En31 => ?_
  refine then_normal ?_
  refine c_t En31 ?_
  refine wp_seq ?_
  refine d_r [0,1,4,5,6,7] [] En31 fun ac32 En33 => ?_
  refine then_normal ?_
  refine wp_ret ?_
  refine then_ret ?_
  refine d_ret1 (t := 4) (v := .bool false) En33 (by kernel_rfl) (by kernel_rfl) ?_
  first | contradiction | omega | exact absurd rfl hp29 | (simp_all; done)
 ·
  have En34 := En26.fx (t := 23) (congrArg Value.bool hb27)
  have hp35 : ¬ (mo < (1 : Int)) := of_decide_eq_false hb27
  refine d_e [0,1,4,5,6,7,26] [] En34 fun ac36 En37 => ?_
  refine then_normal ?_
  refine c_d (mo > (4096 : Int)) En37 (fun hc38 => ?_) (fun hc38 => ?_)
  ·
   refine wp_seq ?_
   refine d_r [0,1,4,5,6,7] [] En37 fun ac39 En40 => ?_
   refine then_normal ?_
   refine wp_ret ?_
   refine then_ret ?_
   refine d_ret1 (t := 4) (v := .bool false) En40 (by kernel_rfl) (by kernel_rfl) ?_
   first | contradiction | omega | exact absurd rfl hc38 | (simp_all; done)
  ·
   refine wp_skip ?_
   refine then_normal ?_
   refine wp_seq ?_
   refine wp_seq ?_
   refine d_r [0,1,4,5,6,7,45] [] En37 fun ac41 En42 => ?_
   refine then_normal ?_
   refine c_f En42 ?_
   refine wp_skip ?_
   refine then_normal ?_
   refine wp_seq ?_
   refine d_r [0,1,4,5,6,7,8] [] En42 fun ac43 En44 => ?_
   refine then_normal ?_
   refine wp_seq ?_
   refine d_r [0,1,4,5,6,7,8,9] [] En44 fun ac45 En46 => ?_
   refine then_normal ?_
   refine wp_seq ?_
   refine wp_seq ?_
   refine d_r [0,1,4,5,6,7,8,9,10] [] En46 fun ac47 En48 => ?_
   refine then_normal ?_
   refine wp_block ?_
   have Hv49 : Ev w [] wo17 [.box g14 [.int .i64 mo, .slice none 0 0, .int .u64 0, .map (some mb15)] 79, .vec none 0 1 (List.flatMap fStr []) 9] := Ev.nil (sz := 1) (T := 9) Hv22
   have Hv50 : Ev w [] wo17 [.box g14 [.int .i64 mo, .slice none 0 0, .int .u64 0, .map (some mb15)] 79, .vec none 0 1 (List.flatMap fStr []) 9, .vec none 0 1 (List.flatMap fStr []) 9] := Ev.nil (sz := 1) (T := 9) Hv49
   refine loop_m (fun ms51 ac wo => ∃ (i : Nat) (a2 : Option Addr) (c2 : Nat) (a3 : Option Addr) (c3 : Nat) (ls : List Bs) (lo : UInt64), ms51 = (List.length lw - i : Nat) ∧ Env ac 113 [(0, .int .i64 mo), (1, .slice a_lw (List.length lw) c_lw), (5, .bool true), (6, pt g14), (7, .int .i64 0), (8, .slice a3 (List.length ls) c3), (9, uv64 lo), (10, ni i)] ∧ Ev w [] wo [.box g14 [.int .i64 mo, .slice a2 (List.length ls) c2, uv64 lo, .map (some mb15)] 79, .vec a2 c2 1 (List.flatMap fStr ls) 9, .vec a3 c3 1 (List.flatMap fStr ls) 9] ∧ (i ≤ List.length lw) ∧ (((List.length ls : Nat) : Int) ≤ mo)) ⟨_, 0, none, 0, none, 0, [], 0, rfl, En48.sub (by kernel_rfl), Hv50.pick [0, 1, 2] (by kernel_rfl) (by decide), (Nat.zero_le _), (by simp; omega)⟩ ?_
   rintro mm57 ac53 wo54 ⟨i, a2, c2, a3, c3, ls, lo, rfl, En55, Hv56, hil, hls⟩
   refine wp_seq ?_
   refine wp_seq ?_
   refine d_r [0,1,5,6,7,8,9,10,49] [] En55 fun ac58 En59 => ?_
   refine then_normal ?_
   refine c_d (((i : Nat) : Int) < ((List.length lw : Nat) : Int)) En59 (fun hc60 => ?_) (fun hc60 => ?_)
   ·
    refine wp_skip ?_
    refine then_normal ?_
    refine wp_seq ?_
    refine wp_block ?_
    refine wp_seq ?_
    have hzl := i_lw.small
    have hb63 : i < List.length lw := (by omega)
    obtain ⟨adr61, had62⟩ := some_of i_lw.nz hb63
    have hb64 : i < List.length lw := by omega
    obtain ⟨⟨x66a, x66b, ⟨a_x66c, c_x66c, x66c⟩, _⟩, hx65⟩ : ∃ x, (lw)[i]? = some x := ⟨_, List.getElem?_eq_getElem hb64⟩
    obtain ⟨_, s_x66b, i_x66c, _⟩ := i_lw.each _ (List.mem_of_getElem? hx65)
    replace s_x66b : (List.length x66b ≤ 140737488351232) := s_x66b
    replace i_x66c : InS (fun p : (List UInt8) × (Bool) × (UInt64) × (List UInt8) × Unit => (fun l : List UInt8 => [.string (bstr l)]) p.1 ++ (fun p : (Bool) × (UInt64) × (List UInt8) × Unit => (fun b : Bool => [.bool b]) p.1 ++ (fun p : (UInt64) × (List UInt8) × Unit => (fun n : UInt64 => [uv64 n]) p.1 ++ (fun p : (List UInt8) × Unit => (fun l : List UInt8 => [.string (bstr l)]) p.1 ++ (fun _ : Unit => []) p.2) p.2) p.2) p.2) 48 (fun x : (List UInt8) × (Bool) × (UInt64) × (List UInt8) × Unit => ((List.length x.1 ≤ 140737488351232) ∧ (True ∧ (True ∧ ((List.length x.2.2.2.1 ≤ 140737488351232) ∧ (True)))))) w [] a_x66c c_x66c x66c := i_x66c
    refine region_from ?_
    refine d_k [0,1,5,6,7,8,9,10,53,54] [] 2 En59 fun ac67 En68 => ?_
    refine f_o ?_
    refine q_v (x := Instr.indexAt 37 (.slice a_lw (List.length lw) c_lw) (ni i)) (v := .pointer (some (Addr.add adr61 (i * 3)))) En68 (Go.Dbr.run_indexsl (e := 25) (sz := 3) (j := i) (jo := i * 3) had62 (by kernel_rfl) (by kernel_rfl) (by omega) hb63 rfl _) fun ac69 En70 => ?_
    refine f_o ?_
    refine op_loadaggat (d := some 56) (t := 25) (ad := adr61) (ao := a_lw) (ys := List.flatMap (fun p : (UInt64) × (List UInt8) × (Sl ((List UInt8) × (Bool) × (UInt64) × (List UInt8) × Unit)) × Unit => (fun n : UInt64 => [uv64 n]) p.1 ++ (fun p : (List UInt8) × (Sl ((List UInt8) × (Bool) × (UInt64) × (List UInt8) × Unit)) × Unit => (fun l : List UInt8 => [.string (bstr l)]) p.1 ++ (fun p : (Sl ((List UInt8) × (Bool) × (UInt64) × (List UInt8) × Unit)) × Unit => (fun s : Sl ((List UInt8) × (Bool) × (UInt64) × (List UInt8) × Unit) => s.f) p.1 ++ (fun _ : Unit => []) p.2) p.2) p.2) lw) (o := i * 3) (m := 3) (xs := [uv64 x66a, .string (bstr x66b), .slice a_x66c (List.length x66c) c_x66c]) En70 (by kernel_rfl) rfl (i_lw.ro.ev Hv56).reads had62 (fun j hj => ?_) rfl (by kernel_rfl) (by kernel_rfl) ?_
    ·
     exact flat_sub (sz := 3) (off := 0) (m := 3) (fun _ _ => rfl) hx65 (by decide) rfl j hj
    intro ac71 En72
    refine f_o ?_
    refine c_p En72 Hv56 (denc_go _ x66a x66b (by first | assumption | omega) a_x66c c_x66c x66c (i_x66c.go Hv56 [] (by kernel_rfl) (fun _ h => ⟨h.1, h.2.1, h.2.2.1, h.2.2.2.1, h.2.2.2.2⟩)) ((gt.ev Hv56).nil)) fun ac77 wo74 En78 Hv79 => ?_
    refine d_e [0,1,5,6,7,8,9,10,11,12] [] En78 fun ac80 En81 => ?_
    refine then_normal ?_
    refine wp_seq ?_
    refine wp_seq ?_
    have hb84 : i < List.length lw := (by omega)
    obtain ⟨adr82, had83⟩ := some_of i_lw.nz hb84
    refine region_from ?_
    refine d_k [0,1,5,6,7,8,9,10,11,12,60,61,62] [] 3 En81 fun ac85 En86 => ?_
    refine f_o ?_
    refine q_v (x := Instr.indexAt 37 (.slice a_lw (List.length lw) c_lw) (ni i)) (v := .pointer (some (Addr.add adr82 (i * 3)))) En86 (Go.Dbr.run_indexsl (e := 25) (sz := 3) (j := i) (jo := i * 3) had83 (by kernel_rfl) (by kernel_rfl) (by omega) hb84 rfl _) fun ac87 En88 => ?_
    refine f_o ?_
    refine op_loadaggat (d := some 64) (t := 25) (ad := adr82) (ao := a_lw) (ys := List.flatMap (fun p : (UInt64) × (List UInt8) × (Sl ((List UInt8) × (Bool) × (UInt64) × (List UInt8) × Unit)) × Unit => (fun n : UInt64 => [uv64 n]) p.1 ++ (fun p : (List UInt8) × (Sl ((List UInt8) × (Bool) × (UInt64) × (List UInt8) × Unit)) × Unit => (fun l : List UInt8 => [.string (bstr l)]) p.1 ++ (fun p : (Sl ((List UInt8) × (Bool) × (UInt64) × (List UInt8) × Unit)) × Unit => (fun s : Sl ((List UInt8) × (Bool) × (UInt64) × (List UInt8) × Unit) => s.f) p.1 ++ (fun _ : Unit => []) p.2) p.2) p.2) lw) (o := i * 3) (m := 3) (xs := [uv64 x66a, .string (bstr x66b), .slice a_x66c (List.length x66c) c_x66c]) En88 (by kernel_rfl) rfl (i_lw.ro.ev Hv79).reads had83 (fun j hj => ?_) rfl (by kernel_rfl) (by kernel_rfl) ?_
    ·
     exact flat_sub (sz := 3) (off := 0) (m := 3) (fun _ _ => rfl) hx65 (by decide) rfl j hj
    intro ac89 En90
    refine f_o ?_
    refine c_l [0,1] (M := [.box g14 [.int .i64 mo, .slice a2 (List.length ls) c2, uv64 lo, .map (some mb15)] 79, .vec a2 c2 1 (List.flatMap fStr ls) 9]) En90 Hv79 (fun hM93 => add_go _ g14 mo a2 c2 ls lo mb15 x66a x66b (by assumption) a_x66c c_x66c x66c (i_x66c.go Hv79 [0,1] (by kernel_rfl) (fun _ h => ⟨h.1, h.2.1, h.2.2.1, h.2.2.2.1, h.2.2.2.2⟩)) hn hls ((gt.ev Hv79).pick [0,1] (by kernel_rfl)) hM93) ?_
    rintro _ wo94 ⟨ac91, cc92, rfl, he95⟩
    refine ⟨_, _, [.box g14 [.int .i64 mo, .slice ac91 (List.length (addL mo ls (encL x66a x66b x66c))) cc92, .int .u64 ((UInt64.toNat (addN mo ls (encL x66a x66b x66c) lo) : Nat) : Int), .map (some mb15)] 79, .vec ac91 cc92 1 (List.flatMap fStr (addL mo ls (encL x66a x66b x66c))) 9, .vec a3 c3 1 (List.flatMap fStr ls) 9], rfl, he95, by kernel_rfl, fun ac97 En98 Hv99 => ?_⟩
    refine d_e [0,1,5,6,7,8,9,10,11,12,67] [] En98 fun ac100 En101 => ?_
    refine then_normal ?_
    refine c_n ((encL x66a x66b x66c).2) ((encL x66a x66b x66c).2) En101 (fun hc102 => ?_) (fun hc102 => ?_)
    ·
     refine wp_seq ?_
     refine d_r [0,1,4,5,6,7,8,9,10,11,12] [] En101 fun ac103 En104 => ?_
     refine then_normal ?_
     refine wp_ret ?_
     refine then_ret ?_
     refine block_ret ?_
     refine then_ret ?_
     refine then_ret ?_
     refine block_ret ?_
     refine then_ret ?_
     refine d_ret1 (t := 4) (v := .bool false) En104 (by kernel_rfl) (by kernel_rfl) ?_
     first | contradiction | omega | exact absurd rfl hc102 | (simp_all; done)
    ·
     refine wp_skip ?_
     refine then_normal ?_
     refine wp_seq ?_
     refine wp_seq ?_
     refine d_r [0,1,5,6,7,8,9,10,11,12,69] [] En101 fun ac105 En106 => ?_
     refine then_normal ?_
     refine c_e ((encL x66a x66b x66c).2) (0 : Int) En106 (fun hc107 => ?_) (fun hc107 => ?_)
     ·
      refine region_from ?_
      refine d_k [0,1,5,6,7,8,9,10,12,70,71] [] 2 En106 fun ac108 En109 => ?_
      refine f_o ?_
      refine op_lit (d := some 72) (t := 41) (T := 9) (m := 1) (parts := #[(0, .string (bstr ((encL x66a x66b x66c).1)))]) (xs := List.flatMap fStr ([(encL x66a x66b x66c).1] : List (RStr))) (sz := 1) En109 (by kernel_rfl) (by kernel_rfl) rfl (by decide) Hv99 ?_
      intro ac111 wo112 bk110 En113 Hv114
      refine f_o ?_
      refine op_append (d := some 73) (t := 41) (tx := 41) (ty := 41) (k := 2) (p := List.length ls) (m := 1) (x := .slice (some ⟨bk110, 0, none⟩) 1 1) (bytes := 16) En113 (by kernel_rfl) Hv114 rfl (sv_len (f := fStr) (sz := 1) (fun _ => rfl) _) (Reads.src (size := 1) (tx := 41) (e' := 9) (by kernel_rfl) (Hv114.heap.reads (k := 3) rfl) rfl (fun e => by cases e) (flat_one (f := fStr) (fun _ => one_all rfl) _)) (by kernel_rfl) (z := .string (bstr [])) (by kernel_rfl) rfl (by decide) (by omega) (by unfold maxLen; omega) ?_
      intro ac119 wo120 ao115 cp116 En121 Hv122 hnz _
      clear hnz
      rw [← List.flatMap_append] at Hv122
      have ehz117 : (List.length ls) + 1 = List.length (ls ++ ([(encL x66a x66b x66c).1] : List (RStr))) := (by first | (simp; done) | (simp; omega) | omega)
      rw [ehz117] at En121
      refine d_e [0,1,5,6,7,8,9,10,12] [] En121 fun ac123 En124 => ?_
      refine then_normal ?_
      refine wp_seq ?_
      refine wp_seq ?_
      refine d_r [0,1,5,6,7,8,9,10,12,77] [] En124 fun ac125 En126 => ?_
      refine then_normal ?_
      refine c_d (((List.length (ls ++ ([(encL x66a x66b x66c).1] : List (RStr))) : Nat) : Int) > mo) En126 (fun hc127 => ?_) (fun hc127 => ?_)
      ·
       refine wp_seq ?_
       refine region_from ?_
       refine d_k [0,1,5,6,7,8,9,10,12,78] [] 1 En126 fun ac128 En129 => ?_
       refine f_o ?_
       have hcap130 := sv_vcap (f := fStr) (sz := 1) Hv122.heap (k := 2) rfl (fun _ => rfl) (by decide)
       refine op_slice (d := some 79) (t := 41) (e := 9) (sz := 1) (len := List.length (ls ++ ([(encL x66a x66b x66c).1] : List (RStr)))) (cap := cp116) (lo := 1) (hi := List.length (ls ++ ([(encL x66a x66b x66c).1] : List (RStr)))) (ao := ao115) (lov := (some (.int .i64 1))) (hiv := none) En129 (by kernel_rfl) (by kernel_rfl) (by kernel_rfl) (by omega) (by omega) (.inr ⟨.i64, rfl⟩) (.inl ⟨rfl, rfl⟩) ?_
       intro ac131 En132
       have Hv133 : Ev w [] wo120 [.box g14 [.int .i64 mo, .slice ac91 (List.length (addL mo ls (encL x66a x66b x66c))) cc92, .int .u64 ((UInt64.toNat (addN mo ls (encL x66a x66b x66c) lo) : Nat) : Int), .map (some mb15)] 79, .vec ac91 cc92 1 (List.flatMap fStr (addL mo ls (encL x66a x66b x66c))) 9, .vec (cutAt ao115 cp116 1 1) (cp116 - 1) 1 (List.flatMap fStr (List.drop 1 (ls ++ ([(encL x66a x66b x66c).1] : List (RStr))))) 9, .vec (some ⟨bk110, 0, none⟩) 1 1 (List.flatMap fStr ([(encL x66a x66b x66c).1] : List (RStr))) 9] := by
         have h := Ev.cut (k := 2) (n := List.length (ls ++ ([(encL x66a x66b x66c).1] : List (RStr)))) (sz := 1) Hv122 rfl (sv_len (f := fStr) (sz := 1) (fun _ => rfl) _) (by omega) 1 (List.length (ls ++ ([(encL x66a x66b x66c).1] : List (RStr)))) (by omega) (Nat.le_refl _)
         rw [← flat_drop (f := fStr) (sz := 1) (fun _ => rfl)]
         rw [List.take_of_length_le (by rw [List.length_drop, sv_len (f := fStr) (sz := 1) (fun _ => rfl)]; omega)] at h
         exact h
       have el134 : (List.length (ls ++ ([(encL x66a x66b x66c).1] : List (RStr)))) - 1 = List.length (List.drop 1 (ls ++ ([(encL x66a x66b x66c).1] : List (RStr)))) := by rw [List.length_drop]
       rw [el134] at En132
       refine d_e [0,1,5,6,7,8,9,10,12] [] En132 fun ac135 En136 => ?_
       refine then_normal ?_
       refine d_r [0,1,5,6,7,8,9,10,12] [(1, g_i .u64 (Go.Dbr.u64_add (x := lo) (y := (1 : UInt64)) rfl rfl))] En136 fun ac137 En138 => ?_
       refine then_normal ?_
       refine wp_seq ?_
       obtain ⟨hA, hN⟩ : addL mo ls (encL x66a x66b x66c) = List.drop 1 (ls ++ ([(encL x66a x66b x66c).1] : List (RStr))) ∧ addN mo ls (encL x66a x66b x66c) lo = lo + (1 : UInt64) := keep_y (by omega) (by omega)
       have hls2 := add_len (r := encL x66a x66b x66c) hn.1 hls
       rw [hA] at hls2
       have Hv139 := Hv133
       rw [hA, hN] at Hv139
       replace Hv139 : Ev w [] wo120 [.box g14 [.int .i64 mo, .slice ac91 (List.length (List.drop 1 (ls ++ ([(encL x66a x66b x66c).1] : List (RStr))))) cc92, .int .u64 ((UInt64.toNat (lo + (1 : UInt64)) : Nat) : Int), .map (some mb15)] 79, .vec ac91 cc92 1 (List.flatMap fStr (List.drop 1 (ls ++ ([(encL x66a x66b x66c).1] : List (RStr))))) 9, .vec (cutAt ao115 cp116 1 1) (cp116 - 1) 1 (List.flatMap fStr (List.drop 1 (ls ++ ([(encL x66a x66b x66c).1] : List (RStr))))) 9, .vec (some ⟨bk110, 0, none⟩) 1 1 (List.flatMap fStr ([(encL x66a x66b x66c).1] : List (RStr))) 9] := Hv139
       refine region_from ?_
       refine d_k [0,1,5,6,7,8,9,10,12,82] [] 1 En138 fun ac140 En141 => ?_
       refine f_o ?_
       refine c_l [0,1] (M := [.box g14 [.int .i64 mo, .slice ac91 (List.length (List.drop 1 (ls ++ ([(encL x66a x66b x66c).1] : List (RStr))))) cc92, .int .u64 ((UInt64.toNat (lo + (1 : UInt64)) : Nat) : Int), .map (some mb15)] 79, .vec ac91 cc92 1 (List.flatMap fStr (List.drop 1 (ls ++ ([(encL x66a x66b x66c).1] : List (RStr))))) 9]) En141 Hv139 (fun hM144 => lines_go _ g14 mo ac91 cc92 (List.drop 1 (ls ++ ([(encL x66a x66b x66c).1] : List (RStr)))) (lo + (1 : UInt64)) mb15 (by omega) hM144) ?_
       rintro _ wo145 ⟨ac142, cc143, rfl, he146⟩
       refine ⟨_, _, [.box g14 [.int .i64 mo, .slice ac91 (List.length (List.drop 1 (ls ++ ([(encL x66a x66b x66c).1] : List (RStr))))) cc92, .int .u64 ((UInt64.toNat (lo + (1 : UInt64)) : Nat) : Int), .map (some mb15)] 79, .vec ac91 cc92 1 (List.flatMap fStr (List.drop 1 (ls ++ ([(encL x66a x66b x66c).1] : List (RStr))))) 9, .vec ac142 cc143 1 (List.flatMap fStr (List.drop 1 (ls ++ ([(encL x66a x66b x66c).1] : List (RStr))))) 9, .vec (cutAt ao115 cp116 1 1) (cp116 - 1) 1 (List.flatMap fStr (List.drop 1 (ls ++ ([(encL x66a x66b x66c).1] : List (RStr))))) 9, .vec (some ⟨bk110, 0, none⟩) 1 1 (List.flatMap fStr ([(encL x66a x66b x66c).1] : List (RStr))) 9], rfl, he146, by kernel_rfl, fun ac148 En149 Hv150 => ?_⟩
       refine d_e [0,1,5,6,7,8,9,10,12,13] [] En149 fun ac151 En152 => ?_
       refine then_normal ?_
       refine wp_seq ?_
       refine wp_seq ?_
       refine region_from ?_
       refine d_k [0,1,5,6,7,8,9,10,12,13,89] [] 6 En152 fun ac153 En154 => ?_
       rcases Bool.eq_false_or_eq_true (((List.length (List.drop 1 (ls ++ ([(encL x66a x66b x66c).1] : List (RStr)))) : Nat) : Int) != ((List.length (List.drop 1 (ls ++ ([(encL x66a x66b x66c).1] : List (RStr)))) : Nat) : Int)) with hb155 | hb155
       ·
        have En156 := En154.fx (t := 89) (congrArg Value.bool hb155)
        have hp157 : ¬ (((List.length (List.drop 1 (ls ++ ([(encL x66a x66b x66c).1] : List (RStr)))) : Nat) : Int) = ((List.length (List.drop 1 (ls ++ ([(encL x66a x66b x66c).1] : List (RStr)))) : Nat) : Int)) := by first | (simp at hb155; done) | (simp; done) | simpa using hb155
        refine d_e [0,1,5,6,7,8,9,10,12,13,94] [] En156 fun ac158 En159 => ?_
        refine then_normal ?_
        refine c_t En159 ?_
        refine wp_seq ?_
        refine d_r [0,1,4,5,6,7,8,9,10,12,13] [] En159 fun ac160 En161 => ?_
        refine then_normal ?_
        refine wp_ret ?_
        refine then_ret ?_
        refine block_ret ?_
        refine then_ret ?_
        refine then_ret ?_
        refine block_ret ?_
        refine then_ret ?_
        refine d_ret1 (t := 4) (v := .bool false) En161 (by kernel_rfl) (by kernel_rfl) ?_
        first | contradiction | omega | exact absurd rfl hp157 | (simp_all; done)
       ·
        have En162 := En154.fx (t := 89) (congrArg Value.bool hb155)
        have hp163 : ((List.length (List.drop 1 (ls ++ ([(encL x66a x66b x66c).1] : List (RStr)))) : Nat) : Int) = ((List.length (List.drop 1 (ls ++ ([(encL x66a x66b x66c).1] : List (RStr)))) : Nat) : Int) := by first | (simp at hb155; done) | (simp; done) | simpa using hb155
        refine d_k [0,1,5,6,7,8,9,10,12,13,89,90] [] 7 En162 fun ac164 En165 => ?_
        refine f_o ?_
        refine c_l [0] (M := [.box g14 [.int .i64 mo, .slice ac91 (List.length (List.drop 1 (ls ++ ([(encL x66a x66b x66c).1] : List (RStr))))) cc92, .int .u64 ((UInt64.toNat (lo + (1 : UInt64)) : Nat) : Int), .map (some mb15)] 79]) En165 Hv150 (fun hM166 => lost_go _ g14 mo (.slice ac91 (List.length (List.drop 1 (ls ++ ([(encL x66a x66b x66c).1] : List (RStr))))) cc92) (lo + (1 : UInt64)) mb15 hM166) ?_
        rintro _ wo167 ⟨rfl, he168⟩
        refine ⟨_, _, [.box g14 [.int .i64 mo, .slice ac91 (List.length (List.drop 1 (ls ++ ([(encL x66a x66b x66c).1] : List (RStr))))) cc92, .int .u64 ((UInt64.toNat (lo + (1 : UInt64)) : Nat) : Int), .map (some mb15)] 79, .vec ac91 cc92 1 (List.flatMap fStr (List.drop 1 (ls ++ ([(encL x66a x66b x66c).1] : List (RStr))))) 9, .vec ac142 cc143 1 (List.flatMap fStr (List.drop 1 (ls ++ ([(encL x66a x66b x66c).1] : List (RStr))))) 9, .vec (cutAt ao115 cp116 1 1) (cp116 - 1) 1 (List.flatMap fStr (List.drop 1 (ls ++ ([(encL x66a x66b x66c).1] : List (RStr))))) 9, .vec (some ⟨bk110, 0, none⟩) 1 1 (List.flatMap fStr ([(encL x66a x66b x66c).1] : List (RStr))) 9], rfl, he168, by kernel_rfl, fun ac170 En171 Hv172 => ?_⟩
        refine d_e [0,1,5,6,7,8,9,10,12,13,94] [] En171 fun ac173 En174 => ?_
        refine then_normal ?_
        refine c_n ((UInt64.toNat (lo + (1 : UInt64)) : Nat) : Int) ((UInt64.toNat (lo + (1 : UInt64)) : Nat) : Int) En174 (fun hc175 => ?_) (fun hc175 => ?_)
        ·
         refine wp_seq ?_
         refine d_r [0,1,4,5,6,7,8,9,10,12,13] [] En174 fun ac176 En177 => ?_
         refine then_normal ?_
         refine wp_ret ?_
         refine then_ret ?_
         refine block_ret ?_
         refine then_ret ?_
         refine then_ret ?_
         refine block_ret ?_
         refine then_ret ?_
         refine d_ret1 (t := 4) (v := .bool false) En177 (by kernel_rfl) (by kernel_rfl) ?_
         first | contradiction | omega | exact absurd rfl hc175 | (simp_all; done)
        ·
         refine wp_skip ?_
         refine then_normal ?_
         refine wp_seq ?_
         refine d_r [0,1,5,6,7,8,9,10,12,13,14] [] En174 fun ac178 En179 => ?_
         refine then_normal ?_
         refine wp_block ?_
         refine loop_m (fun ms180 ac wo => ∃ (k : Nat) (gs : List Bs), ms180 = (List.length (List.drop 1 (ls ++ ([(encL x66a x66b x66c).1] : List (RStr)))) - k : Nat) ∧ Env ac 113 [(0, .int .i64 mo), (1, .slice a_lw (List.length lw) c_lw), (5, .bool true), (6, pt g14), (7, .int .i64 0), (8, .slice (cutAt ao115 cp116 1 1) (List.length (List.drop 1 (ls ++ ([(encL x66a x66b x66c).1] : List (RStr))))) (cp116 - 1)), (9, .int .u64 ((UInt64.toNat (lo + (1 : UInt64)) : Nat) : Int)), (10, ni i), (12, .int .i64 ((encL x66a x66b x66c).2)), (13, .slice ac142 (List.length (List.drop 1 (ls ++ ([(encL x66a x66b x66c).1] : List (RStr))))) cc143), (14, ni k)] ∧ Ev w [] wo [.vec ac142 cc143 1 (List.flatMap fStr gs) 9, .box g14 [.int .i64 mo, .slice ac91 (List.length (List.drop 1 (ls ++ ([(encL x66a x66b x66c).1] : List (RStr))))) cc92, .int .u64 ((UInt64.toNat (lo + (1 : UInt64)) : Nat) : Int), .map (some mb15)] 79, .vec ac91 cc92 1 (List.flatMap fStr (List.drop 1 (ls ++ ([(encL x66a x66b x66c).1] : List (RStr))))) 9, .vec (cutAt ao115 cp116 1 1) (cp116 - 1) 1 (List.flatMap fStr (List.drop 1 (ls ++ ([(encL x66a x66b x66c).1] : List (RStr))))) 9] ∧ (k ≤ List.length (List.drop 1 (ls ++ ([(encL x66a x66b x66c).1] : List (RStr))))) ∧ (List.drop k gs = List.drop k (List.drop 1 (ls ++ ([(encL x66a x66b x66c).1] : List (RStr))))) ∧ (List.length gs = List.length (List.drop 1 (ls ++ ([(encL x66a x66b x66c).1] : List (RStr)))))) ⟨_, 0, (List.drop 1 (ls ++ ([(encL x66a x66b x66c).1] : List (RStr)))), rfl, En179.sub (by kernel_rfl), Hv172.pick [2, 0, 1, 3] (by kernel_rfl) (by decide), (Nat.zero_le _), rfl, rfl⟩ ?_
         rintro mm186 ac182 wo183 ⟨k, gs, rfl, En184, Hv185, hkl, hgk, hgl⟩
         refine wp_seq ?_
         refine wp_seq ?_
         refine d_r [0,1,5,6,7,8,9,10,12,13,14,98] [] En184 fun ac187 En188 => ?_
         refine then_normal ?_
         refine c_d (((k : Nat) : Int) < ((List.length (List.drop 1 (ls ++ ([(encL x66a x66b x66c).1] : List (RStr)))) : Nat) : Int)) En188 (fun hc189 => ?_) (fun hc189 => ?_)
         ·
          refine wp_skip ?_
          refine then_normal ?_
          refine wp_seq ?_
          refine wp_block ?_
          refine wp_seq ?_
          refine wp_seq ?_
          have hb190 : k < List.length gs := by omega
          obtain ⟨x192, hx191⟩ : ∃ x, (gs)[k]? = some x := ⟨_, List.getElem?_eq_getElem hb190⟩
          have hxw193 : (List.drop 1 (ls ++ ([(encL x66a x66b x66c).1] : List (RStr))))[k]? = some x192 := at_drop hgk hx191
          refine r_c (fun ac wo => Env ac 113 [(0, .int .i64 mo), (1, .slice a_lw (List.length lw) c_lw), (5, .bool true), (6, pt g14), (7, .int .i64 0), (8, .slice (cutAt ao115 cp116 1 1) (List.length (List.drop 1 (ls ++ ([(encL x66a x66b x66c).1] : List (RStr))))) (cp116 - 1)), (9, .int .u64 ((UInt64.toNat (lo + (1 : UInt64)) : Nat) : Int)), (10, ni i), (12, .int .i64 ((encL x66a x66b x66c).2)), (13, .slice ac142 (List.length (List.drop 1 (ls ++ ([(encL x66a x66b x66c).1] : List (RStr))))) cc143), (14, ni k), (109, .bool (!(x192 == x192)))] ∧ Ev w [] wo [.vec ac142 cc143 1 (List.flatMap fStr gs) 9, .box g14 [.int .i64 mo, .slice ac91 (List.length (List.drop 1 (ls ++ ([(encL x66a x66b x66c).1] : List (RStr))))) cc92, .int .u64 ((UInt64.toNat (lo + (1 : UInt64)) : Nat) : Int), .map (some mb15)] 79, .vec ac91 cc92 1 (List.flatMap fStr (List.drop 1 (ls ++ ([(encL x66a x66b x66c).1] : List (RStr))))) 9, .vec (cutAt ao115 cp116 1 1) (cp116 - 1) 1 (List.flatMap fStr (List.drop 1 (ls ++ ([(encL x66a x66b x66c).1] : List (RStr))))) 9]) ?_ ?_
          ·
           refine h_s (fun wv => Ev w [] wv [.vec ac142 cc143 1 (List.flatMap fStr gs) 9, .vec (cutAt ao115 cp116 1 1) (cp116 - 1) 1 (List.flatMap fStr (List.drop 1 (ls ++ ([(encL x66a x66b x66c).1] : List (RStr))))) 9]) [] 9 ?_
           have wo194 := Hv185.trans (Ev.drew Hv185.heap)
           have hb243 : k < List.length (List.drop 1 (ls ++ ([(encL x66a x66b x66c).1] : List (RStr)))) := (by omega)
           obtain ⟨adr241, had242⟩ := some_of (fun e => by have h := (sv_nz (f := fStr) (sz := 1) wo194.heap (k := 0) rfl (fun _ => rfl) (by decide)) e; omega) hb243
           refine q_s [0,1] [] 7 En188 (wo194.pick [0, 3] (by kernel_rfl) (by decide)) fun ac244 En245 => ?_
           refine q_f 2 (s := Instr.indexAt 41 (.slice ac142 (List.length (List.drop 1 (ls ++ ([(encL x66a x66b x66c).1] : List (RStr))))) cc143) (ni k)) (v := .pointer (some (Addr.add adr241 k))) En245 (fun _ => Go.Dbr.run_indexsl (e := 9) (sz := 1) (j := k) (jo := k) had242 (by kernel_rfl) (by kernel_rfl) (by omega) hb243 (Nat.mul_one _) _) (fun _ => wo194.pick [0, 3] (by kernel_rfl) (by decide)) fun ac246 En247 => ?_
           refine q_r 3 (s := Instr.loadAt 9 (.pointer (some (Addr.add adr241 k)))) (v := .string (bstr x192)) En247 (fun w hS => run_loadel (ad := adr241) (o := k) rfl (hS.heap.reads (k := 0) rfl) had242 ((flat_get1 (fun _ _ => rfl) hx191).trans rfl) (by kernel_rfl)) (wo194.pick [0, 3] (by kernel_rfl) (by decide)) fun ac248 En249 => ?_
           have hb252 : k < List.length (List.drop 1 (ls ++ ([(encL x66a x66b x66c).1] : List (RStr)))) := (by omega)
           obtain ⟨adr250, had251⟩ := some_of (sv_nz (f := fStr) (sz := 1) wo194.heap (k := 3) rfl (fun _ => rfl) (by decide)) hb252
           refine q_s [4,5] [] 3 En249 (wo194.pick [0, 3] (by kernel_rfl) (by decide)) fun ac253 En254 => ?_
           refine q_f 6 (s := Instr.indexAt 41 (.slice (cutAt ao115 cp116 1 1) (List.length (List.drop 1 (ls ++ ([(encL x66a x66b x66c).1] : List (RStr))))) (cp116 - 1)) (ni k)) (v := .pointer (some (Addr.add adr250 k))) En254 (fun _ => Go.Dbr.run_indexsl (e := 9) (sz := 1) (j := k) (jo := k) had251 (by kernel_rfl) (by kernel_rfl) (by omega) hb252 (Nat.mul_one _) _) (fun _ => wo194.pick [0, 3] (by kernel_rfl) (by decide)) fun ac255 En256 => ?_
           refine q_r 7 (s := Instr.loadAt 9 (.pointer (some (Addr.add adr250 k)))) (v := .string (bstr x192)) En256 (fun w hS => run_loadel (ad := adr250) (o := k) rfl (hS.heap.reads (k := 1) rfl) had251 ((flat_get1 (fun _ _ => rfl) hxw193).trans rfl) (by kernel_rfl)) (wo194.pick [0, 3] (by kernel_rfl) (by decide)) fun ac257 En258 => ?_
           refine q_s [8] [(8, g_v (show (.bool (!(ByteArray.toList (bstr x192) == ByteArray.toList (bstr x192))) : Value) = .bool (!(x192 == x192)) by rw [Go.Dbr.bstr_eq x192 x192] <;> rfl))] 0 En258 (wo194.pick [0, 3] (by kernel_rfl) (by decide)) fun ac259 En260 => ?_
           exact h_e ⟨En260.sub (by kernel_rfl), wo194.pick [0, 1, 2, 3] (by kernel_rfl) (by decide)⟩
          rintro ac261 wo262 ⟨En263, Hv264⟩
          refine then_normal ?_
          refine cond_at En263 (t := !(x192 == x192)) (by kernel_rfl) (fun hc265 => ?_) (fun hc265 => ?_)
          ·
           replace hc265 : x192 ≠ x192 := by first | (simp at hc265; done) | (simp; done) | simpa using hc265
           refine wp_seq ?_
           refine d_r [0,1,4,5,6,7,8,9,10,12,13,14] [] En263 fun ac266 En267 => ?_
           refine then_normal ?_
           refine wp_ret ?_
           refine then_ret ?_
           refine block_ret ?_
           refine then_ret ?_
           refine then_ret ?_
           refine block_ret ?_
           refine block_ret ?_
           refine then_ret ?_
           refine then_ret ?_
           refine block_ret ?_
           refine then_ret ?_
           refine d_ret1 (t := 4) (v := .bool false) En267 (by kernel_rfl) (by kernel_rfl) ?_
           first | contradiction | omega | exact absurd rfl hc265 | (simp_all; done)
          ·
           replace hc265 : ¬ (x192 ≠ x192) := by first | (simp at hc265; done) | (simp; done) | simpa using hc265
           refine wp_skip ?_
           refine then_normal ?_
           have hb270 : k < List.length (List.drop 1 (ls ++ ([(encL x66a x66b x66c).1] : List (RStr)))) := (by omega)
           obtain ⟨adr268, had269⟩ := some_of (fun e => by have h := (sv_nz (f := fStr) (sz := 1) Hv264.heap (k := 0) rfl (fun _ => rfl) (by decide)) e; omega) hb270
           refine region_from ?_
           refine d_k [0,1,5,6,7,8,9,10,12,13,14,110,111] [] 2 En263 fun ac271 En272 => ?_
           refine f_o ?_
           refine q_v (x := Instr.indexAt 41 (.slice ac142 (List.length (List.drop 1 (ls ++ ([(encL x66a x66b x66c).1] : List (RStr))))) cc143) (ni k)) (v := .pointer (some (Addr.add adr268 k))) En272 (Go.Dbr.run_indexsl (e := 9) (sz := 1) (j := k) (jo := k) had269 (by kernel_rfl) (by kernel_rfl) (by omega) hb270 (Nat.mul_one _) _) fun ac273 En274 => ?_
           refine f_o ?_
           refine op_storef (d := none) (t := 9) (ad := adr268) (ao := ac142) (k := 0) (cap := cc143) (sz := 1) (o := k) (xs := List.flatMap fStr gs) (v := .string (bstr [109, 105, 110, 101])) En274 (by kernel_rfl) rfl Hv264 rfl had269 (by first | (rw [sv_len (f := fStr) (sz := 1) (fun _ => rfl)]; omega) | exact Nat.lt_of_lt_of_eq (show _ < List.length gs * 1 from by have h := (List.getElem?_eq_some_iff.1 hx191).1; first | omega | (simp only [List.length_set] at h ⊢; omega)) (sv_len (f := fStr) (sz := 1) (fun _ => rfl) gs).symm) (by kernel_rfl) rfl ?_
           intro ac275 wo276  En277 Hv278
           have hls279 : List.length (List.set gs k [109, 105, 110, 101]) = List.length gs := List.length_set
           rw [flat_set1 (f := fStr) (x' := [109, 105, 110, 101]) hx191 rfl] at Hv278
           refine f_e ?_
           refine block_normal ?_
           refine then_normal ?_
           refine d_r [0,1,5,6,7,8,9,10,12,13,14] [(1, g_n (w_a k 1))] En277 fun ac280 En281 => ?_
           refine then_normal ?_
           refine ⟨_, ⟨k + 1, (List.set gs k [109, 105, 110, 101]), rfl, En281.sub (by kernel_rfl), Hv278.pick [0, 1, 2, 3] (by kernel_rfl) (by decide), (by omega), (set_drop hgk), (by rw [List.length_set]; exact hgl)⟩, ?_⟩
           omega
         ·
          refine wp_exit ?_
          refine then_exit ?_
          refine then_exit ?_
          refine block_exit ?_
          refine block_normal ?_
          refine then_normal ?_
          refine d_r [0,1,5,6,7,8,9,10,12,13,14] [(1, g_n (w_a i 1))] En188 fun ac282 En283 => ?_
          refine then_normal ?_
          refine ⟨_, ⟨i + 1, ac91, cc92, (cutAt ao115 cp116 1 1), (cp116 - 1), (List.drop 1 (ls ++ ([(encL x66a x66b x66c).1] : List (RStr)))), (lo + (1 : UInt64)), rfl, En283.sub (by kernel_rfl), Hv185.pick [1, 2, 3] (by kernel_rfl) (by decide), (by omega), (by rw [← hA]; exact add_len hn.1 hls)⟩, ?_⟩
          omega
      ·
       refine wp_skip ?_
       refine then_normal ?_
       refine wp_seq ?_
       obtain ⟨hA, hN⟩ : addL mo ls (encL x66a x66b x66c) = ls ++ ([(encL x66a x66b x66c).1] : List (RStr)) ∧ addN mo ls (encL x66a x66b x66c) lo = lo := keep_n (by omega) (by omega)
       have hls2 := add_len (r := encL x66a x66b x66c) hn.1 hls
       rw [hA] at hls2
       have Hv284 := Hv122
       rw [hA, hN] at Hv284
       replace Hv284 : Ev w [] wo120 [.box g14 [.int .i64 mo, .slice ac91 (List.length (ls ++ ([(encL x66a x66b x66c).1] : List (RStr)))) cc92, uv64 lo, .map (some mb15)] 79, .vec ac91 cc92 1 (List.flatMap fStr (ls ++ ([(encL x66a x66b x66c).1] : List (RStr)))) 9, .vec ao115 cp116 1 (List.flatMap fStr (ls ++ ([(encL x66a x66b x66c).1] : List (RStr)))) 9, .vec (some ⟨bk110, 0, none⟩) 1 1 (List.flatMap fStr ([(encL x66a x66b x66c).1] : List (RStr))) 9] := Hv284
       refine region_from ?_
       refine d_k [0,1,5,6,7,8,9,10,12,82] [] 1 En126 fun ac285 En286 => ?_
       refine f_o ?_
       refine c_l [0,1] (M := [.box g14 [.int .i64 mo, .slice ac91 (List.length (ls ++ ([(encL x66a x66b x66c).1] : List (RStr)))) cc92, uv64 lo, .map (some mb15)] 79, .vec ac91 cc92 1 (List.flatMap fStr (ls ++ ([(encL x66a x66b x66c).1] : List (RStr)))) 9]) En286 Hv284 (fun hM289 => lines_go _ g14 mo ac91 cc92 (ls ++ ([(encL x66a x66b x66c).1] : List (RStr))) lo mb15 (by omega) hM289) ?_
       rintro _ wo290 ⟨ac287, cc288, rfl, he291⟩
       refine ⟨_, _, [.box g14 [.int .i64 mo, .slice ac91 (List.length (ls ++ ([(encL x66a x66b x66c).1] : List (RStr)))) cc92, uv64 lo, .map (some mb15)] 79, .vec ac91 cc92 1 (List.flatMap fStr (ls ++ ([(encL x66a x66b x66c).1] : List (RStr)))) 9, .vec ac287 cc288 1 (List.flatMap fStr (ls ++ ([(encL x66a x66b x66c).1] : List (RStr)))) 9, .vec ao115 cp116 1 (List.flatMap fStr (ls ++ ([(encL x66a x66b x66c).1] : List (RStr)))) 9, .vec (some ⟨bk110, 0, none⟩) 1 1 (List.flatMap fStr ([(encL x66a x66b x66c).1] : List (RStr))) 9], rfl, he291, by kernel_rfl, fun ac293 En294 Hv295 => ?_⟩
       refine d_e [0,1,5,6,7,8,9,10,12,13] [] En294 fun ac296 En297 => ?_
       refine then_normal ?_
       refine wp_seq ?_
       refine wp_seq ?_
       refine region_from ?_
       refine d_k [0,1,5,6,7,8,9,10,12,13,89] [] 6 En297 fun ac298 En299 => ?_
       rcases Bool.eq_false_or_eq_true (((List.length (ls ++ ([(encL x66a x66b x66c).1] : List (RStr))) : Nat) : Int) != ((List.length (ls ++ ([(encL x66a x66b x66c).1] : List (RStr))) : Nat) : Int)) with hb300 | hb300
       ·
        have En301 := En299.fx (t := 89) (congrArg Value.bool hb300)
        have hp302 : ¬ (((List.length (ls ++ ([(encL x66a x66b x66c).1] : List (RStr))) : Nat) : Int) = ((List.length (ls ++ ([(encL x66a x66b x66c).1] : List (RStr))) : Nat) : Int)) := by first | (simp at hb300; done) | (simp; done) | simpa using hb300
        refine d_e [0,1,5,6,7,8,9,10,12,13,94] [] En301 fun ac303 En304 => ?_
        refine then_normal ?_
        refine c_t En304 ?_
        refine wp_seq ?_
        refine d_r [0,1,4,5,6,7,8,9,10,12,13] [] En304 fun ac305 En306 => ?_
        refine then_normal ?_
        refine wp_ret ?_
        refine then_ret ?_
        refine block_ret ?_
        refine then_ret ?_
        refine then_ret ?_
        refine block_ret ?_
        refine then_ret ?_
        refine d_ret1 (t := 4) (v := .bool false) En306 (by kernel_rfl) (by kernel_rfl) ?_
        first | contradiction | omega | exact absurd rfl hp302 | (simp_all; done)
       ·
        have En307 := En299.fx (t := 89) (congrArg Value.bool hb300)
        have hp308 : ((List.length (ls ++ ([(encL x66a x66b x66c).1] : List (RStr))) : Nat) : Int) = ((List.length (ls ++ ([(encL x66a x66b x66c).1] : List (RStr))) : Nat) : Int) := by first | (simp at hb300; done) | (simp; done) | simpa using hb300
        refine d_k [0,1,5,6,7,8,9,10,12,13,89,90] [] 7 En307 fun ac309 En310 => ?_
        refine f_o ?_
        refine c_l [0] (M := [.box g14 [.int .i64 mo, .slice ac91 (List.length (ls ++ ([(encL x66a x66b x66c).1] : List (RStr)))) cc92, uv64 lo, .map (some mb15)] 79]) En310 Hv295 (fun hM311 => lost_go _ g14 mo (.slice ac91 (List.length (ls ++ ([(encL x66a x66b x66c).1] : List (RStr)))) cc92) lo mb15 hM311) ?_
        rintro _ wo312 ⟨rfl, he313⟩
        refine ⟨_, _, [.box g14 [.int .i64 mo, .slice ac91 (List.length (ls ++ ([(encL x66a x66b x66c).1] : List (RStr)))) cc92, uv64 lo, .map (some mb15)] 79, .vec ac91 cc92 1 (List.flatMap fStr (ls ++ ([(encL x66a x66b x66c).1] : List (RStr)))) 9, .vec ac287 cc288 1 (List.flatMap fStr (ls ++ ([(encL x66a x66b x66c).1] : List (RStr)))) 9, .vec ao115 cp116 1 (List.flatMap fStr (ls ++ ([(encL x66a x66b x66c).1] : List (RStr)))) 9, .vec (some ⟨bk110, 0, none⟩) 1 1 (List.flatMap fStr ([(encL x66a x66b x66c).1] : List (RStr))) 9], rfl, he313, by kernel_rfl, fun ac315 En316 Hv317 => ?_⟩
        refine d_e [0,1,5,6,7,8,9,10,12,13,94] [] En316 fun ac318 En319 => ?_
        refine then_normal ?_
        refine c_n ((UInt64.toNat lo : Nat) : Int) ((UInt64.toNat lo : Nat) : Int) En319 (fun hc320 => ?_) (fun hc320 => ?_)
        ·
         refine wp_seq ?_
         refine d_r [0,1,4,5,6,7,8,9,10,12,13] [] En319 fun ac321 En322 => ?_
         refine then_normal ?_
         refine wp_ret ?_
         refine then_ret ?_
         refine block_ret ?_
         refine then_ret ?_
         refine then_ret ?_
         refine block_ret ?_
         refine then_ret ?_
         refine d_ret1 (t := 4) (v := .bool false) En322 (by kernel_rfl) (by kernel_rfl) ?_
         first | contradiction | omega | exact absurd rfl hc320 | (simp_all; done)
        ·
         refine wp_skip ?_
         refine then_normal ?_
         refine wp_seq ?_
         refine d_r [0,1,5,6,7,8,9,10,12,13,14] [] En319 fun ac323 En324 => ?_
         refine then_normal ?_
         refine wp_block ?_
         refine loop_m (fun ms325 ac wo => ∃ (k : Nat) (gs : List Bs), ms325 = (List.length (ls ++ ([(encL x66a x66b x66c).1] : List (RStr))) - k : Nat) ∧ Env ac 113 [(0, .int .i64 mo), (1, .slice a_lw (List.length lw) c_lw), (5, .bool true), (6, pt g14), (7, .int .i64 0), (8, .slice ao115 (List.length (ls ++ ([(encL x66a x66b x66c).1] : List (RStr)))) cp116), (9, uv64 lo), (10, ni i), (12, .int .i64 ((encL x66a x66b x66c).2)), (13, .slice ac287 (List.length (ls ++ ([(encL x66a x66b x66c).1] : List (RStr)))) cc288), (14, ni k)] ∧ Ev w [] wo [.vec ac287 cc288 1 (List.flatMap fStr gs) 9, .box g14 [.int .i64 mo, .slice ac91 (List.length (ls ++ ([(encL x66a x66b x66c).1] : List (RStr)))) cc92, uv64 lo, .map (some mb15)] 79, .vec ac91 cc92 1 (List.flatMap fStr (ls ++ ([(encL x66a x66b x66c).1] : List (RStr)))) 9, .vec ao115 cp116 1 (List.flatMap fStr (ls ++ ([(encL x66a x66b x66c).1] : List (RStr)))) 9] ∧ (k ≤ List.length (ls ++ ([(encL x66a x66b x66c).1] : List (RStr)))) ∧ (List.drop k gs = List.drop k (ls ++ ([(encL x66a x66b x66c).1] : List (RStr)))) ∧ (List.length gs = List.length (ls ++ ([(encL x66a x66b x66c).1] : List (RStr))))) ⟨_, 0, (ls ++ ([(encL x66a x66b x66c).1] : List (RStr))), rfl, En324.sub (by kernel_rfl), Hv317.pick [2, 0, 1, 3] (by kernel_rfl) (by decide), (Nat.zero_le _), rfl, rfl⟩ ?_
         rintro mm331 ac327 wo328 ⟨k, gs, rfl, En329, Hv330, hkl, hgk, hgl⟩
         refine wp_seq ?_
         refine wp_seq ?_
         refine d_r [0,1,5,6,7,8,9,10,12,13,14,98] [] En329 fun ac332 En333 => ?_
         refine then_normal ?_
         refine c_d (((k : Nat) : Int) < ((List.length (ls ++ ([(encL x66a x66b x66c).1] : List (RStr))) : Nat) : Int)) En333 (fun hc334 => ?_) (fun hc334 => ?_)
         ·
          refine wp_skip ?_
          refine then_normal ?_
          refine wp_seq ?_
          refine wp_block ?_
          refine wp_seq ?_
          refine wp_seq ?_
          have hb335 : k < List.length gs := by omega
          obtain ⟨x337, hx336⟩ : ∃ x, (gs)[k]? = some x := ⟨_, List.getElem?_eq_getElem hb335⟩
          have hxw338 : (ls ++ ([(encL x66a x66b x66c).1] : List (RStr)))[k]? = some x337 := at_drop hgk hx336
          refine r_c (fun ac wo => Env ac 113 [(0, .int .i64 mo), (1, .slice a_lw (List.length lw) c_lw), (5, .bool true), (6, pt g14), (7, .int .i64 0), (8, .slice ao115 (List.length (ls ++ ([(encL x66a x66b x66c).1] : List (RStr)))) cp116), (9, uv64 lo), (10, ni i), (12, .int .i64 ((encL x66a x66b x66c).2)), (13, .slice ac287 (List.length (ls ++ ([(encL x66a x66b x66c).1] : List (RStr)))) cc288), (14, ni k), (109, .bool (!(x337 == x337)))] ∧ Ev w [] wo [.vec ac287 cc288 1 (List.flatMap fStr gs) 9, .box g14 [.int .i64 mo, .slice ac91 (List.length (ls ++ ([(encL x66a x66b x66c).1] : List (RStr)))) cc92, uv64 lo, .map (some mb15)] 79, .vec ac91 cc92 1 (List.flatMap fStr (ls ++ ([(encL x66a x66b x66c).1] : List (RStr)))) 9, .vec ao115 cp116 1 (List.flatMap fStr (ls ++ ([(encL x66a x66b x66c).1] : List (RStr)))) 9]) ?_ ?_
          ·
           refine h_s (fun wv => Ev w [] wv [.vec ac287 cc288 1 (List.flatMap fStr gs) 9, .vec ao115 cp116 1 (List.flatMap fStr (ls ++ ([(encL x66a x66b x66c).1] : List (RStr)))) 9]) [] 9 ?_
           have wo339 := Hv330.trans (Ev.drew Hv330.heap)
           have hb388 : k < List.length (ls ++ ([(encL x66a x66b x66c).1] : List (RStr))) := (by omega)
           obtain ⟨adr386, had387⟩ := some_of (fun e => by have h := (sv_nz (f := fStr) (sz := 1) wo339.heap (k := 0) rfl (fun _ => rfl) (by decide)) e; omega) hb388
           refine q_s [0,1] [] 7 En333 (wo339.pick [0, 3] (by kernel_rfl) (by decide)) fun ac389 En390 => ?_
           refine q_f 2 (s := Instr.indexAt 41 (.slice ac287 (List.length (ls ++ ([(encL x66a x66b x66c).1] : List (RStr)))) cc288) (ni k)) (v := .pointer (some (Addr.add adr386 k))) En390 (fun _ => Go.Dbr.run_indexsl (e := 9) (sz := 1) (j := k) (jo := k) had387 (by kernel_rfl) (by kernel_rfl) (by omega) hb388 (Nat.mul_one _) _) (fun _ => wo339.pick [0, 3] (by kernel_rfl) (by decide)) fun ac391 En392 => ?_
           refine q_r 3 (s := Instr.loadAt 9 (.pointer (some (Addr.add adr386 k)))) (v := .string (bstr x337)) En392 (fun w hS => run_loadel (ad := adr386) (o := k) rfl (hS.heap.reads (k := 0) rfl) had387 ((flat_get1 (fun _ _ => rfl) hx336).trans rfl) (by kernel_rfl)) (wo339.pick [0, 3] (by kernel_rfl) (by decide)) fun ac393 En394 => ?_
           have hb397 : k < List.length (ls ++ ([(encL x66a x66b x66c).1] : List (RStr))) := (by omega)
           obtain ⟨adr395, had396⟩ := some_of (sv_nz (f := fStr) (sz := 1) wo339.heap (k := 3) rfl (fun _ => rfl) (by decide)) hb397
           refine q_s [4,5] [] 3 En394 (wo339.pick [0, 3] (by kernel_rfl) (by decide)) fun ac398 En399 => ?_
           refine q_f 6 (s := Instr.indexAt 41 (.slice ao115 (List.length (ls ++ ([(encL x66a x66b x66c).1] : List (RStr)))) cp116) (ni k)) (v := .pointer (some (Addr.add adr395 k))) En399 (fun _ => Go.Dbr.run_indexsl (e := 9) (sz := 1) (j := k) (jo := k) had396 (by kernel_rfl) (by kernel_rfl) (by omega) hb397 (Nat.mul_one _) _) (fun _ => wo339.pick [0, 3] (by kernel_rfl) (by decide)) fun ac400 En401 => ?_
           refine q_r 7 (s := Instr.loadAt 9 (.pointer (some (Addr.add adr395 k)))) (v := .string (bstr x337)) En401 (fun w hS => run_loadel (ad := adr395) (o := k) rfl (hS.heap.reads (k := 1) rfl) had396 ((flat_get1 (fun _ _ => rfl) hxw338).trans rfl) (by kernel_rfl)) (wo339.pick [0, 3] (by kernel_rfl) (by decide)) fun ac402 En403 => ?_
           refine q_s [8] [(8, g_v (show (.bool (!(ByteArray.toList (bstr x337) == ByteArray.toList (bstr x337))) : Value) = .bool (!(x337 == x337)) by rw [Go.Dbr.bstr_eq x337 x337] <;> rfl))] 0 En403 (wo339.pick [0, 3] (by kernel_rfl) (by decide)) fun ac404 En405 => ?_
           exact h_e ⟨En405.sub (by kernel_rfl), wo339.pick [0, 1, 2, 3] (by kernel_rfl) (by decide)⟩
          rintro ac406 wo407 ⟨En408, Hv409⟩
          refine then_normal ?_
          refine cond_at En408 (t := !(x337 == x337)) (by kernel_rfl) (fun hc410 => ?_) (fun hc410 => ?_)
          ·
           replace hc410 : x337 ≠ x337 := by first | (simp at hc410; done) | (simp; done) | simpa using hc410
           refine wp_seq ?_
           refine d_r [0,1,4,5,6,7,8,9,10,12,13,14] [] En408 fun ac411 En412 => ?_
           refine then_normal ?_
           refine wp_ret ?_
           refine then_ret ?_
           refine block_ret ?_
           refine then_ret ?_
           refine then_ret ?_
           refine block_ret ?_
           refine block_ret ?_
           refine then_ret ?_
           refine then_ret ?_
           refine block_ret ?_
           refine then_ret ?_
           refine d_ret1 (t := 4) (v := .bool false) En412 (by kernel_rfl) (by kernel_rfl) ?_
           first | contradiction | omega | exact absurd rfl hc410 | (simp_all; done)
          ·
           replace hc410 : ¬ (x337 ≠ x337) := by first | (simp at hc410; done) | (simp; done) | simpa using hc410
           refine wp_skip ?_
           refine then_normal ?_
           have hb415 : k < List.length (ls ++ ([(encL x66a x66b x66c).1] : List (RStr))) := (by omega)
           obtain ⟨adr413, had414⟩ := some_of (fun e => by have h := (sv_nz (f := fStr) (sz := 1) Hv409.heap (k := 0) rfl (fun _ => rfl) (by decide)) e; omega) hb415
           refine region_from ?_
           refine d_k [0,1,5,6,7,8,9,10,12,13,14,110,111] [] 2 En408 fun ac416 En417 => ?_
           refine f_o ?_
           refine q_v (x := Instr.indexAt 41 (.slice ac287 (List.length (ls ++ ([(encL x66a x66b x66c).1] : List (RStr)))) cc288) (ni k)) (v := .pointer (some (Addr.add adr413 k))) En417 (Go.Dbr.run_indexsl (e := 9) (sz := 1) (j := k) (jo := k) had414 (by kernel_rfl) (by kernel_rfl) (by omega) hb415 (Nat.mul_one _) _) fun ac418 En419 => ?_
           refine f_o ?_
           refine op_storef (d := none) (t := 9) (ad := adr413) (ao := ac287) (k := 0) (cap := cc288) (sz := 1) (o := k) (xs := List.flatMap fStr gs) (v := .string (bstr [109, 105, 110, 101])) En419 (by kernel_rfl) rfl Hv409 rfl had414 (by first | (rw [sv_len (f := fStr) (sz := 1) (fun _ => rfl)]; omega) | exact Nat.lt_of_lt_of_eq (show _ < List.length gs * 1 from by have h := (List.getElem?_eq_some_iff.1 hx336).1; first | omega | (simp only [List.length_set] at h ⊢; omega)) (sv_len (f := fStr) (sz := 1) (fun _ => rfl) gs).symm) (by kernel_rfl) rfl ?_
           intro ac420 wo421  En422 Hv423
           have hls424 : List.length (List.set gs k [109, 105, 110, 101]) = List.length gs := List.length_set
           rw [flat_set1 (f := fStr) (x' := [109, 105, 110, 101]) hx336 rfl] at Hv423
           refine f_e ?_
           refine block_normal ?_
           refine then_normal ?_
           refine d_r [0,1,5,6,7,8,9,10,12,13,14] [(1, g_n (w_a k 1))] En422 fun ac425 En426 => ?_
           refine then_normal ?_
           refine ⟨_, ⟨k + 1, (List.set gs k [109, 105, 110, 101]), rfl, En426.sub (by kernel_rfl), Hv423.pick [0, 1, 2, 3] (by kernel_rfl) (by decide), (by omega), (set_drop hgk), (by rw [List.length_set]; exact hgl)⟩, ?_⟩
           omega
         ·
          refine wp_exit ?_
          refine then_exit ?_
          refine then_exit ?_
          refine block_exit ?_
          refine block_normal ?_
          refine then_normal ?_
          refine d_r [0,1,5,6,7,8,9,10,12,13,14] [(1, g_n (w_a i 1))] En333 fun ac427 En428 => ?_
          refine then_normal ?_
          refine ⟨_, ⟨i + 1, ac91, cc92, ao115, cp116, (ls ++ ([(encL x66a x66b x66c).1] : List (RStr))), lo, rfl, En428.sub (by kernel_rfl), Hv330.pick [1, 2, 3] (by kernel_rfl) (by decide), (by omega), (by rw [← hA]; exact add_len hn.1 hls)⟩, ?_⟩
          omega
     ·
      refine wp_skip ?_
      refine then_normal ?_
      refine wp_seq ?_
      refine wp_seq ?_
      refine d_r [0,1,5,6,7,8,9,10,11,12,77] [] En106 fun ac429 En430 => ?_
      refine then_normal ?_
      refine c_d (((List.length ls : Nat) : Int) > mo) En430 (fun hc431 => ?_) (fun hc431 => ?_)
      ·
       refine wp_seq ?_
       refine region_from ?_
       refine d_k [0,1,5,6,7,8,9,10,11,12,78] [] 1 En430 fun ac432 En433 => ?_
       refine f_o ?_
       have hcap434 := sv_vcap (f := fStr) (sz := 1) Hv99.heap (k := 2) rfl (fun _ => rfl) (by decide)
       refine op_slice (d := some 79) (t := 41) (e := 9) (sz := 1) (len := List.length ls) (cap := c3) (lo := 1) (hi := List.length ls) (ao := a3) (lov := (some (.int .i64 1))) (hiv := none) En433 (by kernel_rfl) (by kernel_rfl) (by kernel_rfl) (by omega) (by omega) (.inr ⟨.i64, rfl⟩) (.inl ⟨rfl, rfl⟩) ?_
       intro ac435 En436
       have Hv437 : Ev w [] wo94 [.box g14 [.int .i64 mo, .slice ac91 (List.length (addL mo ls (encL x66a x66b x66c))) cc92, .int .u64 ((UInt64.toNat (addN mo ls (encL x66a x66b x66c) lo) : Nat) : Int), .map (some mb15)] 79, .vec ac91 cc92 1 (List.flatMap fStr (addL mo ls (encL x66a x66b x66c))) 9, .vec (cutAt a3 c3 1 1) (c3 - 1) 1 (List.flatMap fStr (List.drop 1 ls)) 9] := by
         have h := Ev.cut (k := 2) (n := List.length ls) (sz := 1) Hv99 rfl (sv_len (f := fStr) (sz := 1) (fun _ => rfl) _) (by omega) 1 (List.length ls) (by omega) (Nat.le_refl _)
         rw [← flat_drop (f := fStr) (sz := 1) (fun _ => rfl)]
         rw [List.take_of_length_le (by rw [List.length_drop, sv_len (f := fStr) (sz := 1) (fun _ => rfl)]; omega)] at h
         exact h
       have el438 : (List.length ls) - 1 = List.length (List.drop 1 ls) := by rw [List.length_drop]
       rw [el438] at En436
       refine d_e [0,1,5,6,7,8,9,10,11,12] [] En436 fun ac439 En440 => ?_
       refine then_normal ?_
       refine d_r [0,1,5,6,7,8,9,10,11,12] [(1, g_i .u64 (Go.Dbr.u64_add (x := lo) (y := (1 : UInt64)) rfl rfl))] En440 fun ac441 En442 => ?_
       refine then_normal ?_
       refine wp_seq ?_
       exfalso; omega
      ·
       refine wp_skip ?_
       refine then_normal ?_
       refine wp_seq ?_
       obtain ⟨hA, hN⟩ : addL mo ls (encL x66a x66b x66c) = ls ∧ addN mo ls (encL x66a x66b x66c) lo = lo := keep_0 (by assumption)
       have hls2 := add_len (r := encL x66a x66b x66c) hn.1 hls
       rw [hA] at hls2
       have Hv443 := Hv99
       rw [hA, hN] at Hv443
       replace Hv443 : Ev w [] wo94 [.box g14 [.int .i64 mo, .slice ac91 (List.length (ls)) cc92, uv64 lo, .map (some mb15)] 79, .vec ac91 cc92 1 (List.flatMap fStr ls) 9, .vec a3 c3 1 (List.flatMap fStr ls) 9] := Hv443
       refine region_from ?_
       refine d_k [0,1,5,6,7,8,9,10,11,12,82] [] 1 En430 fun ac444 En445 => ?_
       refine f_o ?_
       refine c_l [0,1] (M := [.box g14 [.int .i64 mo, .slice ac91 (List.length (ls)) cc92, uv64 lo, .map (some mb15)] 79, .vec ac91 cc92 1 (List.flatMap fStr ls) 9]) En445 Hv443 (fun hM448 => lines_go _ g14 mo ac91 cc92 ls lo mb15 (by omega) hM448) ?_
       rintro _ wo449 ⟨ac446, cc447, rfl, he450⟩
       refine ⟨_, _, [.box g14 [.int .i64 mo, .slice ac91 (List.length (ls)) cc92, uv64 lo, .map (some mb15)] 79, .vec ac91 cc92 1 (List.flatMap fStr ls) 9, .vec ac446 cc447 1 (List.flatMap fStr ls) 9, .vec a3 c3 1 (List.flatMap fStr ls) 9], rfl, he450, by kernel_rfl, fun ac452 En453 Hv454 => ?_⟩
       refine d_e [0,1,5,6,7,8,9,10,11,12,13] [] En453 fun ac455 En456 => ?_
       refine then_normal ?_
       refine wp_seq ?_
       refine wp_seq ?_
       refine region_from ?_
       refine d_k [0,1,5,6,7,8,9,10,11,12,13,89] [] 6 En456 fun ac457 En458 => ?_
       rcases Bool.eq_false_or_eq_true (((List.length ls : Nat) : Int) != ((List.length ls : Nat) : Int)) with hb459 | hb459
       ·
        have En460 := En458.fx (t := 89) (congrArg Value.bool hb459)
        have hp461 : ¬ (((List.length ls : Nat) : Int) = ((List.length ls : Nat) : Int)) := by first | (simp at hb459; done) | (simp; done) | simpa using hb459
        refine d_e [0,1,5,6,7,8,9,10,11,12,13,94] [] En460 fun ac462 En463 => ?_
        refine then_normal ?_
        refine c_t En463 ?_
        refine wp_seq ?_
        refine d_r [0,1,4,5,6,7,8,9,10,11,12,13] [] En463 fun ac464 En465 => ?_
        refine then_normal ?_
        refine wp_ret ?_
        refine then_ret ?_
        refine block_ret ?_
        refine then_ret ?_
        refine then_ret ?_
        refine block_ret ?_
        refine then_ret ?_
        refine d_ret1 (t := 4) (v := .bool false) En465 (by kernel_rfl) (by kernel_rfl) ?_
        first | contradiction | omega | exact absurd rfl hp461 | (simp_all; done)
       ·
        have En466 := En458.fx (t := 89) (congrArg Value.bool hb459)
        have hp467 : ((List.length ls : Nat) : Int) = ((List.length ls : Nat) : Int) := by first | (simp at hb459; done) | (simp; done) | simpa using hb459
        refine d_k [0,1,5,6,7,8,9,10,11,12,13,89,90] [] 7 En466 fun ac468 En469 => ?_
        refine f_o ?_
        refine c_l [0] (M := [.box g14 [.int .i64 mo, .slice ac91 (List.length (ls)) cc92, uv64 lo, .map (some mb15)] 79]) En469 Hv454 (fun hM470 => lost_go _ g14 mo (.slice ac91 (List.length (ls)) cc92) lo mb15 hM470) ?_
        rintro _ wo471 ⟨rfl, he472⟩
        refine ⟨_, _, [.box g14 [.int .i64 mo, .slice ac91 (List.length (ls)) cc92, uv64 lo, .map (some mb15)] 79, .vec ac91 cc92 1 (List.flatMap fStr ls) 9, .vec ac446 cc447 1 (List.flatMap fStr ls) 9, .vec a3 c3 1 (List.flatMap fStr ls) 9], rfl, he472, by kernel_rfl, fun ac474 En475 Hv476 => ?_⟩
        refine d_e [0,1,5,6,7,8,9,10,11,12,13,94] [] En475 fun ac477 En478 => ?_
        refine then_normal ?_
        refine c_n ((UInt64.toNat lo : Nat) : Int) ((UInt64.toNat lo : Nat) : Int) En478 (fun hc479 => ?_) (fun hc479 => ?_)
        ·
         refine wp_seq ?_
         refine d_r [0,1,4,5,6,7,8,9,10,11,12,13] [] En478 fun ac480 En481 => ?_
         refine then_normal ?_
         refine wp_ret ?_
         refine then_ret ?_
         refine block_ret ?_
         refine then_ret ?_
         refine then_ret ?_
         refine block_ret ?_
         refine then_ret ?_
         refine d_ret1 (t := 4) (v := .bool false) En481 (by kernel_rfl) (by kernel_rfl) ?_
         first | contradiction | omega | exact absurd rfl hc479 | (simp_all; done)
        ·
         refine wp_skip ?_
         refine then_normal ?_
         refine wp_seq ?_
         refine d_r [0,1,5,6,7,8,9,10,11,12,13,14] [] En478 fun ac482 En483 => ?_
         refine then_normal ?_
         refine wp_block ?_
         refine loop_m (fun ms484 ac wo => ∃ (k : Nat) (gs : List Bs), ms484 = (List.length ls - k : Nat) ∧ Env ac 113 [(0, .int .i64 mo), (1, .slice a_lw (List.length lw) c_lw), (5, .bool true), (6, pt g14), (7, .int .i64 0), (8, .slice a3 (List.length ls) c3), (9, uv64 lo), (10, ni i), (11, .string (bstr ((encL x66a x66b x66c).1))), (12, .int .i64 ((encL x66a x66b x66c).2)), (13, .slice ac446 (List.length ls) cc447), (14, ni k)] ∧ Ev w [] wo [.vec ac446 cc447 1 (List.flatMap fStr gs) 9, .box g14 [.int .i64 mo, .slice ac91 (List.length (ls)) cc92, uv64 lo, .map (some mb15)] 79, .vec ac91 cc92 1 (List.flatMap fStr ls) 9, .vec a3 c3 1 (List.flatMap fStr ls) 9] ∧ (k ≤ List.length ls) ∧ (List.drop k gs = List.drop k ls) ∧ (List.length gs = List.length ls)) ⟨_, 0, ls, rfl, En483.sub (by kernel_rfl), Hv476.pick [2, 0, 1, 3] (by kernel_rfl) (by decide), (Nat.zero_le _), rfl, rfl⟩ ?_
         rintro mm490 ac486 wo487 ⟨k, gs, rfl, En488, Hv489, hkl, hgk, hgl⟩
         refine wp_seq ?_
         refine wp_seq ?_
         refine d_r [0,1,5,6,7,8,9,10,11,12,13,14,98] [] En488 fun ac491 En492 => ?_
         refine then_normal ?_
         refine c_d (((k : Nat) : Int) < ((List.length ls : Nat) : Int)) En492 (fun hc493 => ?_) (fun hc493 => ?_)
         ·
          refine wp_skip ?_
          refine then_normal ?_
          refine wp_seq ?_
          refine wp_block ?_
          refine wp_seq ?_
          refine wp_seq ?_
          have hb494 : k < List.length gs := by omega
          obtain ⟨x496, hx495⟩ : ∃ x, (gs)[k]? = some x := ⟨_, List.getElem?_eq_getElem hb494⟩
          have hxw497 : (ls)[k]? = some x496 := at_drop hgk hx495
          refine r_c (fun ac wo => Env ac 113 [(0, .int .i64 mo), (1, .slice a_lw (List.length lw) c_lw), (5, .bool true), (6, pt g14), (7, .int .i64 0), (8, .slice a3 (List.length ls) c3), (9, uv64 lo), (10, ni i), (11, .string (bstr ((encL x66a x66b x66c).1))), (12, .int .i64 ((encL x66a x66b x66c).2)), (13, .slice ac446 (List.length ls) cc447), (14, ni k), (109, .bool (!(x496 == x496)))] ∧ Ev w [] wo [.vec ac446 cc447 1 (List.flatMap fStr gs) 9, .box g14 [.int .i64 mo, .slice ac91 (List.length (ls)) cc92, uv64 lo, .map (some mb15)] 79, .vec ac91 cc92 1 (List.flatMap fStr ls) 9, .vec a3 c3 1 (List.flatMap fStr ls) 9]) ?_ ?_
          ·
           refine h_s (fun wv => Ev w [] wv [.vec ac446 cc447 1 (List.flatMap fStr gs) 9, .vec a3 c3 1 (List.flatMap fStr ls) 9]) [] 9 ?_
           have wo498 := Hv489.trans (Ev.drew Hv489.heap)
           have hb547 : k < List.length ls := (by omega)
           obtain ⟨adr545, had546⟩ := some_of (fun e => by have h := (sv_nz (f := fStr) (sz := 1) wo498.heap (k := 0) rfl (fun _ => rfl) (by decide)) e; omega) hb547
           refine q_s [0,1] [] 7 En492 (wo498.pick [0, 3] (by kernel_rfl) (by decide)) fun ac548 En549 => ?_
           refine q_f 2 (s := Instr.indexAt 41 (.slice ac446 (List.length ls) cc447) (ni k)) (v := .pointer (some (Addr.add adr545 k))) En549 (fun _ => Go.Dbr.run_indexsl (e := 9) (sz := 1) (j := k) (jo := k) had546 (by kernel_rfl) (by kernel_rfl) (by omega) hb547 (Nat.mul_one _) _) (fun _ => wo498.pick [0, 3] (by kernel_rfl) (by decide)) fun ac550 En551 => ?_
           refine q_r 3 (s := Instr.loadAt 9 (.pointer (some (Addr.add adr545 k)))) (v := .string (bstr x496)) En551 (fun w hS => run_loadel (ad := adr545) (o := k) rfl (hS.heap.reads (k := 0) rfl) had546 ((flat_get1 (fun _ _ => rfl) hx495).trans rfl) (by kernel_rfl)) (wo498.pick [0, 3] (by kernel_rfl) (by decide)) fun ac552 En553 => ?_
           have hb556 : k < List.length ls := (by omega)
           obtain ⟨adr554, had555⟩ := some_of (sv_nz (f := fStr) (sz := 1) wo498.heap (k := 3) rfl (fun _ => rfl) (by decide)) hb556
           refine q_s [4,5] [] 3 En553 (wo498.pick [0, 3] (by kernel_rfl) (by decide)) fun ac557 En558 => ?_
           refine q_f 6 (s := Instr.indexAt 41 (.slice a3 (List.length ls) c3) (ni k)) (v := .pointer (some (Addr.add adr554 k))) En558 (fun _ => Go.Dbr.run_indexsl (e := 9) (sz := 1) (j := k) (jo := k) had555 (by kernel_rfl) (by kernel_rfl) (by omega) hb556 (Nat.mul_one _) _) (fun _ => wo498.pick [0, 3] (by kernel_rfl) (by decide)) fun ac559 En560 => ?_
           refine q_r 7 (s := Instr.loadAt 9 (.pointer (some (Addr.add adr554 k)))) (v := .string (bstr x496)) En560 (fun w hS => run_loadel (ad := adr554) (o := k) rfl (hS.heap.reads (k := 1) rfl) had555 ((flat_get1 (fun _ _ => rfl) hxw497).trans rfl) (by kernel_rfl)) (wo498.pick [0, 3] (by kernel_rfl) (by decide)) fun ac561 En562 => ?_
           refine q_s [8] [(8, g_v (show (.bool (!(ByteArray.toList (bstr x496) == ByteArray.toList (bstr x496))) : Value) = .bool (!(x496 == x496)) by rw [Go.Dbr.bstr_eq x496 x496] <;> rfl))] 0 En562 (wo498.pick [0, 3] (by kernel_rfl) (by decide)) fun ac563 En564 => ?_
           exact h_e ⟨En564.sub (by kernel_rfl), wo498.pick [0, 1, 2, 3] (by kernel_rfl) (by decide)⟩
          rintro ac565 wo566 ⟨En567, Hv568⟩
          refine then_normal ?_
          refine cond_at En567 (t := !(x496 == x496)) (by kernel_rfl) (fun hc569 => ?_) (fun hc569 => ?_)
          ·
           replace hc569 : x496 ≠ x496 := by first | (simp at hc569; done) | (simp; done) | simpa using hc569
           refine wp_seq ?_
           refine d_r [0,1,4,5,6,7,8,9,10,11,12,13,14] [] En567 fun ac570 En571 => ?_
           refine then_normal ?_
           refine wp_ret ?_
           refine then_ret ?_
           refine block_ret ?_
           refine then_ret ?_
           refine then_ret ?_
           refine block_ret ?_
           refine block_ret ?_
           refine then_ret ?_
           refine then_ret ?_
           refine block_ret ?_
           refine then_ret ?_
           refine d_ret1 (t := 4) (v := .bool false) En571 (by kernel_rfl) (by kernel_rfl) ?_
           first | contradiction | omega | exact absurd rfl hc569 | (simp_all; done)
          ·
           replace hc569 : ¬ (x496 ≠ x496) := by first | (simp at hc569; done) | (simp; done) | simpa using hc569
           refine wp_skip ?_
           refine then_normal ?_
           have hb574 : k < List.length ls := (by omega)
           obtain ⟨adr572, had573⟩ := some_of (fun e => by have h := (sv_nz (f := fStr) (sz := 1) Hv568.heap (k := 0) rfl (fun _ => rfl) (by decide)) e; omega) hb574
           refine region_from ?_
           refine d_k [0,1,5,6,7,8,9,10,11,12,13,14,110,111] [] 2 En567 fun ac575 En576 => ?_
           refine f_o ?_
           refine q_v (x := Instr.indexAt 41 (.slice ac446 (List.length ls) cc447) (ni k)) (v := .pointer (some (Addr.add adr572 k))) En576 (Go.Dbr.run_indexsl (e := 9) (sz := 1) (j := k) (jo := k) had573 (by kernel_rfl) (by kernel_rfl) (by omega) hb574 (Nat.mul_one _) _) fun ac577 En578 => ?_
           refine f_o ?_
           refine op_storef (d := none) (t := 9) (ad := adr572) (ao := ac446) (k := 0) (cap := cc447) (sz := 1) (o := k) (xs := List.flatMap fStr gs) (v := .string (bstr [109, 105, 110, 101])) En578 (by kernel_rfl) rfl Hv568 rfl had573 (by first | (rw [sv_len (f := fStr) (sz := 1) (fun _ => rfl)]; omega) | exact Nat.lt_of_lt_of_eq (show _ < List.length gs * 1 from by have h := (List.getElem?_eq_some_iff.1 hx495).1; first | omega | (simp only [List.length_set] at h ⊢; omega)) (sv_len (f := fStr) (sz := 1) (fun _ => rfl) gs).symm) (by kernel_rfl) rfl ?_
           intro ac579 wo580  En581 Hv582
           have hls583 : List.length (List.set gs k [109, 105, 110, 101]) = List.length gs := List.length_set
           rw [flat_set1 (f := fStr) (x' := [109, 105, 110, 101]) hx495 rfl] at Hv582
           refine f_e ?_
           refine block_normal ?_
           refine then_normal ?_
           refine d_r [0,1,5,6,7,8,9,10,11,12,13,14] [(1, g_n (w_a k 1))] En581 fun ac584 En585 => ?_
           refine then_normal ?_
           refine ⟨_, ⟨k + 1, (List.set gs k [109, 105, 110, 101]), rfl, En585.sub (by kernel_rfl), Hv582.pick [0, 1, 2, 3] (by kernel_rfl) (by decide), (by omega), (set_drop hgk), (by rw [List.length_set]; exact hgl)⟩, ?_⟩
           omega
         ·
          refine wp_exit ?_
          refine then_exit ?_
          refine then_exit ?_
          refine block_exit ?_
          refine block_normal ?_
          refine then_normal ?_
          refine d_r [0,1,5,6,7,8,9,10,11,12,13,14] [(1, g_n (w_a i 1))] En492 fun ac586 En587 => ?_
          refine then_normal ?_
          refine ⟨_, ⟨i + 1, ac91, cc92, a3, c3, ls, lo, rfl, En587.sub (by kernel_rfl), Hv489.pick [1, 2, 3] (by kernel_rfl) (by decide), (by omega), (by rw [← hA]; exact add_len hn.1 hls)⟩, ?_⟩
          omega
   ·
    refine wp_exit ?_
    refine then_exit ?_
    refine then_exit ?_
    refine block_exit ?_
    refine then_normal ?_
    refine wp_seq ?_
    refine d_r [0,1,4,5,6,7,8,9,10] [] En59 fun ac588 En589 => ?_
    refine then_normal ?_
    refine wp_ret ?_
    refine d_ret1 (t := 4) (v := .bool true) En589 (by kernel_rfl) (by kernel_rfl) ?_
    exact ⟨rfl, Hv56.pick [] (by kernel_rfl) (by decide)⟩

theorem keeps_bad (mo : Int) (a_lw : Option Addr) (c_lw : Nat) (lw : List ((UInt64) × (List UInt8) × (Sl ((List UInt8) × (Bool) × (UInt64) × (List UInt8) × Unit)) × Unit)) (w : World) (b_mo : (-9223372036854775808 ≤ mo ∧ mo ≤ 9223372036854775807)) (i_lw : InS (fun p : (UInt64) × (List UInt8) × (Sl ((List UInt8) × (Bool) × (UInt64) × (List UInt8) × Unit)) × Unit => (fun n : UInt64 => [uv64 n]) p.1 ++ (fun p : (List UInt8) × (Sl ((List UInt8) × (Bool) × (UInt64) × (List UInt8) × Unit)) × Unit => (fun l : List UInt8 => [.string (bstr l)]) p.1 ++ (fun p : (Sl ((List UInt8) × (Bool) × (UInt64) × (List UInt8) × Unit)) × Unit => (fun s : Sl ((List UInt8) × (Bool) × (UInt64) × (List UInt8) × Unit) => s.f) p.1 ++ (fun _ : Unit => []) p.2) p.2) p.2) 48 (fun x : (UInt64) × (List UInt8) × (Sl ((List UInt8) × (Bool) × (UInt64) × (List UInt8) × Unit)) × Unit => (True ∧ ((List.length x.2.1 ≤ 140737488351232) ∧ (InS (fun p : (List UInt8) × (Bool) × (UInt64) × (List UInt8) × Unit => (fun l : List UInt8 => [.string (bstr l)]) p.1 ++ (fun p : (Bool) × (UInt64) × (List UInt8) × Unit => (fun b : Bool => [.bool b]) p.1 ++ (fun p : (UInt64) × (List UInt8) × Unit => (fun n : UInt64 => [uv64 n]) p.1 ++ (fun p : (List UInt8) × Unit => (fun l : List UInt8 => [.string (bstr l)]) p.1 ++ (fun _ : Unit => []) p.2) p.2) p.2) p.2) 48 (fun x : (List UInt8) × (Bool) × (UInt64) × (List UInt8) × Unit => ((List.length x.1 ≤ 140737488351232) ∧ (True ∧ (True ∧ ((List.length x.2.2.2.1 ≤ 140737488351232) ∧ (True)))))) w [] x.2.2.1.a x.2.2.1.c x.2.2.1.l ∧ (True))))) w [] a_lw c_lw lw) (hn : ¬ (1 ≤ mo ∧ mo ≤ 4096)) (gt : InT w []) : Calls Tryd.prog 5 #[.int .i64 mo, .slice a_lw (List.length lw) c_lw] w fun e w' => e = .returned (.bool true) ∧ Ev w [] w' [] := by
 refine d_0 [(0, .int .i64 mo), (1, .slice a_lw (List.length lw) c_lw)] 113 Go.Proofs.Tryd.func5 Go.Proofs.Tryd.ntmps5 (Heap.nil _) fun act0 En0 Hv0 => ?_
 refine wp_seq ?_
 refine d_r [0,1,4] [] En0 fun ac1 En2 => ?_
 refine then_normal ?_
 refine wp_seq ?_
 refine region_from ?_
 refine f_o ?_
 refine c_p En2 Hv0 (head_go _ ((gt.ev Hv0).nil)) fun ac7 wo4 En8 Hv9 => ?_
 refine d_e [0,1,4,5] [] En8 fun ac10 En11 => ?_
 refine then_normal ?_
 refine wp_seq ?_
 refine region_from ?_
 refine d_k [0,1,4,5,17] [] 1 En11 fun ac12 En13 => ?_
 refine f_o ?_
 refine c_p En13 Hv9 (new_bad _ mo hn) fun ac18 wo15 En19 Hv20 => ?_
 refine d_e [0,1,4,5,6,7] [] En19 fun ac21 En22 => ?_
 refine then_normal ?_
 refine wp_seq ?_
 refine wp_seq ?_
 refine region_from ?_
 refine d_k [0,1,4,5,6,7,23] [] 3 En22 fun ac23 En24 => ?_
 rcases Bool.eq_false_or_eq_true (decide (mo < (1 : Int))) with hb25 | hb25
 ·
  have En26 := En24.fx (t := 23) (congrArg Value.bool hb25)
  have hp27 : mo < (1 : Int) := of_decide_eq_true hb25
  refine d_e [0,1,4,5,6,7,26] [] En26 fun ac28 En29 => ?_
  refine then_normal ?_
  refine c_t En29 ?_
  refine wp_seq ?_
  refine d_r [0,1,4,5,6,7] [] En29 fun ac30 En31 => ?_
  refine then_normal ?_
  refine wp_ret ?_
  refine then_ret ?_
  refine d_ret1 (t := 4) (v := .bool true) En31 (by kernel_rfl) (by kernel_rfl) ?_
  exact ⟨rfl, Hv20.pick [] (by kernel_rfl) (by decide)⟩
 ·
  have En32 := En24.fx (t := 23) (congrArg Value.bool hb25)
  have hp33 : ¬ (mo < (1 : Int)) := of_decide_eq_false hb25
  refine d_e [0,1,4,5,6,7,26] [] En32 fun ac34 En35 => ?_
  refine then_normal ?_
  refine c_d (mo > (4096 : Int)) En35 (fun hc36 => ?_) (fun hc36 => ?_)
  ·
   refine wp_seq ?_
   refine d_r [0,1,4,5,6,7] [] En35 fun ac37 En38 => ?_
   refine then_normal ?_
   refine wp_ret ?_
   refine then_ret ?_
   refine d_ret1 (t := 4) (v := .bool true) En38 (by kernel_rfl) (by kernel_rfl) ?_
   exact ⟨rfl, Hv20.pick [] (by kernel_rfl) (by decide)⟩
  ·
   refine wp_skip ?_
   refine then_normal ?_
   refine wp_seq ?_
   refine wp_seq ?_
   refine d_r [0,1,4,5,6,7,45] [] En35 fun ac39 En40 => ?_
   refine then_normal ?_
   refine c_t En40 ?_
   refine wp_seq ?_
   refine d_r [0,1,4,5,6,7] [] En40 fun ac41 En42 => ?_
   refine then_normal ?_
   refine wp_ret ?_
   refine then_ret ?_
   refine d_ret1 (t := 4) (v := .bool false) En42 (by kernel_rfl) (by kernel_rfl) ?_
   first | contradiction | omega | exact absurd rfl hc36 | (simp_all; done)

theorem keeps_walk (mo : Int) (a_lw : Option Addr) (c_lw : Nat) (lw : List ((UInt64) × (List UInt8) × (Sl ((List UInt8) × (Bool) × (UInt64) × (List UInt8) × Unit)) × Unit)) (w : World) (b_mo : (-9223372036854775808 ≤ mo ∧ mo ≤ 9223372036854775807)) (i_lw : InS (fun p : (UInt64) × (List UInt8) × (Sl ((List UInt8) × (Bool) × (UInt64) × (List UInt8) × Unit)) × Unit => (fun n : UInt64 => [uv64 n]) p.1 ++ (fun p : (List UInt8) × (Sl ((List UInt8) × (Bool) × (UInt64) × (List UInt8) × Unit)) × Unit => (fun l : List UInt8 => [.string (bstr l)]) p.1 ++ (fun p : (Sl ((List UInt8) × (Bool) × (UInt64) × (List UInt8) × Unit)) × Unit => (fun s : Sl ((List UInt8) × (Bool) × (UInt64) × (List UInt8) × Unit) => s.f) p.1 ++ (fun _ : Unit => []) p.2) p.2) p.2) 48 (fun x : (UInt64) × (List UInt8) × (Sl ((List UInt8) × (Bool) × (UInt64) × (List UInt8) × Unit)) × Unit => (True ∧ ((List.length x.2.1 ≤ 140737488351232) ∧ (InS (fun p : (List UInt8) × (Bool) × (UInt64) × (List UInt8) × Unit => (fun l : List UInt8 => [.string (bstr l)]) p.1 ++ (fun p : (Bool) × (UInt64) × (List UInt8) × Unit => (fun b : Bool => [.bool b]) p.1 ++ (fun p : (UInt64) × (List UInt8) × Unit => (fun n : UInt64 => [uv64 n]) p.1 ++ (fun p : (List UInt8) × Unit => (fun l : List UInt8 => [.string (bstr l)]) p.1 ++ (fun _ : Unit => []) p.2) p.2) p.2) p.2) 48 (fun x : (List UInt8) × (Bool) × (UInt64) × (List UInt8) × Unit => ((List.length x.1 ≤ 140737488351232) ∧ (True ∧ (True ∧ ((List.length x.2.2.2.1 ≤ 140737488351232) ∧ (True)))))) w [] x.2.2.1.a x.2.2.1.c x.2.2.1.l ∧ (True))))) w [] a_lw c_lw lw) (gt : InT w []) : Calls Tryd.prog 5 #[.int .i64 mo, .slice a_lw (List.length lw) c_lw] w fun e w' => e = .returned (.bool true) ∧ Ev w [] w' [] := by
  by_cases hn : 1 ≤ mo ∧ mo ≤ 4096
  · exact keeps_ok mo a_lw c_lw lw w b_mo i_lw hn gt
  · exact keeps_bad mo a_lw c_lw lw w b_mo i_lw hn gt

end Go.Proofs.YtfcfgbejpcmmkaaDoor
