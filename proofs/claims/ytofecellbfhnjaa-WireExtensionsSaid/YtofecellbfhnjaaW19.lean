/- Layer 17: offered tickets are read by the program. -/
import Derived.Test.YtofecellbfhnjaaW18
namespace Go.Proofs.Ytofecellbfhnjaa
open Go.Dbr
set_option maxRecDepth 100000
set_option maxHeartbeats 2000000
set_option linter.unusedVariables false
set_option linter.unusedSimpArgs false

theorem sv_nz {α : Type} {f : α → List Value} {sz : Nat} {w : World} {L : List Ent} (h : Heap w L) {k : Nat} {a : Option Addr} {cap : Nat} {xs : List α} {T : TypeId} (hk : L[k]? = some (.vec a cap sz (xs.flatMap f) T)) (hf : ∀ x, (f x).length = sz) (h1 : 0 < sz) : a = none → xs.length = 0 := fun ha => by
  have h0 : Ent.holds0 w (.vec a cap sz (xs.flatMap f) T) := h.holds k _ hk
  subst ha
  obtain ⟨_, h2⟩ := h0
  have := sv_len hf xs
  rw [h2] at this
  rcases Nat.eq_zero_or_pos xs.length with e | e
  · exact e
  · have := Nat.mul_pos e h1; simp at *; omega
section
variable {w w0 : World} {L L0 : List Ent}
/-- some entries are kept, of others what is wanted becomes one that is read alone -/
theorem Ev.groupS (H : Ev w0 L0 w L) (is ks : List Nat) {M : List Ent} {D : List Inn} (hm : M.map some = is.map (fun i => L[i]?)) (inD0 : ∀ d ∈ D, ∃ k, k ∈ ks ∧ d ∈ innAt L k) (nd : (is ++ ks).Nodup) : Ev w0 L0 w (M ++ [.grp D]) := by
  have ndi : is.Nodup := (List.nodup_append.1 nd).1
  have hh := H.heap
  have inD : ∀ d : Inn, d ∈ D → ∃ (k : Nat) (e : Ent), k ∈ ks ∧ L[k]? = some e ∧ d ∈ e.inn := by
    intro d hd
    obtain ⟨k, hk, hd⟩ := inD0 d hd
    obtain ⟨e, he, hd⟩ := mem_innAt hd
    exact ⟨k, e, hk, he, hd⟩
  have ownD : ∀ b, Owns [Ent.grp D] b → ∃ (k : Nat) (e : Ent), k ∈ ks ∧ L[k]? = some e ∧ e.own b := by
    intro b ⟨i, e, hi, he⟩
    cases i with
    | succ i => simp at hi
    | zero =>
      simp only [List.getElem?_cons_zero, Option.some.injEq] at hi
      subst hi
      obtain ⟨d, hd, hb⟩ := he
      obtain ⟨k, e, hk, hke, hde⟩ := inD d hd
      exact ⟨k, e, hk, hke, inn_own hde hb⟩
  have one : Heap w [Ent.grp D] := by
    have at0 : ∀ (i : Nat) (f : Ent), [Ent.grp D][i]? = some f → i = 0 ∧ f = .grp D := fun i f hi => by
      cases i with
      | zero => exact ⟨rfl, by simpa using hi.symm⟩
      | succ i => simp at hi
    refine ⟨fun i j f g b hi hj _ _ => by rw [(at0 i f hi).1, (at0 j g hj).1], fun i f hi => ?_⟩
    rw [(at0 i f hi).2]
    intro d hd
    obtain ⟨k, e, _, hke, hde⟩ := inD d hd
    exact inn_holds hde (hh.holds k e hke)
  refine ⟨(hh.pick is hm ndi).append one fun b ho ho' => ?_, H.chg, fun b ho => ?_⟩
  · obtain ⟨k, e, hk, hke, heb⟩ := ownD b ho'
    obtain ⟨j, f, hj, hf⟩ := ho
    have h1 : (M.map some)[j]? = some (some f) := by simp [hj]
    rw [hm, List.getElem?_map] at h1
    cases hi : is[j]? with
    | none => simp [hi] at h1
    | some i =>
      have h2 : L[i]? = some f := by simpa [hi] using h1
      have e1 := hh.sep i k f e b h2 hke hf heb
      subst e1
      exact (List.nodup_append.1 nd).2.2 i (List.mem_of_getElem? hi) i hk rfl
  · rcases owns_append.1 ho with h1 | h1
    · exact H.new b (owns_pick hm h1)
    · obtain ⟨k, e, _, hke, heb⟩ := ownD b h1
      exact H.new b ⟨k, e, hke, heb⟩
end
theorem psk_sub {n : Nat} {xs : List RPsk} {ys : List RByl} {d : Inn} (h : d ∈ List.flatMap innPsk (bnd upR n xs ys)) : d ∈ List.flatMap innPsk xs ∨ d ∈ List.flatMap innByl ys := by
  obtain ⟨z, hz, hd⟩ := List.mem_flatMap.1 h
  rcases bnd_mem hz with hz | ⟨x, y, hx, hy, e⟩
  · exact .inl (List.mem_flatMap.2 ⟨z, hz, hd⟩)
  · subst e
    rcases List.mem_cons.1 hd with e | hd
    · exact .inl (List.mem_flatMap.2 ⟨x, hx, by rw [e]; exact List.mem_cons_self⟩)
    · exact .inr (List.mem_flatMap.2 ⟨y, hy, hd⟩)
theorem psk_sm {n : Nat} {xs : List RPsk} {ys : List RByl} (hx : ∀ x ∈ xs, (List.length x.1.l ≤ 140737488351232 ∧ List.length x.2.2.1.l ≤ 140737488351232)) (hy : ∀ y ∈ ys, List.length y.l ≤ 140737488351232) : ∀ z ∈ bnd upR n xs ys, (List.length z.1.l ≤ 140737488351232 ∧ List.length z.2.2.1.l ≤ 140737488351232) := fun z hz => by
  rcases bnd_mem hz with hz | ⟨x, y, h1, h2, e⟩
  · exact hx z hz
  · subst e
    exact ⟨(hx x h1).1, hy y h2⟩
def pskO (l : Bs) (s o : Bool) : List PK × PS := manyM psk1M 2 1 l s o
def pskB (l : Bs) (s o : Bool) : List Bs × PS := manyM (listM 1 32 255) 2 1 (pskO l s o).2.1 (pskO l s o).2.2.1 (pskO l s o).2.2.2
def pskM (l : Bs) (s o : Bool) : List PK × PS := (bnd upP (pskB l s o).1.length (pskO l s o).1 (pskB l s o).1, (pskB l s o).2.1, (pskB l s o).2.2.1 || (((pskB l s o).1.length : Int) != ((pskO l s o).1.length : Int)), (pskB l s o).2.2.2)
def gotN {α : Type} (q : α × PS) (n : Nat) : Nat := if gotA q = 0 then n else 0

theorem getpsks1 (w : World) (br bn : Nat) (v0 : Int) (a : Option Addr) (c : Nat) (l : List UInt8) (s o : Bool) (i : InB w [.box br [.slice a (List.length l) c, .bool s, .bool o] 120, .box bn [.int .i64 v0] 3] a c l) (hH : Heap w [.box br [.slice a (List.length l) c, .bool s, .bool o] 120, .box bn [.int .i64 v0] 3]) : Calls Try.prog 165 #[pt br, pt bn] w fun e w' => ∃ ta tc oa oc xs, e = .returned (.slice oa (List.length xs) oc) ∧ Ev w [.box br [.slice a (List.length l) c, .bool s, .bool o] 120, .box bn [.int .i64 v0] 3] w' [.box br [.slice ta (List.length ((pskM l s o).2.1)) tc, .bool ((pskM l s o).2.2.1), .bool ((pskM l s o).2.2.2)] 120, .box bn [.int .i64 ((List.length (pskO l s o).2.1 : Nat) : Int)] 3, .vec oa oc 3 (List.flatMap fPsk xs) 140, .grp (List.flatMap innPsk xs)] ∧ Sub a c l ta tc (pskM l s o).2.1 ∧ List.map puPsk xs = (pskM l s o).1 ∧ List.length xs ≤ 4294967296 ∧ ∀ y ∈ xs, (List.length y.1.l ≤ 140737488351232 ∧ List.length y.2.2.1.l ≤ 140737488351232) := by
 refine d_0 [(0, pt br), (1, pt bn)] 48 Go.Proofs.Try.func165 Go.Proofs.Try.ntmps165 (hH) fun act0 En0 Hv0 => ?_
 refine wp_seq ?_
 refine d_r [0,1,3] [] En0 fun ac1 En2 => ?_
 refine then_normal ?_
 refine wp_seq ?_
 refine region_from ?_
 refine d_k [0,1,3,7] [] 1 En2 fun ac3 En4 => ?_
 refine f_o ?_
 refine c_l [0] (M := [.box br [.slice a (List.length l) c, .bool s, .bool o] 120]) En4 Hv0 (fun hM14 => many_psk _ br 2 (by omega) 1 (by omega) a c l s o ((i.ev Hv0).pick [0] (by kernel_rfl)) hM14) ?_
 rintro _ wo15 ⟨ta5, tc6, oa7, oc8, xs9, rfl, he16, hs10, hmn11, hct12, hsm13⟩
 refine ⟨_, _, [.box br [.slice ta5 (List.length ((pskO l s o).2.1)) tc6, .bool ((pskO l s o).2.2.1), .bool ((pskO l s o).2.2.2)] 120, .vec oa7 oc8 3 (List.flatMap fPsk xs9) 140, .grp (List.flatMap innPsk xs9), .box bn [.int .i64 v0] 3], rfl, he16, by kernel_rfl, fun ac18 En19 Hv20 => ?_⟩
 replace hmn11 : List.map puPsk xs9 = (pskO l s o).1 := hmn11
 have hq21 := Nat.le_trans hct12 (lsO_32 (by decide) _ _)
 refine d_e [0,1,3,4] [] En19 fun ac22 En23 => ?_
 refine then_normal ?_
 refine wp_seq ?_
 refine region_from ?_
 refine d_k [0,1,3,4,11] [] 3 En23 fun ac24 En25 => ?_
 refine f_o ?_
 refine m_l 0 En25 Hv20 fun ac26 En27 => ?_
 refine d_k [0,1,3,4,13] [] 5 En27 fun ac28 En29 => ?_
 refine f_o ?_
 refine m_s 3 [.box br [.slice ta5 (List.length ((pskO l s o).2.1)) tc6, .bool ((pskO l s o).2.2.1), .bool ((pskO l s o).2.2.2)] 120, .vec oa7 oc8 3 (List.flatMap fPsk xs9) 140, .grp (List.flatMap innPsk xs9), .box bn [.int .i64 ((List.length ((pskO l s o).2.1) : Nat) : Int)] 3] En29 Hv20 fun ac30 wo31 En32 Hv33 => ?_
 refine f_e ?_
 refine then_normal ?_
 refine wp_seq ?_
 refine region_from ?_
 refine d_k [0,3,4,14] [] 1 En32 fun ac34 En35 => ?_
 refine f_o ?_
 refine c_l [0] (M := [.box br [.slice ta5 (List.length ((pskO l s o).2.1)) tc6, .bool ((pskO l s o).2.2.1), .bool ((pskO l s o).2.2.2)] 120]) En35 Hv33 (fun hM45 => many_byl _ br 2 (by omega) 1 (by omega) ta5 tc6 ((pskO l s o).2.1) ((pskO l s o).2.2.1) ((pskO l s o).2.2.2) (hs10 _ _ ((i.ev Hv33).pick [0] (by kernel_rfl))) hM45) ?_
 rintro _ wo46 ⟨ta36, tc37, oa38, oc39, xs40, rfl, he47, hs41, hmn42, hct43, hsm44⟩
 refine ⟨_, _, [.box br [.slice ta36 (List.length ((pskB l s o).2.1)) tc37, .bool ((pskB l s o).2.2.1), .bool ((pskB l s o).2.2.2)] 120, .vec oa38 oc39 1 (List.flatMap fByl xs40) 23, .grp (List.flatMap innByl xs40), .vec oa7 oc8 3 (List.flatMap fPsk xs9) 140, .grp (List.flatMap innPsk xs9), .box bn [.int .i64 ((List.length ((pskO l s o).2.1) : Nat) : Int)] 3], rfl, he47, by kernel_rfl, fun ac49 En50 Hv51 => ?_⟩
 replace hmn42 : List.map (fun y : RByl => y.l) xs40 = (pskB l s o).1 := hmn42
 have hq52 := Nat.le_trans hct43 (lsO_32 (by decide) _ _)
 refine d_e [0,3,4,5] [] En50 fun ac53 En54 => ?_
 refine then_normal ?_
 refine wp_seq ?_
 refine region_cut (F := fun ac wo => ∃ (b2 : Bool), Env ac 48 [(0, pt br), (3, .slice none 0 0), (4, .slice oa7 (List.length xs9) oc8), (5, .slice oa38 (List.length xs40) oc39)] ∧ Ev w [.box br [.slice a (List.length l) c, .bool s, .bool o] 120, .box bn [.int .i64 v0] 3] wo [.box br [.slice ta36 (List.length ((pskB l s o).2.1)) tc37, .bool b2, .bool ((pskB l s o).2.2.2)] 120, .box bn [.int .i64 ((List.length ((pskO l s o).2.1) : Nat) : Int)] 3, .vec oa7 oc8 3 (List.flatMap fPsk xs9) 140, .grp (List.flatMap innPsk xs9), .vec oa38 oc39 1 (List.flatMap fByl xs40) 23, .grp (List.flatMap innByl xs40)] ∧ (b2 = ((pskB l s o).2.2.1 || (((List.length xs40 : Nat) : Int) != ((List.length xs9 : Nat) : Int))))) ?_ ?_
 ·
  refine region_from ?_
  refine d_k [0,3,4,5,16,19] [] 4 En54 fun ac55 En56 => ?_
  refine f_o ?_
  refine m_l 0 En56 Hv51 fun ac57 En58 => ?_
  refine d_k [0,3,4,5,16,21] [] 6 En58 fun ac59 En60 => ?_
  rcases Bool.eq_false_or_eq_true ((pskB l s o).2.2.1) with hb61 | hb61
  ·
   have En62 := En60.fx (t := 21) (congrArg Value.bool hb61)
   have hp63 : (pskB l s o).2.2.1 = true := hb61
   refine d_k [0,3,4,5,27,29] [] 14 En62 fun ac64 En65 => ?_
   refine f_o ?_
   refine m_s 0 [.box br [.slice ta36 (List.length ((pskB l s o).2.1)) tc37, .bool true, .bool ((pskB l s o).2.2.2)] 120, .vec oa38 oc39 1 (List.flatMap fByl xs40) 23, .grp (List.flatMap innByl xs40), .vec oa7 oc8 3 (List.flatMap fPsk xs9) 140, .grp (List.flatMap innPsk xs9), .box bn [.int .i64 ((List.length ((pskO l s o).2.1) : Nat) : Int)] 3] En65 Hv51 fun ac66 wo67 En68 Hv69 => ?_
   refine f_e ?_
   exact ⟨rfl, ⟨true, En68.sb, Hv69.pk [0, 5, 3, 4, 1, 2], (by first | exact or_t (by assumption) | exact or_f (by assumption))⟩⟩
  ·
   have En70 := En60.fx (t := 21) (congrArg Value.bool hb61)
   have hp71 : ¬ ((pskB l s o).2.2.1 = true) := Bool.eq_false_iff.1 hb61
   refine d_k [0,3,4,5,27,29] [] 14 En70 fun ac72 En73 => ?_
   refine f_o ?_
   refine m_s 0 [.box br [.slice ta36 (List.length ((pskB l s o).2.1)) tc37, .bool (((List.length xs40 : Nat) : Int) != ((List.length xs9 : Nat) : Int)), .bool ((pskB l s o).2.2.2)] 120, .vec oa38 oc39 1 (List.flatMap fByl xs40) 23, .grp (List.flatMap innByl xs40), .vec oa7 oc8 3 (List.flatMap fPsk xs9) 140, .grp (List.flatMap innPsk xs9), .box bn [.int .i64 ((List.length ((pskO l s o).2.1) : Nat) : Int)] 3] En73 Hv51 fun ac74 wo75 En76 Hv77 => ?_
   refine f_e ?_
   exact ⟨rfl, ⟨(((List.length xs40 : Nat) : Int) != ((List.length xs9 : Nat) : Int)), En76.sb, Hv77.pk [0, 5, 3, 4, 1, 2], (by first | exact or_t (by assumption) | exact or_f (by assumption))⟩⟩
 ·
  rintro ac78 wo79 ⟨b2, En80, Hv81, hb2⟩
  refine then_normal ?_
  refine wp_seq ?_
  refine wp_seq ?_
  refine d_r [0,3,4,5,34,35] [(4, g_i .i64 (min_nat (List.length xs9) (List.length xs40)))] En80 fun ac82 En83 => ?_
  refine then_normal ?_
  refine wp_block ?_
  refine loop_m (fun ms84 ac wo => ∃ (i : Nat), ms84 = (List.length xs9 + 1 - i : Nat) ∧ Env ac 48 [(0, pt br), (3, .slice none 0 0), (4, .slice oa7 (List.length xs9) oc8), (5, .slice oa38 (List.length xs40) oc39), (34, .int .i64 ((min (List.length xs9) (List.length xs40) : Nat) : Int)), (35, ni i)] ∧ Ev w [.box br [.slice a (List.length l) c, .bool s, .bool o] 120, .box bn [.int .i64 v0] 3] wo [.box br [.slice ta36 (List.length ((pskB l s o).2.1)) tc37, .bool b2, .bool ((pskB l s o).2.2.2)] 120, .box bn [.int .i64 ((List.length ((pskO l s o).2.1) : Nat) : Int)] 3, .vec oa7 oc8 3 (List.flatMap fPsk (bnd upR i xs9 xs40)) 140, .grp (List.flatMap innPsk xs9), .vec oa38 oc39 1 (List.flatMap fByl xs40) 23, .grp (List.flatMap innByl xs40)] ∧ (i ≤ min (List.length xs9) (List.length xs40))) ⟨_, 0, rfl, En83.sb, Hv81.pk [0, 1, 2, 3, 4, 5], (Nat.zero_le _)⟩ ?_
  rintro mm90 ac86 wo87 ⟨i, rfl, En88, Hv89, him⟩
  refine wp_seq ?_
  refine d_r [0,3,4,5,34,35,36] [] En88 fun ac91 En92 => ?_
  refine then_normal ?_
  refine wp_seq ?_
  refine c_d (((i : Nat) : Int) < ((min (List.length xs9) (List.length xs40) : Nat) : Int)) En92 (fun hc93 => ?_) (fun hc93 => ?_)
  ·
   refine wp_skip ?_
   refine then_normal ?_
   refine wp_seq ?_
   refine wp_block ?_
   refine wp_seq ?_
   refine d_r [0,3,4,5,6,34,35] [] En92 fun ac94 En95 => ?_
   refine then_normal ?_
   have hbl := bnd_len (u := upR) i xs9 xs40
   have him : i < min (List.length xs9) (List.length xs40) := by omega
   have hi1 : i < List.length xs9 := by omega
   have hi2 : i < List.length xs40 := by omega
   have hb98 : i < List.length xs40 := (by omega)
   obtain ⟨adr96, had97⟩ := some_of (sv_nz (f := fByl) (sz := 1) Hv89.heap (k := 4) rfl (fun _ => rfl) (by decide)) hb98
   have hb99 : i < List.length xs40 := by omega
   obtain ⟨⟨a_x101, c_x101, x101⟩, hx100⟩ : ∃ x, (xs40)[i]? = some x := ⟨_, List.getElem?_eq_getElem hb99⟩
   refine region_from ?_
   refine d_k [0,3,4,5,34,35,38,39,40,41] [] 4 En95 fun ac102 En103 => ?_
   refine f_o ?_
   refine q_v (x := Instr.indexAt 180 (.slice oa38 (List.length xs40) oc39) (ni i)) (v := .pointer (some (Addr.add adr96 i))) En103 (Go.Dbr.run_indexsl (e := 23) (sz := 1) (j := i) (jo := i) had97 (by kernel_rfl) (by kernel_rfl) (by omega) hb98 (Nat.mul_one _) _) fun ac104 En105 => ?_
   refine f_o ?_
   refine op_loadf (d := some 43) (t := 23) (ad := adr96) (ao := oa38) (ys := List.flatMap fByl xs40) (o := i) (v := .slice a_x101 (List.length x101) c_x101) En105 (by kernel_rfl) rfl (Hv89.heap.reads (k := 4) rfl) had97 ((flat_get1 (fun _ _ => rfl) hx100).trans rfl) (by kernel_rfl) ?_
   intro ac106 En107
   have hb110 : i < List.length xs9 := (by omega)
   obtain ⟨adr108, had109⟩ := some_of (fun e => by have h := (sv_nz (f := fPsk) (sz := 3) Hv89.heap (k := 2) rfl (fun _ => rfl) (by decide)) e; omega) hb110
   have hb111 : i < List.length (bnd upR i xs9 xs40) := by omega
   obtain ⟨⟨⟨a_x113a, c_x113a, x113a⟩, x113b, ⟨a_x113c, c_x113c, x113c⟩, _⟩, hx112⟩ : ∃ x, (bnd upR i xs9 xs40)[i]? = some x := ⟨_, List.getElem?_eq_getElem hb111⟩
   refine f_o ?_
   refine q_v (x := Instr.indexAt 35 (.slice oa7 (List.length xs9) oc8) (ni i)) (v := .pointer (some (Addr.add adr108 (i * 3)))) En107 (Go.Dbr.run_indexsl (e := 140) (sz := 3) (j := i) (jo := i * 3) had109 (by kernel_rfl) (by kernel_rfl) (by omega) hb110 rfl _) fun ac114 En115 => ?_
   refine d_k [0,3,4,5,34,35,43,45] [] 8 En115 fun ac116 En117 => ?_
   refine f_o ?_
   refine op_storef (d := none) (t := 23) (ad := adr108) (ao := oa7) (k := 2) (cap := oc8) (sz := 3) (o := i * 3 + 2) (xs := List.flatMap fPsk (bnd upR i xs9 xs40)) (v := .slice a_x101 (List.length x101) c_x101) En117 (by kernel_rfl) (Deep.add_add _ _ _) Hv89 rfl had109 (by rw [sv_len (f := fPsk) (sz := 3) (fun _ => rfl)]; omega) (by kernel_rfl) rfl ?_
   intro ac118 wo119  En120 Hv121
   rw [flat_set (f := fPsk) (x' := (⟨a_x113a, c_x113a, x113a⟩, x113b, ⟨a_x101, c_x101, x101⟩, ())) (fun _ => rfl) hx112 (by decide) rfl] at Hv121
   refine f_e ?_
   refine block_normal ?_
   refine then_normal ?_
   refine d_r [0,3,4,5,34,35] [(0, g_n (w_a i 1))] En120 fun ac122 En123 => ?_
   refine then_normal ?_
   rw [show List.set (bnd upR i xs9 xs40) i (⟨a_x113a, c_x113a, x113a⟩, x113b, ⟨a_x101, c_x101, x101⟩, ()) = bnd upR (i + 1) xs9 xs40 from bnd_set (u := upR) hx112 hx100] at Hv121
   refine ⟨_, ⟨i + 1, rfl, En123.sb, Hv121.pk [0, 1, 2, 3, 4, 5], (by omega)⟩, ?_⟩
   omega
  ·
   refine wp_exit ?_
   refine then_exit ?_
   refine then_exit ?_
   refine block_exit ?_
   refine then_normal ?_
   refine wp_seq ?_
   refine d_r [0,3,4,5,34,35] [] En92 fun ac124 En125 => ?_
   refine then_normal ?_
   refine wp_ret ?_
   refine d_ret1 (t := 3) (v := .slice oa7 (List.length xs9) oc8) En125 (by kernel_rfl) (by kernel_rfl) ?_
   have eZ : bnd upR i xs9 xs40 = bnd upR (List.length xs40) xs9 xs40 := bnd_over (by omega) (by omega)
   rw [eZ] at Hv89
   have Hv126 : Ev w [.box br [.slice a (List.length l) c, .bool s, .bool o] 120, .box bn [.int .i64 v0] 3] wo87 ([.box br [.slice ta36 (List.length ((pskB l s o).2.1)) tc37, .bool b2, .bool ((pskB l s o).2.2.2)] 120, .box bn [.int .i64 ((List.length ((pskO l s o).2.1) : Nat) : Int)] 3, .vec oa7 oc8 3 (List.flatMap fPsk (bnd upR (List.length xs40) xs9 xs40)) 140] ++ [.grp (List.flatMap innPsk (bnd upR (List.length xs40) xs9 xs40))]) := Ev.groupS Hv89 [0,1,2] [3, 5] (by kernel_rfl) (fun d hd => (psk_sub hd).elim (fun h => ⟨3, by decide, h⟩) fun h => ⟨5, by decide, h⟩) (by decide)
   have e1 : b2 = (pskM l s o).2.2.1 := by rw [hb2, ← List.length_map (f := (fun y : RByl => y.l)), hmn42, ← List.length_map (f := puPsk), hmn11]; rfl
   clear hb2
   subst e1
   have hzl : List.length xs9 = List.length (bnd upR (List.length xs40) xs9 xs40) := (bnd_len _ _ _).symm
   rw [hzl]
   exact ⟨ta36, tc37, oa7, oc8, bnd upR (List.length xs40) xs9 xs40, rfl, Hv126, (hs10.trans hs41), (by show _ = bnd upP (List.length (pskB l s o).1) (pskO l s o).1 (pskB l s o).1; rw [bnd_map (f := puPsk) (g := (fun y : RByl => y.l)) (u2 := upP) (fun _ _ => rfl), hmn11, hmn42, ← hmn42, List.length_map]), (by rw [← hzl]; exact Nat.le_trans hct12 (lsO_32 (by decide) _ _)), (psk_sm hsm13 hsm44)⟩

end Go.Proofs.Ytofecellbfhnjaa
