/- Layer 17: offered tickets are read by the document. -/
import Derived.Test.YtofecellbfhnjaaW20
namespace Go.Proofs.Ytofecellbfhnjaa
open Go.Dbr
set_option maxRecDepth 100000
set_option maxHeartbeats 2000000
set_option linter.unusedVariables false
set_option linter.unusedSimpArgs false

def dpsk1M (l : Bs) (s o : Bool) : PK × PS := ((ldO 2 1 65535 l s, UInt32.ofNat (nbV 4 (ldR 2 1 65535 l s) (ldS 2 1 65535 l s)), []), dkR 4 (ldR 2 1 65535 l s) (ldS 2 1 65535 l s), tkS 4 (ldR 2 1 65535 l s) (ldS 2 1 65535 l s), o)
theorem dpsk1_dec : Dec dpsk1M := ⟨fun l o h hs => Nat.lt_of_le_of_lt (dkR_len _ _ _) ((dlist_dec (n := 2) (x := 1) (y := 65535) (by decide)).lt l o h (tkS_f hs)), fun l o => Nat.le_trans (dkR_len _ _ _) (ldR_len _ _ _ _ _)⟩
def dpskO (l : Bs) (s o : Bool) : List PK × PS := dmanyM dpsk1M 2 1 65535 l s o
def dpskB (l : Bs) (s o : Bool) : List Bs × PS := dmanyM (dlistM 1 32 255) 2 1 65535 (dpskO l s o).2.1 (dpskO l s o).2.2.1 (dpskO l s o).2.2.2
def dpskM (l : Bs) (s o : Bool) : List PK × PS := (bnd upP (dpskB l s o).1.length (dpskO l s o).1 (dpskB l s o).1, (dpskB l s o).2.1, (dpskB l s o).2.2.1 || (((dpskB l s o).1.length : Int) != ((dpskO l s o).1.length : Int)), (dpskB l s o).2.2.2)
theorem bnd_put {α β : Type} {u : α → β → α} {k : Nat} {xs : List α} {bs : List β} {x : α} {y : β} (hk : k = bs.length) (hx : (bnd u k xs bs)[k]? = some x) : List.set (bnd u k xs bs) k (u x y) = bnd u (k + 1) xs (bs ++ [y]) := by
  subst hk
  rw [bnd_app (zs := [y]) (Nat.le_refl _)] at hx ⊢
  exact bnd_set hx (by simp)
theorem bnd_skip {α β : Type} {u : α → β → α} {k : Nat} {xs : List α} {bs : List β} {y : β} (hk : k = bs.length) (h : ¬ k < xs.length) : bnd u k xs bs = bnd u (k + 1) xs (bs ++ [y]) := by
  subst hk
  rw [bnd_app (zs := [y]) (Nat.le_refl _)]
  exact bnd_over (.inl (by omega)) (Nat.le_succ _)
theorem ne_t {a b k : Nat} (hk : k = a) (h : ¬ k = b) : ((a : Int) != (b : Int)) = true := by
  subst hk
  exact bne_iff_ne.2 (by omega)
theorem ne_f {a b k : Nat} (hk : k = a) (h : k = b) : ((a : Int) != (b : Int)) = false := by
  subst hk h
  exact bne_self_eq_false _

theorem dgetpsks_go (w : World) (aq : Option Addr) (nq cq : Nat) (lq : List UInt8) (eq : nq = List.length lq) (iq : InB w [] aq cq lq) : Calls Try.prog 61 #[.slice aq nq cq] w fun e w' => ∃ oa oc xs, e = .returned (.tuple #[.slice oa (List.length xs) oc, .int .i64 ((gotN (dpskM lq false false) (List.length (dpskO lq false false).2.1) : Nat) : Int), .int .i64 (gotA (dpskM lq false false))]) ∧ Ev w [] w' [.vec oa oc 3 (List.flatMap fPsk xs) 140, .grp (List.flatMap innPsk xs)] ∧ List.map puPsk xs = gotV [] (dpskM lq false false) ∧ List.length xs ≤ 4294967296 ∧ ∀ y ∈ xs, (List.length y.1.l ≤ 140737488351232 ∧ List.length y.2.2.1.l ≤ 140737488351232) := by
 subst eq
 refine d_0 [(0, .slice aq (List.length lq) cq)] 75 Go.Proofs.Try.func61 Go.Proofs.Try.ntmps61 (Heap.nil _) fun act0 En0 Hv0 => ?_
 refine wp_seq ?_
 refine d_r [0,2,3,4] [] En0 fun ac1 En2 => ?_
 refine then_normal ?_
 refine wp_seq ?_
 refine region_from ?_
 refine d_k [2,3,4,15] [] 2 En2 fun ac3 En4 => ?_
 refine f_o ?_
 refine m_m 154 [.slice aq (List.length lq) cq, .bool false, .bool false] En4 Hv0 fun ac6 wo7 bk5 En8 Hv9 => ?_
 refine d_e [2,3,4,5] [] En8 fun ac10 En11 => ?_
 refine then_normal ?_
 refine wp_seq ?_
 refine region_from ?_
 refine d_k [2,3,4,5,17] [] 1 En11 fun ac12 En13 => ?_
 refine f_o ?_
 refine c_l [0] (M := [.box bk5 [.slice aq (List.length lq) cq, .bool false, .bool false] 154]) En13 Hv9 (fun hM20 => dpart_go _ bk5 2 (by omega) 1 65535 (by omega) (by omega) aq cq lq false false ((iq.ev Hv9).pick [0] (by kernel_rfl)) hM20) ?_
 rintro _ wo21 ⟨bp14, ao15, cp16, ta17, tc18, rfl, he22, hs19⟩
 refine ⟨_, _, [.box bk5 [.slice ta17 (List.length (ldR 2 1 65535 lq false)) tc18, .bool (ldS 2 1 65535 lq false), .bool false] 154, .box bp14 [.slice ao15 (List.length (ldO 2 1 65535 lq false)) cp16, .bool (ldS 2 1 65535 lq false), .bool false] 154, .vec ao15 cp16 1 (bys (ldO 2 1 65535 lq false)) 5], rfl, he22, by kernel_rfl, fun ac24 En25 Hv26 => ?_⟩
 refine d_e [2,3,4,5,6] [] En25 fun ac27 En28 => ?_
 refine then_normal ?_
 refine wp_seq ?_
 refine d_r [2,3,4,5,6,7] [] En28 fun ac29 En30 => ?_
 refine then_normal ?_
 refine wp_seq ?_
 refine wp_block ?_
 have Hv31 : Ev w [] wo21 [.box bk5 [.slice ta17 (List.length (ldR 2 1 65535 lq false)) tc18, .bool (ldS 2 1 65535 lq false), .bool false] 154, .box bp14 [.slice ao15 (List.length (ldO 2 1 65535 lq false)) cp16, .bool (ldS 2 1 65535 lq false), .bool false] 154, .vec ao15 cp16 1 (bys (ldO 2 1 65535 lq false)) 5, .vec none 0 3 (List.flatMap fPsk []) 140] := Ev.nil (sz := 3) (T := 140) Hv26
 have Hv32 : Ev w [] wo21 [.box bk5 [.slice ta17 (List.length (ldR 2 1 65535 lq false)) tc18, .bool (ldS 2 1 65535 lq false), .bool false] 154, .box bp14 [.slice ao15 (List.length (ldO 2 1 65535 lq false)) cp16, .bool (ldS 2 1 65535 lq false), .bool false] 154, .vec ao15 cp16 1 (bys (ldO 2 1 65535 lq false)) 5, .vec none 0 3 (List.flatMap fPsk []) 140, .grp (List.flatMap innPsk [])] := Ev.grp0 Hv31
 have hO32 := Nat.le_of_succ_le (ldO_32 (n := 2) (x := 1) (y := 65535) (by decide) lq false)
 refine loop_m (fun ms33 ac wo => ∃ (oa : Option Addr) (oc : Nat) (xs : List (RPsk)) (ra : Option Addr) (rc : Nat) (rl : Bs) (s1 : Bool) (o1 : Bool), ms33 = (bif s1 then 0 else List.length rl + 1 : Nat) ∧ Env ac 75 [(2, .slice none 0 0), (3, .int .i64 0), (4, .int .i64 0), (5, pt bk5), (6, pt bp14), (7, .slice oa (List.length xs) oc)] ∧ Ev w [] wo [.box bp14 [.slice ra (List.length rl) rc, .bool s1, .bool o1] 154, .vec ao15 cp16 1 (bys (ldO 2 1 65535 lq false)) 5, .box bk5 [.slice ta17 (List.length (ldR 2 1 65535 lq false)) tc18, .bool (ldS 2 1 65535 lq false), .bool false] 154, .vec oa oc 3 (List.flatMap fPsk xs) 140, .grp (List.flatMap innPsk xs)] ∧ (Sub ao15 cp16 (ldO 2 1 65535 lq false) ra rc rl) ∧ (mn dpsk1M ((ldO 2 1 65535 lq false, ldS 2 1 65535 lq false, false) : PS) = (List.map puPsk xs ++ (mn dpsk1M (rl, s1, o1)).1, (mn dpsk1M (rl, s1, o1)).2)) ∧ (List.length xs + List.length rl ≤ List.length (ldO 2 1 65535 lq false) + (bif s1 then 1 else 0)) ∧ (∀ y ∈ xs, (List.length y.1.l ≤ 140737488351232 ∧ List.length y.2.2.1.l ≤ 140737488351232))) ⟨_, none, 0, [], ao15, cp16, (ldO 2 1 65535 lq false), (ldS 2 1 65535 lq false), false, rfl, En30.sb, Hv32.pk [1, 2, 0, 3, 4], Sub.self, rfl, (by rw [List.length_nil, Nat.zero_add]; exact Nat.le_add_right _ _), (fun y hy => by cases hy)⟩ ?_
 rintro mm39 ac35 wo36 ⟨oa, oc, xs, ra, rc, rl, s1, o1, rfl, En37, Hv38, hsu, hmn, hct, hsm⟩
 refine wp_seq ?_
 refine wp_seq ?_
 refine region_from ?_
 refine d_k [2,3,4,5,6,7,19] [] 1 En37 fun ac40 En41 => ?_
 refine f_o ?_
 refine c_l [0] (M := [.box bp14 [.slice ra (List.length rl) rc, .bool s1, .bool o1] 154]) En41 Hv38 (fun hM42 => dmore_go _ bp14 ra (List.length rl) rc s1 o1 hM42) ?_
 rintro _ wo43 ⟨rfl, he44⟩
 refine ⟨_, _, [.box bp14 [.slice ra (List.length rl) rc, .bool s1, .bool o1] 154, .vec ao15 cp16 1 (bys (ldO 2 1 65535 lq false)) 5, .box bk5 [.slice ta17 (List.length (ldR 2 1 65535 lq false)) tc18, .bool (ldS 2 1 65535 lq false), .bool false] 154, .vec oa oc 3 (List.flatMap fPsk xs) 140, .grp (List.flatMap innPsk xs)], rfl, he44, by kernel_rfl, fun ac46 En47 Hv48 => ?_⟩
 refine f_e ?_
 refine then_normal ?_
 refine cond_at En47 (t := !s1 && decide (0 < List.length rl)) (by kernel_rfl) (fun hc49 => ?_) (fun hc49 => ?_)
 ·
  replace hc49 : s1 = false ∧ 0 < List.length rl := by simpa using hc49
  refine wp_skip ?_
  refine then_normal ?_
  refine wp_block ?_
  refine wp_seq ?_
  refine region_from ?_
  refine d_k [2,3,4,5,6,7,21] [] 1 En47 fun ac50 En51 => ?_
  refine f_o ?_
  refine c_l [0] (M := [.box bp14 [.slice ra (List.length rl) rc, .bool s1, .bool o1] 154]) En51 Hv48 (fun hM57 => dlist_go _ bp14 2 (by omega) 1 65535 (by omega) (by omega) ra rc rl s1 o1 (hsu _ _ (bys_in Hv48.heap (k := 1) rfl [0] (by kernel_rfl) rfl (by first | omega | (simp; done) | (simp; omega)))) hM57) ?_
  rintro _ wo58 ⟨ao52, cp53, ta54, tc55, rfl, he59, hs56⟩
  refine ⟨_, _, [.box bp14 [.slice ta54 (List.length (ldR 2 1 65535 rl s1)) tc55, .bool (ldS 2 1 65535 rl s1), .bool o1] 154, .vec ao52 cp53 1 (bys (ldO 2 1 65535 rl s1)) 5, .vec ao15 cp16 1 (bys (ldO 2 1 65535 lq false)) 5, .box bk5 [.slice ta17 (List.length (ldR 2 1 65535 lq false)) tc18, .bool (ldS 2 1 65535 lq false), .bool false] 154, .vec oa oc 3 (List.flatMap fPsk xs) 140, .grp (List.flatMap innPsk xs)], rfl, he59, by kernel_rfl, fun ac61 En62 Hv63 => ?_⟩
  refine d_k [2,3,4,5,6,7,23] [] 3 En62 fun ac64 En65 => ?_
  refine f_o ?_
  refine m_z 140 [.slice none 0 0, .int .u32 0, .slice none 0 0] En65 Hv63 fun ac67 wo68 bk66 En69 Hv70 => ?_
  refine f_o ?_
  refine m_g 6 0 3 [.slice ao52 (List.length (ldO 2 1 65535 rl s1)) cp53, .int .u32 0, .slice none 0 0] [.slice ao52 (List.length (ldO 2 1 65535 rl s1)) cp53, .int .u32 0, .slice none 0 0] [.box bp14 [.slice ta54 (List.length (ldR 2 1 65535 rl s1)) tc55, .bool (ldS 2 1 65535 rl s1), .bool o1] 154, .vec ao52 cp53 1 (bys (ldO 2 1 65535 rl s1)) 5, .vec ao15 cp16 1 (bys (ldO 2 1 65535 lq false)) 5, .box bk5 [.slice ta17 (List.length (ldR 2 1 65535 lq false)) tc18, .bool (ldS 2 1 65535 lq false), .bool false] 154, .vec oa oc 3 (List.flatMap fPsk xs) 140, .grp (List.flatMap innPsk xs), .box bk66 [.slice ao52 (List.length (ldO 2 1 65535 rl s1)) cp53, .int .u32 0, .slice none 0 0] 140] En69 Hv70 rfl rfl (by simp) (one_all (by kernel_rfl)) rfl rfl fun ac71 wo72 En73 Hv74 => ?_
  refine f_e ?_
  refine then_normal ?_
  refine wp_seq ?_
  refine region_from ?_
  refine d_k [2,3,4,5,6,7,8,24] [] 1 En73 fun ac75 En76 => ?_
  refine f_o ?_
  refine c_l [0] (M := [.box bp14 [.slice ta54 (List.length (ldR 2 1 65535 rl s1)) tc55, .bool (ldS 2 1 65535 rl s1), .bool o1] 154]) En76 Hv74 (fun hM80 => dnumber_go _ bp14 4 (by omega) ta54 tc55 (ldR 2 1 65535 rl s1) (ldS 2 1 65535 rl s1) o1 (hs56 _ _ (hsu _ _ (bys_in Hv74.heap (k := 2) rfl [0] (by kernel_rfl) rfl (by first | omega | (simp; done) | (simp; omega))))) hM80) ?_
  rintro _ wo81 ⟨ta77, tc78, rfl, he82, hs79⟩
  refine ⟨_, _, [.box bp14 [.slice ta77 (List.length (dkR 4 (ldR 2 1 65535 rl s1) (ldS 2 1 65535 rl s1))) tc78, .bool (tkS 4 (ldR 2 1 65535 rl s1) (ldS 2 1 65535 rl s1)), .bool o1] 154, .vec ao52 cp53 1 (bys (ldO 2 1 65535 rl s1)) 5, .vec ao15 cp16 1 (bys (ldO 2 1 65535 lq false)) 5, .box bk5 [.slice ta17 (List.length (ldR 2 1 65535 lq false)) tc18, .bool (ldS 2 1 65535 lq false), .bool false] 154, .vec oa oc 3 (List.flatMap fPsk xs) 140, .grp (List.flatMap innPsk xs), .box bk66 [.slice ao52 (List.length (ldO 2 1 65535 rl s1)) cp53, .int .u32 0, .slice none 0 0] 140], rfl, he82, by kernel_rfl, fun ac84 En85 Hv86 => ?_⟩
  refine d_k [2,3,4,5,6,7,8,26,27] [(2, g_i .u32 (Go.Dbr.nat_to_u32 (a := ((nbV 4 (ldR 2 1 65535 rl s1) (ldS 2 1 65535 rl s1) : Nat) : Int)) (n := nbV 4 (ldR 2 1 65535 rl s1) (ldS 2 1 65535 rl s1)) rfl))] 4 En85 fun ac87 En88 => ?_
  refine f_o ?_
  refine m_s 6 [.box bp14 [.slice ta77 (List.length (dkR 4 (ldR 2 1 65535 rl s1) (ldS 2 1 65535 rl s1))) tc78, .bool (tkS 4 (ldR 2 1 65535 rl s1) (ldS 2 1 65535 rl s1)), .bool o1] 154, .vec ao52 cp53 1 (bys (ldO 2 1 65535 rl s1)) 5, .vec ao15 cp16 1 (bys (ldO 2 1 65535 lq false)) 5, .box bk5 [.slice ta17 (List.length (ldR 2 1 65535 lq false)) tc18, .bool (ldS 2 1 65535 lq false), .bool false] 154, .vec oa oc 3 (List.flatMap fPsk xs) 140, .grp (List.flatMap innPsk xs), .box bk66 [.slice ao52 (List.length (ldO 2 1 65535 rl s1)) cp53, .int .u32 ((UInt32.toNat (UInt32.ofNat (nbV 4 (ldR 2 1 65535 rl s1) (ldS 2 1 65535 rl s1))) : Nat) : Int), .slice none 0 0] 140] En88 Hv86 fun ac89 wo90 En91 Hv92 => ?_
  refine f_e ?_
  refine then_normal ?_
  refine region_from ?_
  refine d_k [2,3,4,5,6,7,8,28] [] 1 En91 fun ac93 En94 => ?_
  refine f_o ?_
  refine m_a 6 0 3 [.slice ao52 (List.length (ldO 2 1 65535 rl s1)) cp53, .int .u32 ((UInt32.toNat (UInt32.ofNat (nbV 4 (ldR 2 1 65535 rl s1) (ldS 2 1 65535 rl s1))) : Nat) : Int), .slice none 0 0] En94 Hv92 rfl rfl rfl fun ac95 En96 => ?_
  refine f_o ?_
  refine op_lit (d := some 30) (t := 35) (T := 140) (m := 1) (parts := #[(0, .agg #[.slice ao52 (List.length (ldO 2 1 65535 rl s1)) cp53, .int .u32 ((UInt32.toNat (UInt32.ofNat (nbV 4 (ldR 2 1 65535 rl s1) (ldS 2 1 65535 rl s1))) : Nat) : Int), .slice none 0 0])]) (xs := List.flatMap fPsk ([(⟨ao52, cp53, ldO 2 1 65535 rl s1⟩, UInt32.ofNat (nbV 4 (ldR 2 1 65535 rl s1) (ldS 2 1 65535 rl s1)), ⟨none, 0, []⟩, ())] : List (RPsk))) (sz := 3) En96 (by kernel_rfl) (by kernel_rfl) rfl (by decide) Hv92 ?_
  intro ac98 wo99 bk97 En100 Hv101
  refine f_o ?_
  refine op_append (d := some 31) (t := 35) (tx := 35) (ty := 35) (k := 4) (p := List.length xs) (m := 1) (x := .slice (some ⟨bk97, 0, none⟩) 1 1) (bytes := 56) En100 (by kernel_rfl) Hv101 rfl (sv_len (f := fPsk) (sz := 3) (fun _ => rfl) _) (Reads.src (size := 3) (tx := 35) (e' := 140) (by kernel_rfl) (Hv101.heap.reads (k := 7) rfl) rfl (fun e => by cases e) (flat_one (f := fPsk) (fun _ => one_all rfl) _)) (by kernel_rfl) (z := .agg #[.slice none 0 0, .int .u32 0, .slice none 0 0]) (by kernel_rfl) rfl (by decide) (by have hb1 := mn_b1 s1; omega) (by unfold maxLen; have hb1 := mn_b1 s1; omega) ?_
  intro ac106 wo107 ao102 cp103 En108 Hv109 hnz _
  clear hnz
  rw [← List.flatMap_append] at Hv109
  have ehz104 : (List.length xs) + 1 = List.length (xs ++ ([(⟨ao52, cp53, ldO 2 1 65535 rl s1⟩, UInt32.ofNat (nbV 4 (ldR 2 1 65535 rl s1) (ldS 2 1 65535 rl s1)), ⟨none, 0, []⟩, ())] : List (RPsk))) := (by first | (simp; done) | (simp; omega) | omega)
  rw [ehz104] at En108
  refine d_e [2,3,4,5,6,7,8] [] En108 fun ac110 En111 => ?_
  have Hv112 : Ev w [] wo107 [.box bp14 [.slice ta77 (List.length (dkR 4 (ldR 2 1 65535 rl s1) (ldS 2 1 65535 rl s1))) tc78, .bool (tkS 4 (ldR 2 1 65535 rl s1) (ldS 2 1 65535 rl s1)), .bool o1] 154, .vec ao52 cp53 1 (bys (ldO 2 1 65535 rl s1)) 5, .vec ao15 cp16 1 (bys (ldO 2 1 65535 lq false)) 5, .box bk5 [.slice ta17 (List.length (ldR 2 1 65535 lq false)) tc18, .bool (ldS 2 1 65535 lq false), .bool false] 154, .vec ao102 cp103 3 (List.flatMap fPsk (xs ++ ([(⟨ao52, cp53, ldO 2 1 65535 rl s1⟩, UInt32.ofNat (nbV 4 (ldR 2 1 65535 rl s1) (ldS 2 1 65535 rl s1)), ⟨none, 0, []⟩, ())] : List (RPsk)))) 140, .grp (List.flatMap innPsk xs), .box bk66 [.slice ao52 (List.length (ldO 2 1 65535 rl s1)) cp53, .int .u32 ((UInt32.toNat (UInt32.ofNat (nbV 4 (ldR 2 1 65535 rl s1) (ldS 2 1 65535 rl s1))) : Nat) : Int), .slice none 0 0] 140, .vec (some ⟨bk97, 0, none⟩) 1 3 (List.flatMap fPsk ([(⟨ao52, cp53, ldO 2 1 65535 rl s1⟩, UInt32.ofNat (nbV 4 (ldR 2 1 65535 rl s1) (ldS 2 1 65535 rl s1)), ⟨none, 0, []⟩, ())] : List (RPsk))) 140, .vec none 0 1 (bys []) 5] := Ev.nil (sz := 1) (T := 5) Hv109
  have Hv113 : Ev w [] wo107 [.box bp14 [.slice ta77 (List.length (dkR 4 (ldR 2 1 65535 rl s1) (ldS 2 1 65535 rl s1))) tc78, .bool (tkS 4 (ldR 2 1 65535 rl s1) (ldS 2 1 65535 rl s1)), .bool o1] 154, .vec ao15 cp16 1 (bys (ldO 2 1 65535 lq false)) 5, .box bk5 [.slice ta17 (List.length (ldR 2 1 65535 lq false)) tc18, .bool (ldS 2 1 65535 lq false), .bool false] 154, .vec ao102 cp103 3 (List.flatMap fPsk (xs ++ ([(⟨ao52, cp53, ldO 2 1 65535 rl s1⟩, UInt32.ofNat (nbV 4 (ldR 2 1 65535 rl s1) (ldS 2 1 65535 rl s1)), ⟨none, 0, []⟩, ())] : List (RPsk)))) 140, .box bk66 [.slice ao52 (List.length (ldO 2 1 65535 rl s1)) cp53, .int .u32 ((UInt32.toNat (UInt32.ofNat (nbV 4 (ldR 2 1 65535 rl s1) (ldS 2 1 65535 rl s1))) : Nat) : Int), .slice none 0 0] 140, .vec (some ⟨bk97, 0, none⟩) 1 3 (List.flatMap fPsk ([(⟨ao52, cp53, ldO 2 1 65535 rl s1⟩, UInt32.ofNat (nbV 4 (ldR 2 1 65535 rl s1) (ldS 2 1 65535 rl s1)), ⟨none, 0, []⟩, ())] : List (RPsk))) 140, .grp (List.flatMap innPsk (xs ++ ([(⟨ao52, cp53, ldO 2 1 65535 rl s1⟩, UInt32.ofNat (nbV 4 (ldR 2 1 65535 rl s1) (ldS 2 1 65535 rl s1)), ⟨none, 0, []⟩, ())] : List (RPsk))))] := Ev.group (M := [.box bp14 [.slice ta77 (List.length (dkR 4 (ldR 2 1 65535 rl s1) (ldS 2 1 65535 rl s1))) tc78, .bool (tkS 4 (ldR 2 1 65535 rl s1) (ldS 2 1 65535 rl s1)), .bool o1] 154, .vec ao15 cp16 1 (bys (ldO 2 1 65535 lq false)) 5, .box bk5 [.slice ta17 (List.length (ldR 2 1 65535 lq false)) tc18, .bool (ldS 2 1 65535 lq false), .bool false] 154, .vec ao102 cp103 3 (List.flatMap fPsk (xs ++ ([(⟨ao52, cp53, ldO 2 1 65535 rl s1⟩, UInt32.ofNat (nbV 4 (ldR 2 1 65535 rl s1) (ldS 2 1 65535 rl s1)), ⟨none, 0, []⟩, ())] : List (RPsk)))) 140, .box bk66 [.slice ao52 (List.length (ldO 2 1 65535 rl s1)) cp53, .int .u32 ((UInt32.toNat (UInt32.ofNat (nbV 4 (ldR 2 1 65535 rl s1) (ldS 2 1 65535 rl s1))) : Nat) : Int), .slice none 0 0] 140, .vec (some ⟨bk97, 0, none⟩) 1 3 (List.flatMap fPsk ([(⟨ao52, cp53, ldO 2 1 65535 rl s1⟩, UInt32.ofNat (nbV 4 (ldR 2 1 65535 rl s1) (ldS 2 1 65535 rl s1)), ⟨none, 0, []⟩, ())] : List (RPsk))) 140]) Hv112 [0,2,3,4,6,7] [5,1,8] (by kernel_rfl) (by rw [List.flatMap_append]; rfl) (by decide)
  refine block_normal ?_
  refine then_normal ?_
  refine ⟨_, ⟨ao102, cp103, (xs ++ ([(⟨ao52, cp53, ldO 2 1 65535 rl s1⟩, UInt32.ofNat (nbV 4 (ldR 2 1 65535 rl s1) (ldS 2 1 65535 rl s1)), ⟨none, 0, []⟩, ())] : List (RPsk))), ta77, tc78, (dkR 4 (ldR 2 1 65535 rl s1) (ldS 2 1 65535 rl s1)), (tkS 4 (ldR 2 1 65535 rl s1) (ldS 2 1 65535 rl s1)), o1, rfl, En111.sb, Hv113.pk [0, 1, 2, 3, 6], ((hsu.trans hs56).trans hs79), (by rw [hmn, mn_step dpsk1_dec hc49.1 hc49.2, List.map_append, List.append_assoc]; rfl), (mn_ct hc49.1 hct (dec_lt (o := o1) dpsk1_dec hc49.1 hc49.2) (dec_le (o := o1) dpsk1_dec hc49.1) hc49.2), (all_snoc hsm ⟨Nat.le_trans (Nat.le_of_succ_le (ldO_32 (by decide) _ _)) (by decide), Nat.zero_le _⟩)⟩, ?_⟩
  exact mn_mu hc49.1 hc49.2 (dec_lt (o := o1) dpsk1_dec hc49.1 hc49.2)
 ·
  replace hc49 : ¬ (s1 = false ∧ 0 < List.length rl) := by simpa using hc49
  refine wp_exit ?_
  refine then_exit ?_
  refine then_exit ?_
  refine block_exit ?_
  refine then_normal ?_
  refine wp_seq ?_
  have hm2 : mn dpsk1M ((ldO 2 1 65535 lq false, ldS 2 1 65535 lq false, false) : PS) = (List.map puPsk xs, rl, s1, o1) := by rw [hmn, mn_end (p := (rl, s1, o1)) (more_no hc49), List.append_nil]
  have hc2 := mn_c1 hct
  have hO : dpskO lq false false = (List.map puPsk xs, ldR 2 1 65535 lq false, (ldS 2 1 65535 lq false || s1), (false || o1)) := by unfold dpskO dmanyM; rw [hm2]
  have hx32 := Nat.le_trans hc2 (ldO_32 (by decide) _ _)
  refine region_from ?_
  refine d_k [2,3,4,5,6,7,32,33] [] 2 En47 fun ac114 En115 => ?_
  refine f_o ?_
  refine c_l [2,0] (M := [.box bk5 [.slice ta17 (List.length (ldR 2 1 65535 lq false)) tc18, .bool (ldS 2 1 65535 lq false), .bool false] 154, .box bp14 [.slice ra (List.length rl) rc, .bool s1, .bool o1] 154]) En115 Hv48 (fun hM116 => dwith_go _ bk5 bp14 ta17 (List.length (ldR 2 1 65535 lq false)) tc18 (ldS 2 1 65535 lq false) false ra (List.length rl) rc s1 o1 hM116) ?_
  rintro _ wo117 ⟨rfl, he118⟩
  refine ⟨_, _, [.box bk5 [.slice ta17 (List.length (ldR 2 1 65535 lq false)) tc18, .bool ((ldS 2 1 65535 lq false) || s1), .bool (false || o1)] 154, .box bp14 [.slice ra (List.length rl) rc, .bool s1, .bool o1] 154, .vec ao15 cp16 1 (bys (ldO 2 1 65535 lq false)) 5, .vec oa oc 3 (List.flatMap fPsk xs) 140, .grp (List.flatMap innPsk xs)], rfl, he118, by kernel_rfl, fun ac120 En121 Hv122 => ?_⟩
  refine f_e ?_
  refine then_normal ?_
  refine wp_seq ?_
  refine region_from ?_
  refine d_k [2,3,4,5,6,7,37] [] 3 En121 fun ac123 En124 => ?_
  refine f_o ?_
  refine m_l 0 En124 Hv122 fun ac125 En126 => ?_
  refine d_e [2,3,4,5,6,7,9] [] En126 fun ac127 En128 => ?_
  refine then_normal ?_
  refine wp_seq ?_
  refine region_from ?_
  refine d_k [2,3,4,5,6,7,9,40] [] 1 En128 fun ac129 En130 => ?_
  refine f_o ?_
  refine c_l [0] (M := [.box bk5 [.slice ta17 (List.length (ldR 2 1 65535 lq false)) tc18, .bool ((ldS 2 1 65535 lq false) || s1), .bool (false || o1)] 154]) En130 Hv122 (fun hM137 => dpart_go _ bk5 2 (by omega) 1 65535 (by omega) (by omega) ta17 tc18 (ldR 2 1 65535 lq false) ((ldS 2 1 65535 lq false) || s1) (false || o1) (hs19 _ _ ((iq.ev Hv122).pick [0] (by kernel_rfl))) hM137) ?_
  rintro _ wo138 ⟨bp131, ao132, cp133, ta134, tc135, rfl, he139, hs136⟩
  refine ⟨_, _, [.box bk5 [.slice ta134 (List.length (ldR 2 1 65535 (ldR 2 1 65535 lq false) ((ldS 2 1 65535 lq false) || s1))) tc135, .bool (ldS 2 1 65535 (ldR 2 1 65535 lq false) ((ldS 2 1 65535 lq false) || s1)), .bool (false || o1)] 154, .box bp131 [.slice ao132 (List.length (ldO 2 1 65535 (ldR 2 1 65535 lq false) ((ldS 2 1 65535 lq false) || s1))) cp133, .bool (ldS 2 1 65535 (ldR 2 1 65535 lq false) ((ldS 2 1 65535 lq false) || s1)), .bool false] 154, .vec ao132 cp133 1 (bys (ldO 2 1 65535 (ldR 2 1 65535 lq false) ((ldS 2 1 65535 lq false) || s1))) 5, .box bp14 [.slice ra (List.length rl) rc, .bool s1, .bool o1] 154, .vec ao15 cp16 1 (bys (ldO 2 1 65535 lq false)) 5, .vec oa oc 3 (List.flatMap fPsk xs) 140, .grp (List.flatMap innPsk xs)], rfl, he139, by kernel_rfl, fun ac141 En142 Hv143 => ?_⟩
  refine d_e [2,3,4,5,6,7,9,10] [] En142 fun ac144 En145 => ?_
  refine then_normal ?_
  refine wp_seq ?_
  refine d_r [2,3,4,5,6,7,9,10,11] [] En145 fun ac146 En147 => ?_
  refine then_normal ?_
  refine wp_seq ?_
  refine wp_block ?_
  have Hv148 : Ev w [] wo138 [.box bk5 [.slice ta134 (List.length (ldR 2 1 65535 (ldR 2 1 65535 lq false) ((ldS 2 1 65535 lq false) || s1))) tc135, .bool (ldS 2 1 65535 (ldR 2 1 65535 lq false) ((ldS 2 1 65535 lq false) || s1)), .bool (false || o1)] 154, .box bp131 [.slice ao132 (List.length (ldO 2 1 65535 (ldR 2 1 65535 lq false) ((ldS 2 1 65535 lq false) || s1))) cp133, .bool (ldS 2 1 65535 (ldR 2 1 65535 lq false) ((ldS 2 1 65535 lq false) || s1)), .bool false] 154, .vec ao132 cp133 1 (bys (ldO 2 1 65535 (ldR 2 1 65535 lq false) ((ldS 2 1 65535 lq false) || s1))) 5, .box bp14 [.slice ra (List.length rl) rc, .bool s1, .bool o1] 154, .vec ao15 cp16 1 (bys (ldO 2 1 65535 lq false)) 5, .vec oa oc 3 (List.flatMap fPsk xs) 140, .grp (List.flatMap innPsk xs), .grp (List.flatMap innByl [])] := Ev.grp0 Hv143
  have hB32 := Nat.le_of_succ_le (ldO_32 (n := 2) (x := 1) (y := 65535) (by decide) (ldR 2 1 65535 lq false) (ldS 2 1 65535 lq false || s1))
  refine loop_m (fun ms149 ac wo => ∃ (k : Nat) (bs : List RByl) (ra : Option Addr) (rc : Nat) (rl2 : Bs) (s3 : Bool) (o3 : Bool), ms149 = (bif s3 then 0 else List.length rl2 + 1 : Nat) ∧ Env ac 75 [(2, .slice none 0 0), (3, .int .i64 0), (4, .int .i64 0), (5, pt bk5), (6, pt bp14), (7, .slice oa (List.length xs) oc), (9, .int .i64 ((List.length (ldR 2 1 65535 lq false) : Nat) : Int)), (10, pt bp131), (11, ni k)] ∧ Ev w [] wo [.box bp131 [.slice ra (List.length rl2) rc, .bool s3, .bool o3] 154, .vec ao132 cp133 1 (bys (ldO 2 1 65535 (ldR 2 1 65535 lq false) ((ldS 2 1 65535 lq false) || s1))) 5, .box bk5 [.slice ta134 (List.length (ldR 2 1 65535 (ldR 2 1 65535 lq false) ((ldS 2 1 65535 lq false) || s1))) tc135, .bool (ldS 2 1 65535 (ldR 2 1 65535 lq false) ((ldS 2 1 65535 lq false) || s1)), .bool (false || o1)] 154, .vec oa oc 3 (List.flatMap fPsk (bnd upR k xs bs)) 140, .grp (List.flatMap innPsk xs), .grp (List.flatMap innByl bs)] ∧ (Sub ao132 cp133 (ldO 2 1 65535 (ldR 2 1 65535 lq false) ((ldS 2 1 65535 lq false) || s1)) ra rc rl2) ∧ (mn (dlistM 1 32 255) ((ldO 2 1 65535 (ldR 2 1 65535 lq false) ((ldS 2 1 65535 lq false) || s1), ldS 2 1 65535 (ldR 2 1 65535 lq false) ((ldS 2 1 65535 lq false) || s1), false) : PS) = (List.map (fun y : RByl => y.l) bs ++ (mn (dlistM 1 32 255) (rl2, s3, o3)).1, (mn (dlistM 1 32 255) (rl2, s3, o3)).2)) ∧ (List.length bs + List.length rl2 ≤ List.length (ldO 2 1 65535 (ldR 2 1 65535 lq false) ((ldS 2 1 65535 lq false) || s1)) + (bif s3 then 1 else 0)) ∧ (∀ y ∈ bs, List.length y.l ≤ 140737488351232) ∧ (k = List.length bs)) ⟨_, 0, [], ao132, cp133, (ldO 2 1 65535 (ldR 2 1 65535 lq false) ((ldS 2 1 65535 lq false) || s1)), (ldS 2 1 65535 (ldR 2 1 65535 lq false) ((ldS 2 1 65535 lq false) || s1)), false, rfl, En147.sb, Hv148.pk [1, 2, 0, 5, 6, 7], Sub.self, rfl, (by rw [List.length_nil, Nat.zero_add]; exact Nat.le_add_right _ _), (fun y hy => by cases hy), rfl⟩ ?_
  rintro mm155 ac151 wo152 ⟨k, bs, ra, rc, rl2, s3, o3, rfl, En153, Hv154, hsu2, hmn3, hct2, hsmB, hk⟩
  refine wp_seq ?_
  refine wp_seq ?_
  refine region_from ?_
  refine d_k [2,3,4,5,6,7,9,10,11,42] [] 1 En153 fun ac156 En157 => ?_
  refine f_o ?_
  refine c_l [0] (M := [.box bp131 [.slice ra (List.length rl2) rc, .bool s3, .bool o3] 154]) En157 Hv154 (fun hM158 => dmore_go _ bp131 ra (List.length rl2) rc s3 o3 hM158) ?_
  rintro _ wo159 ⟨rfl, he160⟩
  refine ⟨_, _, [.box bp131 [.slice ra (List.length rl2) rc, .bool s3, .bool o3] 154, .vec ao132 cp133 1 (bys (ldO 2 1 65535 (ldR 2 1 65535 lq false) ((ldS 2 1 65535 lq false) || s1))) 5, .box bk5 [.slice ta134 (List.length (ldR 2 1 65535 (ldR 2 1 65535 lq false) ((ldS 2 1 65535 lq false) || s1))) tc135, .bool (ldS 2 1 65535 (ldR 2 1 65535 lq false) ((ldS 2 1 65535 lq false) || s1)), .bool (false || o1)] 154, .vec oa oc 3 (List.flatMap fPsk (bnd upR k xs bs)) 140, .grp (List.flatMap innPsk xs), .grp (List.flatMap innByl bs)], rfl, he160, by kernel_rfl, fun ac162 En163 Hv164 => ?_⟩
  refine f_e ?_
  refine then_normal ?_
  refine cond_at En163 (t := !s3 && decide (0 < List.length rl2)) (by kernel_rfl) (fun hc165 => ?_) (fun hc165 => ?_)
  ·
   replace hc165 : s3 = false ∧ 0 < List.length rl2 := by simpa using hc165
   refine wp_skip ?_
   refine then_normal ?_
   refine wp_block ?_
   refine wp_seq ?_
   refine region_from ?_
   refine d_k [2,3,4,5,6,7,9,10,11,44] [] 1 En163 fun ac166 En167 => ?_
   refine f_o ?_
   refine c_l [0] (M := [.box bp131 [.slice ra (List.length rl2) rc, .bool s3, .bool o3] 154]) En167 Hv164 (fun hM173 => dlist_go _ bp131 1 (by omega) 32 255 (by omega) (by omega) ra rc rl2 s3 o3 (hsu2 _ _ (bys_in Hv164.heap (k := 1) rfl [0] (by kernel_rfl) rfl (by first | omega | (simp; done) | (simp; omega)))) hM173) ?_
   rintro _ wo174 ⟨ao168, cp169, ta170, tc171, rfl, he175, hs172⟩
   refine ⟨_, _, [.box bp131 [.slice ta170 (List.length (ldR 1 32 255 rl2 s3)) tc171, .bool (ldS 1 32 255 rl2 s3), .bool o3] 154, .vec ao168 cp169 1 (bys (ldO 1 32 255 rl2 s3)) 5, .vec ao132 cp133 1 (bys (ldO 2 1 65535 (ldR 2 1 65535 lq false) ((ldS 2 1 65535 lq false) || s1))) 5, .box bk5 [.slice ta134 (List.length (ldR 2 1 65535 (ldR 2 1 65535 lq false) ((ldS 2 1 65535 lq false) || s1))) tc135, .bool (ldS 2 1 65535 (ldR 2 1 65535 lq false) ((ldS 2 1 65535 lq false) || s1)), .bool (false || o1)] 154, .vec oa oc 3 (List.flatMap fPsk (bnd upR k xs bs)) 140, .grp (List.flatMap innPsk xs), .grp (List.flatMap innByl bs)], rfl, he175, by kernel_rfl, fun ac177 En178 Hv179 => ?_⟩
   refine d_e [2,3,4,5,6,7,9,10,11,12] [] En178 fun ac180 En181 => ?_
   refine then_normal ?_
   refine wp_seq ?_
   refine wp_seq ?_
   have hbl := bnd_len (u := upR) k xs bs
   have hb1 := mn_b1 s3
   refine d_r [2,3,4,5,6,7,9,10,11,12,49] [] En181 fun ac182 En183 => ?_
   refine then_normal ?_
   refine c_d (((k : Nat) : Int) < ((List.length xs : Nat) : Int)) En183 (fun hc184 => ?_) (fun hc184 => ?_)
   ·
    have hb187 : k < List.length xs := (by omega)
    obtain ⟨adr185, had186⟩ := some_of (fun e => by have h := (sv_nz (f := fPsk) (sz := 3) Hv179.heap (k := 4) rfl (fun _ => rfl) (by decide)) e; omega) hb187
    have hb188 : k < List.length (bnd upR k xs bs) := by omega
    obtain ⟨⟨⟨a_x190a, c_x190a, x190a⟩, x190b, ⟨a_x190c, c_x190c, x190c⟩, _⟩, hx189⟩ : ∃ x, (bnd upR k xs bs)[k]? = some x := ⟨_, List.getElem?_eq_getElem hb188⟩
    refine region_from ?_
    refine d_k [2,3,4,5,6,7,9,10,11,50,51,52] [] 3 En183 fun ac191 En192 => ?_
    refine f_o ?_
    refine q_v (x := Instr.indexAt 35 (.slice oa (List.length xs) oc) (ni k)) (v := .pointer (some (Addr.add adr185 (k * 3)))) En192 (Go.Dbr.run_indexsl (e := 140) (sz := 3) (j := k) (jo := k * 3) had186 (by kernel_rfl) (by kernel_rfl) (by omega) hb187 rfl _) fun ac193 En194 => ?_
    refine d_k [2,3,4,5,6,7,9,10,11,52,54] [] 5 En194 fun ac195 En196 => ?_
    refine f_o ?_
    refine op_storef (d := none) (t := 23) (ad := adr185) (ao := oa) (k := 4) (cap := oc) (sz := 3) (o := k * 3 + 2) (xs := List.flatMap fPsk (bnd upR k xs bs)) (v := .slice ao168 (List.length (ldO 1 32 255 rl2 s3)) cp169) En196 (by kernel_rfl) (Deep.add_add _ _ _) Hv179 rfl had186 (by rw [sv_len (f := fPsk) (sz := 3) (fun _ => rfl)]; omega) (by kernel_rfl) rfl ?_
    intro ac197 wo198  En199 Hv200
    rw [flat_set (f := fPsk) (x' := (⟨a_x190a, c_x190a, x190a⟩, x190b, ⟨ao168, cp169, ldO 1 32 255 rl2 s3⟩, ())) (fun _ => rfl) hx189 (by decide) rfl] at Hv200
    refine f_e ?_
    refine then_normal ?_
    refine d_r [2,3,4,5,6,7,9,10,11] [(1, g_n (w_a k 1))] En199 fun ac201 En202 => ?_
    refine block_normal ?_
    refine then_normal ?_
    rw [show List.set (bnd upR k xs bs) k (⟨a_x190a, c_x190a, x190a⟩, x190b, ⟨ao168, cp169, ldO 1 32 255 rl2 s3⟩, ()) = bnd upR (k + 1) xs (bs ++ [(⟨ao168, cp169, ldO 1 32 255 rl2 s3⟩ : RByl)]) from bnd_put (u := upR) (y := (⟨ao168, cp169, ldO 1 32 255 rl2 s3⟩ : RByl)) hk hx189] at Hv200
    have Hv203 : Ev w [] wo198 [.box bp131 [.slice ta170 (List.length (ldR 1 32 255 rl2 s3)) tc171, .bool (ldS 1 32 255 rl2 s3), .bool o3] 154, .vec ao132 cp133 1 (bys (ldO 2 1 65535 (ldR 2 1 65535 lq false) ((ldS 2 1 65535 lq false) || s1))) 5, .box bk5 [.slice ta134 (List.length (ldR 2 1 65535 (ldR 2 1 65535 lq false) ((ldS 2 1 65535 lq false) || s1))) tc135, .bool (ldS 2 1 65535 (ldR 2 1 65535 lq false) ((ldS 2 1 65535 lq false) || s1)), .bool (false || o1)] 154, .vec oa oc 3 (List.flatMap fPsk (bnd upR (k + 1) xs (bs ++ [(⟨ao168, cp169, ldO 1 32 255 rl2 s3⟩ : RByl)]))) 140, .grp (List.flatMap innPsk xs), .grp (List.flatMap innByl (bs ++ [(⟨ao168, cp169, ldO 1 32 255 rl2 s3⟩ : RByl)]))] := Ev.group (M := [.box bp131 [.slice ta170 (List.length (ldR 1 32 255 rl2 s3)) tc171, .bool (ldS 1 32 255 rl2 s3), .bool o3] 154, .vec ao132 cp133 1 (bys (ldO 2 1 65535 (ldR 2 1 65535 lq false) ((ldS 2 1 65535 lq false) || s1))) 5, .box bk5 [.slice ta134 (List.length (ldR 2 1 65535 (ldR 2 1 65535 lq false) ((ldS 2 1 65535 lq false) || s1))) tc135, .bool (ldS 2 1 65535 (ldR 2 1 65535 lq false) ((ldS 2 1 65535 lq false) || s1)), .bool (false || o1)] 154, .vec oa oc 3 (List.flatMap fPsk (bnd upR (k + 1) xs (bs ++ [(⟨ao168, cp169, ldO 1 32 255 rl2 s3⟩ : RByl)]))) 140, .grp (List.flatMap innPsk xs)]) Hv200 [0,2,3,4,5] [6,1] (by kernel_rfl) (by rw [List.flatMap_append]; rfl) (by decide)
    refine ⟨_, ⟨k + 1, bs ++ [(⟨ao168, cp169, ldO 1 32 255 rl2 s3⟩ : RByl)], ta170, tc171, (ldR 1 32 255 rl2 s3), (ldS 1 32 255 rl2 s3), o3, rfl, En202.sb, Hv203.pk [0, 1, 2, 3, 4, 5], (hsu2.trans hs172), (by rw [hmn3, mn_step (dlist_dec (n := 1) (x := 32) (y := 255) (by decide)) hc165.1 hc165.2, List.map_append, List.append_assoc]; rfl), (mn_ct hc165.1 hct2 (dec_lt (o := o3) (dlist_dec (n := 1) (x := 32) (y := 255) (by decide)) hc165.1 hc165.2) (dec_le (o := o3) (dlist_dec (n := 1) (x := 32) (y := 255) (by decide)) hc165.1) hc165.2), (all_snoc hsmB (Nat.le_trans (Nat.le_of_succ_le (ldO_32 (by decide) _ _)) (by decide))), (by rw [List.length_append, hk]; rfl)⟩, ?_⟩
    exact mn_mu hc165.1 hc165.2 (dec_lt (o := o3) (dlist_dec (n := 1) (x := 32) (y := 255) (by decide)) hc165.1 hc165.2)
   ·
    refine wp_skip ?_
    refine then_normal ?_
    refine d_r [2,3,4,5,6,7,9,10,11,12] [(1, g_n (w_a k 1))] En183 fun ac204 En205 => ?_
    refine block_normal ?_
    refine then_normal ?_
    rw [bnd_skip (u := upR) (y := (⟨ao168, cp169, ldO 1 32 255 rl2 s3⟩ : RByl)) hk (by omega)] at Hv179
    have Hv206 : Ev w [] wo174 [.box bp131 [.slice ta170 (List.length (ldR 1 32 255 rl2 s3)) tc171, .bool (ldS 1 32 255 rl2 s3), .bool o3] 154, .vec ao132 cp133 1 (bys (ldO 2 1 65535 (ldR 2 1 65535 lq false) ((ldS 2 1 65535 lq false) || s1))) 5, .box bk5 [.slice ta134 (List.length (ldR 2 1 65535 (ldR 2 1 65535 lq false) ((ldS 2 1 65535 lq false) || s1))) tc135, .bool (ldS 2 1 65535 (ldR 2 1 65535 lq false) ((ldS 2 1 65535 lq false) || s1)), .bool (false || o1)] 154, .vec oa oc 3 (List.flatMap fPsk (bnd upR (k + 1) xs (bs ++ [(⟨ao168, cp169, ldO 1 32 255 rl2 s3⟩ : RByl)]))) 140, .grp (List.flatMap innPsk xs), .grp (List.flatMap innByl (bs ++ [(⟨ao168, cp169, ldO 1 32 255 rl2 s3⟩ : RByl)]))] := Ev.group (M := [.box bp131 [.slice ta170 (List.length (ldR 1 32 255 rl2 s3)) tc171, .bool (ldS 1 32 255 rl2 s3), .bool o3] 154, .vec ao132 cp133 1 (bys (ldO 2 1 65535 (ldR 2 1 65535 lq false) ((ldS 2 1 65535 lq false) || s1))) 5, .box bk5 [.slice ta134 (List.length (ldR 2 1 65535 (ldR 2 1 65535 lq false) ((ldS 2 1 65535 lq false) || s1))) tc135, .bool (ldS 2 1 65535 (ldR 2 1 65535 lq false) ((ldS 2 1 65535 lq false) || s1)), .bool (false || o1)] 154, .vec oa oc 3 (List.flatMap fPsk (bnd upR (k + 1) xs (bs ++ [(⟨ao168, cp169, ldO 1 32 255 rl2 s3⟩ : RByl)]))) 140, .grp (List.flatMap innPsk xs)]) Hv179 [0,2,3,4,5] [6,1] (by kernel_rfl) (by rw [List.flatMap_append]; rfl) (by decide)
    refine ⟨_, ⟨k + 1, bs ++ [(⟨ao168, cp169, ldO 1 32 255 rl2 s3⟩ : RByl)], ta170, tc171, (ldR 1 32 255 rl2 s3), (ldS 1 32 255 rl2 s3), o3, rfl, En205.sb, Hv206.pk [0, 1, 2, 3, 4, 5], (hsu2.trans hs172), (by rw [hmn3, mn_step (dlist_dec (n := 1) (x := 32) (y := 255) (by decide)) hc165.1 hc165.2, List.map_append, List.append_assoc]; rfl), (mn_ct hc165.1 hct2 (dec_lt (o := o3) (dlist_dec (n := 1) (x := 32) (y := 255) (by decide)) hc165.1 hc165.2) (dec_le (o := o3) (dlist_dec (n := 1) (x := 32) (y := 255) (by decide)) hc165.1) hc165.2), (all_snoc hsmB (Nat.le_trans (Nat.le_of_succ_le (ldO_32 (by decide) _ _)) (by decide))), (by rw [List.length_append, hk]; rfl)⟩, ?_⟩
    exact mn_mu hc165.1 hc165.2 (dec_lt (o := o3) (dlist_dec (n := 1) (x := 32) (y := 255) (by decide)) hc165.1 hc165.2)
  ·
   replace hc165 : ¬ (s3 = false ∧ 0 < List.length rl2) := by simpa using hc165
   refine wp_exit ?_
   refine then_exit ?_
   refine then_exit ?_
   refine block_exit ?_
   refine then_normal ?_
   refine wp_seq ?_
   refine wp_seq ?_
   have hm3 : mn (dlistM 1 32 255) ((ldO 2 1 65535 (ldR 2 1 65535 lq false) ((ldS 2 1 65535 lq false) || s1), ldS 2 1 65535 (ldR 2 1 65535 lq false) ((ldS 2 1 65535 lq false) || s1), false) : PS) = (List.map (fun y : RByl => y.l) bs, rl2, s3, o3) := by rw [hmn3, mn_end (p := (rl2, s3, o3)) (more_no hc165), List.append_nil]
   have hBB : dpskB lq false false = (List.map (fun y : RByl => y.l) bs, ldR 2 1 65535 (ldR 2 1 65535 lq false) (ldS 2 1 65535 lq false || s1), ldS 2 1 65535 (ldR 2 1 65535 lq false) (ldS 2 1 65535 lq false || s1) || s3, (false || o1) || o3) := by unfold dpskB; rw [hO]; unfold dmanyM; dsimp only; rw [hm3]
   refine d_r [2,3,4,5,6,7,9,10,11,60] [] En163 fun ac207 En208 => ?_
   refine then_normal ?_
   refine c_n ((k : Nat) : Int) ((List.length xs : Nat) : Int) En208 (fun hc209 => ?_) (fun hc209 => ?_)
   ·
    refine region_from ?_
    refine d_k [2,3,4,5,6,7,9,10,11,63] [] 3 En208 fun ac210 En211 => ?_
    refine f_o ?_
    refine m_s 0 [.box bp131 [.slice ra (List.length rl2) rc, .bool true, .bool o3] 154, .vec ao132 cp133 1 (bys (ldO 2 1 65535 (ldR 2 1 65535 lq false) ((ldS 2 1 65535 lq false) || s1))) 5, .box bk5 [.slice ta134 (List.length (ldR 2 1 65535 (ldR 2 1 65535 lq false) ((ldS 2 1 65535 lq false) || s1))) tc135, .bool (ldS 2 1 65535 (ldR 2 1 65535 lq false) ((ldS 2 1 65535 lq false) || s1)), .bool (false || o1)] 154, .vec oa oc 3 (List.flatMap fPsk (bnd upR k xs bs)) 140, .grp (List.flatMap innPsk xs), .grp (List.flatMap innByl bs)] En211 Hv164 fun ac212 wo213 En214 Hv215 => ?_
    refine f_e ?_
    refine then_normal ?_
    refine wp_seq ?_
    refine region_from ?_
    refine d_k [2,3,4,5,6,7,9,10,11,64,65] [] 2 En214 fun ac216 En217 => ?_
    refine f_o ?_
    refine c_l [2,0] (M := [.box bk5 [.slice ta134 (List.length (ldR 2 1 65535 (ldR 2 1 65535 lq false) ((ldS 2 1 65535 lq false) || s1))) tc135, .bool (ldS 2 1 65535 (ldR 2 1 65535 lq false) ((ldS 2 1 65535 lq false) || s1)), .bool (false || o1)] 154, .box bp131 [.slice ra (List.length rl2) rc, .bool true, .bool o3] 154]) En217 Hv215 (fun hM218 => dwith_go _ bk5 bp131 ta134 (List.length (ldR 2 1 65535 (ldR 2 1 65535 lq false) ((ldS 2 1 65535 lq false) || s1))) tc135 (ldS 2 1 65535 (ldR 2 1 65535 lq false) ((ldS 2 1 65535 lq false) || s1)) (false || o1) ra (List.length rl2) rc true o3 hM218) ?_
    rintro _ wo219 ⟨rfl, he220⟩
    refine ⟨_, _, [.box bk5 [.slice ta134 (List.length (ldR 2 1 65535 (ldR 2 1 65535 lq false) ((ldS 2 1 65535 lq false) || s1))) tc135, .bool ((ldS 2 1 65535 (ldR 2 1 65535 lq false) ((ldS 2 1 65535 lq false) || s1)) || true), .bool ((false || o1) || o3)] 154, .box bp131 [.slice ra (List.length rl2) rc, .bool true, .bool o3] 154, .vec ao132 cp133 1 (bys (ldO 2 1 65535 (ldR 2 1 65535 lq false) ((ldS 2 1 65535 lq false) || s1))) 5, .vec oa oc 3 (List.flatMap fPsk (bnd upR k xs bs)) 140, .grp (List.flatMap innPsk xs), .grp (List.flatMap innByl bs)], rfl, he220, by kernel_rfl, fun ac222 En223 Hv224 => ?_⟩
    refine f_e ?_
    refine then_normal ?_
    refine wp_seq ?_
    refine region_from ?_
    refine d_k [2,3,4,5,6,7,9,10,11,67] [] 1 En223 fun ac225 En226 => ?_
    refine f_o ?_
    refine c_l [0] (M := [.box bk5 [.slice ta134 (List.length (ldR 2 1 65535 (ldR 2 1 65535 lq false) ((ldS 2 1 65535 lq false) || s1))) tc135, .bool ((ldS 2 1 65535 (ldR 2 1 65535 lq false) ((ldS 2 1 65535 lq false) || s1)) || true), .bool ((false || o1) || o3)] 154]) En226 Hv224 (fun hM227 => dend_go _ bk5 ta134 (List.length (ldR 2 1 65535 (ldR 2 1 65535 lq false) ((ldS 2 1 65535 lq false) || s1))) tc135 ((ldS 2 1 65535 (ldR 2 1 65535 lq false) ((ldS 2 1 65535 lq false) || s1)) || true) ((false || o1) || o3) hM227) ?_
    rintro _ wo228 ⟨rfl, he229⟩
    refine ⟨_, _, [.box bk5 [.slice ta134 (List.length (ldR 2 1 65535 (ldR 2 1 65535 lq false) ((ldS 2 1 65535 lq false) || s1))) tc135, .bool ((ldS 2 1 65535 (ldR 2 1 65535 lq false) ((ldS 2 1 65535 lq false) || s1)) || true), .bool ((false || o1) || o3)] 154, .box bp131 [.slice ra (List.length rl2) rc, .bool true, .bool o3] 154, .vec ao132 cp133 1 (bys (ldO 2 1 65535 (ldR 2 1 65535 lq false) ((ldS 2 1 65535 lq false) || s1))) 5, .vec oa oc 3 (List.flatMap fPsk (bnd upR k xs bs)) 140, .grp (List.flatMap innPsk xs), .grp (List.flatMap innByl bs)], rfl, he229, by kernel_rfl, fun ac231 En232 Hv233 => ?_⟩
    refine d_e [2,3,4,5,6,7,9,10,11,13] [] En232 fun ac234 En235 => ?_
    refine then_normal ?_
    refine wp_seq ?_
    refine wp_seq ?_
    refine d_r [2,3,4,5,6,7,9,10,11,13,70] [] En235 fun ac236 En237 => ?_
    refine then_normal ?_
    refine c_n (endV ((ldS 2 1 65535 (ldR 2 1 65535 lq false) ((ldS 2 1 65535 lq false) || s1)) || true) (List.length (ldR 2 1 65535 (ldR 2 1 65535 lq false) ((ldS 2 1 65535 lq false) || s1))) ((false || o1) || o3)) (0 : Int) En237 (fun hc238 => ?_) (fun hc238 => ?_)
    ·
     refine wp_seq ?_
     refine d_r [2,3,4,5,6,7,9,10,11,13] [] En237 fun ac239 En240 => ?_
     refine then_normal ?_
     refine wp_ret ?_
     refine then_ret ?_
     refine d_ret3 (t := 2) (u := 3) (s := 4) (v := .slice none 0 0) (x := .int .i64 0) (y := .int .i64 (endV ((ldS 2 1 65535 (ldR 2 1 65535 lq false) ((ldS 2 1 65535 lq false) || s1)) || true) (List.length (ldR 2 1 65535 (ldR 2 1 65535 lq false) ((ldS 2 1 65535 lq false) || s1))) ((false || o1) || o3))) En240 (by kernel_rfl) (by kernel_rfl) (by kernel_rfl) (by kernel_rfl) ?_
     have eN : ((List.length bs : Int) != (List.length xs : Int)) = true := by first | exact ne_t hk (by omega) | exact ne_f hk (by omega)
     have eA : gotA (dpskM lq false false) = endV ((ldS 2 1 65535 (ldR 2 1 65535 lq false) ((ldS 2 1 65535 lq false) || s1)) || true) (List.length (ldR 2 1 65535 (ldR 2 1 65535 lq false) ((ldS 2 1 65535 lq false) || s1))) ((false || o1) || o3) := by unfold gotA dpskM; dsimp only; rw [hBB, hO]; dsimp only; rw [List.length_map, List.length_map, eN]; simp only [Bool.or_true, Bool.or_false]
     have eL : List.length (dpskO lq false false).2.1 = List.length (ldR 2 1 65535 lq false) := by rw [hO]
     have hA : ¬ gotA (dpskM lq false false) = 0 := by rw [eA]; assumption
     rw [gotV_m hA, gotN_n hA, eA]
     have Hv241 : Ev w [] wo228 [.box bk5 [.slice ta134 (List.length (ldR 2 1 65535 (ldR 2 1 65535 lq false) ((ldS 2 1 65535 lq false) || s1))) tc135, .bool ((ldS 2 1 65535 (ldR 2 1 65535 lq false) ((ldS 2 1 65535 lq false) || s1)) || true), .bool ((false || o1) || o3)] 154, .box bp131 [.slice ra (List.length rl2) rc, .bool true, .bool o3] 154, .vec ao132 cp133 1 (bys (ldO 2 1 65535 (ldR 2 1 65535 lq false) ((ldS 2 1 65535 lq false) || s1))) 5, .vec oa oc 3 (List.flatMap fPsk (bnd upR k xs bs)) 140, .grp (List.flatMap innPsk xs), .grp (List.flatMap innByl bs), .vec none 0 3 (List.flatMap fPsk []) 140] := Ev.nil (sz := 3) (T := 140) Hv233
     have Hv242 : Ev w [] wo228 [.box bk5 [.slice ta134 (List.length (ldR 2 1 65535 (ldR 2 1 65535 lq false) ((ldS 2 1 65535 lq false) || s1))) tc135, .bool ((ldS 2 1 65535 (ldR 2 1 65535 lq false) ((ldS 2 1 65535 lq false) || s1)) || true), .bool ((false || o1) || o3)] 154, .box bp131 [.slice ra (List.length rl2) rc, .bool true, .bool o3] 154, .vec ao132 cp133 1 (bys (ldO 2 1 65535 (ldR 2 1 65535 lq false) ((ldS 2 1 65535 lq false) || s1))) 5, .vec oa oc 3 (List.flatMap fPsk (bnd upR k xs bs)) 140, .grp (List.flatMap innPsk xs), .grp (List.flatMap innByl bs), .vec none 0 3 (List.flatMap fPsk []) 140, .grp (List.flatMap innPsk [])] := Ev.grp0 Hv241
     exact ⟨none, 0, [], rfl, Hv242.pk [6, 7], rfl, (Nat.zero_le _), (fun y hy => by cases hy)⟩
    ·
     refine wp_skip ?_
     refine then_normal ?_
     refine wp_seq ?_
     refine d_r [2,3,4,5,6,7,10,11,13] [] En237 fun ac243 En244 => ?_
     refine then_normal ?_
     refine wp_ret ?_
     refine d_ret3 (t := 2) (u := 3) (s := 4) (v := .slice oa (List.length xs) oc) (x := .int .i64 ((List.length (ldR 2 1 65535 lq false) : Nat) : Int)) (y := .int .i64 (endV ((ldS 2 1 65535 (ldR 2 1 65535 lq false) ((ldS 2 1 65535 lq false) || s1)) || true) (List.length (ldR 2 1 65535 (ldR 2 1 65535 lq false) ((ldS 2 1 65535 lq false) || s1))) ((false || o1) || o3))) En244 (by kernel_rfl) (by kernel_rfl) (by kernel_rfl) (by kernel_rfl) ?_
     have eN : ((List.length bs : Int) != (List.length xs : Int)) = true := by first | exact ne_t hk (by omega) | exact ne_f hk (by omega)
     have eA : gotA (dpskM lq false false) = endV ((ldS 2 1 65535 (ldR 2 1 65535 lq false) ((ldS 2 1 65535 lq false) || s1)) || true) (List.length (ldR 2 1 65535 (ldR 2 1 65535 lq false) ((ldS 2 1 65535 lq false) || s1))) ((false || o1) || o3) := by unfold gotA dpskM; dsimp only; rw [hBB, hO]; dsimp only; rw [List.length_map, List.length_map, eN]; simp only [Bool.or_true, Bool.or_false]
     have eL : List.length (dpskO lq false false).2.1 = List.length (ldR 2 1 65535 lq false) := by rw [hO]
     have hA : gotA (dpskM lq false false) = 0 := by rw [eA]; first | assumption | exact Classical.not_not.1 (by assumption)
     rw [gotV_0 hA, gotN_0 hA, eA, eL]
     have Hv245 : Ev w [] wo228 ([.vec oa oc 3 (List.flatMap fPsk (bnd upR k xs bs)) 140] ++ [.grp (List.flatMap innPsk (bnd upR k xs bs))]) := Ev.groupS Hv233 [3] [4, 5] (by kernel_rfl) (fun d hd => (psk_sub hd).elim (fun h => ⟨4, by decide, h⟩) fun h => ⟨5, by decide, h⟩) (by decide)
     have hzl : List.length xs = List.length (bnd upR k xs bs) := (bnd_len _ _ _).symm
     rw [hzl]
     exact ⟨oa, oc, bnd upR k xs bs, rfl, Hv245, (by show _ = bnd upP (List.length (dpskB lq false false).1) (dpskO lq false false).1 (dpskB lq false false).1; rw [bnd_map (f := puPsk) (g := (fun y : RByl => y.l)) (u2 := upP) (fun _ _ => rfl), hBB, hO]; dsimp only; rw [List.length_map, hk]), (by rw [← hzl]; exact hx32), (psk_sm hsm hsmB)⟩
   ·
    refine wp_skip ?_
    refine then_normal ?_
    refine wp_seq ?_
    refine region_from ?_
    refine d_k [2,3,4,5,6,7,9,10,11,64,65] [] 2 En208 fun ac246 En247 => ?_
    refine f_o ?_
    refine c_l [2,0] (M := [.box bk5 [.slice ta134 (List.length (ldR 2 1 65535 (ldR 2 1 65535 lq false) ((ldS 2 1 65535 lq false) || s1))) tc135, .bool (ldS 2 1 65535 (ldR 2 1 65535 lq false) ((ldS 2 1 65535 lq false) || s1)), .bool (false || o1)] 154, .box bp131 [.slice ra (List.length rl2) rc, .bool s3, .bool o3] 154]) En247 Hv164 (fun hM248 => dwith_go _ bk5 bp131 ta134 (List.length (ldR 2 1 65535 (ldR 2 1 65535 lq false) ((ldS 2 1 65535 lq false) || s1))) tc135 (ldS 2 1 65535 (ldR 2 1 65535 lq false) ((ldS 2 1 65535 lq false) || s1)) (false || o1) ra (List.length rl2) rc s3 o3 hM248) ?_
    rintro _ wo249 ⟨rfl, he250⟩
    refine ⟨_, _, [.box bk5 [.slice ta134 (List.length (ldR 2 1 65535 (ldR 2 1 65535 lq false) ((ldS 2 1 65535 lq false) || s1))) tc135, .bool ((ldS 2 1 65535 (ldR 2 1 65535 lq false) ((ldS 2 1 65535 lq false) || s1)) || s3), .bool ((false || o1) || o3)] 154, .box bp131 [.slice ra (List.length rl2) rc, .bool s3, .bool o3] 154, .vec ao132 cp133 1 (bys (ldO 2 1 65535 (ldR 2 1 65535 lq false) ((ldS 2 1 65535 lq false) || s1))) 5, .vec oa oc 3 (List.flatMap fPsk (bnd upR k xs bs)) 140, .grp (List.flatMap innPsk xs), .grp (List.flatMap innByl bs)], rfl, he250, by kernel_rfl, fun ac252 En253 Hv254 => ?_⟩
    refine f_e ?_
    refine then_normal ?_
    refine wp_seq ?_
    refine region_from ?_
    refine d_k [2,3,4,5,6,7,9,10,11,67] [] 1 En253 fun ac255 En256 => ?_
    refine f_o ?_
    refine c_l [0] (M := [.box bk5 [.slice ta134 (List.length (ldR 2 1 65535 (ldR 2 1 65535 lq false) ((ldS 2 1 65535 lq false) || s1))) tc135, .bool ((ldS 2 1 65535 (ldR 2 1 65535 lq false) ((ldS 2 1 65535 lq false) || s1)) || s3), .bool ((false || o1) || o3)] 154]) En256 Hv254 (fun hM257 => dend_go _ bk5 ta134 (List.length (ldR 2 1 65535 (ldR 2 1 65535 lq false) ((ldS 2 1 65535 lq false) || s1))) tc135 ((ldS 2 1 65535 (ldR 2 1 65535 lq false) ((ldS 2 1 65535 lq false) || s1)) || s3) ((false || o1) || o3) hM257) ?_
    rintro _ wo258 ⟨rfl, he259⟩
    refine ⟨_, _, [.box bk5 [.slice ta134 (List.length (ldR 2 1 65535 (ldR 2 1 65535 lq false) ((ldS 2 1 65535 lq false) || s1))) tc135, .bool ((ldS 2 1 65535 (ldR 2 1 65535 lq false) ((ldS 2 1 65535 lq false) || s1)) || s3), .bool ((false || o1) || o3)] 154, .box bp131 [.slice ra (List.length rl2) rc, .bool s3, .bool o3] 154, .vec ao132 cp133 1 (bys (ldO 2 1 65535 (ldR 2 1 65535 lq false) ((ldS 2 1 65535 lq false) || s1))) 5, .vec oa oc 3 (List.flatMap fPsk (bnd upR k xs bs)) 140, .grp (List.flatMap innPsk xs), .grp (List.flatMap innByl bs)], rfl, he259, by kernel_rfl, fun ac261 En262 Hv263 => ?_⟩
    refine d_e [2,3,4,5,6,7,9,10,11,13] [] En262 fun ac264 En265 => ?_
    refine then_normal ?_
    refine wp_seq ?_
    refine wp_seq ?_
    refine d_r [2,3,4,5,6,7,9,10,11,13,70] [] En265 fun ac266 En267 => ?_
    refine then_normal ?_
    refine c_n (endV ((ldS 2 1 65535 (ldR 2 1 65535 lq false) ((ldS 2 1 65535 lq false) || s1)) || s3) (List.length (ldR 2 1 65535 (ldR 2 1 65535 lq false) ((ldS 2 1 65535 lq false) || s1))) ((false || o1) || o3)) (0 : Int) En267 (fun hc268 => ?_) (fun hc268 => ?_)
    ·
     refine wp_seq ?_
     refine d_r [2,3,4,5,6,7,9,10,11,13] [] En267 fun ac269 En270 => ?_
     refine then_normal ?_
     refine wp_ret ?_
     refine then_ret ?_
     refine d_ret3 (t := 2) (u := 3) (s := 4) (v := .slice none 0 0) (x := .int .i64 0) (y := .int .i64 (endV ((ldS 2 1 65535 (ldR 2 1 65535 lq false) ((ldS 2 1 65535 lq false) || s1)) || s3) (List.length (ldR 2 1 65535 (ldR 2 1 65535 lq false) ((ldS 2 1 65535 lq false) || s1))) ((false || o1) || o3))) En270 (by kernel_rfl) (by kernel_rfl) (by kernel_rfl) (by kernel_rfl) ?_
     have eN : ((List.length bs : Int) != (List.length xs : Int)) = false := by first | exact ne_t hk (by omega) | exact ne_f hk (by omega)
     have eA : gotA (dpskM lq false false) = endV ((ldS 2 1 65535 (ldR 2 1 65535 lq false) ((ldS 2 1 65535 lq false) || s1)) || s3) (List.length (ldR 2 1 65535 (ldR 2 1 65535 lq false) ((ldS 2 1 65535 lq false) || s1))) ((false || o1) || o3) := by unfold gotA dpskM; dsimp only; rw [hBB, hO]; dsimp only; rw [List.length_map, List.length_map, eN]; simp only [Bool.or_true, Bool.or_false]
     have eL : List.length (dpskO lq false false).2.1 = List.length (ldR 2 1 65535 lq false) := by rw [hO]
     have hA : ¬ gotA (dpskM lq false false) = 0 := by rw [eA]; assumption
     rw [gotV_m hA, gotN_n hA, eA]
     have Hv271 : Ev w [] wo258 [.box bk5 [.slice ta134 (List.length (ldR 2 1 65535 (ldR 2 1 65535 lq false) ((ldS 2 1 65535 lq false) || s1))) tc135, .bool ((ldS 2 1 65535 (ldR 2 1 65535 lq false) ((ldS 2 1 65535 lq false) || s1)) || s3), .bool ((false || o1) || o3)] 154, .box bp131 [.slice ra (List.length rl2) rc, .bool s3, .bool o3] 154, .vec ao132 cp133 1 (bys (ldO 2 1 65535 (ldR 2 1 65535 lq false) ((ldS 2 1 65535 lq false) || s1))) 5, .vec oa oc 3 (List.flatMap fPsk (bnd upR k xs bs)) 140, .grp (List.flatMap innPsk xs), .grp (List.flatMap innByl bs), .vec none 0 3 (List.flatMap fPsk []) 140] := Ev.nil (sz := 3) (T := 140) Hv263
     have Hv272 : Ev w [] wo258 [.box bk5 [.slice ta134 (List.length (ldR 2 1 65535 (ldR 2 1 65535 lq false) ((ldS 2 1 65535 lq false) || s1))) tc135, .bool ((ldS 2 1 65535 (ldR 2 1 65535 lq false) ((ldS 2 1 65535 lq false) || s1)) || s3), .bool ((false || o1) || o3)] 154, .box bp131 [.slice ra (List.length rl2) rc, .bool s3, .bool o3] 154, .vec ao132 cp133 1 (bys (ldO 2 1 65535 (ldR 2 1 65535 lq false) ((ldS 2 1 65535 lq false) || s1))) 5, .vec oa oc 3 (List.flatMap fPsk (bnd upR k xs bs)) 140, .grp (List.flatMap innPsk xs), .grp (List.flatMap innByl bs), .vec none 0 3 (List.flatMap fPsk []) 140, .grp (List.flatMap innPsk [])] := Ev.grp0 Hv271
     exact ⟨none, 0, [], rfl, Hv272.pk [6, 7], rfl, (Nat.zero_le _), (fun y hy => by cases hy)⟩
    ·
     refine wp_skip ?_
     refine then_normal ?_
     refine wp_seq ?_
     refine d_r [2,3,4,5,6,7,10,11,13] [] En267 fun ac273 En274 => ?_
     refine then_normal ?_
     refine wp_ret ?_
     refine d_ret3 (t := 2) (u := 3) (s := 4) (v := .slice oa (List.length xs) oc) (x := .int .i64 ((List.length (ldR 2 1 65535 lq false) : Nat) : Int)) (y := .int .i64 (endV ((ldS 2 1 65535 (ldR 2 1 65535 lq false) ((ldS 2 1 65535 lq false) || s1)) || s3) (List.length (ldR 2 1 65535 (ldR 2 1 65535 lq false) ((ldS 2 1 65535 lq false) || s1))) ((false || o1) || o3))) En274 (by kernel_rfl) (by kernel_rfl) (by kernel_rfl) (by kernel_rfl) ?_
     have eN : ((List.length bs : Int) != (List.length xs : Int)) = false := by first | exact ne_t hk (by omega) | exact ne_f hk (by omega)
     have eA : gotA (dpskM lq false false) = endV ((ldS 2 1 65535 (ldR 2 1 65535 lq false) ((ldS 2 1 65535 lq false) || s1)) || s3) (List.length (ldR 2 1 65535 (ldR 2 1 65535 lq false) ((ldS 2 1 65535 lq false) || s1))) ((false || o1) || o3) := by unfold gotA dpskM; dsimp only; rw [hBB, hO]; dsimp only; rw [List.length_map, List.length_map, eN]; simp only [Bool.or_true, Bool.or_false]
     have eL : List.length (dpskO lq false false).2.1 = List.length (ldR 2 1 65535 lq false) := by rw [hO]
     have hA : gotA (dpskM lq false false) = 0 := by rw [eA]; first | assumption | exact Classical.not_not.1 (by assumption)
     rw [gotV_0 hA, gotN_0 hA, eA, eL]
     have Hv275 : Ev w [] wo258 ([.vec oa oc 3 (List.flatMap fPsk (bnd upR k xs bs)) 140] ++ [.grp (List.flatMap innPsk (bnd upR k xs bs))]) := Ev.groupS Hv263 [3] [4, 5] (by kernel_rfl) (fun d hd => (psk_sub hd).elim (fun h => ⟨4, by decide, h⟩) fun h => ⟨5, by decide, h⟩) (by decide)
     have hzl : List.length xs = List.length (bnd upR k xs bs) := (bnd_len _ _ _).symm
     rw [hzl]
     exact ⟨oa, oc, bnd upR k xs bs, rfl, Hv275, (by show _ = bnd upP (List.length (dpskB lq false false).1) (dpskO lq false false).1 (dpskB lq false false).1; rw [bnd_map (f := puPsk) (g := (fun y : RByl => y.l)) (u2 := upP) (fun _ _ => rfl), hBB, hO]; dsimp only; rw [List.length_map, hk]), (by rw [← hzl]; exact hx32), (psk_sm hsm hsmB)⟩

end Go.Proofs.Ytofecellbfhnjaa
