import Derived.Test.YtofecellbfhnjaaBk12
import Derived.Test.YtofecellbfhnjaaBk10
import Derived.Test.YtofecellbfhnjaaBk7
import Derived.Test.YtofecellbfhnjaaBk8
import Derived.Test.YtofecellbfhnjaaBk5
import Derived.Test.YtofecellbfhnjaaBk9
import Derived.Test.YtofecellbfhnjaaBk11
/- Layer 17: greetings are written by the program. -/



namespace Go.Proofs.Ytofecellbfhnjaa
open Go.Dbr
set_option maxRecDepth 100000
set_option maxHeartbeats 2000000
set_option linter.unusedVariables false
set_option linter.unusedSimpArgs false

def begF (v : UInt16) (ar b : Bs) : WS := (wput 1 (beN 2 v.toNat ++ ar) b, wbad 1 0 32 b.length false)
def nmsF (p : WS) (ns : List UInt16) : WS := (wput 2 p.1 (allM u16F ns).1, wbad 2 2 16777215 (allM u16F ns).1.length (p.2 || (allM u16F ns).2))
def cliF (x : HL) : WS := wexF ((nmsF (begF x.1 x.2.1 x.2.2.1) x.2.2.2.1).1 ++ [1, 0], (nmsF (begF x.1 x.2.1 x.2.2.1) x.2.2.2.1).2 || lastQ x.2.2.2.2) x.2.2.2.2
def cliP (x : HL) : Bs := doneL (cliF x).2 (cliF x).1
def srvF (x : HL) (n : UInt16) : WS := wexF (((begF x.1 x.2.1 x.2.2.1).1 ++ beN 2 n.toNat) ++ [0], (begF x.1 x.2.1 x.2.2.1).2) x.2.2.2.2
def srvP (x : HL) : Bs := match x.2.2.2.1 with
  | [n] => doneL (srvF x n).2 (srvF x n).1
  | _ => []
theorem srv_n {x : HL} (h : ¬ x.2.2.2.1.length = 1) : srvP x = [] := by
  rw [srvP]
  split
  · rename_i e; rw [e] at h; exact absurd rfl h
  · rfl
theorem srv_y {α : Type} {f : α → UInt16} {ns : List α} {v : UInt16} {ar b : Bs} {es : List EX} {y : α} (h : ns.length = 1) (hx : ns[0]? = some y) : srvP (v, ar, b, List.map f ns, es) = doneL (srvF (v, ar, b, List.map f ns, es) (f y)).2 (srvF (v, ar, b, List.map f ns, es) (f y)).1 := by
  match ns, h with
  | [z], _ =>
    have e : z = y := by simpa using hx
    subst e
    rfl

theorem begw_go (w : World) (vv : UInt16) (ar : Bs) (har : List.length ar = 32) (ab : Option Addr) (cb : Nat) (b : Bs) (an al : Option Addr) (nn cn nl cl : Nat) (ib : InB w [] ab cb b) (hbt : List.length b ≤ 16777216) : Calls Try.prog 177 #[.agg (List.toArray (([uv16 vv] : List Value) ++ ((bys ar) ++ ([.slice ab (List.length b) cb, .slice an nn cn, .slice al nl cl] : List Value))))] w fun e w' => ∃ bw a' c', e = .returned (pt bw) ∧ Ev w [] w' [.box bw [.slice a' (List.length ((begF vv ar b).1)) c', .bool ((begF vv ar b).2)] 115, .vec a' c' 1 (bys ((begF vv ar b).1)) 5] := by
 have hbs := ib.small
 have hu2 : List.length (u16F ([], false) vv).1 = 2 := by rw [u16F, List.length_append, beN_len]; rfl
 have hu3 : List.length ((u16F ([], false) vv).1 ++ ar) = 34 := by rw [List.length_append, hu2, har]
 refine d_0 [(0, .agg (List.toArray (([uv16 vv] : List Value) ++ ((bys ar) ++ ([.slice ab (List.length b) cb, .slice an nn cn, .slice al nl cl] : List Value)))))] 25 Go.Proofs.Try.func177 Go.Proofs.Try.ntmps177 (Heap.nil _) fun act0 En0 Hv0 => ?_
 refine wp_seq ?_
 refine region_from ?_
 refine f_o ?_
 refine m_m 75 (([uv16 vv] : List Value) ++ ((bys ar) ++ ([.slice ab (List.length b) cb, .slice an nn cn, .slice al nl cl] : List Value))) En0 Hv0 fun ac2 wo3 bk1 En4 Hv5 => ?_
 refine d_e [1,2] [] En4 fun ac6 En7 => ?_
 refine then_normal ?_
 refine wp_seq ?_
 refine region_from ?_
 refine d_k [1,2,4] [] 1 En7 fun ac8 En9 => ?_
 refine f_o ?_
 refine m_m 115 [.slice none 0 0, .bool false] En9 Hv5 fun ac11 wo12 bk10 En13 Hv14 => ?_
 refine d_e [1,2,3] [] En13 fun ac15 En16 => ?_
 refine then_normal ?_
 refine wp_seq ?_
 refine region_from ?_
 refine d_k [1,2,3,6,7] [] 2 En16 fun ac17 En18 => ?_
 refine f_o ?_
 refine m_v 0 0 (uv16 vv) En18 Hv14 rfl (seg_in rfl) fun ac19 En20 => ?_
 refine f_o ?_
 have Hv21 : Ev w [] wo12 [.box bk1 (([uv16 vv] : List Value) ++ ((bys ar) ++ ([.slice ab (List.length b) cb, .slice an nn cn, .slice al nl cl] : List Value))) 75, .box bk10 [.slice none 0 0, .bool false] 115, .vec none 0 1 (bys []) 5] := Ev.nil (sz := 1) (T := 5) Hv14
 refine c_l [1,2] (M := [.box bk10 [.slice none 0 0, .bool false] 115, .vec none 0 1 (bys []) 5]) En20 Hv21 (fun hM24 => wu16_go _ bk10 none 0 [] false vv (by first | omega | (simp only [List.length_nil, List.length_append, beN_len]; omega) | (simp only [u16F, beN_len, List.length_nil, List.length_append]; omega) | (simp only [wput_len, beN_len, List.length_nil, List.length_append]; omega) | (simp [wput_len, beN_len]; done) | (simp [wput_len, beN_len]; omega)) hM24) ?_
 rintro _ wo25 ⟨wa22, wc23, rfl, he26⟩
 refine ⟨_, _, [.box bk10 [.slice wa22 (List.length ((u16F ([], false) vv).1)) wc23, .bool ((u16F ([], false) vv).2)] 115, .vec wa22 wc23 1 (bys ((u16F ([], false) vv).1)) 5, .box bk1 (([uv16 vv] : List Value) ++ ((bys ar) ++ ([.slice ab (List.length b) cb, .slice an nn cn, .slice al nl cl] : List Value))) 75], rfl, he26, by kernel_rfl, fun ac28 En29 Hv30 => ?_⟩
 refine f_e ?_
 refine then_normal ?_
 refine wp_seq ?_
 refine r_c (fun ac wo => ∃ (ao78 : Option Addr) (cp79 : Nat), Env ac 25 [(1, pt bk1), (2, .pointer none), (3, pt bk10)] ∧ Ev w [] wo [.box bk10 [.slice ao78 (List.length (((u16F ([], false) vv).1) ++ ar)) cp79, .bool ((u16F ([], false) vv).2)] 115, .vec ao78 cp79 1 (bys (((u16F ([], false) vv).1) ++ ar)) 5, .box bk1 (([uv16 vv] : List Value) ++ ((bys ar) ++ ([.slice ab (List.length b) cb, .slice an nn cn, .slice al nl cl] : List Value))) 75]) ?_ ?_
 ·
  refine h_s (fun wv => Ev w [] wv [.box bk10 [.slice wa22 (List.length ((u16F ([], false) vv).1)) wc23, .bool ((u16F ([], false) vv).2)] 115, .box bk1 (([uv16 vv] : List Value) ++ ((bys ar) ++ ([.slice ab (List.length b) cb, .slice an nn cn, .slice al nl cl] : List Value))) 75]) [10] 11 ?_
  have wo31 := Hv30.trans (Ev.drew Hv30.heap)
  refine q_s [0,1,2,3] [] 7 En29 (wo31.pk [0, 2]) fun ac92 En93 => ?_
  refine q_l 0 4 En93 (wo31.pk [0, 2]) fun ac94 En95 => ?_
  refine q_s [5] [] 5 En95 (wo31.pk [0, 2]) fun ac96 En97 => ?_
  refine q_t 6 ?_
  refine op_slicearr (d := some 16) (t := 29) (e := 5) (sz := 1) (m := 32) (lo := 0) (hi := 32) (b := bk1) (off := 1) (lov := none) (hiv := none) (o := 1) En97 (by kernel_rfl) (by kernel_rfl) (by kernel_rfl) (by omega) (by omega) (by omega) (.inl ⟨rfl, rfl⟩) (.inl ⟨rfl, rfl⟩) (by omega) ?_
  intro ac98 En99
  refine ⟨fun _ => wo31.pk [0, 2], ?_⟩
  refine q_t 7 ?_
  refine op_append (d := some 17) (t := 23) (tx := 23) (ty := 23) (k := 1) (p := List.length ((u16F ([], false) vv).1)) (m := 32) (x := .slice (some ⟨bk1, 1, none⟩) 32 32) (bytes := 1) En99 (by kernel_rfl) wo31 rfl (bys_len _) (Reads.src (size := 1) (tx := 23) (e' := 5) (by kernel_rfl) (wo31.heap.readsBox (k := 2) (m := 32) (xs := bys ar) rfl (by simp [bys_lenh har, List.drop_append, List.take_append])) (bys_lenn (by first | (rw [har]) | (simp [har]; done) | (simp [har]; omega))) (fun e => by cases e) (bys_one _)) (by kernel_rfl) (z := .int .u8 0) (by kernel_rfl) rfl (by decide) (by first | omega | (simp [beN_len]; done) | (simp [beN_len]; omega)) (by unfold maxLen; first | omega | (simp [beN_len]; done) | (simp [beN_len]; omega)) ?_
  intro ac104 wo105 ao100 cp101 En106 Hv107 hnz _
  clear hnz
  rw [← bys_append] at Hv107
  have ehz102 : (List.length ((u16F ([], false) vv).1)) + 32 = List.length (((u16F ([], false) vv).1) ++ ar) := (by first | (simp; done) | (simp; omega) | omega)
  rw [ehz102] at En106
  refine ⟨fun _ => Hv107.pk [0, 2], ?_⟩
  refine q_s [8,9] [] 1 En106 (Hv107.pk [0, 2]) fun ac108 En109 => ?_
  refine q_t 10 ?_
  refine m_s 0 [.box bk10 [.slice ao100 (List.length (((u16F ([], false) vv).1) ++ ar)) cp101, .bool ((u16F ([], false) vv).2)] 115, .vec ao100 cp101 1 (bys (((u16F ([], false) vv).1) ++ ar)) 5, .box bk1 (([uv16 vv] : List Value) ++ ((bys ar) ++ ([.slice ab (List.length b) cb, .slice an nn cn, .slice al nl cl] : List Value))) 75] En109 Hv107 fun ac110 wo111 En112 Hv113 => ?_
  refine ⟨q_y, ?_⟩
  exact h_e ⟨ao100, cp101, En112.sb, Hv113.pk [0, 1, 2]⟩
 rintro ac114 wo115 ⟨ao78, cp79, En116, Hv117⟩
 refine then_normal ?_
 refine wp_seq ?_
 refine region_from ?_
 refine d_k [1,2,3,20,21] [] 2 En116 fun ac118 En119 => ?_
 refine f_o ?_
 refine m_v 2 33 (.slice ab (List.length b) cb) En119 Hv117 rfl (seg_skip (n := 1) (j := 32) rfl (seg_skip (n := 32) (j := 0) (bys_lenh har) rfl)) fun ac120 En121 => ?_
 refine f_o ?_
 refine c_l [0,1] (M := [.box bk10 [.slice ao78 (List.length (((u16F ([], false) vv).1) ++ ar)) cp79, .bool ((u16F ([], false) vv).2)] 115, .vec ao78 cp79 1 (bys (((u16F ([], false) vv).1) ++ ar)) 5]) En121 Hv117 (fun hM124 => wlist_go _ bk10 ao78 cp79 (((u16F ([], false) vv).1) ++ ar) ((u16F ([], false) vv).2) 1 (by omega) 0 32 (by omega) (by omega) ab cb b ((ib.ev Hv117).pick [0, 1] (by kernel_rfl)) (by first | omega | (simp only [List.length_nil, List.length_append, beN_len]; omega) | (simp only [u16F, beN_len, List.length_nil, List.length_append]; omega) | (simp only [wput_len, beN_len, List.length_nil, List.length_append]; omega) | (simp [wput_len, beN_len]; done) | (simp [wput_len, beN_len]; omega)) hM124) ?_
 rintro _ wo125 ⟨wa122, wc123, rfl, he126⟩
 refine ⟨_, _, [.box bk10 [.slice wa122 (List.length (wput 1 (((u16F ([], false) vv).1) ++ ar) b)) wc123, .bool (wbad 1 0 32 (List.length b) ((u16F ([], false) vv).2))] 115, .vec wa122 wc123 1 (bys (wput 1 (((u16F ([], false) vv).1) ++ ar) b)) 5, .box bk1 (([uv16 vv] : List Value) ++ ((bys ar) ++ ([.slice ab (List.length b) cb, .slice an nn cn, .slice al nl cl] : List Value))) 75], rfl, he126, by kernel_rfl, fun ac128 En129 Hv130 => ?_⟩
 refine f_e ?_
 refine then_normal ?_
 refine d_s [1,2,3] [] En129 fun ac131 En132 => ?_
 refine wp_ret ?_
 refine d_ret1 (t := 2) (v := pt bk10) En132 (by kernel_rfl) (by kernel_rfl) ?_
 exact ⟨bk10, wa122, wc123, rfl, Hv130.pk [0, 1]⟩

theorem pclient_go (w : World) (vv : UInt16) (ar : Bs) (har : List.length ar = 32) (ab : Option Addr) (cb : Nat) (b : Bs) (an : Option Addr) (cn : Nat) (ns : List RU16) (al : Option Addr) (cl : Nat) (xs : List RExt) (ib : InB w [] ab cb b) (iln : InS fU16 2 (fun y : RU16 => True) w [] an cn ns) (il : InS fExt 32 (fun y : RExt => (True ∧ (InB w [] y.2.1.a y.2.1.c y.2.1.l ∧ (True)))) w [] al cl xs) (hq0 : List.length (allM exF (List.map (fun y : RExt => (y.1, y.2.1.l)) xs)).1 ≤ 16777216) (hqn : allB u16F (List.map (fun y : RU16 => y) ns)) (hbt : List.length b ≤ 16777216) : Calls Try.prog 72 #[.agg (List.toArray (([uv16 vv] : List Value) ++ ((bys ar) ++ ([.slice ab (List.length b) cb, .slice an (List.length ns) cn, .slice al (List.length xs) cl] : List Value))))] w fun e w' => ∃ a' c', e = .returned (.slice a' (List.length (cliP (vv, ar, b, (List.map (fun y : RU16 => y) ns), (List.map (fun y : RExt => (y.1, y.2.1.l)) xs)))) c') ∧ Ev w [] w' [.vec a' c' 1 (bys (cliP (vv, ar, b, (List.map (fun y : RU16 => y) ns), (List.map (fun y : RExt => (y.1, y.2.1.l)) xs)))) 5] := by
 have hbs := ib.small
 have hza := allB_all hqn
 have hzb : List.length (begF vv ar b).1 = 35 + List.length b := by rw [begF, wput_len, List.length_append, beN_len, har]
 have hzl := il.small
 have hzw : List.length (wput 2 (begF vv ar b).1 (allM u16F (List.map (fun y : RU16 => y) ns)).1) = 37 + List.length b + List.length (allM u16F (List.map (fun y : RU16 => y) ns)).1 := by rw [wput_len, hzb]; omega
 refine d_0 [(0, .agg (List.toArray (([uv16 vv] : List Value) ++ ((bys ar) ++ ([.slice ab (List.length b) cb, .slice an (List.length ns) cn, .slice al (List.length xs) cl] : List Value)))))] 48 Go.Proofs.Try.func72 Go.Proofs.Try.ntmps72 (Heap.nil _) fun act0 En0 Hv0 => ?_
 refine wp_seq ?_
 refine region_from ?_
 refine f_o ?_
 refine m_m 75 (([uv16 vv] : List Value) ++ ((bys ar) ++ ([.slice ab (List.length b) cb, .slice an (List.length ns) cn, .slice al (List.length xs) cl] : List Value))) En0 Hv0 fun ac2 wo3 bk1 En4 Hv5 => ?_
 refine d_e [1,2] [] En4 fun ac6 En7 => ?_
 refine then_normal ?_
 refine wp_seq ?_
 refine region_from ?_
 refine f_o ?_
 refine m_a 0 0 36 (([uv16 vv] : List Value) ++ ((bys ar) ++ ([.slice ab (List.length b) cb, .slice an (List.length ns) cn, .slice al (List.length xs) cl] : List Value))) En7 Hv5 rfl (load_whole (len_app rfl (len_app (bys_lenh har) rfl))) (len_app rfl (len_app (bys_lenh har) rfl)) fun ac8 En9 => ?_
 refine f_o ?_
 refine c_0 En9 Hv5 (begw_go _ vv ar har ab cb b an al (List.length ns) cn (List.length xs) cl ((ib.ev Hv5).pick [] (by kernel_rfl)) (by omega)) ?_
 rintro _ wo14 ⟨bw10, wa11, wc12, rfl, he15⟩
 refine ⟨_, _, _, rfl, he15, rfl, fun ac17 En18 Hv19 => ?_⟩
 refine d_e [1,2,3] [] En18 fun ac20 En21 => ?_
 refine then_normal ?_
 refine wp_seq ?_
 refine region_from ?_
 refine d_k [1,2,3,7,8] [] 2 En21 fun ac22 En23 => ?_
 refine f_o ?_
 refine m_v 2 34 (.slice an (List.length ns) cn) En23 Hv19 rfl (seg_skip (n := 1) (j := 33) rfl (seg_skip (n := 32) (j := 1) (bys_lenh har) rfl)) fun ac24 En25 => ?_
 refine f_o ?_
 refine c_l [0,1] (M := [.box bw10 [.slice wa11 (List.length ((begF vv ar b).1)) wc12, .bool ((begF vv ar b).2)] 115, .vec wa11 wc12 1 (bys ((begF vv ar b).1)) 5]) En25 Hv19 (fun hM28 => all_u16 _ bw10 wa11 wc12 ((begF vv ar b).1) ((begF vv ar b).2) 2 (by omega) 2 (by omega) an cn ns (iln.go Hv19 [0, 1] (by kernel_rfl) (fun _ h => h)) (fun i _ => Nat.le_trans (hqn i) (by decide)) (by omega) hM28) ?_
 rintro _ wo29 ⟨wa26, wc27, rfl, he30⟩
 refine ⟨_, _, [.box bw10 [.slice wa26 (List.length (wput 2 ((begF vv ar b).1) (allM u16F (List.map (fun y : RU16 => y) ns)).1)) wc27, .bool (wbad 2 2 16777215 (List.length (allM u16F (List.map (fun y : RU16 => y) ns)).1) (((begF vv ar b).2) || (allM u16F (List.map (fun y : RU16 => y) ns)).2))] 115, .vec wa26 wc27 1 (bys (wput 2 ((begF vv ar b).1) (allM u16F (List.map (fun y : RU16 => y) ns)).1)) 5, .box bk1 (([uv16 vv] : List Value) ++ ((bys ar) ++ ([.slice ab (List.length b) cb, .slice an (List.length ns) cn, .slice al (List.length xs) cl] : List Value))) 75], rfl, he30, by kernel_rfl, fun ac32 En33 Hv34 => ?_⟩
 refine f_e ?_
 refine then_normal ?_
 refine wp_seq ?_
 refine region_from ?_
 refine d_k [1,2,3,11,14] [] 4 En33 fun ac35 En36 => ?_
 refine f_o ?_
 refine m_l 0 En36 Hv34 fun ac37 En38 => ?_
 refine f_o ?_
 refine op_lit (d := some 16) (t := 23) (T := 5) (m := 2) (parts := #[(0, .int .u8 1), (1, .int .u8 0)]) (xs := bys [(1 : UInt8), (0 : UInt8)]) (sz := 1) En38 (by kernel_rfl) (by kernel_rfl) rfl (by decide) Hv34 ?_
 intro ac40 wo41 bk39 En42 Hv43
 refine f_o ?_
 refine op_append (d := some 17) (t := 23) (tx := 23) (ty := 23) (k := 1) (p := List.length (wput 2 ((begF vv ar b).1) (allM u16F (List.map (fun y : RU16 => y) ns)).1)) (m := 2) (x := .slice (some ⟨bk39, 0, none⟩) 2 2) (bytes := 1) En42 (by kernel_rfl) Hv43 rfl (bys_len _) (Reads.src (size := 1) (tx := 23) (e' := 5) (by kernel_rfl) (Hv43.heap.reads (k := 3) rfl) rfl (fun e => by cases e) (bys_one _)) (by kernel_rfl) (z := .int .u8 0) (by kernel_rfl) rfl (by decide) (by first | omega | (simp [beN_len]; done) | (simp [beN_len]; omega)) (by unfold maxLen; first | omega | (simp [beN_len]; done) | (simp [beN_len]; omega)) ?_
 intro ac48 wo49 ao44 cp45 En50 Hv51 hnz _
 clear hnz
 rw [← bys_append] at Hv51
 have ehz46 : (List.length (wput 2 ((begF vv ar b).1) (allM u16F (List.map (fun y : RU16 => y) ns)).1)) + 2 = List.length ((wput 2 ((begF vv ar b).1) (allM u16F (List.map (fun y : RU16 => y) ns)).1) ++ [(1 : UInt8), (0 : UInt8)]) := (by first | (simp; done) | (simp; omega) | omega)
 rw [ehz46] at En50
 refine d_k [1,2,3,17,19] [] 9 En50 fun ac52 En53 => ?_
 refine f_o ?_
 refine m_s 0 [.box bw10 [.slice ao44 (List.length ((wput 2 ((begF vv ar b).1) (allM u16F (List.map (fun y : RU16 => y) ns)).1) ++ [(1 : UInt8), (0 : UInt8)])) cp45, .bool (wbad 2 2 16777215 (List.length (allM u16F (List.map (fun y : RU16 => y) ns)).1) (((begF vv ar b).2) || (allM u16F (List.map (fun y : RU16 => y) ns)).2))] 115, .vec ao44 cp45 1 (bys ((wput 2 ((begF vv ar b).1) (allM u16F (List.map (fun y : RU16 => y) ns)).1) ++ [(1 : UInt8), (0 : UInt8)])) 5, .box bk1 (([uv16 vv] : List Value) ++ ((bys ar) ++ ([.slice ab (List.length b) cb, .slice an (List.length ns) cn, .slice al (List.length xs) cl] : List Value))) 75, .vec (some ⟨bk39, 0, none⟩) 2 1 (bys [(1 : UInt8), (0 : UInt8)]) 5] En53 Hv51 fun ac54 wo55 En56 Hv57 => ?_
 refine f_e ?_
 refine then_normal ?_
 refine wp_seq ?_
 refine region_from ?_
 refine d_k [1,2,3,20] [] 1 En56 fun ac58 En59 => ?_
 refine f_o ?_
 refine m_v 2 35 (.slice al (List.length xs) cl) En59 Hv57 rfl (seg_skip (n := 1) (j := 34) rfl (seg_skip (n := 32) (j := 2) (bys_lenh har) rfl)) fun ac60 En61 => ?_
 refine f_o ?_
 refine c_p En61 Hv57 (ixw_go _ 41 rfl al cl xs (il.go Hv57 [] (by kernel_rfl) (fun _ h => ⟨h.1, (InB.ev h.2.1 Hv57).pick [] (by kernel_rfl), h.2.2⟩))) fun ac66 wo63 En67 Hv68 => ?_
 refine d_e [1,2,3,4] [] En67 fun ac69 En70 => ?_
 refine then_normal ?_
 refine wp_seq ?_
 refine region_cut (F := fun ac wo => ∃ (b2 : Bool), Env ac 48 [(1, pt bk1), (2, .slice none 0 0), (3, pt bw10), (4, .int .i64 (fdI 41 (List.map (fun y : RExt => (y.1, y.2.1.l)) xs)))] ∧ Ev w [] wo [.box bw10 [.slice ao44 (List.length ((wput 2 ((begF vv ar b).1) (allM u16F (List.map (fun y : RU16 => y) ns)).1) ++ [(1 : UInt8), (0 : UInt8)])) cp45, .bool b2] 115, .vec ao44 cp45 1 (bys ((wput 2 ((begF vv ar b).1) (allM u16F (List.map (fun y : RU16 => y) ns)).1) ++ [(1 : UInt8), (0 : UInt8)])) 5, .box bk1 (([uv16 vv] : List Value) ++ ((bys ar) ++ ([.slice ab (List.length b) cb, .slice an (List.length ns) cn, .slice al (List.length xs) cl] : List Value))) 75, .vec (some ⟨bk39, 0, none⟩) 2 1 (bys [(1 : UInt8), (0 : UInt8)]) 5] ∧ (b2 = ((wbad 2 2 16777215 (List.length (allM u16F (List.map (fun y : RU16 => y) ns)).1) (((begF vv ar b).2) || (allM u16F (List.map (fun y : RU16 => y) ns)).2)) || lastQ (List.map (fun y : RExt => (y.1, y.2.1.l)) xs)))) ?_ ?_
 ·
  refine region_from ?_
  refine d_k [1,2,3,4,23,26] [] 4 En70 fun ac71 En72 => ?_
  refine f_o ?_
  refine m_l 0 En72 Hv68 fun ac73 En74 => ?_
  refine d_k [1,2,3,4,23,28] [] 6 En74 fun ac75 En76 => ?_
  rcases Bool.eq_false_or_eq_true (wbad 2 2 16777215 (List.length (allM u16F (List.map (fun y : RU16 => y) ns)).1) (((begF vv ar b).2) || (allM u16F (List.map (fun y : RU16 => y) ns)).2)) with hb77 | hb77
  ·
   have En78 := En76.fx (t := 28) (congrArg Value.bool hb77)
   have hp79 : wbad 2 2 16777215 (List.length (allM u16F (List.map (fun y : RU16 => y) ns)).1) (((begF vv ar b).2) || (allM u16F (List.map (fun y : RU16 => y) ns)).2) = true := hb77
   refine d_k [1,2,3,4,39,41] [] 19 En78 fun ac80 En81 => ?_
   refine f_o ?_
   refine m_s 0 [.box bw10 [.slice ao44 (List.length ((wput 2 ((begF vv ar b).1) (allM u16F (List.map (fun y : RU16 => y) ns)).1) ++ [(1 : UInt8), (0 : UInt8)])) cp45, .bool true] 115, .vec ao44 cp45 1 (bys ((wput 2 ((begF vv ar b).1) (allM u16F (List.map (fun y : RU16 => y) ns)).1) ++ [(1 : UInt8), (0 : UInt8)])) 5, .box bk1 (([uv16 vv] : List Value) ++ ((bys ar) ++ ([.slice ab (List.length b) cb, .slice an (List.length ns) cn, .slice al (List.length xs) cl] : List Value))) 75, .vec (some ⟨bk39, 0, none⟩) 2 1 (bys [(1 : UInt8), (0 : UInt8)]) 5] En81 Hv68 fun ac82 wo83 En84 Hv85 => ?_
   refine f_e ?_
   exact ⟨rfl, ⟨true, En84.sb, Hv85.pk [0, 1, 2, 3], (by first | exact lq_t (by assumption) | exact lq_n (by assumption) (by omega) | exact lq_f (by assumption) (by omega))⟩⟩
  ·
   have En86 := En76.fx (t := 28) (congrArg Value.bool hb77)
   have hp87 : ¬ (wbad 2 2 16777215 (List.length (allM u16F (List.map (fun y : RU16 => y) ns)).1) (((begF vv ar b).2) || (allM u16F (List.map (fun y : RU16 => y) ns)).2) = true) := Bool.eq_false_iff.1 hb77
   refine d_k [1,2,3,4,23,28,31] [] 9 En86 fun ac88 En89 => ?_
   rcases Bool.eq_false_or_eq_true (decide (fdI 41 (List.map (fun y : RExt => (y.1, y.2.1.l)) xs) ≥ (0 : Int))) with hb90 | hb90
   ·
    have En91 := En89.fx (t := 31) (congrArg Value.bool hb90)
    have hp92 : fdI 41 (List.map (fun y : RExt => (y.1, y.2.1.l)) xs) ≥ (0 : Int) := of_decide_eq_true hb90
    refine d_k [1,2,3,4,23,28,31,32,33] [] 11 En91 fun ac93 En94 => ?_
    refine f_o ?_
    refine m_v 2 35 (.slice al (List.length xs) cl) En94 Hv68 rfl (seg_skip (n := 1) (j := 34) rfl (seg_skip (n := 32) (j := 2) (bys_lenh har) rfl)) fun ac95 En96 => ?_
    refine d_k [1,2,3,4,39,41] [(13, g_n (w_r (e := ((List.length xs : Nat) : Int) - (1 : Int)) (x := ((List.length xs : Nat) : Int) - (1 : Int)) (by omega)))] 19 En96 fun ac97 En98 => ?_
    refine f_o ?_
    refine m_s 0 [.box bw10 [.slice ao44 (List.length ((wput 2 ((begF vv ar b).1) (allM u16F (List.map (fun y : RU16 => y) ns)).1) ++ [(1 : UInt8), (0 : UInt8)])) cp45, .bool (decide (fdI 41 (List.map (fun y : RExt => (y.1, y.2.1.l)) xs) < ((List.length xs : Nat) : Int) - (1 : Int)))] 115, .vec ao44 cp45 1 (bys ((wput 2 ((begF vv ar b).1) (allM u16F (List.map (fun y : RU16 => y) ns)).1) ++ [(1 : UInt8), (0 : UInt8)])) 5, .box bk1 (([uv16 vv] : List Value) ++ ((bys ar) ++ ([.slice ab (List.length b) cb, .slice an (List.length ns) cn, .slice al (List.length xs) cl] : List Value))) 75, .vec (some ⟨bk39, 0, none⟩) 2 1 (bys [(1 : UInt8), (0 : UInt8)]) 5] En98 Hv68 fun ac99 wo100 En101 Hv102 => ?_
    refine f_e ?_
    exact ⟨rfl, ⟨(decide (fdI 41 (List.map (fun y : RExt => (y.1, y.2.1.l)) xs) < ((List.length xs : Nat) : Int) - (1 : Int))), En101.sb, Hv102.pk [0, 1, 2, 3], (by first | exact lq_t (by assumption) | exact lq_n (by assumption) (by omega) | exact lq_f (by assumption) (by omega))⟩⟩
   ·
    have En103 := En89.fx (t := 31) (congrArg Value.bool hb90)
    have hp104 : ¬ (fdI 41 (List.map (fun y : RExt => (y.1, y.2.1.l)) xs) ≥ (0 : Int)) := of_decide_eq_false hb90
    refine d_k [1,2,3,4,39,41] [] 19 En103 fun ac105 En106 => ?_
    refine f_o ?_
    refine m_s 0 [.box bw10 [.slice ao44 (List.length ((wput 2 ((begF vv ar b).1) (allM u16F (List.map (fun y : RU16 => y) ns)).1) ++ [(1 : UInt8), (0 : UInt8)])) cp45, .bool false] 115, .vec ao44 cp45 1 (bys ((wput 2 ((begF vv ar b).1) (allM u16F (List.map (fun y : RU16 => y) ns)).1) ++ [(1 : UInt8), (0 : UInt8)])) 5, .box bk1 (([uv16 vv] : List Value) ++ ((bys ar) ++ ([.slice ab (List.length b) cb, .slice an (List.length ns) cn, .slice al (List.length xs) cl] : List Value))) 75, .vec (some ⟨bk39, 0, none⟩) 2 1 (bys [(1 : UInt8), (0 : UInt8)]) 5] En106 Hv68 fun ac107 wo108 En109 Hv110 => ?_
    refine f_e ?_
    exact ⟨rfl, ⟨false, En109.sb, Hv110.pk [0, 1, 2, 3], (by first | exact lq_t (by assumption) | exact lq_n (by assumption) (by omega) | exact lq_f (by assumption) (by omega))⟩⟩
 ·
  rintro ac111 wo112 ⟨b2, En113, Hv114, hb2⟩
  refine then_normal ?_
  refine wp_seq ?_
  subst hb2
  refine region_from ?_
  refine d_k [1,2,3,4,42,43] [] 2 En113 fun ac115 En116 => ?_
  refine f_o ?_
  refine m_v 2 35 (.slice al (List.length xs) cl) En116 Hv114 rfl (seg_skip (n := 1) (j := 34) rfl (seg_skip (n := 32) (j := 2) (bys_lenh har) rfl)) fun ac117 En118 => ?_
  refine f_o ?_
  refine c_l [0,1] (M := [.box bw10 [.slice ao44 (List.length ((wput 2 ((begF vv ar b).1) (allM u16F (List.map (fun y : RU16 => y) ns)).1) ++ [(1 : UInt8), (0 : UInt8)])) cp45, .bool ((wbad 2 2 16777215 (List.length (allM u16F (List.map (fun y : RU16 => y) ns)).1) (((begF vv ar b).2) || (allM u16F (List.map (fun y : RU16 => y) ns)).2)) || lastQ (List.map (fun y : RExt => (y.1, y.2.1.l)) xs))] 115, .vec ao44 cp45 1 (bys ((wput 2 ((begF vv ar b).1) (allM u16F (List.map (fun y : RU16 => y) ns)).1) ++ [(1 : UInt8), (0 : UInt8)])) 5]) En118 Hv114 (fun hM121 => wexts_go _ bw10 ao44 cp45 ((wput 2 ((begF vv ar b).1) (allM u16F (List.map (fun y : RU16 => y) ns)).1) ++ [(1 : UInt8), (0 : UInt8)]) ((wbad 2 2 16777215 (List.length (allM u16F (List.map (fun y : RU16 => y) ns)).1) (((begF vv ar b).2) || (allM u16F (List.map (fun y : RU16 => y) ns)).2)) || lastQ (List.map (fun y : RExt => (y.1, y.2.1.l)) xs)) al cl xs (il.go Hv114 [0, 1] (by kernel_rfl) (fun _ h => ⟨h.1, (InB.ev h.2.1 Hv114).pick [0, 1] (by kernel_rfl), h.2.2⟩)) (by omega) (by first | omega | (simp only [List.length_nil, List.length_append, beN_len]; omega) | (simp only [u16F, beN_len, List.length_nil, List.length_append]; omega) | (simp only [wput_len, beN_len, List.length_nil, List.length_append]; omega) | (simp [wput_len, beN_len]; done) | (simp [wput_len, beN_len]; omega)) hM121) ?_
  rintro _ wo122 ⟨wa119, wc120, rfl, he123⟩
  refine ⟨_, _, [.box bw10 [.slice wa119 (List.length ((wexF ((wput 2 ((begF vv ar b).1) (allM u16F (List.map (fun y : RU16 => y) ns)).1) ++ [(1 : UInt8), (0 : UInt8)], (wbad 2 2 16777215 (List.length (allM u16F (List.map (fun y : RU16 => y) ns)).1) (((begF vv ar b).2) || (allM u16F (List.map (fun y : RU16 => y) ns)).2)) || lastQ (List.map (fun y : RExt => (y.1, y.2.1.l)) xs)) (List.map (fun y : RExt => (y.1, y.2.1.l)) xs)).1)) wc120, .bool ((wexF ((wput 2 ((begF vv ar b).1) (allM u16F (List.map (fun y : RU16 => y) ns)).1) ++ [(1 : UInt8), (0 : UInt8)], (wbad 2 2 16777215 (List.length (allM u16F (List.map (fun y : RU16 => y) ns)).1) (((begF vv ar b).2) || (allM u16F (List.map (fun y : RU16 => y) ns)).2)) || lastQ (List.map (fun y : RExt => (y.1, y.2.1.l)) xs)) (List.map (fun y : RExt => (y.1, y.2.1.l)) xs)).2)] 115, .vec wa119 wc120 1 (bys ((wexF ((wput 2 ((begF vv ar b).1) (allM u16F (List.map (fun y : RU16 => y) ns)).1) ++ [(1 : UInt8), (0 : UInt8)], (wbad 2 2 16777215 (List.length (allM u16F (List.map (fun y : RU16 => y) ns)).1) (((begF vv ar b).2) || (allM u16F (List.map (fun y : RU16 => y) ns)).2)) || lastQ (List.map (fun y : RExt => (y.1, y.2.1.l)) xs)) (List.map (fun y : RExt => (y.1, y.2.1.l)) xs)).1)) 5, .box bk1 (([uv16 vv] : List Value) ++ ((bys ar) ++ ([.slice ab (List.length b) cb, .slice an (List.length ns) cn, .slice al (List.length xs) cl] : List Value))) 75, .vec (some ⟨bk39, 0, none⟩) 2 1 (bys [(1 : UInt8), (0 : UInt8)]) 5], rfl, he123, by kernel_rfl, fun ac125 En126 Hv127 => ?_⟩
  refine f_e ?_
  refine then_normal ?_
  refine wp_seq ?_
  refine region_from ?_
  refine d_k [1,2,3,4,46] [] 1 En126 fun ac128 En129 => ?_
  refine f_o ?_
  refine c_l [0,1] (M := [.box bw10 [.slice wa119 (List.length ((wexF ((wput 2 ((begF vv ar b).1) (allM u16F (List.map (fun y : RU16 => y) ns)).1) ++ [(1 : UInt8), (0 : UInt8)], (wbad 2 2 16777215 (List.length (allM u16F (List.map (fun y : RU16 => y) ns)).1) (((begF vv ar b).2) || (allM u16F (List.map (fun y : RU16 => y) ns)).2)) || lastQ (List.map (fun y : RExt => (y.1, y.2.1.l)) xs)) (List.map (fun y : RExt => (y.1, y.2.1.l)) xs)).1)) wc120, .bool ((wexF ((wput 2 ((begF vv ar b).1) (allM u16F (List.map (fun y : RU16 => y) ns)).1) ++ [(1 : UInt8), (0 : UInt8)], (wbad 2 2 16777215 (List.length (allM u16F (List.map (fun y : RU16 => y) ns)).1) (((begF vv ar b).2) || (allM u16F (List.map (fun y : RU16 => y) ns)).2)) || lastQ (List.map (fun y : RExt => (y.1, y.2.1.l)) xs)) (List.map (fun y : RExt => (y.1, y.2.1.l)) xs)).2)] 115, .vec wa119 wc120 1 (bys ((wexF ((wput 2 ((begF vv ar b).1) (allM u16F (List.map (fun y : RU16 => y) ns)).1) ++ [(1 : UInt8), (0 : UInt8)], (wbad 2 2 16777215 (List.length (allM u16F (List.map (fun y : RU16 => y) ns)).1) (((begF vv ar b).2) || (allM u16F (List.map (fun y : RU16 => y) ns)).2)) || lastQ (List.map (fun y : RExt => (y.1, y.2.1.l)) xs)) (List.map (fun y : RExt => (y.1, y.2.1.l)) xs)).1)) 5]) En129 Hv127 (fun hM132 => wdone_go _ bw10 wa119 wc120 ((wexF ((wput 2 ((begF vv ar b).1) (allM u16F (List.map (fun y : RU16 => y) ns)).1) ++ [(1 : UInt8), (0 : UInt8)], (wbad 2 2 16777215 (List.length (allM u16F (List.map (fun y : RU16 => y) ns)).1) (((begF vv ar b).2) || (allM u16F (List.map (fun y : RU16 => y) ns)).2)) || lastQ (List.map (fun y : RExt => (y.1, y.2.1.l)) xs)) (List.map (fun y : RExt => (y.1, y.2.1.l)) xs)).1) ((wexF ((wput 2 ((begF vv ar b).1) (allM u16F (List.map (fun y : RU16 => y) ns)).1) ++ [(1 : UInt8), (0 : UInt8)], (wbad 2 2 16777215 (List.length (allM u16F (List.map (fun y : RU16 => y) ns)).1) (((begF vv ar b).2) || (allM u16F (List.map (fun y : RU16 => y) ns)).2)) || lastQ (List.map (fun y : RExt => (y.1, y.2.1.l)) xs)) (List.map (fun y : RExt => (y.1, y.2.1.l)) xs)).2) hM132) ?_
  rintro _ wo133 ⟨da130, dc131, rfl, he134⟩
  refine ⟨_, _, [.vec da130 dc131 1 (bys (doneL ((wexF ((wput 2 ((begF vv ar b).1) (allM u16F (List.map (fun y : RU16 => y) ns)).1) ++ [(1 : UInt8), (0 : UInt8)], (wbad 2 2 16777215 (List.length (allM u16F (List.map (fun y : RU16 => y) ns)).1) (((begF vv ar b).2) || (allM u16F (List.map (fun y : RU16 => y) ns)).2)) || lastQ (List.map (fun y : RExt => (y.1, y.2.1.l)) xs)) (List.map (fun y : RExt => (y.1, y.2.1.l)) xs)).2) ((wexF ((wput 2 ((begF vv ar b).1) (allM u16F (List.map (fun y : RU16 => y) ns)).1) ++ [(1 : UInt8), (0 : UInt8)], (wbad 2 2 16777215 (List.length (allM u16F (List.map (fun y : RU16 => y) ns)).1) (((begF vv ar b).2) || (allM u16F (List.map (fun y : RU16 => y) ns)).2)) || lastQ (List.map (fun y : RExt => (y.1, y.2.1.l)) xs)) (List.map (fun y : RExt => (y.1, y.2.1.l)) xs)).1))) 5, .box bk1 (([uv16 vv] : List Value) ++ ((bys ar) ++ ([.slice ab (List.length b) cb, .slice an (List.length ns) cn, .slice al (List.length xs) cl] : List Value))) 75, .vec (some ⟨bk39, 0, none⟩) 2 1 (bys [(1 : UInt8), (0 : UInt8)]) 5], rfl, he134, by kernel_rfl, fun ac136 En137 Hv138 => ?_⟩
  refine d_e [1,2,3,4] [] En137 fun ac139 En140 => ?_
  refine then_normal ?_
  refine wp_ret ?_
  refine d_ret1 (t := 2) (v := .slice da130 (List.length (doneL ((wexF ((wput 2 ((begF vv ar b).1) (allM u16F (List.map (fun y : RU16 => y) ns)).1) ++ [(1 : UInt8), (0 : UInt8)], (wbad 2 2 16777215 (List.length (allM u16F (List.map (fun y : RU16 => y) ns)).1) (((begF vv ar b).2) || (allM u16F (List.map (fun y : RU16 => y) ns)).2)) || lastQ (List.map (fun y : RExt => (y.1, y.2.1.l)) xs)) (List.map (fun y : RExt => (y.1, y.2.1.l)) xs)).2) ((wexF ((wput 2 ((begF vv ar b).1) (allM u16F (List.map (fun y : RU16 => y) ns)).1) ++ [(1 : UInt8), (0 : UInt8)], (wbad 2 2 16777215 (List.length (allM u16F (List.map (fun y : RU16 => y) ns)).1) (((begF vv ar b).2) || (allM u16F (List.map (fun y : RU16 => y) ns)).2)) || lastQ (List.map (fun y : RExt => (y.1, y.2.1.l)) xs)) (List.map (fun y : RExt => (y.1, y.2.1.l)) xs)).1))) dc131) En140 (by kernel_rfl) (by kernel_rfl) ?_
  exact ⟨da130, dc131, rfl, Hv138.pk [0]⟩

theorem pserver_go (w : World) (vv : UInt16) (ar : Bs) (har : List.length ar = 32) (ab : Option Addr) (cb : Nat) (b : Bs) (an : Option Addr) (cn : Nat) (ns : List RU16) (al : Option Addr) (cl : Nat) (xs : List RExt) (ib : InB w [] ab cb b) (iln : InS fU16 2 (fun y : RU16 => True) w [] an cn ns) (il : InS fExt 32 (fun y : RExt => (True ∧ (InB w [] y.2.1.a y.2.1.c y.2.1.l ∧ (True)))) w [] al cl xs) (hq0 : List.length (allM exF (List.map (fun y : RExt => (y.1, y.2.1.l)) xs)).1 ≤ 16777216) (hqn : allB u16F (List.map (fun y : RU16 => y) ns)) (hbt : List.length b ≤ 16777216) : Calls Try.prog 74 #[.agg (List.toArray (([uv16 vv] : List Value) ++ ((bys ar) ++ ([.slice ab (List.length b) cb, .slice an (List.length ns) cn, .slice al (List.length xs) cl] : List Value))))] w fun e w' => ∃ a' c', e = .returned (.slice a' (List.length (srvP (vv, ar, b, (List.map (fun y : RU16 => y) ns), (List.map (fun y : RExt => (y.1, y.2.1.l)) xs)))) c') ∧ Ev w [] w' [.vec a' c' 1 (bys (srvP (vv, ar, b, (List.map (fun y : RU16 => y) ns), (List.map (fun y : RExt => (y.1, y.2.1.l)) xs)))) 5] := by
 have hbs := ib.small
 have hza := allB_all hqn
 have hzb : List.length (begF vv ar b).1 = 35 + List.length b := by rw [begF, wput_len, List.length_append, beN_len, har]
 have hzl := il.small
 refine d_0 [(0, .agg (List.toArray (([uv16 vv] : List Value) ++ ((bys ar) ++ ([.slice ab (List.length b) cb, .slice an (List.length ns) cn, .slice al (List.length xs) cl] : List Value)))))] 31 Go.Proofs.Try.func74 Go.Proofs.Try.ntmps74 (Heap.nil _) fun act0 En0 Hv0 => ?_
 refine wp_seq ?_
 refine region_from ?_
 refine f_o ?_
 refine m_m 75 (([uv16 vv] : List Value) ++ ((bys ar) ++ ([.slice ab (List.length b) cb, .slice an (List.length ns) cn, .slice al (List.length xs) cl] : List Value))) En0 Hv0 fun ac2 wo3 bk1 En4 Hv5 => ?_
 refine d_e [1,2] [] En4 fun ac6 En7 => ?_
 refine then_normal ?_
 refine wp_seq ?_
 refine wp_seq ?_
 refine region_from ?_
 refine d_k [1,2,4] [] 1 En7 fun ac8 En9 => ?_
 refine f_o ?_
 refine m_v 0 34 (.slice an (List.length ns) cn) En9 Hv5 rfl (seg_skip (n := 1) (j := 33) rfl (seg_skip (n := 32) (j := 1) (bys_lenh har) rfl)) fun ac10 En11 => ?_
 refine d_e [1,2,7] [] En11 fun ac12 En13 => ?_
 refine then_normal ?_
 refine c_n ((List.length ns : Nat) : Int) (1 : Int) En13 (fun hc14 => ?_) (fun hc14 => ?_)
 ·
  refine wp_seq ?_
  refine d_r [1,2] [] En13 fun ac15 En16 => ?_
  refine then_normal ?_
  refine wp_ret ?_
  refine then_ret ?_
  refine d_ret1 (t := 2) (v := .slice none 0 0) En16 (by kernel_rfl) (by kernel_rfl) ?_
  have hn0 : srvP (vv, ar, b, (List.map (fun y : RU16 => y) ns), (List.map (fun y : RExt => (y.1, y.2.1.l)) xs)) = [] := srv_n (by show ¬ List.length (List.map (fun y : RU16 => y) ns) = 1; rw [List.length_map]; first | assumption | omega)
  rw [hn0]
  exact ⟨none, 0, rfl, (Ev.nil (sz := 1) (T := 5) Hv5).pk [1]⟩
 ·
  refine wp_skip ?_
  refine then_normal ?_
  refine wp_seq ?_
  refine region_from ?_
  refine f_o ?_
  refine m_a 0 0 36 (([uv16 vv] : List Value) ++ ((bys ar) ++ ([.slice ab (List.length b) cb, .slice an (List.length ns) cn, .slice al (List.length xs) cl] : List Value))) En13 Hv5 rfl (load_whole (len_app rfl (len_app (bys_lenh har) rfl))) (len_app rfl (len_app (bys_lenh har) rfl)) fun ac17 En18 => ?_
  refine f_o ?_
  refine c_0 En18 Hv5 (begw_go _ vv ar har ab cb b an al (List.length ns) cn (List.length xs) cl ((ib.ev Hv5).pick [] (by kernel_rfl)) (by omega)) ?_
  rintro _ wo23 ⟨bw19, wa20, wc21, rfl, he24⟩
  refine ⟨_, _, _, rfl, he24, rfl, fun ac26 En27 Hv28 => ?_⟩
  refine d_e [1,2,3] [] En27 fun ac29 En30 => ?_
  refine then_normal ?_
  refine wp_seq ?_
  have hn1 : List.length ns = 1 := by first | assumption | exact Classical.not_not.1 (by assumption) | omega
  have hb31 : 0 < List.length ns := by omega
  obtain ⟨x33, hx32⟩ : ∃ x, (ns)[0]? = some x := ⟨_, List.getElem?_eq_getElem hb31⟩
  obtain _ := iln.each _ (List.mem_of_getElem? hx32)
  have hzu : List.length (u16F ((begF vv ar b).1, (begF vv ar b).2) x33).1 = 37 + List.length b := by rw [u16F, List.length_append, beN_len]; show List.length (begF vv ar b).1 + 2 = _; omega
  have hzv : List.length ((u16F ((begF vv ar b).1, (begF vv ar b).2) x33).1 ++ [0]) = 38 + List.length b := by rw [List.length_append, hzu]; show 37 + List.length b + 1 = _; omega
  refine region_from ?_
  refine d_k [1,2,3,10,11] [] 2 En30 fun ac34 En35 => ?_
  refine f_o ?_
  refine m_v 2 34 (.slice an (List.length ns) cn) En35 Hv28 rfl (seg_skip (n := 1) (j := 33) rfl (seg_skip (n := 32) (j := 1) (bys_lenh har) rfl)) fun ac36 En37 => ?_
  have hb40 : 0 < List.length ns := (by omega)
  obtain ⟨adr38, had39⟩ := some_of iln.nz hb40
  refine f_o ?_
  refine q_v (x := Instr.indexAt 32 (.slice an (List.length ns) cn) (.int .i64 0)) (v := .pointer (some (Addr.add adr38 0))) En37 (Go.Dbr.run_indexsl (e := 37) (sz := 1) (j := 0) (jo := 0) had39 (by kernel_rfl) (by kernel_rfl) (by omega) hb40 (Nat.mul_one _) _) fun ac41 En42 => ?_
  refine f_o ?_
  refine op_loadf (d := some 14) (t := 37) (ad := adr38) (ao := an) (ys := List.flatMap fU16 ns) (o := 0) (v := uv16 x33) En42 (by kernel_rfl) rfl (iln.ro.ev Hv28).reads had39 ((flat_get1 (fun _ _ => rfl) hx32).trans rfl) (by kernel_rfl) ?_
  intro ac43 En44
  refine f_o ?_
  refine c_l [0,1] (M := [.box bw19 [.slice wa20 (List.length ((begF vv ar b).1)) wc21, .bool ((begF vv ar b).2)] 115, .vec wa20 wc21 1 (bys ((begF vv ar b).1)) 5]) En44 Hv28 (fun hM47 => wu16_go _ bw19 wa20 wc21 ((begF vv ar b).1) ((begF vv ar b).2) x33 (by first | omega | (simp only [List.length_nil, List.length_append, beN_len]; omega) | (simp only [u16F, beN_len, List.length_nil, List.length_append]; omega) | (simp only [wput_len, beN_len, List.length_nil, List.length_append]; omega) | (simp [wput_len, beN_len]; done) | (simp [wput_len, beN_len]; omega)) hM47) ?_
  rintro _ wo48 ⟨wa45, wc46, rfl, he49⟩
  refine ⟨_, _, [.box bw19 [.slice wa45 (List.length ((u16F ((begF vv ar b).1, (begF vv ar b).2) x33).1)) wc46, .bool ((u16F ((begF vv ar b).1, (begF vv ar b).2) x33).2)] 115, .vec wa45 wc46 1 (bys ((u16F ((begF vv ar b).1, (begF vv ar b).2) x33).1)) 5, .box bk1 (([uv16 vv] : List Value) ++ ((bys ar) ++ ([.slice ab (List.length b) cb, .slice an (List.length ns) cn, .slice al (List.length xs) cl] : List Value))) 75], rfl, he49, by kernel_rfl, fun ac51 En52 Hv53 => ?_⟩
  refine f_e ?_
  refine then_normal ?_
  refine wp_seq ?_
  refine region_from ?_
  refine d_k [1,2,3,16,19] [] 4 En52 fun ac54 En55 => ?_
  refine f_o ?_
  refine m_l 0 En55 Hv53 fun ac56 En57 => ?_
  refine f_o ?_
  refine op_lit (d := some 21) (t := 23) (T := 5) (m := 1) (parts := #[(0, .int .u8 0)]) (xs := bys [(0 : UInt8)]) (sz := 1) En57 (by kernel_rfl) (by kernel_rfl) rfl (by decide) Hv53 ?_
  intro ac59 wo60 bk58 En61 Hv62
  refine f_o ?_
  refine op_append (d := some 22) (t := 23) (tx := 23) (ty := 23) (k := 1) (p := List.length ((u16F ((begF vv ar b).1, (begF vv ar b).2) x33).1)) (m := 1) (x := .slice (some ⟨bk58, 0, none⟩) 1 1) (bytes := 1) En61 (by kernel_rfl) Hv62 rfl (bys_len _) (Reads.src (size := 1) (tx := 23) (e' := 5) (by kernel_rfl) (Hv62.heap.reads (k := 3) rfl) rfl (fun e => by cases e) (bys_one _)) (by kernel_rfl) (z := .int .u8 0) (by kernel_rfl) rfl (by decide) (by first | omega | (simp [beN_len]; done) | (simp [beN_len]; omega)) (by unfold maxLen; first | omega | (simp [beN_len]; done) | (simp [beN_len]; omega)) ?_
  intro ac67 wo68 ao63 cp64 En69 Hv70 hnz _
  clear hnz
  rw [← bys_append] at Hv70
  have ehz65 : (List.length ((u16F ((begF vv ar b).1, (begF vv ar b).2) x33).1)) + 1 = List.length (((u16F ((begF vv ar b).1, (begF vv ar b).2) x33).1) ++ [(0 : UInt8)]) := (by first | (simp; done) | (simp; omega) | omega)
  rw [ehz65] at En69
  refine d_k [1,2,3,22,24] [] 9 En69 fun ac71 En72 => ?_
  refine f_o ?_
  refine m_s 0 [.box bw19 [.slice ao63 (List.length (((u16F ((begF vv ar b).1, (begF vv ar b).2) x33).1) ++ [(0 : UInt8)])) cp64, .bool ((u16F ((begF vv ar b).1, (begF vv ar b).2) x33).2)] 115, .vec ao63 cp64 1 (bys (((u16F ((begF vv ar b).1, (begF vv ar b).2) x33).1) ++ [(0 : UInt8)])) 5, .box bk1 (([uv16 vv] : List Value) ++ ((bys ar) ++ ([.slice ab (List.length b) cb, .slice an (List.length ns) cn, .slice al (List.length xs) cl] : List Value))) 75, .vec (some ⟨bk58, 0, none⟩) 1 1 (bys [(0 : UInt8)]) 5] En72 Hv70 fun ac73 wo74 En75 Hv76 => ?_
  refine f_e ?_
  refine then_normal ?_
  refine wp_seq ?_
  refine region_from ?_
  refine d_k [1,2,3,25,26] [] 2 En75 fun ac77 En78 => ?_
  refine f_o ?_
  refine m_v 2 35 (.slice al (List.length xs) cl) En78 Hv76 rfl (seg_skip (n := 1) (j := 34) rfl (seg_skip (n := 32) (j := 2) (bys_lenh har) rfl)) fun ac79 En80 => ?_
  refine f_o ?_
  refine c_l [0,1] (M := [.box bw19 [.slice ao63 (List.length (((u16F ((begF vv ar b).1, (begF vv ar b).2) x33).1) ++ [(0 : UInt8)])) cp64, .bool ((u16F ((begF vv ar b).1, (begF vv ar b).2) x33).2)] 115, .vec ao63 cp64 1 (bys (((u16F ((begF vv ar b).1, (begF vv ar b).2) x33).1) ++ [(0 : UInt8)])) 5]) En80 Hv76 (fun hM83 => wexts_go _ bw19 ao63 cp64 (((u16F ((begF vv ar b).1, (begF vv ar b).2) x33).1) ++ [(0 : UInt8)]) ((u16F ((begF vv ar b).1, (begF vv ar b).2) x33).2) al cl xs (il.go Hv76 [0, 1] (by kernel_rfl) (fun _ h => ⟨h.1, (InB.ev h.2.1 Hv76).pick [0, 1] (by kernel_rfl), h.2.2⟩)) (by omega) (by first | omega | (simp only [List.length_nil, List.length_append, beN_len]; omega) | (simp only [u16F, beN_len, List.length_nil, List.length_append]; omega) | (simp only [wput_len, beN_len, List.length_nil, List.length_append]; omega) | (simp [wput_len, beN_len]; done) | (simp [wput_len, beN_len]; omega)) hM83) ?_
  rintro _ wo84 ⟨wa81, wc82, rfl, he85⟩
  refine ⟨_, _, [.box bw19 [.slice wa81 (List.length ((wexF (((u16F ((begF vv ar b).1, (begF vv ar b).2) x33).1) ++ [(0 : UInt8)], (u16F ((begF vv ar b).1, (begF vv ar b).2) x33).2) (List.map (fun y : RExt => (y.1, y.2.1.l)) xs)).1)) wc82, .bool ((wexF (((u16F ((begF vv ar b).1, (begF vv ar b).2) x33).1) ++ [(0 : UInt8)], (u16F ((begF vv ar b).1, (begF vv ar b).2) x33).2) (List.map (fun y : RExt => (y.1, y.2.1.l)) xs)).2)] 115, .vec wa81 wc82 1 (bys ((wexF (((u16F ((begF vv ar b).1, (begF vv ar b).2) x33).1) ++ [(0 : UInt8)], (u16F ((begF vv ar b).1, (begF vv ar b).2) x33).2) (List.map (fun y : RExt => (y.1, y.2.1.l)) xs)).1)) 5, .box bk1 (([uv16 vv] : List Value) ++ ((bys ar) ++ ([.slice ab (List.length b) cb, .slice an (List.length ns) cn, .slice al (List.length xs) cl] : List Value))) 75, .vec (some ⟨bk58, 0, none⟩) 1 1 (bys [(0 : UInt8)]) 5], rfl, he85, by kernel_rfl, fun ac87 En88 Hv89 => ?_⟩
  refine f_e ?_
  refine then_normal ?_
  refine wp_seq ?_
  refine region_from ?_
  refine d_k [1,2,3,29] [] 1 En88 fun ac90 En91 => ?_
  refine f_o ?_
  refine c_l [0,1] (M := [.box bw19 [.slice wa81 (List.length ((wexF (((u16F ((begF vv ar b).1, (begF vv ar b).2) x33).1) ++ [(0 : UInt8)], (u16F ((begF vv ar b).1, (begF vv ar b).2) x33).2) (List.map (fun y : RExt => (y.1, y.2.1.l)) xs)).1)) wc82, .bool ((wexF (((u16F ((begF vv ar b).1, (begF vv ar b).2) x33).1) ++ [(0 : UInt8)], (u16F ((begF vv ar b).1, (begF vv ar b).2) x33).2) (List.map (fun y : RExt => (y.1, y.2.1.l)) xs)).2)] 115, .vec wa81 wc82 1 (bys ((wexF (((u16F ((begF vv ar b).1, (begF vv ar b).2) x33).1) ++ [(0 : UInt8)], (u16F ((begF vv ar b).1, (begF vv ar b).2) x33).2) (List.map (fun y : RExt => (y.1, y.2.1.l)) xs)).1)) 5]) En91 Hv89 (fun hM94 => wdone_go _ bw19 wa81 wc82 ((wexF (((u16F ((begF vv ar b).1, (begF vv ar b).2) x33).1) ++ [(0 : UInt8)], (u16F ((begF vv ar b).1, (begF vv ar b).2) x33).2) (List.map (fun y : RExt => (y.1, y.2.1.l)) xs)).1) ((wexF (((u16F ((begF vv ar b).1, (begF vv ar b).2) x33).1) ++ [(0 : UInt8)], (u16F ((begF vv ar b).1, (begF vv ar b).2) x33).2) (List.map (fun y : RExt => (y.1, y.2.1.l)) xs)).2) hM94) ?_
  rintro _ wo95 ⟨da92, dc93, rfl, he96⟩
  refine ⟨_, _, [.vec da92 dc93 1 (bys (doneL ((wexF (((u16F ((begF vv ar b).1, (begF vv ar b).2) x33).1) ++ [(0 : UInt8)], (u16F ((begF vv ar b).1, (begF vv ar b).2) x33).2) (List.map (fun y : RExt => (y.1, y.2.1.l)) xs)).2) ((wexF (((u16F ((begF vv ar b).1, (begF vv ar b).2) x33).1) ++ [(0 : UInt8)], (u16F ((begF vv ar b).1, (begF vv ar b).2) x33).2) (List.map (fun y : RExt => (y.1, y.2.1.l)) xs)).1))) 5, .box bk1 (([uv16 vv] : List Value) ++ ((bys ar) ++ ([.slice ab (List.length b) cb, .slice an (List.length ns) cn, .slice al (List.length xs) cl] : List Value))) 75, .vec (some ⟨bk58, 0, none⟩) 1 1 (bys [(0 : UInt8)]) 5], rfl, he96, by kernel_rfl, fun ac98 En99 Hv100 => ?_⟩
  refine d_e [1,2,3] [] En99 fun ac101 En102 => ?_
  refine then_normal ?_
  refine wp_ret ?_
  refine d_ret1 (t := 2) (v := .slice da92 (List.length (doneL ((wexF (((u16F ((begF vv ar b).1, (begF vv ar b).2) x33).1) ++ [(0 : UInt8)], (u16F ((begF vv ar b).1, (begF vv ar b).2) x33).2) (List.map (fun y : RExt => (y.1, y.2.1.l)) xs)).2) ((wexF (((u16F ((begF vv ar b).1, (begF vv ar b).2) x33).1) ++ [(0 : UInt8)], (u16F ((begF vv ar b).1, (begF vv ar b).2) x33).2) (List.map (fun y : RExt => (y.1, y.2.1.l)) xs)).1))) dc93) En102 (by kernel_rfl) (by kernel_rfl) ?_
  rw [srv_y (f := (fun y : RU16 => y)) hn1 hx32]
  exact ⟨da92, dc93, rfl, Hv100.pk [0]⟩

end Go.Proofs.Ytofecellbfhnjaa

/- Layer 17: greetings are read by the document. -/



namespace Go.Proofs.Ytofecellbfhnjaa
open Go.Dbr
set_option maxRecDepth 100000
set_option maxHeartbeats 2000000
set_option linter.unusedVariables false
set_option linter.unusedSimpArgs false

end Go.Proofs.Ytofecellbfhnjaa

/- Layer 17: greetings are written by the document. -/



namespace Go.Proofs.Ytofecellbfhnjaa
open Go.Dbr
set_option maxRecDepth 100000
set_option maxHeartbeats 2000000
set_option linter.unusedVariables false
set_option linter.unusedSimpArgs false

end Go.Proofs.Ytofecellbfhnjaa

/- Layer 17: tickets, certificates are compared. -/

namespace Go.Proofs.Ytofecellbfhnjaa
open Go.Dbr
set_option maxRecDepth 100000
set_option maxHeartbeats 2000000
set_option linter.unusedVariables false
set_option linter.unusedSimpArgs false

theorem tup5 {α β γ δ ε : Type} [BEq α] [BEq β] [BEq γ] [BEq δ] [BEq ε] [LawfulBEq α] [LawfulBEq β] [LawfulBEq γ] [LawfulBEq δ] [LawfulBEq ε] {a a' : α} {b b' : β} {c c' : γ} {d d' : δ} {x y : ε} (h1 : a = a') (h2 : b = b') (h3 : c = c') (h4 : d = d') : (x == y) = ((a, b, c, d, x) == (a', b', c', d', y)) := by
  subst h1 h2 h3 h4
  rw [Bool.eq_iff_iff, beq_iff_eq, beq_iff_eq]
  exact ⟨fun h => by rw [h], fun h => by simpa using h⟩
theorem tup_no {α : Type} [BEq α] [LawfulBEq α] {a b : α} (h : ¬ a = b) : false = (a == b) := (beq_false_of_ne h).symm
end Go.Proofs.Ytofecellbfhnjaa

/- Layer 17: greetings are given by the document; compared. -/


namespace Go.Proofs.Ytofecellbfhnjaa
open Go.Dbr
set_option maxRecDepth 100000
set_option maxHeartbeats 2000000
set_option linter.unusedVariables false
set_option linter.unusedSimpArgs false

theorem samehello_go (w : World) (pa : UInt16) (pb : List UInt8) (a_pc : Option Addr) (c_pc : Nat) (pc : List UInt8) (a_pd : Option Addr) (c_pd : Nat) (pd : List (UInt16)) (a_pe : Option Addr) (c_pe : Nat) (pe : List ((UInt16) × (Sl UInt8) × Unit)) (qa : UInt16) (qb : List UInt8) (a_qc : Option Addr) (c_qc : Nat) (qc : List UInt8) (a_qd : Option Addr) (c_qd : Nat) (qd : List (UInt16)) (a_qe : Option Addr) (c_qe : Nat) (qe : List ((UInt16) × (Sl UInt8) × Unit)) (n_pb : (List.length pb = 32)) (i_pc : InB w [] a_pc c_pc pc) (i_pd : InS (fun n : UInt16 => [uv16 n]) 2 (fun x : UInt16 => True) w [] a_pd c_pd pd) (i_pe : InS (fun p : (UInt16) × (Sl UInt8) × Unit => (fun n : UInt16 => [uv16 n]) p.1 ++ (fun p : (Sl UInt8) × Unit => (fun s : Sl UInt8 => s.f) p.1 ++ (fun _ : Unit => []) p.2) p.2) 32 (fun x : (UInt16) × (Sl UInt8) × Unit => (True ∧ (InB w [] x.2.1.a x.2.1.c x.2.1.l ∧ (True)))) w [] a_pe c_pe pe) (n_qb : (List.length qb = 32)) (i_qc : InB w [] a_qc c_qc qc) (i_qd : InS (fun n : UInt16 => [uv16 n]) 2 (fun x : UInt16 => True) w [] a_qd c_qd qd) (i_qe : InS (fun p : (UInt16) × (Sl UInt8) × Unit => (fun n : UInt16 => [uv16 n]) p.1 ++ (fun p : (Sl UInt8) × Unit => (fun s : Sl UInt8 => s.f) p.1 ++ (fun _ : Unit => []) p.2) p.2) 32 (fun x : (UInt16) × (Sl UInt8) × Unit => (True ∧ (InB w [] x.2.1.a x.2.1.c x.2.1.l ∧ (True)))) w [] a_qe c_qe qe) : Calls Try.prog 69 #[.agg (List.toArray (([uv16 pa] : List Value) ++ ((bys pb) ++ ([.slice a_pc (List.length pc) c_pc, .slice a_pd (List.length pd) c_pd, .slice a_pe (List.length pe) c_pe] : List Value)))), .agg (List.toArray (([uv16 qa] : List Value) ++ ((bys qb) ++ ([.slice a_qc (List.length qc) c_qc, .slice a_qd (List.length qd) c_qd, .slice a_qe (List.length qe) c_qe] : List Value))))] w fun e w' => e = .returned (.bool ((pa, pb, pc, List.map (fun y : RU16 => y) pd, List.map (fun y : RExt => (y.1, y.2.1.l)) pe) == (qa, qb, qc, List.map (fun y : RU16 => y) qd, List.map (fun y : RExt => (y.1, y.2.1.l)) qe))) ∧ Ev w [] w' [] := by
 refine d_0 [(0, .agg (List.toArray (([uv16 pa] : List Value) ++ ((bys pb) ++ ([.slice a_pc (List.length pc) c_pc, .slice a_pd (List.length pd) c_pd, .slice a_pe (List.length pe) c_pe] : List Value))))), (1, .agg (List.toArray (([uv16 qa] : List Value) ++ ((bys qb) ++ ([.slice a_qc (List.length qc) c_qc, .slice a_qd (List.length qd) c_qd, .slice a_qe (List.length qe) c_qe] : List Value)))))] 40 Go.Proofs.Try.func69 Go.Proofs.Try.ntmps69 (Heap.nil _) fun act0 En0 Hv0 => ?_
 refine wp_seq ?_
 refine region_from ?_
 refine f_o ?_
 refine m_m 75 (([uv16 pa] : List Value) ++ ((bys pb) ++ ([.slice a_pc (List.length pc) c_pc, .slice a_pd (List.length pd) c_pd, .slice a_pe (List.length pe) c_pe] : List Value))) En0 Hv0 fun ac2 wo3 bk1 En4 Hv5 => ?_
 refine f_o ?_
 refine m_m 75 (([uv16 qa] : List Value) ++ ((bys qb) ++ ([.slice a_qc (List.length qc) c_qc, .slice a_qd (List.length qd) c_qd, .slice a_qe (List.length qe) c_qe] : List Value))) En4 Hv5 fun ac7 wo8 bk6 En9 Hv10 => ?_
 refine d_e [2,3,4] [] En9 fun ac11 En12 => ?_
 refine then_normal ?_
 refine wp_seq ?_
 refine region_from ?_
 refine d_k [2,3,4,5] [] 1 En12 fun ac13 En14 => ?_
 refine f_o ?_
 refine m_v 0 0 (uv16 pa) En14 Hv10 rfl (seg_in rfl) fun ac15 En16 => ?_
 refine d_k [2,3,4,6,7] [] 3 En16 fun ac17 En18 => ?_
 refine f_o ?_
 refine m_v 1 0 (uv16 qa) En18 Hv10 rfl (seg_in rfl) fun ac19 En20 => ?_
 refine d_k [2,3,4,10] [] 6 En20 fun ac21 En22 => ?_
 rcases Bool.eq_false_or_eq_true (((UInt16.toNat pa : Nat) : Int) == ((UInt16.toNat qa : Nat) : Int)) with hb23 | hb23
 ·
  have En24 := En22.fx (t := 10) (congrArg Value.bool hb23)
  have hp25 : ((UInt16.toNat pa : Nat) : Int) = ((UInt16.toNat qa : Nat) : Int) := eq_of_beq hb23
  refine d_k [2,3,4,10,11] [] 7 En24 fun ac26 En27 => ?_
  refine f_o ?_
  refine m_a 0 1 32 (bys pb) En27 Hv10 rfl (by simp [bys_lenh n_pb, List.drop_append, List.take_append]) (bys_lenh n_pb) fun ac28 En29 => ?_
  refine d_k [2,3,4,10,12,13] [] 9 En29 fun ac30 En31 => ?_
  refine f_o ?_
  refine m_a 1 1 32 (bys qb) En31 Hv10 rfl (by simp [bys_lenh n_qb, List.drop_append, List.take_append]) (bys_lenh n_qb) fun ac32 En33 => ?_
  refine f_o ?_
  refine q_v (x := eqOp .eql 29 (.tmp 12) (.tmp 14) (.agg (List.toArray (bys pb))) (.agg (List.toArray (bys qb)))) (v := .bool (pb == qb)) En33 (Go.Dbr.bys_eqop (a := (.tmp 12)) (b := (.tmp 14)) (e := 5) (m := 32) (by kernel_rfl) (by kernel_rfl) (by kernel_rfl) (by kernel_rfl) (by kernel_rfl) n_pb n_qb _) fun ac34 En35 => ?_
  refine d_k [2,3,4,17] [] 13 En35 fun ac36 En37 => ?_
  rcases Bool.eq_false_or_eq_true (pb == qb) with hb38 | hb38
  ·
   have En39 := En37.fx (t := 17) (congrArg Value.bool hb38)
   have hp40 : pb = qb := eq_of_beq hb38
   refine d_k [2,3,4,17,18] [] 14 En39 fun ac41 En42 => ?_
   refine f_o ?_
   refine m_v 0 33 (.slice a_pc (List.length pc) c_pc) En42 Hv10 rfl (seg_skip (n := 1) (j := 32) rfl (seg_skip (n := 32) (j := 0) (bys_lenh n_pb) rfl)) fun ac43 En44 => ?_
   refine f_o ?_
   refine op_str (d := some 20) (src := 23) (dst := 9) (e := 5) (ao := a_pc) (cap := c_pc) (p := List.length pc) (bs := pc) En44 (by kernel_rfl) rfl (by kernel_rfl) (by kernel_rfl) (by kernel_rfl) (i_pc.ev Hv10).reads i_pc.nz ?_
   intro ac45 En46
   refine d_k [2,3,4,17,20,21] [] 17 En46 fun ac47 En48 => ?_
   refine f_o ?_
   refine m_v 1 33 (.slice a_qc (List.length qc) c_qc) En48 Hv10 rfl (seg_skip (n := 1) (j := 32) rfl (seg_skip (n := 32) (j := 0) (bys_lenh n_qb) rfl)) fun ac49 En50 => ?_
   refine f_o ?_
   refine op_str (d := some 23) (src := 23) (dst := 9) (e := 5) (ao := a_qc) (cap := c_qc) (p := List.length qc) (bs := qc) En50 (by kernel_rfl) rfl (by kernel_rfl) (by kernel_rfl) (by kernel_rfl) (i_qc.ev Hv10).reads i_qc.nz ?_
   intro ac51 En52
   refine d_k [2,3,4,26] [(19, g_v (show (.bool (ByteArray.toList (bstr pc) == ByteArray.toList (bstr qc)) : Value) = .bool (pc == qc) by rw [Go.Dbr.bstr_eq pc qc] <;> rfl))] 22 En52 fun ac53 En54 => ?_
   rcases Bool.eq_false_or_eq_true (pc == qc) with hb55 | hb55
   ·
    have En56 := En54.fx (t := 26) (congrArg Value.bool hb55)
    have hp57 : pc = qc := eq_of_beq hb55
    refine d_k [2,3,4,26,27] [] 23 En56 fun ac58 En59 => ?_
    refine f_o ?_
    refine m_v 0 34 (.slice a_pd (List.length pd) c_pd) En59 Hv10 rfl (seg_skip (n := 1) (j := 33) rfl (seg_skip (n := 32) (j := 1) (bys_lenh n_pb) rfl)) fun ac60 En61 => ?_
    refine d_k [2,3,4,26,28,29] [] 25 En61 fun ac62 En63 => ?_
    refine f_o ?_
    refine m_v 1 34 (.slice a_qd (List.length qd) c_qd) En63 Hv10 rfl (seg_skip (n := 1) (j := 33) rfl (seg_skip (n := 32) (j := 1) (bys_lenh n_qb) rfl)) fun ac64 En65 => ?_
    refine f_o ?_
    refine c_p En65 Hv10 (samenum_go _ a_pd c_pd pd (i_pd.go Hv10 [] (by kernel_rfl) (fun _ h => h)) a_qd c_qd qd (i_qd.go Hv10 [] (by kernel_rfl) (fun _ h => h))) fun ac70 wo67 En71 Hv72 => ?_
    refine d_k [2,3,4,33] [] 29 En71 fun ac73 En74 => ?_
    rcases Bool.eq_false_or_eq_true ((List.map (fun y : RU16 => y) pd == List.map (fun y : RU16 => y) qd)) with hb75 | hb75
    ·
     have En76 := En74.fx (t := 33) (congrArg Value.bool hb75)
     have hp77 : List.map (fun y : RU16 => y) pd = List.map (fun y : RU16 => y) qd := by simpa using hb75
     refine d_k [3,4,33,34] [] 30 En76 fun ac78 En79 => ?_
     refine f_o ?_
     refine m_v 0 35 (.slice a_pe (List.length pe) c_pe) En79 Hv72 rfl (seg_skip (n := 1) (j := 34) rfl (seg_skip (n := 32) (j := 2) (bys_lenh n_pb) rfl)) fun ac80 En81 => ?_
     refine d_k [4,33,35,36] [] 32 En81 fun ac82 En83 => ?_
     refine f_o ?_
     refine m_v 1 35 (.slice a_qe (List.length qe) c_qe) En83 Hv72 rfl (seg_skip (n := 1) (j := 34) rfl (seg_skip (n := 32) (j := 2) (bys_lenh n_qb) rfl)) fun ac84 En85 => ?_
     refine f_o ?_
     refine c_p En85 Hv72 (sameext_go _ a_pe c_pe pe (i_pe.go Hv72 [] (by kernel_rfl) (fun _ h => ⟨h.1, (InB.ev h.2.1 Hv72).pick [] (by kernel_rfl), h.2.2⟩)) a_qe c_qe qe (i_qe.go Hv72 [] (by kernel_rfl) (fun _ h => ⟨h.1, (InB.ev h.2.1 Hv72).pick [] (by kernel_rfl), h.2.2⟩))) fun ac90 wo87 En91 Hv92 => ?_
     refine d_e [4] [] En91 fun ac93 En94 => ?_
     refine then_normal ?_
     refine wp_ret ?_
     refine d_ret1 (t := 4) (v := .bool (List.map (fun y : RExt => (y.1, y.2.1.l)) pe == List.map (fun y : RExt => (y.1, y.2.1.l)) qe)) En94 (by kernel_rfl) (by kernel_rfl) ?_
     exact ⟨congrArg (fun b => Ending.returned (Value.bool b)) (tup5 (u16_eq (by assumption)) (by assumption) (by assumption) (by assumption)), Hv92.pk []⟩
    ·
     have En95 := En74.fx (t := 33) (congrArg Value.bool hb75)
     have hp96 : ¬ (List.map (fun y : RU16 => y) pd = List.map (fun y : RU16 => y) qd) := by simpa using hb75
     refine d_e [4] [] En95 fun ac97 En98 => ?_
     refine then_normal ?_
     refine wp_ret ?_
     refine d_ret1 (t := 4) (v := .bool false) En98 (by kernel_rfl) (by kernel_rfl) ?_
     refine ⟨congrArg (fun b => Ending.returned (Value.bool b)) (tup_no fun g => ?_), Hv72.pk []⟩
     simp only [Prod.mk.injEq] at g
     obtain ⟨g1, g2, g3, g4, g5⟩ := g
     first | exact absurd (congrArg (fun z : UInt16 => ((UInt16.toNat z : Nat) : Int)) g1) (by assumption) | exact absurd g2 (by assumption) | exact absurd g3 (by assumption) | exact absurd g4 (by assumption)
   ·
    have En99 := En54.fx (t := 26) (congrArg Value.bool hb55)
    have hp100 : ¬ (pc = qc) := ne_of_beq_false hb55
    refine d_e [4] [] En99 fun ac101 En102 => ?_
    refine then_normal ?_
    refine wp_ret ?_
    refine d_ret1 (t := 4) (v := .bool false) En102 (by kernel_rfl) (by kernel_rfl) ?_
    refine ⟨congrArg (fun b => Ending.returned (Value.bool b)) (tup_no fun g => ?_), Hv10.pk []⟩
    simp only [Prod.mk.injEq] at g
    obtain ⟨g1, g2, g3, g4, g5⟩ := g
    first | exact absurd (congrArg (fun z : UInt16 => ((UInt16.toNat z : Nat) : Int)) g1) (by assumption) | exact absurd g2 (by assumption) | exact absurd g3 (by assumption) | exact absurd g4 (by assumption)
  ·
   have En103 := En37.fx (t := 17) (congrArg Value.bool hb38)
   have hp104 : ¬ (pb = qb) := ne_of_beq_false hb38
   refine d_e [4] [] En103 fun ac105 En106 => ?_
   refine then_normal ?_
   refine wp_ret ?_
   refine d_ret1 (t := 4) (v := .bool false) En106 (by kernel_rfl) (by kernel_rfl) ?_
   refine ⟨congrArg (fun b => Ending.returned (Value.bool b)) (tup_no fun g => ?_), Hv10.pk []⟩
   simp only [Prod.mk.injEq] at g
   obtain ⟨g1, g2, g3, g4, g5⟩ := g
   first | exact absurd (congrArg (fun z : UInt16 => ((UInt16.toNat z : Nat) : Int)) g1) (by assumption) | exact absurd g2 (by assumption) | exact absurd g3 (by assumption) | exact absurd g4 (by assumption)
 ·
  have En107 := En22.fx (t := 10) (congrArg Value.bool hb23)
  have hp108 : ¬ (((UInt16.toNat pa : Nat) : Int) = ((UInt16.toNat qa : Nat) : Int)) := ne_of_beq_false hb23
  refine d_e [4] [] En107 fun ac109 En110 => ?_
  refine then_normal ?_
  refine wp_ret ?_
  refine d_ret1 (t := 4) (v := .bool false) En110 (by kernel_rfl) (by kernel_rfl) ?_
  refine ⟨congrArg (fun b => Ending.returned (Value.bool b)) (tup_no fun g => ?_), Hv10.pk []⟩
  simp only [Prod.mk.injEq] at g
  obtain ⟨g1, g2, g3, g4, g5⟩ := g
  first | exact absurd (congrArg (fun z : UInt16 => ((UInt16.toNat z : Nat) : Int)) g1) (by assumption) | exact absurd g2 (by assumption) | exact absurd g3 (by assumption) | exact absurd g4 (by assumption)

end Go.Proofs.Ytofecellbfhnjaa

/- Layer 17: greetings: both read and write the same. -/



namespace Go.Proofs.Ytofecellbfhnjaa
open Go.Dbr
set_option maxRecDepth 100000
set_option maxHeartbeats 2000000
set_option linter.unusedVariables false
set_option linter.unusedSimpArgs false

theorem exts_s2 {l : Bs} {s o : Bool} (h : (extsM l s o).2.2.1 = false) : s = false := by
  cases s with
  | false => rfl
  | true => rw [exts_t] at h; exact h
theorem many_s2 {α : Type} {one : Bs → Bool → Bool → α × PS} {n x : Nat} {l : Bs} {s o : Bool} (h : (manyM one n x l s o).2.2.1 = false) : s = false := by
  cases s with
  | false => rfl
  | true => rw [many_t] at h; exact h
end Go.Proofs.Ytofecellbfhnjaa

/- Layer 17: greetings are read back; a cut one is short. -/


namespace Go.Proofs.Ytofecellbfhnjaa
open Go.Dbr
set_option maxRecDepth 100000
set_option maxHeartbeats 2000000
set_option linter.unusedVariables false
set_option linter.unusedSimpArgs false

theorem u16_enc : Enc u16F (fun v => beN 2 v.toNat) (fun _ => false) := fun p x => by rw [u16F, Bool.or_false]
theorem u16_back : Back u16M (fun v => beN 2 v.toNat) (fun _ => false) := fun x r o _ => by
  have hk := tk_back r (beN_len 2 x.toNat)
  rw [u16M, nb_back _ (u16_256 _), hk.2.1, hk.2.2, UInt16.ofNat_toNat]
theorem u16_ne (x : UInt16) : beN 2 x.toNat ≠ [] := fun g => by
  have := congrArg List.length g
  rw [beN_len] at this
  simp at this
theorem pad32_id {l : Bs} (h : l.length = 32) : pad32 l = l := by rw [pad32, h]; simp
def eBg (v : UInt16) (ar b : Bs) : Bs := beN 2 v.toNat ++ (ar ++ wput 1 [] b)
theorem begF_enc (v : UInt16) (ar b : Bs) : begF v ar b = (eBg v ar b, dbad 1 0 32 b.length) := by rw [begF, wd_eq, wput_0, eBg, List.append_assoc, Bool.false_or]
theorem beg_back {v : UInt16} {ar b : Bs} (ha : ar.length = 32) (h : dbad 1 0 32 b.length = false) (r : Bs) (o : Bool) : begM (eBg v ar b ++ r) false o = ((v, ar, b), r, false, o) := by
  have e : eBg v ar b ++ r = beN 2 v.toNat ++ (ar ++ (wput 1 [] b ++ r)) := by rw [eBg, List.append_assoc, List.append_assoc]
  have h1 := tk_back (ar ++ (wput 1 [] b ++ r)) (beN_len 2 v.toNat)
  have h2 := tk_back (wput 1 [] b ++ r) ha
  have h3 := ls_back r h
  rw [begM, e, nb_back _ (u16_256 _), h1.2.1, h1.2.2, h2.1, h2.2.1, h2.2.2, h3.1, h3.2.1, h3.2.2, pad32_id ha, UInt16.ofNat_toNat]
def eNs (ns : List UInt16) : Bs := wput 2 [] (List.flatMap (fun v => beN 2 v.toNat) ns)
def bNs (ns : List UInt16) : Bool := dbad 2 2 16777215 (List.flatMap (fun v : UInt16 => beN 2 v.toNat) ns).length
theorem any_f {β : Type} (ps : List β) : List.any ps (fun _ => false) = false := by induction ps with
  | nil => rfl
  | cons x r ih => rw [List.any_cons, ih]; rfl
theorem nmsF_enc (p : WS) (ns : List UInt16) : nmsF p ns = (p.1 ++ eNs ns, p.2 || bNs ns) := by rw [nmsF, wd_eq, enc_all u16_enc, wput_0, eNs, bNs, any_f, Bool.or_false]
theorem nums_back {ns : List UInt16} (h : bNs ns = false) (r : Bs) (o : Bool) : manyM u16M 2 2 (eNs ns ++ r) false o = (ns, r, false, o) := many_back u16_back u16_ne r o (any_f ns) h
def eCl (x : HL) : Bs := eBg x.1 x.2.1 x.2.2.1 ++ (eNs x.2.2.2.1 ++ (wput 1 [] [0] ++ eXs x.2.2.2.2))
def bCl (x : HL) : Bool := dbad 1 0 32 x.2.2.1.length || (bNs x.2.2.2.1 || (lastQ x.2.2.2.2 || bXs x.2.2.2.2))
theorem cliF_enc (x : HL) : cliF x = (eCl x, bCl x) := by
  rw [cliF, nmsF_enc, begF_enc, wexF_enc, eCl, bCl]
  have e : wput 1 [] [0] = [1, 0] := rfl
  rw [e]
  simp [List.append_assoc, Bool.or_assoc]
theorem cli_back {x : HL} (ha : x.2.1.length = 32) (h : 0 < (cliP x).length) : cliM (cliP x) false false = (x, [], false, false) := by
  have hd := doneL_pos h
  rw [cliF_enc] at hd
  have hb : bCl x = false := hd.1
  rw [cliP, cliF_enc, hd.2]
  rw [bCl, Bool.or_eq_false_iff, Bool.or_eq_false_iff, Bool.or_eq_false_iff] at hb
  show cliM (eCl x) false false = _
  have hB := beg_back (v := x.1) ha hb.1 (eNs x.2.2.2.1 ++ (wput 1 [] [0] ++ eXs x.2.2.2.2)) false
  have hN := nums_back hb.2.1 (wput 1 [] [0] ++ eXs x.2.2.2.2) false
  have h1 := ls_back (n := 1) (x := 1) (y := 1) (b := [0]) (eXs x.2.2.2.2) rfl
  have hX := exts_back x.2.2.2.2 [] false hb.2.2.2
  rw [List.append_nil] at hX
  have eG : cgM (eCl x) false false = (x.2.2.2.1, wput 1 [] [0] ++ eXs x.2.2.2.2, false, false) := by rw [cgM, eCl, hB]; exact hN
  have eX : cxM (eCl x) false false = (x.2.2.2.2, [], false, false) := by
    rw [cxM, eG]
    show extsM (lsR 1 1 1 (wput 1 [] [0] ++ eXs x.2.2.2.2) false) (lsS 1 1 1 (wput 1 [] [0] ++ eXs x.2.2.2.2) false) (false || cz (lsO 1 1 1 (wput 1 [] [0] ++ eXs x.2.2.2.2) false)) = _
    rw [h1.1, h1.2.1, h1.2.2]
    exact hX
  rw [cliM, eX, eG, eCl, hB]
  show (_, _, _, false || lastQ x.2.2.2.2) = _
  rw [hb.2.2.1]
  rfl
/-! more bytes behind change nothing, where it isn't short -/
theorem tk_app {n : Nat} {l : Bs} {s : Bool} (r : Bs) (h : tkS n l s = false) : tkO n (l ++ r) s = tkO n l s ∧ tkR n (l ++ r) s = tkR n l s ++ r ∧ tkS n (l ++ r) s = false := by
  rw [tkS, Bool.or_eq_false_iff, decide_eq_false_iff_not] at h
  have h1 : tkS n l s = false := by rw [tkS, h.1, decide_eq_false h.2]; rfl
  have h2 : tkS n (l ++ r) s = false := by rw [tkS, h.1, decide_eq_false (by rw [List.length_append]; omega)]; rfl
  refine ⟨?_, ?_, h2⟩
  · rw [tkO, tkO, h1, h2, Bool.cond_false, Bool.cond_false, List.take_append_of_le_length (by omega)]
  · rw [tkR, tkR, h1, h2, Bool.cond_false, Bool.cond_false, List.drop_append_of_le_length (by omega)]
theorem ls_app {n x y : Nat} {l : Bs} {s : Bool} (r : Bs) (h : lsS n x y l s = false) : lsO n x y (l ++ r) s = lsO n x y l s ∧ lsR n x y (l ++ r) s = lsR n x y l s ++ r ∧ lsS n x y (l ++ r) s = false := by
  have h1 := tk_app r (lsS_f h).1
  have hn : nbV n (l ++ r) s = nbV n l s := by rw [nbV, h1.1, nbV]
  have ht : lsT n x y (l ++ r) s = lsT n x y l s := by rw [lsT, lsT, hn, h1.2.2, (lsS_f h).1]
  have h2 := tk_app (n := nbV n l s) (l := tkR n l s) (s := lsT n x y l s) r h
  refine ⟨?_, ?_, ?_⟩
  · rw [lsO, ht, hn, h1.2.1, h2.1, lsO]
  · rw [lsR, ht, hn, h1.2.1, h2.2.1, lsR]
  · rw [lsS, ht, hn, h1.2.1, h2.2.2]
theorem many_app {α : Type} {one : Bs → Bool → Bool → α × PS} {n x : Nat} {l : Bs} {s o : Bool} (r : Bs) (h : (manyM one n x l s o).2.2.1 = false) : manyM one n x (l ++ r) s o = ((manyM one n x l s o).1, (manyM one n x l s o).2.1 ++ r, false, (manyM one n x l s o).2.2.2) := by
  have h' : (lsS n x 16777215 l s || (mn one (lsO n x 16777215 l s, lsS n x 16777215 l s, false)).2.2.1) = false := h
  have hh := Bool.or_eq_false_iff.1 h'
  have hl := ls_app r hh.1
  have e2 : (mn one (lsO n x 16777215 l s, false, false)).2.2.1 = false := by have q := hh.2; rw [hh.1] at q; exact q
  rw [manyM, hl.1, hl.2.1, hl.2.2, manyM, hh.1, e2]
  rfl
theorem exts_app {l : Bs} {s o : Bool} (r : Bs) (h : (extsM l s o).2.2.1 = false) : extsM (l ++ r) s o = ((extsM l s o).1, (extsM l s o).2.1 ++ r, false, (extsM l s o).2.2.2) := by
  rw [extsM, many_app r h]
  rfl
theorem beg_app {l : Bs} {s o : Bool} (r : Bs) (h : (begM l s o).2.2.1 = false) : begM (l ++ r) s o = ((begM l s o).1, (begM l s o).2.1 ++ r, false, (begM l s o).2.2.2) := by
  have h3 : lsS 1 0 32 (tkR 32 (tkR 2 l s) (tkS 2 l s)) (tkS 32 (tkR 2 l s) (tkS 2 l s)) = false := h
  have h2 := (lsS_f h3).2
  have h1 := ss_f h2
  have a1 := tk_app r h1
  have a2 := tk_app (n := 32) (l := tkR 2 l s) (s := tkS 2 l s) r h2
  have a3 := ls_app (n := 1) (x := 0) (y := 32) (l := tkR 32 (tkR 2 l s) (tkS 2 l s)) (s := tkS 32 (tkR 2 l s) (tkS 2 l s)) r h3
  have hn : nbV 2 (l ++ r) s = nbV 2 l s := by rw [nbV, a1.1, nbV]
  have e1 : tkS 2 (l ++ r) s = tkS 2 l s := by rw [a1.2.2, h1]
  have e2 : tkS 32 (tkR 2 l s ++ r) (tkS 2 l s) = tkS 32 (tkR 2 l s) (tkS 2 l s) := by rw [a2.2.2, h2]
  rw [begM, hn, a1.2.1, e1, a2.1, a2.2.1, e2, a3.1, a3.2.1, a3.2.2]
  rfl
theorem cg_app {l : Bs} {s o : Bool} (r : Bs) (h : (cgM l s o).2.2.1 = false) : cgM (l ++ r) s o = ((cgM l s o).1, (cgM l s o).2.1 ++ r, false, (cgM l s o).2.2.2) := by
  have h0 : (begM l s o).2.2.1 = false := many_s2 h
  have hb := beg_app r h0
  rw [cgM, hb]
  have h' : (manyM u16M 2 2 (begM l s o).2.1 false (begM l s o).2.2.2).2.2.1 = false := by
    have q : (manyM u16M 2 2 (begM l s o).2.1 (begM l s o).2.2.1 (begM l s o).2.2.2).2.2.1 = false := h
    rw [h0] at q
    exact q
  show manyM u16M 2 2 ((begM l s o).2.1 ++ r) false (begM l s o).2.2.2 = _
  rw [many_app r h', cgM, h0]
theorem cx_app {l : Bs} {s o : Bool} (r : Bs) (h : (cxM l s o).2.2.1 = false) : cxM (l ++ r) s o = ((cxM l s o).1, (cxM l s o).2.1 ++ r, false, (cxM l s o).2.2.2) := by
  have h1 : lsS 1 1 1 (cgM l s o).2.1 (cgM l s o).2.2.1 = false := exts_s2 h
  have h0 : (cgM l s o).2.2.1 = false := (lsS_f h1).2
  have hg := cg_app r h0
  have h1' : lsS 1 1 1 (cgM l s o).2.1 false = false := by have q := h1; rw [h0] at q; exact q
  have hl := ls_app r h1'
  have h' : (extsM (lsR 1 1 1 (cgM l s o).2.1 false) false ((cgM l s o).2.2.2 || cz (lsO 1 1 1 (cgM l s o).2.1 false))).2.2.1 = false := by
    have q : (extsM (lsR 1 1 1 (cgM l s o).2.1 (cgM l s o).2.2.1) (lsS 1 1 1 (cgM l s o).2.1 (cgM l s o).2.2.1) ((cgM l s o).2.2.2 || cz (lsO 1 1 1 (cgM l s o).2.1 (cgM l s o).2.2.1))).2.2.1 = false := h
    rw [h0, h1'] at q
    exact q
  rw [cxM, hg]
  show extsM (lsR 1 1 1 ((cgM l s o).2.1 ++ r) false) (lsS 1 1 1 ((cgM l s o).2.1 ++ r) false) ((cgM l s o).2.2.2 || cz (lsO 1 1 1 ((cgM l s o).2.1 ++ r) false)) = _
  rw [hl.1, hl.2.1, hl.2.2, exts_app r h', cxM, h0, h1']
/-- a greeting that was cut is short -/
theorem cli_cut {l : Bs} {k : Nat} (h : (cliM l false false).2.1 = []) (hk : k < l.length) : gotA (cliM (List.take k l) false false) = 50 := by
  cases e : (cliM (List.take k l) false false).2.2.1 with
  | true => rw [gotA, e, endV, if_pos (.inl rfl)]
  | false =>
    have e : (cxM (List.take k l) false false).2.2.1 = false := e
    have ha := cx_app (List.drop k l) e
    rw [List.take_append_drop] at ha
    have h : (cxM l false false).2.1 = [] := h
    rw [ha] at h
    have h2 : List.drop k l = [] := (List.append_eq_nil_iff.1 h).2
    have h3 := congrArg List.length h2
    rw [List.length_drop, List.length_nil] at h3
    omega

end Go.Proofs.Ytofecellbfhnjaa

/- Layer 17: what was read is written back the same. -/

namespace Go.Proofs.Ytofecellbfhnjaa
open Go.Dbr
set_option maxRecDepth 100000
set_option maxHeartbeats 2000000
set_option linter.unusedVariables false
set_option linter.unusedSimpArgs false

theorem beN_beV : ∀ (k : Nat) (b : Bs), b.length = k → beN k (beV b) = b
  | 0, b, h => by rw [List.length_eq_zero_iff.1 h]; rfl
  | k + 1, b, h => by
    have hne : b ≠ [] := fun g => by rw [g] at h; cases h
    obtain ⟨c, x, rfl⟩ : ∃ c x, b = c ++ [x] := ⟨_, _, (List.dropLast_concat_getLast hne).symm⟩
    have hc : c.length = k := by rw [List.length_append, List.length_singleton] at h; omega
    have hx := x.toNat_lt
    have h1 : (beV c * 256 + x.toNat) / 256 = beV c := by omega
    have h2 : UInt8.ofNat (beV c * 256 + x.toNat) = x := UInt8.toNat_inj.1 (by rw [UInt8.toNat_ofNat']; omega)
    rw [beV_snoc, beN_succ, h1, h2, beN_beV k c hc]
theorem tk_rev {n : Nat} {l : Bs} (h : tkS n l false = false) : l = tkO n l false ++ tkR n l false ∧ (tkO n l false).length = n := by
  have hl := h
  rw [tkS, Bool.false_or, decide_eq_false_iff_not] at hl
  rw [tkO, tkR, h, Bool.cond_false, Bool.cond_false, List.take_append_drop, List.length_take]
  exact ⟨rfl, by omega⟩
theorem nb_rev {n : Nat} {l : Bs} (h : tkS n l false = false) : beN n (nbV n l false) = tkO n l false := beN_beV n _ (tk_rev h).2
theorem ls_rev {n x y : Nat} {l : Bs} (h : lsS n x y l false = false) : l = wput n [] (lsO n x y l false) ++ lsR n x y l false ∧ dbad n x y (lsO n x y l false).length = false := by
  have h1 := (lsS_f h).1
  have ht : lsT n x y l false = false := ss_f (n := nbV n l false) (l := tkR n l false) h
  have h2 : tkS (nbV n l false) (tkR n l false) false = false := by have q : tkS (nbV n l false) (tkR n l false) (lsT n x y l false) = false := h; rw [ht] at q; exact q
  have r1 := tk_rev h1
  have r2 := tk_rev h2
  have eO : lsO n x y l false = tkO (nbV n l false) (tkR n l false) false := by rw [lsO, ht]
  have eR : lsR n x y l false = tkR (nbV n l false) (tkR n l false) false := by rw [lsR, ht]
  have hlen : (lsO n x y l false).length = nbV n l false := by rw [eO]; exact r2.2
  constructor
  · have e : wput n [] (lsO n x y l false) ++ lsR n x y l false = beN n (lsO n x y l false).length ++ (lsO n x y l false ++ lsR n x y l false) := by simp [wput, List.append_assoc]
    rw [e, hlen, nb_rev h1, eO, eR, ← r2.1]
    exact r1.1
  · have hb : nbV n l false < 2 ^ (8 * n) := by
      have q := beV_lt n (tkO n l false) r1.2
      rwa [show (256 : Nat) ^ n = 2 ^ (8 * n) by rw [Nat.pow_mul]] at q
    rw [lsT, h1, Bool.false_or, Bool.or_eq_false_iff] at ht
    rw [dbad, hlen, ht.1, ht.2, decide_eq_false (by omega)]
    rfl
def Rev {β : Type} (one : Bs → Bool → Bool → β × PS) (e : β → Bs) (b : β → Bool) : Prop := ∀ l o, (one l false o).2.2.1 = false → (one l false o).2.2.2 = false → l = e (one l false o).1 ++ (one l false o).2.1 ∧ b (one l false o).1 = false ∧ o = false
theorem mnf_rev {β : Type} {one : Bs → Bool → Bool → β × PS} {e : β → Bs} {b : β → Bool} (h : Rev one e b) (hd : Dec one) : ∀ (f : Nat) (l : Bs) (o : Bool), l.length ≤ f → (mnf one f (l, false, o)).2.2.1 = false → (mnf one f (l, false, o)).2.2.2 = false → l = List.flatMap e (mnf one f (l, false, o)).1 ∧ List.any (mnf one f (l, false, o)).1 b = false ∧ o = false
  | 0, l, o, hf, _, h2 => by
    have : l = [] := List.length_eq_zero_iff.1 (by omega)
    subst this
    exact ⟨rfl, rfl, h2⟩
  | f + 1, l, o, hf, h1, h2 => by
    by_cases hl : l = []
    · subst hl
      rw [mnf_end (.inr rfl)] at h1 h2 ⊢
      exact ⟨rfl, rfl, h2⟩
    · have hp : ¬ (((l, false, o) : PS).2.1 = true ∨ ((l, false, o) : PS).1 = []) := by rintro (g | g); cases g; exact hl g
      have em : mnf one (f + 1) (l, false, o) = ((one l false o).1 :: (mnf one f (one l false o).2).1, (mnf one f (one l false o).2).2) := by rw [mnf, if_neg hp]
      rw [em] at h1 h2 ⊢
      cases es : (one l false o).2.2.1 with
      | true => rw [mnf_end (.inl es)] at h1; rw [es] at h1; cases h1
      | false =>
        have ep : (one l false o).2 = ((one l false o).2.1, false, (one l false o).2.2.2) := Prod.ext rfl (Prod.ext es rfl)
        rw [ep] at h1 h2 ⊢
        have ih := mnf_rev h hd f (one l false o).2.1 (one l false o).2.2.2 (by have := hd.lt l o hl es; omega) h1 h2
        have hh := h l o es ih.2.2
        refine ⟨?_, ?_, hh.2.2⟩
        · rw [List.flatMap_cons, ← ih.1]; exact hh.1
        · rw [List.any_cons, hh.2.1, ih.2.1]; rfl
theorem many_rev {β : Type} {one : Bs → Bool → Bool → β × PS} {e : β → Bs} {b : β → Bool} (h : Rev one e b) (hd : Dec one) {n x : Nat} {l : Bs} {o : Bool} (h1 : (manyM one n x l false o).2.2.1 = false) (h2 : (manyM one n x l false o).2.2.2 = false) : l = wput n [] (List.flatMap e (manyM one n x l false o).1) ++ (manyM one n x l false o).2.1 ∧ dbad n x 16777215 (List.flatMap e (manyM one n x l false o).1).length = false ∧ List.any (manyM one n x l false o).1 b = false ∧ o = false := by
  have h1 : (lsS n x 16777215 l false || (mn one (lsO n x 16777215 l false, lsS n x 16777215 l false, false)).2.2.1) = false := h1
  have h2 : (o || (mn one (lsO n x 16777215 l false, lsS n x 16777215 l false, false)).2.2.2) = false := h2
  rw [Bool.or_eq_false_iff] at h1 h2
  have hl := ls_rev h1.1
  have e1 : (manyM one n x l false o).1 = (mn one (lsO n x 16777215 l false, false, false)).1 := by rw [manyM, h1.1]
  have g1 := h1.2
  have g2 := h2.2
  rw [h1.1] at g1 g2
  have hm := mnf_rev h hd _ (lsO n x 16777215 l false) false (Nat.le_refl _) g1 g2
  have hm1 : lsO n x 16777215 l false = List.flatMap e (mn one (lsO n x 16777215 l false, false, false)).1 := hm.1
  rw [e1]
  refine ⟨?_, ?_, hm.2.1, h2.1⟩
  · rw [← hm1]; exact hl.1
  · rw [← hm1]; exact hl.2
theorem ext_rev : Rev extM eX (fun x => dbad 2 0 65535 x.2.length) := fun l o h1 h2 => by
  have h1 : lsS 2 0 65535 (tkR 2 l false) (tkS 2 l false) = false := h1
  have f1 : tkS 2 l false = false := (lsS_f h1).2
  rw [f1] at h1
  have r1 := tk_rev f1
  have r2 := ls_rev h1
  have hn : nbV 2 l false < 65536 := beV_lt 2 _ r1.2
  have en : (UInt16.ofNat (nbV 2 l false)).toNat = nbV 2 l false := by rw [UInt16.toNat_ofNat']; exact Nat.mod_eq_of_lt hn
  refine ⟨?_, ?_, h2⟩
  · show l = (beN 2 (UInt16.ofNat (nbV 2 l false)).toNat ++ wput 2 [] (lsO 2 0 65535 (tkR 2 l false) (tkS 2 l false))) ++ lsR 2 0 65535 (tkR 2 l false) (tkS 2 l false)
    rw [en, f1, nb_rev f1, List.append_assoc, ← r2.1]
    exact r1.1
  · show dbad 2 0 65535 (lsO 2 0 65535 (tkR 2 l false) (tkS 2 l false)).length = false
    rw [f1]
    exact r2.2
theorem u16_rev : Rev u16M (fun v => beN 2 v.toNat) (fun _ => false) := fun l o h1 h2 => by
  have f1 : tkS 2 l false = false := h1
  have r1 := tk_rev f1
  have hn : nbV 2 l false < 65536 := beV_lt 2 _ r1.2
  have en : (UInt16.ofNat (nbV 2 l false)).toNat = nbV 2 l false := by rw [UInt16.toNat_ofNat']; exact Nat.mod_eq_of_lt hn
  refine ⟨?_, rfl, h2⟩
  show l = beN 2 (UInt16.ofNat (nbV 2 l false)).toNat ++ tkR 2 l false
  rw [en, nb_rev f1]
  exact r1.1
theorem exts_rev : Rev extsM eXs bXs := fun l o h1 h2 => by
  have h2 : ((manyM extM 2 0 l false o).2.2.2 || dupA (manyM extM 2 0 l false o).1) = false := h2
  rw [Bool.or_eq_false_iff] at h2
  have hm := many_rev ext_rev ext_dec (n := 2) (x := 0) (l := l) (o := o) h1 h2.1
  refine ⟨hm.1, ?_, hm.2.2.2⟩
  show bXs (manyM extM 2 0 l false o).1 = false
  rw [bXs, h2.2, hm.2.1, hm.2.2.1]
  rfl
theorem cr_rev : Rev entM eCr bCr := fun l o h1 h2 => by
  have h1 : (extsM (lsR 3 1 16777215 l false) (lsS 3 1 16777215 l false) o).2.2.1 = false := h1
  have h2 : (extsM (lsR 3 1 16777215 l false) (lsS 3 1 16777215 l false) o).2.2.2 = false := h2
  have f1 := exts_s2 h1
  rw [f1] at h1 h2
  have r1 := ls_rev f1
  have r2 := exts_rev _ _ h1 h2
  refine ⟨?_, ?_, r2.2.2⟩
  · show l = (wput 3 [] (lsO 3 1 16777215 l false) ++ eXs (extsM (lsR 3 1 16777215 l false) (lsS 3 1 16777215 l false) o).1) ++ (extsM (lsR 3 1 16777215 l false) (lsS 3 1 16777215 l false) o).2.1
    rw [f1, List.append_assoc, ← r2.1]
    exact r1.1
  · show (dbad 3 1 16777215 (lsO 3 1 16777215 l false).length || bXs (extsM (lsR 3 1 16777215 l false) (lsS 3 1 16777215 l false) o).1) = false
    rw [f1, r1.2, r2.2.1]
    rfl
theorem end_0 {α : Type} {q : α × PS} (h : gotA q = 0) : q.2.2.1 = false ∧ q.2.1 = [] ∧ q.2.2.2 = false := by
  rw [gotA, endV] at h
  split at h
  · exact absurd h (by decide)
  · rename_i h1
    split at h
    · exact absurd h (by decide)
    · rename_i h2
      rw [not_or] at h1
      exact ⟨Bool.eq_false_iff.2 h1.1, List.length_eq_zero_iff.1 (by omega), Bool.eq_false_iff.2 h2⟩
theorem cert_rev {l : Bs} (h : gotA (certM l false false) = 0) : certP (gotV ([], []) (certM l false false)) = l := by
  rw [gotV_0 h]
  obtain ⟨h1, h3, h2⟩ := end_0 h
  have h1 : (manyM entM 3 0 (lsR 1 0 255 l false) (lsS 1 0 255 l false) false).2.2.1 = false := h1
  have h2 : (manyM entM 3 0 (lsR 1 0 255 l false) (lsS 1 0 255 l false) false).2.2.2 = false := h2
  have h3 : (manyM entM 3 0 (lsR 1 0 255 l false) (lsS 1 0 255 l false) false).2.1 = [] := h3
  have f1 := many_s2 h1
  rw [f1] at h1 h2 h3
  have r1 := ls_rev f1
  have r2 := many_rev cr_rev ent_dec h1 h2
  rw [h3, List.append_nil] at r2
  have ev : (certM l false false).1 = (lsO 1 0 255 l false, (manyM entM 3 0 (lsR 1 0 255 l false) false false).1) := by rw [certM, f1]
  rw [ev, certP, certF_enc, bCm, eCm]
  show doneL (false || ((dbad 1 0 255 (lsO 1 0 255 l false).length || _) || _)) ([] ++ (wput 1 [] (lsO 1 0 255 l false) ++ wput 3 [] _)) = l
  rw [r1.2, r2.2.2.1, r2.2.1, ← r2.1, List.nil_append, ← r1.1]
  rfl
theorem beg_rev {l : Bs} {o : Bool} (h : (begM l false o).2.2.1 = false) : l = eBg (begM l false o).1.1 (begM l false o).1.2.1 (begM l false o).1.2.2 ++ (begM l false o).2.1 ∧ dbad 1 0 32 (begM l false o).1.2.2.length = false := by
  have h3 : lsS 1 0 32 (tkR 32 (tkR 2 l false) (tkS 2 l false)) (tkS 32 (tkR 2 l false) (tkS 2 l false)) = false := h
  have h2 := (lsS_f h3).2
  have h1 := ss_f h2
  rw [h2] at h3
  rw [h1] at h2 h3
  have r1 := tk_rev h1
  have r2 := tk_rev h2
  have r3 := ls_rev h3
  have hn : nbV 2 l false < 65536 := beV_lt 2 _ r1.2
  have en : (UInt16.ofNat (nbV 2 l false)).toNat = nbV 2 l false := by rw [UInt16.toNat_ofNat']; exact Nat.mod_eq_of_lt hn
  have eb : begM l false o = ((UInt16.ofNat (nbV 2 l false), tkO 32 (tkR 2 l false) false, lsO 1 0 32 (tkR 32 (tkR 2 l false) false) false), lsR 1 0 32 (tkR 32 (tkR 2 l false) false) false, lsS 1 0 32 (tkR 32 (tkR 2 l false) false) false, o) := by rw [begM, h1, h2, pad32_id r2.2]
  rw [eb]
  refine ⟨?_, r3.2⟩
  show l = (beN 2 (UInt16.ofNat (nbV 2 l false)).toNat ++ (tkO 32 (tkR 2 l false) false ++ wput 1 [] (lsO 1 0 32 (tkR 32 (tkR 2 l false) false) false))) ++ lsR 1 0 32 (tkR 32 (tkR 2 l false) false) false
  rw [en, nb_rev h1, List.append_assoc, List.append_assoc, ← r3.1, ← r2.1]
  exact r1.1
theorem cz_one {v : Bs} (h : v.length = 1) (g : cz v = false) : v = [0] := by
  match v, h with
  | [x], _ =>
    have g : (decide (([x] : Bs).length = 1) && (x != 0)) = false := g
    have e : x = 0 := by simpa using g
    rw [e]
theorem dbad_1 {k : Nat} (h : dbad 1 1 1 k = false) : k = 1 := by
  rw [dbad, Bool.or_eq_false_iff, Bool.or_eq_false_iff, decide_eq_false_iff_not, decide_eq_false_iff_not] at h
  omega
theorem cli_rev {l : Bs} (h : gotA (cliM l false false) = 0) : cliP (cliM l false false).1 = l := by
  obtain ⟨h1, h3, h2⟩ := end_0 h
  have h1 : (cxM l false false).2.2.1 = false := h1
  have h2 : ((cxM l false false).2.2.2 || lastQ (cxM l false false).1) = false := h2
  have h3 : (cxM l false false).2.1 = [] := h3
  rw [Bool.or_eq_false_iff] at h2
  have fl : lsS 1 1 1 (cgM l false false).2.1 (cgM l false false).2.2.1 = false := exts_s2 h1
  have fg : (cgM l false false).2.2.1 = false := (lsS_f fl).2
  have fb : (begM l false false).2.2.1 = false := many_s2 fg
  have ex : cxM l false false = extsM (lsR 1 1 1 (cgM l false false).2.1 false) false ((cgM l false false).2.2.2 || cz (lsO 1 1 1 (cgM l false false).2.1 false)) := by rw [cxM, fl, fg]
  rw [ex] at h1 h2 h3
  rw [fg] at fl
  have rx := exts_rev _ _ h1 h2.1
  rw [h3, List.append_nil] at rx
  have rl := ls_rev fl
  have ho := Bool.or_eq_false_iff.1 rx.2.2
  have hv := cz_one (dbad_1 rl.2) ho.2
  have eg : cgM l false false = manyM u16M 2 2 (begM l false false).2.1 false false := by rw [cgM, fb]; rfl
  have g1 := fg
  have g2 := ho.1
  rw [eg] at g1 g2
  have rn := many_rev u16_rev u16_dec g1 g2
  rw [← eg] at rn
  have rb := beg_rev fb
  have e1 : (cliM l false false).1 = ((begM l false false).1.1, (begM l false false).1.2.1, (begM l false false).1.2.2, (cgM l false false).1, (cxM l false false).1) := rfl
  rw [e1, cliP, cliF_enc]
  have hb : bCl ((begM l false false).1.1, (begM l false false).1.2.1, (begM l false false).1.2.2, (cgM l false false).1, (cxM l false false).1) = false := by
    show (dbad 1 0 32 (begM l false false).1.2.2.length || (bNs (cgM l false false).1 || (lastQ (cxM l false false).1 || bXs (cxM l false false).1))) = false
    rw [rb.2, ex, h2.2, rx.2.1, bNs, rn.2.1]
    rfl
  show doneL (bCl _) (eCl _) = l
  rw [hb]
  show eBg (begM l false false).1.1 (begM l false false).1.2.1 (begM l false false).1.2.2 ++ (eNs (cgM l false false).1 ++ (wput 1 [] [0] ++ eXs (cxM l false false).1)) = l
  rw [ex, ← rx.1, ← hv, ← rl.1, eNs, ← rn.1]
  exact rb.1.symm

end Go.Proofs.Ytofecellbfhnjaa
