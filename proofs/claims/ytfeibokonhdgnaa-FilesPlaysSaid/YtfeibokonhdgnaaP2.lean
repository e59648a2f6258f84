/- Layer 2: the document's store is written. -/
import Derived.Test.YtfeibokonhdgnaaP1
import Derived.Test.YtfeibokonhdgnaaK4
namespace Go.Proofs.Ytfeibokonhdgnaa
open Go.Dbr
set_option maxRecDepth 100000
set_option maxHeartbeats 2000000
set_option linter.unusedVariables false
set_option linter.unusedSimpArgs false

def tornX (name : Bs) (xs : List RF) : Bool := match xs[plc name xs]? with
  | some x => hitX name xs && x.2.2.1
  | none => false
theorem tornX_hit {name : Bs} {xs : List RF} {x : RF} (hh : hitX name xs = true) (hx : xs[plc name xs]? = some x) : tornX name xs = x.2.2.1 := by
  have e : tornX name xs = (hitX name xs && x.2.2.1) := by unfold tornX; rw [hx]
  rw [e, hh, Bool.true_and]
theorem tornX_no {name : Bs} {xs : List RF} (hh : ¬ hitX name xs = true) : tornX name xs = false := by
  unfold tornX
  split
  · rw [Bool.eq_false_iff.2 hh, Bool.false_and]
  · rfl
def cutX (name : Bs) (xs : List RF) : List RF := xs.take (plc name xs) ++ xs.drop (plc name xs + 1)
theorem cut_eq (name : Bs) (xs : List RF) : [] ++ List.take (plc name xs) xs ++ List.drop (plc name xs + 1) xs = cutX name xs := by rw [cutX]; simp
/-- what is read of the document's -/
theorem rdr_1 {lo lf : Bs} {k : Nat} (h : k < lo.length) : lf.take k ++ lo.drop k = rdL lo lf k := by rw [rdL, Nat.min_eq_left (by omega)]
theorem rdr_2 {lo lf : Bs} {k : Nat} (h : ¬ k < lo.length) : lf.take k = rdL lo lf k := by rw [rdL, Nat.min_eq_right (by omega), List.drop_length, List.append_nil]

theorem rput_bad (w : World) (tb : Nat) (ax : Option Addr) (cx : Nat) (xs : List RF) (h64 : List.length xs ≤ 64) (name : List UInt8) (hnm : List.length name ≤ 140737488351232) (a : Option Addr) (c : Nat) (l : List UInt8) (i : InB w [.box tb [.slice ax (List.length xs) cx] 43, .vec ax cx 5 (List.flatMap fRF xs) 48] a c l) (hm : ¬ mayX name (List.length l) (hitX name xs) (List.length xs) = 0) (hH : Heap w [.box tb [.slice ax (List.length xs) cx] 43, .vec ax cx 5 (List.flatMap fRF xs) 48]) : Calls Try.prog 23 #[pt tb, .string (bstr name), .slice a (List.length l) c] w fun e w' => e = .returned (.int .i64 (mayX name (List.length l) (hitX name xs) (List.length xs))) ∧ Ev w [.box tb [.slice ax (List.length xs) cx] 43, .vec ax cx 5 (List.flatMap fRF xs) 48] w' [.box tb [.slice ax (List.length xs) cx] 43, .vec ax cx 5 (List.flatMap fRF xs) 48] := by
 have hsm := i.small
 have hcp := i.cap
 have hml := made_len name xs
 refine d_0 [(0, pt tb), (1, .string (bstr name)), (2, .slice a (List.length l) c)] 30 Go.Proofs.Try.func23 Go.Proofs.Try.ntmps23 (hH) fun act0 En0 Hv0 => ?_
 refine d_s [0,1,2,6] [] En0 fun ac1 En2 => ?_
 refine wp_seq ?_
 refine region_from ?_
 refine d_k [0,1,2,6,9,10,11] [] 3 En2 fun ac3 En4 => ?_
 refine f_o ?_
 refine c_l [0,1] (M := [.box tb [.slice ax (List.length xs) cx] 43, .vec ax cx 5 (List.flatMap fRF xs) 48]) En4 Hv0 (fun hM5 => mayr_go _ tb ax cx xs (by first | omega | (simp; done) | (simp; omega)) name (by first | assumption | omega | decide | (simp; done)) a (List.length l) c (by first | omega | (simp; done) | (simp; omega)) hM5) ?_
 rintro _ wo6 ⟨rfl, he7⟩
 refine ⟨_, _, [.box tb [.slice ax (List.length xs) cx] 43, .vec ax cx 5 (List.flatMap fRF xs) 48], rfl, he7, by kernel_rfl, fun ac9 En10 Hv11 => ?_⟩
 refine d_e [0,1,2,6,7] [] En10 fun ac12 En13 => ?_
 refine then_normal ?_
 refine wp_seq ?_
 refine d_s [0,1,2,6,7,14] [(1, g_b (show (mayX name (List.length l) (hitX name xs) (List.length xs) != (0 : Int)) = true from (by rw [bne, mayX_bad hm]; rfl)))] En13 fun ac14 En15 => ?_
 refine c_t En15 ?_
 refine d_s [0,1,2,6,7] [] En15 fun ac16 En17 => ?_
 refine wp_ret ?_
 refine then_ret ?_
 refine d_ret1 (t := 6) (v := .int .i64 (mayX name (List.length l) (hitX name xs) (List.length xs))) En17 (by kernel_rfl) (by kernel_rfl) ?_
 exact ⟨rfl, Hv11.pick [0, 1] (by kernel_rfl) (by decide)⟩

theorem rput_ok (w : World) (tb : Nat) (ax : Option Addr) (cx : Nat) (xs : List RF) (h64 : List.length xs ≤ 64) (name : List UInt8) (hnm : List.length name ≤ 140737488351232) (a : Option Addr) (c : Nat) (l : List UInt8) (i : InB w [.box tb [.slice ax (List.length xs) cx] 43, .vec ax cx 5 (List.flatMap fRF xs) 48] a c l) (hm : mayX name (List.length l) (hitX name xs) (List.length xs) = 0) (hH : Heap w [.box tb [.slice ax (List.length xs) cx] 43, .vec ax cx 5 (List.flatMap fRF xs) 48]) : Calls Try.prog 23 #[pt tb, .string (bstr name), .slice a (List.length l) c] w fun e w' => ∃ ay cy ao co, e = .returned (.int .i64 0) ∧ Ev w [.box tb [.slice ax (List.length xs) cx] 43, .vec ax cx 5 (List.flatMap fRF xs) 48] w' [.box tb [.slice ay (List.length (List.set (madeX name xs) (plc name xs) (name, ⟨ao, co, l⟩, false, ⟨none, 0, []⟩, 0, ()))) cy] 43, .vec ay cy 5 (List.flatMap fRF (List.set (madeX name xs) (plc name xs) (name, ⟨ao, co, l⟩, false, ⟨none, 0, []⟩, 0, ()))) 48, .vec ao co 1 (bys l) 5] := by
 have hsm := i.small
 have hcp := i.cap
 have hml := made_len name xs
 refine d_0 [(0, pt tb), (1, .string (bstr name)), (2, .slice a (List.length l) c)] 30 Go.Proofs.Try.func23 Go.Proofs.Try.ntmps23 (hH) fun act0 En0 Hv0 => ?_
 refine d_s [0,1,2,6] [] En0 fun ac1 En2 => ?_
 refine wp_seq ?_
 refine region_from ?_
 refine d_k [0,1,2,6,9,10,11] [] 3 En2 fun ac3 En4 => ?_
 refine f_o ?_
 refine c_l [0,1] (M := [.box tb [.slice ax (List.length xs) cx] 43, .vec ax cx 5 (List.flatMap fRF xs) 48]) En4 Hv0 (fun hM5 => mayr_go _ tb ax cx xs (by first | omega | (simp; done) | (simp; omega)) name (by first | assumption | omega | decide | (simp; done)) a (List.length l) c (by first | omega | (simp; done) | (simp; omega)) hM5) ?_
 rintro _ wo6 ⟨rfl, he7⟩
 refine ⟨_, _, [.box tb [.slice ax (List.length xs) cx] 43, .vec ax cx 5 (List.flatMap fRF xs) 48], rfl, he7, by kernel_rfl, fun ac9 En10 Hv11 => ?_⟩
 refine d_e [0,1,2,6,7] [] En10 fun ac12 En13 => ?_
 refine then_normal ?_
 refine wp_seq ?_
 refine d_s [0,1,2,6,7,14] [(1, g_b (show (mayX name (List.length l) (hitX name xs) (List.length xs) != (0 : Int)) = false from (by rw [hm]; rfl)))] En13 fun ac14 En15 => ?_
 refine c_f En15 ?_
 refine wp_skip ?_
 refine then_normal ?_
 refine wp_seq ?_
 refine region_from ?_
 refine d_k [0,1,2,6,7,16,17] [] 2 En15 fun ac16 En17 => ?_
 refine f_o ?_
 refine c_l [0,1] (M := [.box tb [.slice ax (List.length xs) cx] 43, .vec ax cx 5 (List.flatMap fRF xs) 48]) En17 Hv11 (fun hM20 => made_go _ tb ax cx xs (by first | omega | (simp; done) | (simp; omega)) name (by first | assumption | omega | decide | (simp; done)) hM20) ?_
 rintro _ wo21 ⟨ay18, cy19, rfl, he22⟩
 refine ⟨_, _, [.box tb [.slice ay18 (List.length (madeX name xs)) cy19] 43, .vec ay18 cy19 5 (List.flatMap fRF (madeX name xs)) 48], rfl, he22, by kernel_rfl, fun ac24 En25 Hv26 => ?_⟩
 refine d_e [0,1,2,6,7,8] [] En25 fun ac27 En28 => ?_
 refine then_normal ?_
 refine wp_seq ?_
 refine r_c (fun ac wo => ∃ (ao132 : Option Addr) (cp133 : Nat), Env ac 30 [(0, pt tb), (1, .string (bstr name)), (2, .slice a (List.length l) c), (6, .int .i64 0), (7, .int .i64 (mayX name (List.length l) (hitX name xs) (List.length xs)))] ∧ Ev w [.box tb [.slice ax (List.length xs) cx] 43, .vec ax cx 5 (List.flatMap fRF xs) 48] wo [.box tb [.slice ay18 (List.length (madeX name xs)) cy19] 43, .vec ay18 cy19 5 (List.flatMap fRF (List.set (madeX name xs) (plc name xs) (name, ⟨ao132, cp133, l⟩, false, ⟨none, 0, []⟩, (0 : Int), ()))) 48, .vec ao132 cp133 1 (bys l) 5]) ?_ ?_
 ·
  refine h_s (fun wv => Ev w [.box tb [.slice ax (List.length xs) cx] 43, .vec ax cx 5 (List.flatMap fRF xs) 48] wv [.box tb [.slice ay18 (List.length (madeX name xs)) cy19] 43]) [] 12 ?_
  have wo29 := Hv26.trans (Ev.drew Hv26.heap)
  refine q_s [0,1,2] [] 9 En28 (wo29.pick [0] (by kernel_rfl) (by decide)) fun ac155 En156 => ?_
  refine q_l 0 3 En156 (wo29.pick [0] (by kernel_rfl) (by decide)) fun ac157 En158 => ?_
  refine q_s [4,5,7] [] 5 En158 (wo29.pick [0] (by kernel_rfl) (by decide)) fun ac159 En160 => ?_
  refine q_t 6 ?_
  refine op_lit (d := some 25) (t := 22) (T := 5) (m := 0) (parts := #[]) (xs := bys []) (sz := 1) En160 (by kernel_rfl) (by kernel_rfl) rfl (by decide) wo29 ?_
  intro ac162 wo163 bk161 En164 Hv165
  refine ⟨fun _ => Hv165.pick [0] (by kernel_rfl) (by decide), ?_⟩
  refine q_t 8 ?_
  have hsm166 := i.small
  refine op_append (d := some 27) (t := 22) (tx := 22) (ty := 22) (k := 2) (p := 0) (m := List.length l) (x := .slice a (List.length l) c) (bytes := 1) En164 (by kernel_rfl) Hv165 rfl rfl (Reads.src (size := 1) (tx := 22) (e' := 5) (by kernel_rfl) (i.ev Hv165).reads (bys_len _) i.nz (bys_one _)) (by kernel_rfl) (z := .int .u8 0) (by kernel_rfl) rfl (by decide) (by omega) (by unfold maxLen; omega) ?_
  intro ac171 wo172 ao167 cp168 En173 Hv174 hnz _
  clear hnz
  rw [bys_nil_append] at Hv174
  have ehz169 : 0 + (List.length l) = List.length l := (by first | (simp; done) | (simp; omega) | omega)
  rw [ehz169] at En173
  refine ⟨fun _ => Hv174.pick [0] (by kernel_rfl) (by decide), ?_⟩
  have hb177 : plc name xs < List.length (madeX name xs) := (by omega)
  obtain ⟨adr175, had176⟩ := some_of (sv_nz (f := fRF) (sz := 5) Hv174.heap (k := 1) rfl (fun _ => rfl) (by decide)) hb177
  have hb178 : plc name xs < List.length (madeX name xs) := by omega
  obtain ⟨⟨x180a, ⟨a_x180b, c_x180b, x180b⟩, x180c, ⟨a_x180d, c_x180d, x180d⟩, x180e, _⟩, hx179⟩ : ∃ x, (madeX name xs)[plc name xs]? = some x := ⟨_, List.getElem?_eq_getElem hb178⟩
  refine q_s [9] [] 2 En173 (Hv174.pick [0] (by kernel_rfl) (by decide)) fun ac181 En182 => ?_
  refine q_f 10 (s := Instr.indexAt 41 (.slice ay18 (List.length (madeX name xs)) cy19) (.int .i64 ((plc name xs : Nat) : Int))) (v := .pointer (some (Addr.add adr175 ((plc name xs) * 5)))) En182 (fun _ => Go.Dbr.run_indexsl (e := 48) (sz := 5) (j := plc name xs) (jo := (plc name xs) * 5) had176 (by kernel_rfl) (by kernel_rfl) (by omega) hb177 rfl _) (fun _ => Hv174.pick [0] (by kernel_rfl) (by decide)) fun ac183 En184 => ?_
  refine q_t 11 ?_
  refine op_storerec (d := none) (t := 48) (ad := adr175) (ao := ay18) (k := 1) (cap := cy19) (sz := 5) (j := plc name xs) (f := fRF) (xs := madeX name xs) (y := (name, ⟨ao167, cp168, l⟩, false, ⟨none, 0, []⟩, (0 : Int), ())) (v := .agg #[.string (bstr name), .slice ao167 (List.length l) cp168, .bool false, .slice none 0 0, .int .i64 0]) En184 (by kernel_rfl) rfl Hv174 rfl had176 (fun _ => rfl) (by first | omega | (simp; done) | (simp; omega)) (by kernel_rfl) (by kernel_rfl) (one_all rfl) ?_
  intro ac185 wo186  En187 Hv188
  have hls189 : List.length (List.set (madeX name xs) (plc name xs) (name, ⟨ao167, cp168, l⟩, false, ⟨none, 0, []⟩, (0 : Int), ())) = List.length (madeX name xs) := List.length_set
  refine ⟨fun _ => Hv188.pick [0] (by kernel_rfl) (by decide), ?_⟩
  exact h_e ⟨ao167, cp168, En187.sub (by kernel_rfl), Hv188.pick [0, 1, 2] (by kernel_rfl) (by decide)⟩
 rintro ac190 wo191 ⟨ao132, cp133, En192, Hv193⟩
 refine then_normal ?_
 refine d_s [0,1,2,6,7] [] En192 fun ac194 En195 => ?_
 refine wp_ret ?_
 refine d_ret1 (t := 6) (v := .int .i64 0) En195 (by kernel_rfl) (by kernel_rfl) ?_
 have hfin0 : Ev w [.box tb [.slice ax (List.length xs) cx] 43, .vec ax cx 5 (List.flatMap fRF xs) 48] wo191 [.box tb [.slice ay18 (List.length (madeX name xs)) cy19] 43, .vec ay18 cy19 5 (List.flatMap fRF (List.set (madeX name xs) (plc name xs) (name, ⟨ao132, cp133, l⟩, false, ⟨none, 0, []⟩, (0 : Int), ()))) 48, .vec ao132 cp133 1 (bys l) 5] := Hv193.pick [0, 1, 2] (by kernel_rfl) (by decide)
 have hfin : Ev w [.box tb [.slice ax (List.length xs) cx] 43, .vec ax cx 5 (List.flatMap fRF xs) 48] wo191 [.box tb [.slice ay18 (List.length (List.set (madeX name xs) (plc name xs) (name, ⟨ao132, cp133, l⟩, false, ⟨none, 0, []⟩, 0, ()))) cy19] 43, .vec ay18 cy19 5 (List.flatMap fRF (List.set (madeX name xs) (plc name xs) (name, ⟨ao132, cp133, l⟩, false, ⟨none, 0, []⟩, 0, ()))) 48, .vec ao132 cp133 1 (bys l) 5] := by simpa only [List.length_set, List.set_set] using hfin0
 exact ⟨ay18, cy19, ao132, cp133, rfl, hfin⟩

theorem rtear_bad (w : World) (tb : Nat) (ax : Option Addr) (cx : Nat) (xs : List RF) (h64 : List.length xs ≤ 64) (name : List UInt8) (hnm : List.length name ≤ 140737488351232) (a : Option Addr) (c : Nat) (l : List UInt8) (i : InB w [.box tb [.slice ax (List.length xs) cx] 43, .vec ax cx 5 (List.flatMap fRF xs) 48] a c l) (k : Int) (hm : ¬ mayX name (List.length l) (hitX name xs) (List.length xs) = 0) (hH : Heap w [.box tb [.slice ax (List.length xs) cx] 43, .vec ax cx 5 (List.flatMap fRF xs) 48]) : Calls Try.prog 24 #[pt tb, .string (bstr name), .slice a (List.length l) c, .int .i64 k] w fun e w' => e = .returned (.int .i64 (mayX name (List.length l) (hitX name xs) (List.length xs))) ∧ Ev w [.box tb [.slice ax (List.length xs) cx] 43, .vec ax cx 5 (List.flatMap fRF xs) 48] w' [.box tb [.slice ax (List.length xs) cx] 43, .vec ax cx 5 (List.flatMap fRF xs) 48] := by
 have hsm := i.small
 have hcp := i.cap
 have hml := made_len name xs
 refine d_0 [(0, pt tb), (1, .string (bstr name)), (2, .slice a (List.length l) c), (3, .int .i64 k)] 72 Go.Proofs.Try.func24 Go.Proofs.Try.ntmps24 (hH) fun act0 En0 Hv0 => ?_
 refine d_s [0,1,2,3,8] [] En0 fun ac1 En2 => ?_
 refine wp_seq ?_
 refine region_from ?_
 refine d_k [0,1,2,3,8,12,13,14] [] 3 En2 fun ac3 En4 => ?_
 refine f_o ?_
 refine c_l [0,1] (M := [.box tb [.slice ax (List.length xs) cx] 43, .vec ax cx 5 (List.flatMap fRF xs) 48]) En4 Hv0 (fun hM5 => mayr_go _ tb ax cx xs (by first | omega | (simp; done) | (simp; omega)) name (by first | assumption | omega | decide | (simp; done)) a (List.length l) c (by first | omega | (simp; done) | (simp; omega)) hM5) ?_
 rintro _ wo6 ⟨rfl, he7⟩
 refine ⟨_, _, [.box tb [.slice ax (List.length xs) cx] 43, .vec ax cx 5 (List.flatMap fRF xs) 48], rfl, he7, by kernel_rfl, fun ac9 En10 Hv11 => ?_⟩
 refine d_e [0,1,2,3,8,9] [] En10 fun ac12 En13 => ?_
 refine then_normal ?_
 refine wp_seq ?_
 refine d_s [0,1,2,3,8,9,17] [(1, g_b (show (mayX name (List.length l) (hitX name xs) (List.length xs) != (0 : Int)) = true from (by rw [bne, mayX_bad hm]; rfl)))] En13 fun ac14 En15 => ?_
 refine c_t En15 ?_
 refine d_s [0,1,2,3,8,9] [] En15 fun ac16 En17 => ?_
 refine wp_ret ?_
 refine then_ret ?_
 refine d_ret1 (t := 8) (v := .int .i64 (mayX name (List.length l) (hitX name xs) (List.length xs))) En17 (by kernel_rfl) (by kernel_rfl) ?_
 exact ⟨rfl, Hv11.pick [0, 1] (by kernel_rfl) (by decide)⟩

theorem rtear_torn (w : World) (tb : Nat) (ax : Option Addr) (cx : Nat) (xs : List RF) (h64 : List.length xs ≤ 64) (name : List UInt8) (hnm : List.length name ≤ 140737488351232) (a : Option Addr) (c : Nat) (l : List UInt8) (i : InB w [.box tb [.slice ax (List.length xs) cx] 43, .vec ax cx 5 (List.flatMap fRF xs) 48] a c l) (k : Int) (hm : mayX name (List.length l) (hitX name xs) (List.length xs) = 0) (htt : tornX name xs = true) (hH : Heap w [.box tb [.slice ax (List.length xs) cx] 43, .vec ax cx 5 (List.flatMap fRF xs) 48]) : Calls Try.prog 24 #[pt tb, .string (bstr name), .slice a (List.length l) c, .int .i64 k] w fun e w' => e = .returned (.int .i64 25) ∧ Ev w [.box tb [.slice ax (List.length xs) cx] 43, .vec ax cx 5 (List.flatMap fRF xs) 48] w' [.box tb [.slice ax (List.length xs) cx] 43, .vec ax cx 5 (List.flatMap fRF xs) 48] := by
 have hsm := i.small
 have hcp := i.cap
 have hml := made_len name xs
 refine d_0 [(0, pt tb), (1, .string (bstr name)), (2, .slice a (List.length l) c), (3, .int .i64 k)] 72 Go.Proofs.Try.func24 Go.Proofs.Try.ntmps24 (hH) fun act0 En0 Hv0 => ?_
 refine wp_seq ?_
 refine d_r [0,1,2,3,8] [] En0 fun ac1 En2 => ?_
 refine then_normal ?_
 refine wp_seq ?_
 refine region_from ?_
 refine d_k [0,1,2,3,8,12,13,14] [] 3 En2 fun ac3 En4 => ?_
 refine f_o ?_
 refine c_l [0,1] (M := [.box tb [.slice ax (List.length xs) cx] 43, .vec ax cx 5 (List.flatMap fRF xs) 48]) En4 Hv0 (fun hM5 => mayr_go _ tb ax cx xs (by first | omega | (simp; done) | (simp; omega)) name (by first | assumption | omega | decide | (simp; done)) a (List.length l) c (by first | omega | (simp; done) | (simp; omega)) hM5) ?_
 rintro _ wo6 ⟨rfl, he7⟩
 refine ⟨_, _, [.box tb [.slice ax (List.length xs) cx] 43, .vec ax cx 5 (List.flatMap fRF xs) 48], rfl, he7, by kernel_rfl, fun ac9 En10 Hv11 => ?_⟩
 refine d_e [0,1,2,3,8,9] [] En10 fun ac12 En13 => ?_
 refine then_normal ?_
 refine wp_seq ?_
 refine wp_seq ?_
 refine d_r [0,1,2,3,8,9,17] [(1, g_b (show (mayX name (List.length l) (hitX name xs) (List.length xs) != (0 : Int)) = false from (by rw [hm]; rfl)))] En13 fun ac14 En15 => ?_
 refine then_normal ?_
 refine c_f En15 ?_
 refine wp_skip ?_
 refine then_normal ?_
 refine wp_seq ?_
 refine region_from ?_
 refine d_k [0,1,2,3,8,9,20,21] [] 2 En15 fun ac16 En17 => ?_
 refine f_o ?_
 refine c_l [0,1] (M := [.box tb [.slice ax (List.length xs) cx] 43, .vec ax cx 5 (List.flatMap fRF xs) 48]) En17 Hv11 (fun hM18 => at_go _ tb ax cx xs (by first | omega | (simp; done) | (simp; omega)) name (by first | assumption | omega | decide | (simp; done)) hM18) ?_
 rintro _ wo19 ⟨rfl, he20⟩
 refine ⟨_, _, [.box tb [.slice ax (List.length xs) cx] 43, .vec ax cx 5 (List.flatMap fRF xs) 48], rfl, he20, by kernel_rfl, fun ac22 En23 Hv24 => ?_⟩
 refine d_e [0,1,2,3,8,9,10,11] [] En23 fun ac25 En26 => ?_
 refine then_normal ?_
 refine wp_seq ?_
 refine wp_seq ?_
 refine region_from ?_
 refine d_k [0,1,2,3,8,9,10,26] [] 2 En26 fun ac27 En28 => ?_
 rcases Bool.eq_false_or_eq_true (hitX name xs) with hb29 | hb29
 ·
  have En30 := En28.fx (t := 26) (congrArg Value.bool hb29)
  have hp31 : hitX name xs = true := hb29
  refine d_k [0,1,2,3,8,9,10,26,29] [] 5 En30 fun ac32 En33 => ?_
  refine f_o ?_
  refine m_l 0 En33 Hv24 fun ac34 En35 => ?_
  have hb38 : plc name xs < List.length xs := (by first | omega | exact hit_lt (by assumption))
  obtain ⟨adr36, had37⟩ := some_of (sv_nz (f := fRF) (sz := 5) Hv24.heap (k := 1) rfl (fun _ => rfl) (by decide)) hb38
  have hb39 : plc name xs < List.length xs := by omega
  obtain ⟨⟨x41a, ⟨a_x41b, c_x41b, x41b⟩, x41c, ⟨a_x41d, c_x41d, x41d⟩, x41e, _⟩, hx40⟩ : ∃ x, (xs)[plc name xs]? = some x := ⟨_, List.getElem?_eq_getElem hb39⟩
  refine d_k [0,1,2,3,8,9,10,26,30,31] [] 7 En35 fun ac42 En43 => ?_
  refine f_o ?_
  refine q_v (x := Instr.indexAt 41 (.slice ax (List.length xs) cx) (.int .i64 ((plc name xs : Nat) : Int))) (v := .pointer (some (Addr.add adr36 ((plc name xs) * 5)))) En43 (Go.Dbr.run_indexsl (e := 48) (sz := 5) (j := plc name xs) (jo := (plc name xs) * 5) had37 (by kernel_rfl) (by kernel_rfl) (by omega) hb38 rfl _) fun ac44 En45 => ?_
  refine d_k [0,1,2,3,8,9,10,26,33] [] 9 En45 fun ac46 En47 => ?_
  refine f_o ?_
  refine op_loadf (d := some 34) (t := 4) (ad := adr36) (ao := ax) (ys := List.flatMap fRF xs) (o := (plc name xs) * 5 + 2) (v := .bool x41c) En47 (by kernel_rfl) (Deep.add_add _ _ _) (Hv24.heap.reads (k := 1) rfl) had37 ((flat_get (sz := 5) (j := 2) (fun _ _ => rfl) hx40 (by decide)).trans rfl) (by kernel_rfl) ?_
  intro ac48 En49
  refine d_e [0,1,2,3,8,9,10,35] [] En49 fun ac50 En51 => ?_
  refine then_normal ?_
  refine cond_at En51 (t := x41c) (by kernel_rfl) (fun hc52 => ?_) (fun hc52 => ?_)
  ·
   replace hc52 : x41c = true := hc52
   refine wp_seq ?_
   refine d_r [0,1,2,3,8,9,10] [] En51 fun ac53 En54 => ?_
   refine then_normal ?_
   refine wp_ret ?_
   refine then_ret ?_
   refine d_ret1 (t := 8) (v := .int .i64 25) En54 (by kernel_rfl) (by kernel_rfl) ?_
   exact ⟨rfl, Hv24.pick [0, 1] (by kernel_rfl) (by decide)⟩
  ·
   replace hc52 : ¬ (x41c = true) := Bool.eq_false_iff.1 hc52
   exact absurd (htt.symm.trans (tornX_hit (by assumption) hx40)) (by simp_all)
 ·
  have En55 := En28.fx (t := 26) (congrArg Value.bool hb29)
  have hp56 : ¬ (hitX name xs = true) := Bool.eq_false_iff.1 hb29
  refine d_e [0,1,2,3,8,9,10,35] [] En55 fun ac57 En58 => ?_
  refine then_normal ?_
  refine c_f En58 ?_
  refine wp_skip ?_
  refine then_normal ?_
  refine wp_seq ?_
  refine wp_seq ?_
  refine region_from ?_
  refine d_k [0,1,2,3,8,9,10,38] [] 3 En58 fun ac59 En60 => ?_
  rcases Bool.eq_false_or_eq_true (decide (k < (0 : Int))) with hb61 | hb61
  ·
   have En62 := En60.fx (t := 38) (congrArg Value.bool hb61)
   have hp63 : k < (0 : Int) := of_decide_eq_true hb61
   refine d_e [0,1,2,3,8,9,10,43] [] En62 fun ac64 En65 => ?_
   refine then_normal ?_
   refine c_t En65 ?_
   refine wp_seq ?_
   refine d_r [0,1,2,3,8,9,10] [] En65 fun ac66 En67 => ?_
   refine then_normal ?_
   refine wp_ret ?_
   refine then_ret ?_
   refine d_ret1 (t := 8) (v := .int .i64 1) En67 (by kernel_rfl) (by kernel_rfl) ?_
   exact absurd (htt.symm.trans (tornX_no (by assumption))) (by decide)
  ·
   have En68 := En60.fx (t := 38) (congrArg Value.bool hb61)
   have hp69 : ¬ (k < (0 : Int)) := of_decide_eq_false hb61
   refine d_e [0,1,2,3,8,9,10,43] [] En68 fun ac70 En71 => ?_
   refine then_normal ?_
   refine c_d (k > ((List.length l : Nat) : Int)) En71 (fun hc72 => ?_) (fun hc72 => ?_)
   ·
    refine wp_seq ?_
    refine d_r [0,1,2,3,8,9,10] [] En71 fun ac73 En74 => ?_
    refine then_normal ?_
    refine wp_ret ?_
    refine then_ret ?_
    refine d_ret1 (t := 8) (v := .int .i64 1) En74 (by kernel_rfl) (by kernel_rfl) ?_
    exact absurd (htt.symm.trans (tornX_no (by assumption))) (by decide)
   ·
    refine wp_skip ?_
    refine then_normal ?_
    refine wp_seq ?_
    refine region_from ?_
    refine d_k [0,1,2,3,8,9,10,44,45] [] 2 En71 fun ac75 En76 => ?_
    refine f_o ?_
    refine c_l [0,1] (M := [.box tb [.slice ax (List.length xs) cx] 43, .vec ax cx 5 (List.flatMap fRF xs) 48]) En76 Hv24 (fun hM79 => made_go _ tb ax cx xs (by first | omega | (simp; done) | (simp; omega)) name (by first | assumption | omega | decide | (simp; done)) hM79) ?_
    rintro _ wo80 ⟨ay77, cy78, rfl, he81⟩
    refine ⟨_, _, [.box tb [.slice ay77 (List.length (madeX name xs)) cy78] 43, .vec ay77 cy78 5 (List.flatMap fRF (madeX name xs)) 48], rfl, he81, by kernel_rfl, fun ac83 En84 Hv85 => ?_⟩
    refine d_e [0,1,2,3,8,9,10] [] En84 fun ac86 En87 => ?_
    refine then_normal ?_
    refine wp_seq ?_
    refine region_from ?_
    refine d_k [0,1,2,3,8,9,10,49] [] 3 En87 fun ac88 En89 => ?_
    refine f_o ?_
    refine m_l 0 En89 Hv85 fun ac90 En91 => ?_
    have hb94 : plc name xs < List.length (madeX name xs) := (by first | omega | exact hit_lt (by assumption))
    obtain ⟨adr92, had93⟩ := some_of (sv_nz (f := fRF) (sz := 5) Hv85.heap (k := 1) rfl (fun _ => rfl) (by decide)) hb94
    have hb95 : plc name xs < List.length (madeX name xs) := by omega
    obtain ⟨⟨x97a, ⟨a_x97b, c_x97b, x97b⟩, x97c, ⟨a_x97d, c_x97d, x97d⟩, x97e, _⟩, hx96⟩ : ∃ x, (madeX name xs)[plc name xs]? = some x := ⟨_, List.getElem?_eq_getElem hb95⟩
    refine d_k [0,1,2,3,8,9,10,50,51] [] 5 En91 fun ac98 En99 => ?_
    refine f_o ?_
    refine q_v (x := Instr.indexAt 41 (.slice ay77 (List.length (madeX name xs)) cy78) (.int .i64 ((plc name xs : Nat) : Int))) (v := .pointer (some (Addr.add adr92 ((plc name xs) * 5)))) En99 (Go.Dbr.run_indexsl (e := 48) (sz := 5) (j := plc name xs) (jo := (plc name xs) * 5) had93 (by kernel_rfl) (by kernel_rfl) (by omega) hb94 rfl _) fun ac100 En101 => ?_
    refine d_k [0,1,2,3,8,9,10,53] [] 7 En101 fun ac102 En103 => ?_
    refine f_o ?_
    refine op_storef (d := none) (t := 4) (ad := adr92) (ao := ay77) (k := 1) (cap := cy78) (sz := 5) (o := (plc name xs) * 5 + 2) (xs := List.flatMap fRF (madeX name xs)) (v := .bool true) En103 (by kernel_rfl) (Deep.add_add _ _ _) Hv85 rfl had93 (by first | (rw [sv_len (f := fRF) (sz := 5) (fun _ => rfl)]; omega) | exact Nat.lt_of_lt_of_eq (show _ < List.length (madeX name xs) * 5 from by have h := (List.getElem?_eq_some_iff.1 hx96).1; first | omega | (simp only [List.length_set] at h ⊢; omega)) (sv_len (f := fRF) (sz := 5) (fun _ => rfl) (madeX name xs)).symm) (by kernel_rfl) rfl ?_
    intro ac104 wo105  En106 Hv107
    have hls108 : List.length (List.set (madeX name xs) (plc name xs) (x97a, ⟨a_x97b, c_x97b, x97b⟩, true, ⟨a_x97d, c_x97d, x97d⟩, x97e, ())) = List.length (madeX name xs) := List.length_set
    rw [flat_set (f := fRF) (x' := (x97a, ⟨a_x97b, c_x97b, x97b⟩, true, ⟨a_x97d, c_x97d, x97d⟩, x97e, ())) (fun _ => rfl) hx96 (by decide) rfl] at Hv107
    refine f_e ?_
    refine then_normal ?_
    refine wp_seq ?_
    refine r_c (fun ac wo => ∃ (ao203 : Option Addr) (cp204 : Nat), Env ac 72 [(0, pt tb), (1, .string (bstr name)), (2, .slice a (List.length l) c), (3, .int .i64 k), (8, .int .i64 0), (9, .int .i64 (mayX name (List.length l) (hitX name xs) (List.length xs))), (10, .int .i64 ((plc name xs : Nat) : Int))] ∧ Ev w [.box tb [.slice ax (List.length xs) cx] 43, .vec ax cx 5 (List.flatMap fRF xs) 48] wo [.box tb [.slice ay77 (List.length (madeX name xs)) cy78] 43, .vec ay77 cy78 5 (List.flatMap fRF (List.set (List.set (madeX name xs) (plc name xs) (x97a, ⟨a_x97b, c_x97b, x97b⟩, true, ⟨a_x97d, c_x97d, x97d⟩, x97e, ())) (plc name xs) (x97a, ⟨a_x97b, c_x97b, x97b⟩, true, ⟨ao203, cp204, l⟩, x97e, ()))) 48, .vec ao203 cp204 1 (bys l) 5]) ?_ ?_
    ·
     refine h_s (fun wv => Ev w [.box tb [.slice ax (List.length xs) cx] 43, .vec ax cx 5 (List.flatMap fRF xs) 48] wv [.box tb [.slice ay77 (List.length (madeX name xs)) cy78] 43]) [] 11 ?_
     have wo109 := Hv107.trans (Ev.drew Hv107.heap)
     refine q_s [0,1,2] [] 8 En106 (wo109.pick [0] (by kernel_rfl) (by decide)) fun ac223 En224 => ?_
     refine q_l 0 3 En224 (wo109.pick [0] (by kernel_rfl) (by decide)) fun ac225 En226 => ?_
     refine q_s [4,6] [] 5 En226 (wo109.pick [0] (by kernel_rfl) (by decide)) fun ac227 En228 => ?_
     refine q_t 5 ?_
     refine op_lit (d := some 59) (t := 22) (T := 5) (m := 0) (parts := #[]) (xs := bys []) (sz := 1) En228 (by kernel_rfl) (by kernel_rfl) rfl (by decide) wo109 ?_
     intro ac230 wo231 bk229 En232 Hv233
     refine ⟨fun _ => Hv233.pick [0] (by kernel_rfl) (by decide), ?_⟩
     refine q_t 7 ?_
     have hsm234 := i.small
     refine op_append (d := some 61) (t := 22) (tx := 22) (ty := 22) (k := 2) (p := 0) (m := List.length l) (x := .slice a (List.length l) c) (bytes := 1) En232 (by kernel_rfl) Hv233 rfl rfl (Reads.src (size := 1) (tx := 22) (e' := 5) (by kernel_rfl) (i.ev Hv233).reads (bys_len _) i.nz (bys_one _)) (by kernel_rfl) (z := .int .u8 0) (by kernel_rfl) rfl (by decide) (by omega) (by unfold maxLen; omega) ?_
     intro ac239 wo240 ao235 cp236 En241 Hv242 hnz _
     clear hnz
     rw [bys_nil_append] at Hv242
     have ehz237 : 0 + (List.length l) = List.length l := (by first | (simp; done) | (simp; omega) | omega)
     rw [ehz237] at En241
     refine ⟨fun _ => Hv242.pick [0] (by kernel_rfl) (by decide), ?_⟩
     have hb245 : plc name xs < List.length (madeX name xs) := (by first | omega | exact hit_lt (by assumption))
     obtain ⟨adr243, had244⟩ := some_of (fun e => by have h := (sv_nz (f := fRF) (sz := 5) Hv242.heap (k := 1) rfl (fun _ => rfl) (by decide)) e; omega) hb245
     refine q_f 8 (s := Instr.indexAt 41 (.slice ay77 (List.length (madeX name xs)) cy78) (.int .i64 ((plc name xs : Nat) : Int))) (v := .pointer (some (Addr.add adr243 ((plc name xs) * 5)))) En241 (fun _ => Go.Dbr.run_indexsl (e := 48) (sz := 5) (j := plc name xs) (jo := (plc name xs) * 5) had244 (by kernel_rfl) (by kernel_rfl) (by omega) hb245 rfl _) (fun _ => Hv242.pick [0] (by kernel_rfl) (by decide)) fun ac246 En247 => ?_
     refine q_s [9] [] 1 En247 (Hv242.pick [0] (by kernel_rfl) (by decide)) fun ac248 En249 => ?_
     refine q_t 10 ?_
     refine op_storef (d := none) (t := 22) (ad := adr243) (ao := ay77) (k := 1) (cap := cy78) (sz := 5) (o := (plc name xs) * 5 + 3) (xs := List.flatMap fRF (List.set (madeX name xs) (plc name xs) (x97a, ⟨a_x97b, c_x97b, x97b⟩, true, ⟨a_x97d, c_x97d, x97d⟩, x97e, ()))) (v := .slice ao235 (List.length l) cp236) En249 (by kernel_rfl) (Deep.add_add _ _ _) Hv242 rfl had244 (by first | (rw [sv_len (f := fRF) (sz := 5) (fun _ => rfl)]; omega) | exact Nat.lt_of_lt_of_eq (show _ < List.length (List.set (madeX name xs) (plc name xs) (x97a, ⟨a_x97b, c_x97b, x97b⟩, true, ⟨a_x97d, c_x97d, x97d⟩, x97e, ())) * 5 from by have h := (List.getElem?_eq_some_iff.1 (List.getElem?_set_self (List.getElem?_eq_some_iff.1 hx96).1)).1; first | omega | (simp only [List.length_set] at h ⊢; omega)) (sv_len (f := fRF) (sz := 5) (fun _ => rfl) (List.set (madeX name xs) (plc name xs) (x97a, ⟨a_x97b, c_x97b, x97b⟩, true, ⟨a_x97d, c_x97d, x97d⟩, x97e, ()))).symm) (by kernel_rfl) rfl ?_
     intro ac250 wo251  En252 Hv253
     have hls254 : List.length (List.set (List.set (madeX name xs) (plc name xs) (x97a, ⟨a_x97b, c_x97b, x97b⟩, true, ⟨a_x97d, c_x97d, x97d⟩, x97e, ())) (plc name xs) (x97a, ⟨a_x97b, c_x97b, x97b⟩, true, ⟨ao235, cp236, l⟩, x97e, ())) = List.length (List.set (madeX name xs) (plc name xs) (x97a, ⟨a_x97b, c_x97b, x97b⟩, true, ⟨a_x97d, c_x97d, x97d⟩, x97e, ())) := List.length_set
     rw [flat_set (f := fRF) (x' := (x97a, ⟨a_x97b, c_x97b, x97b⟩, true, ⟨ao235, cp236, l⟩, x97e, ())) (fun _ => rfl) (List.getElem?_set_self (List.getElem?_eq_some_iff.1 hx96).1) (by decide) rfl] at Hv253
     refine ⟨fun _ => Hv253.pick [0] (by kernel_rfl) (by decide), ?_⟩
     exact h_e ⟨ao235, cp236, En252.sub (by kernel_rfl), Hv253.pick [0, 1, 2] (by kernel_rfl) (by decide)⟩
    rintro ac255 wo256 ⟨ao203, cp204, En257, Hv258⟩
    refine then_normal ?_
    refine wp_seq ?_
    have hls12 : List.length (List.set (List.set (madeX name xs) (plc name xs) (x97a, ⟨a_x97b, c_x97b, x97b⟩, true, ⟨a_x97d, c_x97d, x97d⟩, x97e, ())) (plc name xs) (x97a, ⟨a_x97b, c_x97b, x97b⟩, true, ⟨ao203, cp204, l⟩, x97e, ())) = List.length (madeX name xs) := by simp only [List.length_set]
    refine region_from ?_
    refine d_k [0,1,2,3,8,9,10,66] [] 3 En257 fun ac259 En260 => ?_
    refine f_o ?_
    refine m_l 0 En260 Hv258 fun ac261 En262 => ?_
    have hb265 : plc name xs < List.length (madeX name xs) := (by first | omega | exact hit_lt (by assumption))
    obtain ⟨adr263, had264⟩ := some_of (fun e => by have h := (sv_nz (f := fRF) (sz := 5) Hv258.heap (k := 1) rfl (fun _ => rfl) (by decide)) e; omega) hb265
    have hb266 : plc name xs < List.length (List.set (List.set (madeX name xs) (plc name xs) (x97a, ⟨a_x97b, c_x97b, x97b⟩, true, ⟨a_x97d, c_x97d, x97d⟩, x97e, ())) (plc name xs) (x97a, ⟨a_x97b, c_x97b, x97b⟩, true, ⟨ao203, cp204, l⟩, x97e, ())) := by omega
    obtain ⟨⟨x268a, ⟨a_x268b, c_x268b, x268b⟩, x268c, ⟨a_x268d, c_x268d, x268d⟩, x268e, _⟩, hx267⟩ : ∃ x, (List.set (List.set (madeX name xs) (plc name xs) (x97a, ⟨a_x97b, c_x97b, x97b⟩, true, ⟨a_x97d, c_x97d, x97d⟩, x97e, ())) (plc name xs) (x97a, ⟨a_x97b, c_x97b, x97b⟩, true, ⟨ao203, cp204, l⟩, x97e, ()))[plc name xs]? = some x := ⟨_, List.getElem?_eq_getElem hb266⟩
    refine d_k [0,1,2,3,8,9,10,67,68,69] [] 6 En262 fun ac269 En270 => ?_
    refine f_o ?_
    refine q_v (x := Instr.indexAt 41 (.slice ay77 (List.length (madeX name xs)) cy78) (.int .i64 ((plc name xs : Nat) : Int))) (v := .pointer (some (Addr.add adr263 ((plc name xs) * 5)))) En270 (Go.Dbr.run_indexsl (e := 48) (sz := 5) (j := plc name xs) (jo := (plc name xs) * 5) had264 (by kernel_rfl) (by kernel_rfl) (by omega) hb265 rfl _) fun ac271 En272 => ?_
    refine d_k [0,1,2,3,8,9,10,69,71] [] 8 En272 fun ac273 En274 => ?_
    refine f_o ?_
    refine op_storef (d := none) (t := 3) (ad := adr263) (ao := ay77) (k := 1) (cap := cy78) (sz := 5) (o := (plc name xs) * 5 + 4) (xs := List.flatMap fRF (List.set (List.set (madeX name xs) (plc name xs) (x97a, ⟨a_x97b, c_x97b, x97b⟩, true, ⟨a_x97d, c_x97d, x97d⟩, x97e, ())) (plc name xs) (x97a, ⟨a_x97b, c_x97b, x97b⟩, true, ⟨ao203, cp204, l⟩, x97e, ()))) (v := .int .i64 k) En274 (by kernel_rfl) (Deep.add_add _ _ _) Hv258 rfl had264 (by first | (rw [sv_len (f := fRF) (sz := 5) (fun _ => rfl)]; omega) | exact Nat.lt_of_lt_of_eq (show _ < List.length (List.set (List.set (madeX name xs) (plc name xs) (x97a, ⟨a_x97b, c_x97b, x97b⟩, true, ⟨a_x97d, c_x97d, x97d⟩, x97e, ())) (plc name xs) (x97a, ⟨a_x97b, c_x97b, x97b⟩, true, ⟨ao203, cp204, l⟩, x97e, ())) * 5 from by have h := (List.getElem?_eq_some_iff.1 hx267).1; first | omega | (simp only [List.length_set] at h ⊢; omega)) (sv_len (f := fRF) (sz := 5) (fun _ => rfl) (List.set (List.set (madeX name xs) (plc name xs) (x97a, ⟨a_x97b, c_x97b, x97b⟩, true, ⟨a_x97d, c_x97d, x97d⟩, x97e, ())) (plc name xs) (x97a, ⟨a_x97b, c_x97b, x97b⟩, true, ⟨ao203, cp204, l⟩, x97e, ()))).symm) (by kernel_rfl) rfl ?_
    intro ac275 wo276  En277 Hv278
    have hls279 : List.length (List.set (List.set (List.set (madeX name xs) (plc name xs) (x97a, ⟨a_x97b, c_x97b, x97b⟩, true, ⟨a_x97d, c_x97d, x97d⟩, x97e, ())) (plc name xs) (x97a, ⟨a_x97b, c_x97b, x97b⟩, true, ⟨ao203, cp204, l⟩, x97e, ())) (plc name xs) (x268a, ⟨a_x268b, c_x268b, x268b⟩, x268c, ⟨a_x268d, c_x268d, x268d⟩, k, ())) = List.length (List.set (List.set (madeX name xs) (plc name xs) (x97a, ⟨a_x97b, c_x97b, x97b⟩, true, ⟨a_x97d, c_x97d, x97d⟩, x97e, ())) (plc name xs) (x97a, ⟨a_x97b, c_x97b, x97b⟩, true, ⟨ao203, cp204, l⟩, x97e, ())) := List.length_set
    rw [flat_set (f := fRF) (x' := (x268a, ⟨a_x268b, c_x268b, x268b⟩, x268c, ⟨a_x268d, c_x268d, x268d⟩, k, ())) (fun _ => rfl) hx267 (by decide) rfl] at Hv278
    refine f_e ?_
    refine then_normal ?_
    refine wp_seq ?_
    refine d_r [0,1,2,3,8,9,10] [] En277 fun ac280 En281 => ?_
    refine then_normal ?_
    refine wp_ret ?_
    refine d_ret1 (t := 8) (v := .int .i64 0) En281 (by kernel_rfl) (by kernel_rfl) ?_
    exact absurd (htt.symm.trans (tornX_no (by assumption))) (by decide)

theorem rtear_arg (w : World) (tb : Nat) (ax : Option Addr) (cx : Nat) (xs : List RF) (h64 : List.length xs ≤ 64) (name : List UInt8) (hnm : List.length name ≤ 140737488351232) (a : Option Addr) (c : Nat) (l : List UInt8) (i : InB w [.box tb [.slice ax (List.length xs) cx] 43, .vec ax cx 5 (List.flatMap fRF xs) 48] a c l) (k : Int) (hk : k < 0 ∨ (List.length l : Int) < k) (hm : mayX name (List.length l) (hitX name xs) (List.length xs) = 0) (htt : tornX name xs = false) (hH : Heap w [.box tb [.slice ax (List.length xs) cx] 43, .vec ax cx 5 (List.flatMap fRF xs) 48]) : Calls Try.prog 24 #[pt tb, .string (bstr name), .slice a (List.length l) c, .int .i64 k] w fun e w' => e = .returned (.int .i64 1) ∧ Ev w [.box tb [.slice ax (List.length xs) cx] 43, .vec ax cx 5 (List.flatMap fRF xs) 48] w' [.box tb [.slice ax (List.length xs) cx] 43, .vec ax cx 5 (List.flatMap fRF xs) 48] := by
 have hsm := i.small
 have hcp := i.cap
 have hml := made_len name xs
 refine d_0 [(0, pt tb), (1, .string (bstr name)), (2, .slice a (List.length l) c), (3, .int .i64 k)] 72 Go.Proofs.Try.func24 Go.Proofs.Try.ntmps24 (hH) fun act0 En0 Hv0 => ?_
 refine wp_seq ?_
 refine d_r [0,1,2,3,8] [] En0 fun ac1 En2 => ?_
 refine then_normal ?_
 refine wp_seq ?_
 refine region_from ?_
 refine d_k [0,1,2,3,8,12,13,14] [] 3 En2 fun ac3 En4 => ?_
 refine f_o ?_
 refine c_l [0,1] (M := [.box tb [.slice ax (List.length xs) cx] 43, .vec ax cx 5 (List.flatMap fRF xs) 48]) En4 Hv0 (fun hM5 => mayr_go _ tb ax cx xs (by first | omega | (simp; done) | (simp; omega)) name (by first | assumption | omega | decide | (simp; done)) a (List.length l) c (by first | omega | (simp; done) | (simp; omega)) hM5) ?_
 rintro _ wo6 ⟨rfl, he7⟩
 refine ⟨_, _, [.box tb [.slice ax (List.length xs) cx] 43, .vec ax cx 5 (List.flatMap fRF xs) 48], rfl, he7, by kernel_rfl, fun ac9 En10 Hv11 => ?_⟩
 refine d_e [0,1,2,3,8,9] [] En10 fun ac12 En13 => ?_
 refine then_normal ?_
 refine wp_seq ?_
 refine wp_seq ?_
 refine d_r [0,1,2,3,8,9,17] [(1, g_b (show (mayX name (List.length l) (hitX name xs) (List.length xs) != (0 : Int)) = false from (by rw [hm]; rfl)))] En13 fun ac14 En15 => ?_
 refine then_normal ?_
 refine c_f En15 ?_
 refine wp_skip ?_
 refine then_normal ?_
 refine wp_seq ?_
 refine region_from ?_
 refine d_k [0,1,2,3,8,9,20,21] [] 2 En15 fun ac16 En17 => ?_
 refine f_o ?_
 refine c_l [0,1] (M := [.box tb [.slice ax (List.length xs) cx] 43, .vec ax cx 5 (List.flatMap fRF xs) 48]) En17 Hv11 (fun hM18 => at_go _ tb ax cx xs (by first | omega | (simp; done) | (simp; omega)) name (by first | assumption | omega | decide | (simp; done)) hM18) ?_
 rintro _ wo19 ⟨rfl, he20⟩
 refine ⟨_, _, [.box tb [.slice ax (List.length xs) cx] 43, .vec ax cx 5 (List.flatMap fRF xs) 48], rfl, he20, by kernel_rfl, fun ac22 En23 Hv24 => ?_⟩
 refine d_e [0,1,2,3,8,9,10,11] [] En23 fun ac25 En26 => ?_
 refine then_normal ?_
 refine wp_seq ?_
 refine wp_seq ?_
 refine region_from ?_
 refine d_k [0,1,2,3,8,9,10,26] [] 2 En26 fun ac27 En28 => ?_
 rcases Bool.eq_false_or_eq_true (hitX name xs) with hb29 | hb29
 ·
  have En30 := En28.fx (t := 26) (congrArg Value.bool hb29)
  have hp31 : hitX name xs = true := hb29
  refine d_k [0,1,2,3,8,9,10,26,29] [] 5 En30 fun ac32 En33 => ?_
  refine f_o ?_
  refine m_l 0 En33 Hv24 fun ac34 En35 => ?_
  have hb38 : plc name xs < List.length xs := (by first | omega | exact hit_lt (by assumption))
  obtain ⟨adr36, had37⟩ := some_of (sv_nz (f := fRF) (sz := 5) Hv24.heap (k := 1) rfl (fun _ => rfl) (by decide)) hb38
  have hb39 : plc name xs < List.length xs := by omega
  obtain ⟨⟨x41a, ⟨a_x41b, c_x41b, x41b⟩, x41c, ⟨a_x41d, c_x41d, x41d⟩, x41e, _⟩, hx40⟩ : ∃ x, (xs)[plc name xs]? = some x := ⟨_, List.getElem?_eq_getElem hb39⟩
  refine d_k [0,1,2,3,8,9,10,26,30,31] [] 7 En35 fun ac42 En43 => ?_
  refine f_o ?_
  refine q_v (x := Instr.indexAt 41 (.slice ax (List.length xs) cx) (.int .i64 ((plc name xs : Nat) : Int))) (v := .pointer (some (Addr.add adr36 ((plc name xs) * 5)))) En43 (Go.Dbr.run_indexsl (e := 48) (sz := 5) (j := plc name xs) (jo := (plc name xs) * 5) had37 (by kernel_rfl) (by kernel_rfl) (by omega) hb38 rfl _) fun ac44 En45 => ?_
  refine d_k [0,1,2,3,8,9,10,26,33] [] 9 En45 fun ac46 En47 => ?_
  refine f_o ?_
  refine op_loadf (d := some 34) (t := 4) (ad := adr36) (ao := ax) (ys := List.flatMap fRF xs) (o := (plc name xs) * 5 + 2) (v := .bool x41c) En47 (by kernel_rfl) (Deep.add_add _ _ _) (Hv24.heap.reads (k := 1) rfl) had37 ((flat_get (sz := 5) (j := 2) (fun _ _ => rfl) hx40 (by decide)).trans rfl) (by kernel_rfl) ?_
  intro ac48 En49
  refine d_e [0,1,2,3,8,9,10,35] [] En49 fun ac50 En51 => ?_
  refine then_normal ?_
  refine cond_at En51 (t := x41c) (by kernel_rfl) (fun hc52 => ?_) (fun hc52 => ?_)
  ·
   replace hc52 : x41c = true := hc52
   exact absurd (htt.symm.trans (tornX_hit (by assumption) hx40)) (by simp_all)
  ·
   replace hc52 : ¬ (x41c = true) := Bool.eq_false_iff.1 hc52
   refine wp_skip ?_
   refine then_normal ?_
   refine wp_seq ?_
   refine wp_seq ?_
   refine region_from ?_
   refine d_k [0,1,2,3,8,9,10,38] [] 3 En51 fun ac53 En54 => ?_
   rcases Bool.eq_false_or_eq_true (decide (k < (0 : Int))) with hb55 | hb55
   ·
    have En56 := En54.fx (t := 38) (congrArg Value.bool hb55)
    have hp57 : k < (0 : Int) := of_decide_eq_true hb55
    refine d_e [0,1,2,3,8,9,10,43] [] En56 fun ac58 En59 => ?_
    refine then_normal ?_
    refine c_t En59 ?_
    refine wp_seq ?_
    refine d_r [0,1,2,3,8,9,10] [] En59 fun ac60 En61 => ?_
    refine then_normal ?_
    refine wp_ret ?_
    refine then_ret ?_
    refine d_ret1 (t := 8) (v := .int .i64 1) En61 (by kernel_rfl) (by kernel_rfl) ?_
    exact ⟨rfl, Hv24.pick [0, 1] (by kernel_rfl) (by decide)⟩
   ·
    have En62 := En54.fx (t := 38) (congrArg Value.bool hb55)
    have hp63 : ¬ (k < (0 : Int)) := of_decide_eq_false hb55
    refine d_e [0,1,2,3,8,9,10,43] [] En62 fun ac64 En65 => ?_
    refine then_normal ?_
    refine c_d (k > ((List.length l : Nat) : Int)) En65 (fun hc66 => ?_) (fun hc66 => ?_)
    ·
     refine wp_seq ?_
     refine d_r [0,1,2,3,8,9,10] [] En65 fun ac67 En68 => ?_
     refine then_normal ?_
     refine wp_ret ?_
     refine then_ret ?_
     refine d_ret1 (t := 8) (v := .int .i64 1) En68 (by kernel_rfl) (by kernel_rfl) ?_
     exact ⟨rfl, Hv24.pick [0, 1] (by kernel_rfl) (by decide)⟩
    ·
     exfalso; omega
 ·
  have En69 := En28.fx (t := 26) (congrArg Value.bool hb29)
  have hp70 : ¬ (hitX name xs = true) := Bool.eq_false_iff.1 hb29
  refine d_e [0,1,2,3,8,9,10,35] [] En69 fun ac71 En72 => ?_
  refine then_normal ?_
  refine c_f En72 ?_
  refine wp_skip ?_
  refine then_normal ?_
  refine wp_seq ?_
  refine wp_seq ?_
  refine region_from ?_
  refine d_k [0,1,2,3,8,9,10,38] [] 3 En72 fun ac73 En74 => ?_
  rcases Bool.eq_false_or_eq_true (decide (k < (0 : Int))) with hb75 | hb75
  ·
   have En76 := En74.fx (t := 38) (congrArg Value.bool hb75)
   have hp77 : k < (0 : Int) := of_decide_eq_true hb75
   refine d_e [0,1,2,3,8,9,10,43] [] En76 fun ac78 En79 => ?_
   refine then_normal ?_
   refine c_t En79 ?_
   refine wp_seq ?_
   refine d_r [0,1,2,3,8,9,10] [] En79 fun ac80 En81 => ?_
   refine then_normal ?_
   refine wp_ret ?_
   refine then_ret ?_
   refine d_ret1 (t := 8) (v := .int .i64 1) En81 (by kernel_rfl) (by kernel_rfl) ?_
   exact ⟨rfl, Hv24.pick [0, 1] (by kernel_rfl) (by decide)⟩
  ·
   have En82 := En74.fx (t := 38) (congrArg Value.bool hb75)
   have hp83 : ¬ (k < (0 : Int)) := of_decide_eq_false hb75
   refine d_e [0,1,2,3,8,9,10,43] [] En82 fun ac84 En85 => ?_
   refine then_normal ?_
   refine c_d (k > ((List.length l : Nat) : Int)) En85 (fun hc86 => ?_) (fun hc86 => ?_)
   ·
    refine wp_seq ?_
    refine d_r [0,1,2,3,8,9,10] [] En85 fun ac87 En88 => ?_
    refine then_normal ?_
    refine wp_ret ?_
    refine then_ret ?_
    refine d_ret1 (t := 8) (v := .int .i64 1) En88 (by kernel_rfl) (by kernel_rfl) ?_
    exact ⟨rfl, Hv24.pick [0, 1] (by kernel_rfl) (by decide)⟩
   ·
    exfalso; omega

theorem rtear_ok (w : World) (tb : Nat) (ax : Option Addr) (cx : Nat) (xs : List RF) (h64 : List.length xs ≤ 64) (name : List UInt8) (hnm : List.length name ≤ 140737488351232) (a : Option Addr) (c : Nat) (l : List UInt8) (i : InB w [.box tb [.slice ax (List.length xs) cx] 43, .vec ax cx 5 (List.flatMap fRF xs) 48] a c l) (k : Nat) (hk : k ≤ List.length l) (hm : mayX name (List.length l) (hitX name xs) (List.length xs) = 0) (htt : tornX name xs = false) (nm1 : List UInt8) (aB : Option Addr) (cB : Nat) (lB : List UInt8) (t1 : Bool) (aN : Option Addr) (cN : Nat) (lN : List UInt8) (n1 : Int) (hx : (madeX name xs)[plc name xs]? = some (nm1, ⟨aB, cB, lB⟩, t1, ⟨aN, cN, lN⟩, n1, ())) (hH : Heap w [.box tb [.slice ax (List.length xs) cx] 43, .vec ax cx 5 (List.flatMap fRF xs) 48]) : Calls Try.prog 24 #[pt tb, .string (bstr name), .slice a (List.length l) c, ni k] w fun e w' => ∃ ay cy ao co, e = .returned (.int .i64 0) ∧ Ev w [.box tb [.slice ax (List.length xs) cx] 43, .vec ax cx 5 (List.flatMap fRF xs) 48] w' [.box tb [.slice ay (List.length (List.set (madeX name xs) (plc name xs) (nm1, ⟨aB, cB, lB⟩, true, ⟨ao, co, l⟩, (k : Int), ()))) cy] 43, .vec ay cy 5 (List.flatMap fRF (List.set (madeX name xs) (plc name xs) (nm1, ⟨aB, cB, lB⟩, true, ⟨ao, co, l⟩, (k : Int), ()))) 48, .vec ao co 1 (bys l) 5] := by
 have hsm := i.small
 have hcp := i.cap
 have hml := made_len name xs
 refine d_0 [(0, pt tb), (1, .string (bstr name)), (2, .slice a (List.length l) c), (3, ni k)] 72 Go.Proofs.Try.func24 Go.Proofs.Try.ntmps24 (hH) fun act0 En0 Hv0 => ?_
 refine wp_seq ?_
 refine d_r [0,1,2,3,8] [] En0 fun ac1 En2 => ?_
 refine then_normal ?_
 refine wp_seq ?_
 refine region_from ?_
 refine d_k [0,1,2,3,8,12,13,14] [] 3 En2 fun ac3 En4 => ?_
 refine f_o ?_
 refine c_l [0,1] (M := [.box tb [.slice ax (List.length xs) cx] 43, .vec ax cx 5 (List.flatMap fRF xs) 48]) En4 Hv0 (fun hM5 => mayr_go _ tb ax cx xs (by first | omega | (simp; done) | (simp; omega)) name (by first | assumption | omega | decide | (simp; done)) a (List.length l) c (by first | omega | (simp; done) | (simp; omega)) hM5) ?_
 rintro _ wo6 ⟨rfl, he7⟩
 refine ⟨_, _, [.box tb [.slice ax (List.length xs) cx] 43, .vec ax cx 5 (List.flatMap fRF xs) 48], rfl, he7, by kernel_rfl, fun ac9 En10 Hv11 => ?_⟩
 refine d_e [0,1,2,3,8,9] [] En10 fun ac12 En13 => ?_
 refine then_normal ?_
 refine wp_seq ?_
 refine wp_seq ?_
 refine d_r [0,1,2,3,8,9,17] [(1, g_b (show (mayX name (List.length l) (hitX name xs) (List.length xs) != (0 : Int)) = false from (by rw [hm]; rfl)))] En13 fun ac14 En15 => ?_
 refine then_normal ?_
 refine c_f En15 ?_
 refine wp_skip ?_
 refine then_normal ?_
 refine wp_seq ?_
 refine region_from ?_
 refine d_k [0,1,2,3,8,9,20,21] [] 2 En15 fun ac16 En17 => ?_
 refine f_o ?_
 refine c_l [0,1] (M := [.box tb [.slice ax (List.length xs) cx] 43, .vec ax cx 5 (List.flatMap fRF xs) 48]) En17 Hv11 (fun hM18 => at_go _ tb ax cx xs (by first | omega | (simp; done) | (simp; omega)) name (by first | assumption | omega | decide | (simp; done)) hM18) ?_
 rintro _ wo19 ⟨rfl, he20⟩
 refine ⟨_, _, [.box tb [.slice ax (List.length xs) cx] 43, .vec ax cx 5 (List.flatMap fRF xs) 48], rfl, he20, by kernel_rfl, fun ac22 En23 Hv24 => ?_⟩
 refine d_e [0,1,2,3,8,9,10,11] [] En23 fun ac25 En26 => ?_
 refine then_normal ?_
 refine wp_seq ?_
 refine wp_seq ?_
 refine region_from ?_
 refine d_k [0,1,2,3,8,9,10,26] [] 2 En26 fun ac27 En28 => ?_
 rcases Bool.eq_false_or_eq_true (hitX name xs) with hb29 | hb29
 ·
  have En30 := En28.fx (t := 26) (congrArg Value.bool hb29)
  have hp31 : hitX name xs = true := hb29
  refine d_k [0,1,2,3,8,9,10,26,29] [] 5 En30 fun ac32 En33 => ?_
  refine f_o ?_
  refine m_l 0 En33 Hv24 fun ac34 En35 => ?_
  have hb38 : plc name xs < List.length xs := (by first | omega | exact hit_lt (by assumption) | (simp only [List.length_set]; omega))
  obtain ⟨adr36, had37⟩ := some_of (sv_nz (f := fRF) (sz := 5) Hv24.heap (k := 1) rfl (fun _ => rfl) (by decide)) hb38
  have hb39 : plc name xs < List.length xs := by omega
  obtain ⟨⟨x41a, ⟨a_x41b, c_x41b, x41b⟩, x41c, ⟨a_x41d, c_x41d, x41d⟩, x41e, _⟩, hx40⟩ : ∃ x, (xs)[plc name xs]? = some x := ⟨_, List.getElem?_eq_getElem hb39⟩
  refine d_k [0,1,2,3,8,9,10,26,30,31] [] 7 En35 fun ac42 En43 => ?_
  refine f_o ?_
  refine q_v (x := Instr.indexAt 41 (.slice ax (List.length xs) cx) (.int .i64 ((plc name xs : Nat) : Int))) (v := .pointer (some (Addr.add adr36 ((plc name xs) * 5)))) En43 (Go.Dbr.run_indexsl (e := 48) (sz := 5) (j := plc name xs) (jo := (plc name xs) * 5) had37 (by kernel_rfl) (by kernel_rfl) (by omega) hb38 rfl _) fun ac44 En45 => ?_
  refine d_k [0,1,2,3,8,9,10,26,33] [] 9 En45 fun ac46 En47 => ?_
  refine f_o ?_
  refine op_loadf (d := some 34) (t := 4) (ad := adr36) (ao := ax) (ys := List.flatMap fRF xs) (o := (plc name xs) * 5 + 2) (v := .bool x41c) En47 (by kernel_rfl) (Deep.add_add _ _ _) (Hv24.heap.reads (k := 1) rfl) had37 ((flat_get (sz := 5) (j := 2) (fun _ _ => rfl) hx40 (by decide)).trans rfl) (by kernel_rfl) ?_
  intro ac48 En49
  refine d_e [0,1,2,3,8,9,10,35] [] En49 fun ac50 En51 => ?_
  refine then_normal ?_
  refine cond_at En51 (t := x41c) (by kernel_rfl) (fun hc52 => ?_) (fun hc52 => ?_)
  ·
   replace hc52 : x41c = true := hc52
   exact absurd (htt.symm.trans (tornX_hit (by assumption) hx40)) (by simp_all)
  ·
   replace hc52 : ¬ (x41c = true) := Bool.eq_false_iff.1 hc52
   refine wp_skip ?_
   refine then_normal ?_
   refine wp_seq ?_
   refine wp_seq ?_
   refine region_from ?_
   refine d_k [0,1,2,3,8,9,10,38] [] 3 En51 fun ac53 En54 => ?_
   rcases Bool.eq_false_or_eq_true (decide (((k : Nat) : Int) < (0 : Int))) with hb55 | hb55
   ·
    have En56 := En54.fx (t := 38) (congrArg Value.bool hb55)
    have hp57 : ((k : Nat) : Int) < (0 : Int) := of_decide_eq_true hb55
    refine d_e [0,1,2,3,8,9,10,43] [] En56 fun ac58 En59 => ?_
    refine then_normal ?_
    refine c_t En59 ?_
    refine wp_seq ?_
    refine d_r [0,1,2,3,8,9,10] [] En59 fun ac60 En61 => ?_
    refine then_normal ?_
    refine wp_ret ?_
    refine then_ret ?_
    refine d_ret1 (t := 8) (v := .int .i64 1) En61 (by kernel_rfl) (by kernel_rfl) ?_
    exfalso; omega
   ·
    have En62 := En54.fx (t := 38) (congrArg Value.bool hb55)
    have hp63 : ¬ (((k : Nat) : Int) < (0 : Int)) := of_decide_eq_false hb55
    refine d_e [0,1,2,3,8,9,10,43] [] En62 fun ac64 En65 => ?_
    refine then_normal ?_
    refine c_d (((k : Nat) : Int) > ((List.length l : Nat) : Int)) En65 (fun hc66 => ?_) (fun hc66 => ?_)
    ·
     exfalso; omega
    ·
     refine wp_skip ?_
     refine then_normal ?_
     refine wp_seq ?_
     refine region_from ?_
     refine d_k [0,1,2,3,8,9,10,44,45] [] 2 En65 fun ac67 En68 => ?_
     refine f_o ?_
     refine c_l [0,1] (M := [.box tb [.slice ax (List.length xs) cx] 43, .vec ax cx 5 (List.flatMap fRF xs) 48]) En68 Hv24 (fun hM71 => made_go _ tb ax cx xs (by first | omega | (simp; done) | (simp; omega)) name (by first | assumption | omega | decide | (simp; done)) hM71) ?_
     rintro _ wo72 ⟨ay69, cy70, rfl, he73⟩
     refine ⟨_, _, [.box tb [.slice ay69 (List.length (madeX name xs)) cy70] 43, .vec ay69 cy70 5 (List.flatMap fRF (madeX name xs)) 48], rfl, he73, by kernel_rfl, fun ac75 En76 Hv77 => ?_⟩
     refine d_e [0,1,2,3,8,9,10] [] En76 fun ac78 En79 => ?_
     refine then_normal ?_
     refine wp_seq ?_
     refine region_from ?_
     refine d_k [0,1,2,3,8,9,10,49] [] 3 En79 fun ac80 En81 => ?_
     refine f_o ?_
     refine m_l 0 En81 Hv77 fun ac82 En83 => ?_
     have hb86 : plc name xs < List.length (madeX name xs) := (by first | omega | exact hit_lt (by assumption) | (simp only [List.length_set]; omega))
     obtain ⟨adr84, had85⟩ := some_of (sv_nz (f := fRF) (sz := 5) Hv77.heap (k := 1) rfl (fun _ => rfl) (by decide)) hb86
     refine d_k [0,1,2,3,8,9,10,50,51] [] 5 En83 fun ac87 En88 => ?_
     refine f_o ?_
     refine q_v (x := Instr.indexAt 41 (.slice ay69 (List.length (madeX name xs)) cy70) (.int .i64 ((plc name xs : Nat) : Int))) (v := .pointer (some (Addr.add adr84 ((plc name xs) * 5)))) En88 (Go.Dbr.run_indexsl (e := 48) (sz := 5) (j := plc name xs) (jo := (plc name xs) * 5) had85 (by kernel_rfl) (by kernel_rfl) (by omega) hb86 rfl _) fun ac89 En90 => ?_
     refine d_k [0,1,2,3,8,9,10,53] [] 7 En90 fun ac91 En92 => ?_
     refine f_o ?_
     refine op_storef (d := none) (t := 4) (ad := adr84) (ao := ay69) (k := 1) (cap := cy70) (sz := 5) (o := (plc name xs) * 5 + 2) (xs := List.flatMap fRF (madeX name xs)) (v := .bool true) En92 (by kernel_rfl) (Deep.add_add _ _ _) Hv77 rfl had85 (by first | (rw [sv_len (f := fRF) (sz := 5) (fun _ => rfl)]; omega) | exact Nat.lt_of_lt_of_eq (show _ < List.length (madeX name xs) * 5 from by have h := (List.getElem?_eq_some_iff.1 hx).1; first | omega | (simp only [List.length_set] at h ⊢; omega)) (sv_len (f := fRF) (sz := 5) (fun _ => rfl) (madeX name xs)).symm) (by kernel_rfl) rfl ?_
     intro ac93 wo94  En95 Hv96
     have hls97 : List.length (List.set (madeX name xs) (plc name xs) (nm1, ⟨aB, cB, lB⟩, true, ⟨aN, cN, lN⟩, n1, ())) = List.length (madeX name xs) := List.length_set
     rw [flat_set (f := fRF) (x' := (nm1, ⟨aB, cB, lB⟩, true, ⟨aN, cN, lN⟩, n1, ())) (fun _ => rfl) hx (by decide) rfl] at Hv96
     refine f_e ?_
     refine then_normal ?_
     refine wp_seq ?_
     refine r_c (fun ac wo => ∃ (ao192 : Option Addr) (cp193 : Nat), Env ac 72 [(0, pt tb), (1, .string (bstr name)), (2, .slice a (List.length l) c), (3, ni k), (8, .int .i64 0), (9, .int .i64 (mayX name (List.length l) (hitX name xs) (List.length xs))), (10, .int .i64 ((plc name xs : Nat) : Int))] ∧ Ev w [.box tb [.slice ax (List.length xs) cx] 43, .vec ax cx 5 (List.flatMap fRF xs) 48] wo [.box tb [.slice ay69 (List.length (madeX name xs)) cy70] 43, .vec ay69 cy70 5 (List.flatMap fRF (List.set (List.set (madeX name xs) (plc name xs) (nm1, ⟨aB, cB, lB⟩, true, ⟨aN, cN, lN⟩, n1, ())) (plc name xs) (nm1, ⟨aB, cB, lB⟩, true, ⟨ao192, cp193, l⟩, n1, ()))) 48, .vec ao192 cp193 1 (bys l) 5]) ?_ ?_
     ·
      refine h_s (fun wv => Ev w [.box tb [.slice ax (List.length xs) cx] 43, .vec ax cx 5 (List.flatMap fRF xs) 48] wv [.box tb [.slice ay69 (List.length (madeX name xs)) cy70] 43]) [] 11 ?_
      have wo98 := Hv96.trans (Ev.drew Hv96.heap)
      refine q_s [0,1,2] [] 8 En95 (wo98.pick [0] (by kernel_rfl) (by decide)) fun ac212 En213 => ?_
      refine q_l 0 3 En213 (wo98.pick [0] (by kernel_rfl) (by decide)) fun ac214 En215 => ?_
      refine q_s [4,6] [] 5 En215 (wo98.pick [0] (by kernel_rfl) (by decide)) fun ac216 En217 => ?_
      refine q_t 5 ?_
      refine op_lit (d := some 59) (t := 22) (T := 5) (m := 0) (parts := #[]) (xs := bys []) (sz := 1) En217 (by kernel_rfl) (by kernel_rfl) rfl (by decide) wo98 ?_
      intro ac219 wo220 bk218 En221 Hv222
      refine ⟨fun _ => Hv222.pick [0] (by kernel_rfl) (by decide), ?_⟩
      refine q_t 7 ?_
      have hsm223 := i.small
      refine op_append (d := some 61) (t := 22) (tx := 22) (ty := 22) (k := 2) (p := 0) (m := List.length l) (x := .slice a (List.length l) c) (bytes := 1) En221 (by kernel_rfl) Hv222 rfl rfl (Reads.src (size := 1) (tx := 22) (e' := 5) (by kernel_rfl) (i.ev Hv222).reads (bys_len _) i.nz (bys_one _)) (by kernel_rfl) (z := .int .u8 0) (by kernel_rfl) rfl (by decide) (by omega) (by unfold maxLen; omega) ?_
      intro ac228 wo229 ao224 cp225 En230 Hv231 hnz _
      clear hnz
      rw [bys_nil_append] at Hv231
      have ehz226 : 0 + (List.length l) = List.length l := (by first | (simp; done) | (simp; omega) | omega)
      rw [ehz226] at En230
      refine ⟨fun _ => Hv231.pick [0] (by kernel_rfl) (by decide), ?_⟩
      have hb234 : plc name xs < List.length (madeX name xs) := (by first | omega | exact hit_lt (by assumption) | (simp only [List.length_set]; omega))
      obtain ⟨adr232, had233⟩ := some_of (fun e => by have h := (sv_nz (f := fRF) (sz := 5) Hv231.heap (k := 1) rfl (fun _ => rfl) (by decide)) e; omega) hb234
      refine q_f 8 (s := Instr.indexAt 41 (.slice ay69 (List.length (madeX name xs)) cy70) (.int .i64 ((plc name xs : Nat) : Int))) (v := .pointer (some (Addr.add adr232 ((plc name xs) * 5)))) En230 (fun _ => Go.Dbr.run_indexsl (e := 48) (sz := 5) (j := plc name xs) (jo := (plc name xs) * 5) had233 (by kernel_rfl) (by kernel_rfl) (by omega) hb234 rfl _) (fun _ => Hv231.pick [0] (by kernel_rfl) (by decide)) fun ac235 En236 => ?_
      refine q_s [9] [] 1 En236 (Hv231.pick [0] (by kernel_rfl) (by decide)) fun ac237 En238 => ?_
      refine q_t 10 ?_
      refine op_storef (d := none) (t := 22) (ad := adr232) (ao := ay69) (k := 1) (cap := cy70) (sz := 5) (o := (plc name xs) * 5 + 3) (xs := List.flatMap fRF (List.set (madeX name xs) (plc name xs) (nm1, ⟨aB, cB, lB⟩, true, ⟨aN, cN, lN⟩, n1, ()))) (v := .slice ao224 (List.length l) cp225) En238 (by kernel_rfl) (Deep.add_add _ _ _) Hv231 rfl had233 (by first | (rw [sv_len (f := fRF) (sz := 5) (fun _ => rfl)]; omega) | exact Nat.lt_of_lt_of_eq (show _ < List.length (List.set (madeX name xs) (plc name xs) (nm1, ⟨aB, cB, lB⟩, true, ⟨aN, cN, lN⟩, n1, ())) * 5 from by have h := (List.getElem?_eq_some_iff.1 (List.getElem?_set_self (List.getElem?_eq_some_iff.1 hx).1)).1; first | omega | (simp only [List.length_set] at h ⊢; omega)) (sv_len (f := fRF) (sz := 5) (fun _ => rfl) (List.set (madeX name xs) (plc name xs) (nm1, ⟨aB, cB, lB⟩, true, ⟨aN, cN, lN⟩, n1, ()))).symm) (by kernel_rfl) rfl ?_
      intro ac239 wo240  En241 Hv242
      have hls243 : List.length (List.set (List.set (madeX name xs) (plc name xs) (nm1, ⟨aB, cB, lB⟩, true, ⟨aN, cN, lN⟩, n1, ())) (plc name xs) (nm1, ⟨aB, cB, lB⟩, true, ⟨ao224, cp225, l⟩, n1, ())) = List.length (List.set (madeX name xs) (plc name xs) (nm1, ⟨aB, cB, lB⟩, true, ⟨aN, cN, lN⟩, n1, ())) := List.length_set
      rw [flat_set (f := fRF) (x' := (nm1, ⟨aB, cB, lB⟩, true, ⟨ao224, cp225, l⟩, n1, ())) (fun _ => rfl) (List.getElem?_set_self (List.getElem?_eq_some_iff.1 hx).1) (by decide) rfl] at Hv242
      refine ⟨fun _ => Hv242.pick [0] (by kernel_rfl) (by decide), ?_⟩
      exact h_e ⟨ao224, cp225, En241.sub (by kernel_rfl), Hv242.pick [0, 1, 2] (by kernel_rfl) (by decide)⟩
     rintro ac244 wo245 ⟨ao192, cp193, En246, Hv247⟩
     refine then_normal ?_
     refine wp_seq ?_
     have hls12 : List.length (List.set (List.set (madeX name xs) (plc name xs) (nm1, ⟨aB, cB, lB⟩, true, ⟨aN, cN, lN⟩, n1, ())) (plc name xs) (nm1, ⟨aB, cB, lB⟩, true, ⟨ao192, cp193, l⟩, n1, ())) = List.length (madeX name xs) := by simp only [List.length_set]
     refine region_from ?_
     refine d_k [0,1,2,3,8,9,10,66] [] 3 En246 fun ac248 En249 => ?_
     refine f_o ?_
     refine m_l 0 En249 Hv247 fun ac250 En251 => ?_
     have hb254 : plc name xs < List.length (madeX name xs) := (by first | omega | exact hit_lt (by assumption) | (simp only [List.length_set]; omega))
     obtain ⟨adr252, had253⟩ := some_of (fun e => by have h := (sv_nz (f := fRF) (sz := 5) Hv247.heap (k := 1) rfl (fun _ => rfl) (by decide)) e; omega) hb254
     refine d_k [0,1,2,3,8,9,10,67,68,69] [] 6 En251 fun ac255 En256 => ?_
     refine f_o ?_
     refine q_v (x := Instr.indexAt 41 (.slice ay69 (List.length (madeX name xs)) cy70) (.int .i64 ((plc name xs : Nat) : Int))) (v := .pointer (some (Addr.add adr252 ((plc name xs) * 5)))) En256 (Go.Dbr.run_indexsl (e := 48) (sz := 5) (j := plc name xs) (jo := (plc name xs) * 5) had253 (by kernel_rfl) (by kernel_rfl) (by omega) hb254 rfl _) fun ac257 En258 => ?_
     refine d_k [0,1,2,3,8,9,10,69,71] [] 8 En258 fun ac259 En260 => ?_
     refine f_o ?_
     refine op_storef (d := none) (t := 3) (ad := adr252) (ao := ay69) (k := 1) (cap := cy70) (sz := 5) (o := (plc name xs) * 5 + 4) (xs := List.flatMap fRF (List.set (List.set (madeX name xs) (plc name xs) (nm1, ⟨aB, cB, lB⟩, true, ⟨aN, cN, lN⟩, n1, ())) (plc name xs) (nm1, ⟨aB, cB, lB⟩, true, ⟨ao192, cp193, l⟩, n1, ()))) (v := ni k) En260 (by kernel_rfl) (Deep.add_add _ _ _) Hv247 rfl had253 (by first | (rw [sv_len (f := fRF) (sz := 5) (fun _ => rfl)]; omega) | exact Nat.lt_of_lt_of_eq (show _ < List.length (List.set (List.set (madeX name xs) (plc name xs) (nm1, ⟨aB, cB, lB⟩, true, ⟨aN, cN, lN⟩, n1, ())) (plc name xs) (nm1, ⟨aB, cB, lB⟩, true, ⟨ao192, cp193, l⟩, n1, ())) * 5 from by have h := (List.getElem?_eq_some_iff.1 (List.getElem?_set_self (by simp only [List.length_set]; omega))).1; first | omega | (simp only [List.length_set] at h ⊢; omega)) (sv_len (f := fRF) (sz := 5) (fun _ => rfl) (List.set (List.set (madeX name xs) (plc name xs) (nm1, ⟨aB, cB, lB⟩, true, ⟨aN, cN, lN⟩, n1, ())) (plc name xs) (nm1, ⟨aB, cB, lB⟩, true, ⟨ao192, cp193, l⟩, n1, ()))).symm) (by kernel_rfl) rfl ?_
     intro ac261 wo262  En263 Hv264
     have hls265 : List.length (List.set (List.set (List.set (madeX name xs) (plc name xs) (nm1, ⟨aB, cB, lB⟩, true, ⟨aN, cN, lN⟩, n1, ())) (plc name xs) (nm1, ⟨aB, cB, lB⟩, true, ⟨ao192, cp193, l⟩, n1, ())) (plc name xs) (nm1, ⟨aB, cB, lB⟩, true, ⟨ao192, cp193, l⟩, ((k : Nat) : Int), ())) = List.length (List.set (List.set (madeX name xs) (plc name xs) (nm1, ⟨aB, cB, lB⟩, true, ⟨aN, cN, lN⟩, n1, ())) (plc name xs) (nm1, ⟨aB, cB, lB⟩, true, ⟨ao192, cp193, l⟩, n1, ())) := List.length_set
     rw [flat_set (f := fRF) (x' := (nm1, ⟨aB, cB, lB⟩, true, ⟨ao192, cp193, l⟩, ((k : Nat) : Int), ())) (fun _ => rfl) (List.getElem?_set_self (by simp only [List.length_set]; omega)) (by decide) rfl] at Hv264
     refine f_e ?_
     refine then_normal ?_
     refine wp_seq ?_
     refine d_r [0,1,2,3,8,9,10] [] En263 fun ac266 En267 => ?_
     refine then_normal ?_
     refine wp_ret ?_
     refine d_ret1 (t := 8) (v := .int .i64 0) En267 (by kernel_rfl) (by kernel_rfl) ?_
     have hfin0 : Ev w [.box tb [.slice ax (List.length xs) cx] 43, .vec ax cx 5 (List.flatMap fRF xs) 48] wo262 [.box tb [.slice ay69 (List.length (madeX name xs)) cy70] 43, .vec ay69 cy70 5 (List.flatMap fRF (List.set (List.set (List.set (madeX name xs) (plc name xs) (nm1, ⟨aB, cB, lB⟩, true, ⟨aN, cN, lN⟩, n1, ())) (plc name xs) (nm1, ⟨aB, cB, lB⟩, true, ⟨ao192, cp193, l⟩, n1, ())) (plc name xs) (nm1, ⟨aB, cB, lB⟩, true, ⟨ao192, cp193, l⟩, ((k : Nat) : Int), ()))) 48, .vec ao192 cp193 1 (bys l) 5] := Hv264.pick [0, 1, 2] (by kernel_rfl) (by decide)
     have hfin : Ev w [.box tb [.slice ax (List.length xs) cx] 43, .vec ax cx 5 (List.flatMap fRF xs) 48] wo262 [.box tb [.slice ay69 (List.length (List.set (madeX name xs) (plc name xs) (nm1, ⟨aB, cB, lB⟩, true, ⟨ao192, cp193, l⟩, (k : Int), ()))) cy70] 43, .vec ay69 cy70 5 (List.flatMap fRF (List.set (madeX name xs) (plc name xs) (nm1, ⟨aB, cB, lB⟩, true, ⟨ao192, cp193, l⟩, (k : Int), ()))) 48, .vec ao192 cp193 1 (bys l) 5] := by simpa only [List.length_set, List.set_set] using hfin0
     exact ⟨ay69, cy70, ao192, cp193, rfl, hfin⟩
 ·
  have En268 := En28.fx (t := 26) (congrArg Value.bool hb29)
  have hp269 : ¬ (hitX name xs = true) := Bool.eq_false_iff.1 hb29
  refine d_e [0,1,2,3,8,9,10,35] [] En268 fun ac270 En271 => ?_
  refine then_normal ?_
  refine c_f En271 ?_
  refine wp_skip ?_
  refine then_normal ?_
  refine wp_seq ?_
  refine wp_seq ?_
  refine region_from ?_
  refine d_k [0,1,2,3,8,9,10,38] [] 3 En271 fun ac272 En273 => ?_
  rcases Bool.eq_false_or_eq_true (decide (((k : Nat) : Int) < (0 : Int))) with hb274 | hb274
  ·
   have En275 := En273.fx (t := 38) (congrArg Value.bool hb274)
   have hp276 : ((k : Nat) : Int) < (0 : Int) := of_decide_eq_true hb274
   refine d_e [0,1,2,3,8,9,10,43] [] En275 fun ac277 En278 => ?_
   refine then_normal ?_
   refine c_t En278 ?_
   refine wp_seq ?_
   refine d_r [0,1,2,3,8,9,10] [] En278 fun ac279 En280 => ?_
   refine then_normal ?_
   refine wp_ret ?_
   refine then_ret ?_
   refine d_ret1 (t := 8) (v := .int .i64 1) En280 (by kernel_rfl) (by kernel_rfl) ?_
   exfalso; omega
  ·
   have En281 := En273.fx (t := 38) (congrArg Value.bool hb274)
   have hp282 : ¬ (((k : Nat) : Int) < (0 : Int)) := of_decide_eq_false hb274
   refine d_e [0,1,2,3,8,9,10,43] [] En281 fun ac283 En284 => ?_
   refine then_normal ?_
   refine c_d (((k : Nat) : Int) > ((List.length l : Nat) : Int)) En284 (fun hc285 => ?_) (fun hc285 => ?_)
   ·
    exfalso; omega
   ·
    refine wp_skip ?_
    refine then_normal ?_
    refine wp_seq ?_
    refine region_from ?_
    refine d_k [0,1,2,3,8,9,10,44,45] [] 2 En284 fun ac286 En287 => ?_
    refine f_o ?_
    refine c_l [0,1] (M := [.box tb [.slice ax (List.length xs) cx] 43, .vec ax cx 5 (List.flatMap fRF xs) 48]) En287 Hv24 (fun hM290 => made_go _ tb ax cx xs (by first | omega | (simp; done) | (simp; omega)) name (by first | assumption | omega | decide | (simp; done)) hM290) ?_
    rintro _ wo291 ⟨ay288, cy289, rfl, he292⟩
    refine ⟨_, _, [.box tb [.slice ay288 (List.length (madeX name xs)) cy289] 43, .vec ay288 cy289 5 (List.flatMap fRF (madeX name xs)) 48], rfl, he292, by kernel_rfl, fun ac294 En295 Hv296 => ?_⟩
    refine d_e [0,1,2,3,8,9,10] [] En295 fun ac297 En298 => ?_
    refine then_normal ?_
    refine wp_seq ?_
    refine region_from ?_
    refine d_k [0,1,2,3,8,9,10,49] [] 3 En298 fun ac299 En300 => ?_
    refine f_o ?_
    refine m_l 0 En300 Hv296 fun ac301 En302 => ?_
    have hb305 : plc name xs < List.length (madeX name xs) := (by first | omega | exact hit_lt (by assumption) | (simp only [List.length_set]; omega))
    obtain ⟨adr303, had304⟩ := some_of (sv_nz (f := fRF) (sz := 5) Hv296.heap (k := 1) rfl (fun _ => rfl) (by decide)) hb305
    refine d_k [0,1,2,3,8,9,10,50,51] [] 5 En302 fun ac306 En307 => ?_
    refine f_o ?_
    refine q_v (x := Instr.indexAt 41 (.slice ay288 (List.length (madeX name xs)) cy289) (.int .i64 ((plc name xs : Nat) : Int))) (v := .pointer (some (Addr.add adr303 ((plc name xs) * 5)))) En307 (Go.Dbr.run_indexsl (e := 48) (sz := 5) (j := plc name xs) (jo := (plc name xs) * 5) had304 (by kernel_rfl) (by kernel_rfl) (by omega) hb305 rfl _) fun ac308 En309 => ?_
    refine d_k [0,1,2,3,8,9,10,53] [] 7 En309 fun ac310 En311 => ?_
    refine f_o ?_
    refine op_storef (d := none) (t := 4) (ad := adr303) (ao := ay288) (k := 1) (cap := cy289) (sz := 5) (o := (plc name xs) * 5 + 2) (xs := List.flatMap fRF (madeX name xs)) (v := .bool true) En311 (by kernel_rfl) (Deep.add_add _ _ _) Hv296 rfl had304 (by first | (rw [sv_len (f := fRF) (sz := 5) (fun _ => rfl)]; omega) | exact Nat.lt_of_lt_of_eq (show _ < List.length (madeX name xs) * 5 from by have h := (List.getElem?_eq_some_iff.1 hx).1; first | omega | (simp only [List.length_set] at h ⊢; omega)) (sv_len (f := fRF) (sz := 5) (fun _ => rfl) (madeX name xs)).symm) (by kernel_rfl) rfl ?_
    intro ac312 wo313  En314 Hv315
    have hls316 : List.length (List.set (madeX name xs) (plc name xs) (nm1, ⟨aB, cB, lB⟩, true, ⟨aN, cN, lN⟩, n1, ())) = List.length (madeX name xs) := List.length_set
    rw [flat_set (f := fRF) (x' := (nm1, ⟨aB, cB, lB⟩, true, ⟨aN, cN, lN⟩, n1, ())) (fun _ => rfl) hx (by decide) rfl] at Hv315
    refine f_e ?_
    refine then_normal ?_
    refine wp_seq ?_
    refine r_c (fun ac wo => ∃ (ao411 : Option Addr) (cp412 : Nat), Env ac 72 [(0, pt tb), (1, .string (bstr name)), (2, .slice a (List.length l) c), (3, ni k), (8, .int .i64 0), (9, .int .i64 (mayX name (List.length l) (hitX name xs) (List.length xs))), (10, .int .i64 ((plc name xs : Nat) : Int))] ∧ Ev w [.box tb [.slice ax (List.length xs) cx] 43, .vec ax cx 5 (List.flatMap fRF xs) 48] wo [.box tb [.slice ay288 (List.length (madeX name xs)) cy289] 43, .vec ay288 cy289 5 (List.flatMap fRF (List.set (List.set (madeX name xs) (plc name xs) (nm1, ⟨aB, cB, lB⟩, true, ⟨aN, cN, lN⟩, n1, ())) (plc name xs) (nm1, ⟨aB, cB, lB⟩, true, ⟨ao411, cp412, l⟩, n1, ()))) 48, .vec ao411 cp412 1 (bys l) 5]) ?_ ?_
    ·
     refine h_s (fun wv => Ev w [.box tb [.slice ax (List.length xs) cx] 43, .vec ax cx 5 (List.flatMap fRF xs) 48] wv [.box tb [.slice ay288 (List.length (madeX name xs)) cy289] 43]) [] 11 ?_
     have wo317 := Hv315.trans (Ev.drew Hv315.heap)
     refine q_s [0,1,2] [] 8 En314 (wo317.pick [0] (by kernel_rfl) (by decide)) fun ac431 En432 => ?_
     refine q_l 0 3 En432 (wo317.pick [0] (by kernel_rfl) (by decide)) fun ac433 En434 => ?_
     refine q_s [4,6] [] 5 En434 (wo317.pick [0] (by kernel_rfl) (by decide)) fun ac435 En436 => ?_
     refine q_t 5 ?_
     refine op_lit (d := some 59) (t := 22) (T := 5) (m := 0) (parts := #[]) (xs := bys []) (sz := 1) En436 (by kernel_rfl) (by kernel_rfl) rfl (by decide) wo317 ?_
     intro ac438 wo439 bk437 En440 Hv441
     refine ⟨fun _ => Hv441.pick [0] (by kernel_rfl) (by decide), ?_⟩
     refine q_t 7 ?_
     have hsm442 := i.small
     refine op_append (d := some 61) (t := 22) (tx := 22) (ty := 22) (k := 2) (p := 0) (m := List.length l) (x := .slice a (List.length l) c) (bytes := 1) En440 (by kernel_rfl) Hv441 rfl rfl (Reads.src (size := 1) (tx := 22) (e' := 5) (by kernel_rfl) (i.ev Hv441).reads (bys_len _) i.nz (bys_one _)) (by kernel_rfl) (z := .int .u8 0) (by kernel_rfl) rfl (by decide) (by omega) (by unfold maxLen; omega) ?_
     intro ac447 wo448 ao443 cp444 En449 Hv450 hnz _
     clear hnz
     rw [bys_nil_append] at Hv450
     have ehz445 : 0 + (List.length l) = List.length l := (by first | (simp; done) | (simp; omega) | omega)
     rw [ehz445] at En449
     refine ⟨fun _ => Hv450.pick [0] (by kernel_rfl) (by decide), ?_⟩
     have hb453 : plc name xs < List.length (madeX name xs) := (by first | omega | exact hit_lt (by assumption) | (simp only [List.length_set]; omega))
     obtain ⟨adr451, had452⟩ := some_of (fun e => by have h := (sv_nz (f := fRF) (sz := 5) Hv450.heap (k := 1) rfl (fun _ => rfl) (by decide)) e; omega) hb453
     refine q_f 8 (s := Instr.indexAt 41 (.slice ay288 (List.length (madeX name xs)) cy289) (.int .i64 ((plc name xs : Nat) : Int))) (v := .pointer (some (Addr.add adr451 ((plc name xs) * 5)))) En449 (fun _ => Go.Dbr.run_indexsl (e := 48) (sz := 5) (j := plc name xs) (jo := (plc name xs) * 5) had452 (by kernel_rfl) (by kernel_rfl) (by omega) hb453 rfl _) (fun _ => Hv450.pick [0] (by kernel_rfl) (by decide)) fun ac454 En455 => ?_
     refine q_s [9] [] 1 En455 (Hv450.pick [0] (by kernel_rfl) (by decide)) fun ac456 En457 => ?_
     refine q_t 10 ?_
     refine op_storef (d := none) (t := 22) (ad := adr451) (ao := ay288) (k := 1) (cap := cy289) (sz := 5) (o := (plc name xs) * 5 + 3) (xs := List.flatMap fRF (List.set (madeX name xs) (plc name xs) (nm1, ⟨aB, cB, lB⟩, true, ⟨aN, cN, lN⟩, n1, ()))) (v := .slice ao443 (List.length l) cp444) En457 (by kernel_rfl) (Deep.add_add _ _ _) Hv450 rfl had452 (by first | (rw [sv_len (f := fRF) (sz := 5) (fun _ => rfl)]; omega) | exact Nat.lt_of_lt_of_eq (show _ < List.length (List.set (madeX name xs) (plc name xs) (nm1, ⟨aB, cB, lB⟩, true, ⟨aN, cN, lN⟩, n1, ())) * 5 from by have h := (List.getElem?_eq_some_iff.1 (List.getElem?_set_self (List.getElem?_eq_some_iff.1 hx).1)).1; first | omega | (simp only [List.length_set] at h ⊢; omega)) (sv_len (f := fRF) (sz := 5) (fun _ => rfl) (List.set (madeX name xs) (plc name xs) (nm1, ⟨aB, cB, lB⟩, true, ⟨aN, cN, lN⟩, n1, ()))).symm) (by kernel_rfl) rfl ?_
     intro ac458 wo459  En460 Hv461
     have hls462 : List.length (List.set (List.set (madeX name xs) (plc name xs) (nm1, ⟨aB, cB, lB⟩, true, ⟨aN, cN, lN⟩, n1, ())) (plc name xs) (nm1, ⟨aB, cB, lB⟩, true, ⟨ao443, cp444, l⟩, n1, ())) = List.length (List.set (madeX name xs) (plc name xs) (nm1, ⟨aB, cB, lB⟩, true, ⟨aN, cN, lN⟩, n1, ())) := List.length_set
     rw [flat_set (f := fRF) (x' := (nm1, ⟨aB, cB, lB⟩, true, ⟨ao443, cp444, l⟩, n1, ())) (fun _ => rfl) (List.getElem?_set_self (List.getElem?_eq_some_iff.1 hx).1) (by decide) rfl] at Hv461
     refine ⟨fun _ => Hv461.pick [0] (by kernel_rfl) (by decide), ?_⟩
     exact h_e ⟨ao443, cp444, En460.sub (by kernel_rfl), Hv461.pick [0, 1, 2] (by kernel_rfl) (by decide)⟩
    rintro ac463 wo464 ⟨ao411, cp412, En465, Hv466⟩
    refine then_normal ?_
    refine wp_seq ?_
    have hls12 : List.length (List.set (List.set (madeX name xs) (plc name xs) (nm1, ⟨aB, cB, lB⟩, true, ⟨aN, cN, lN⟩, n1, ())) (plc name xs) (nm1, ⟨aB, cB, lB⟩, true, ⟨ao411, cp412, l⟩, n1, ())) = List.length (madeX name xs) := by simp only [List.length_set]
    refine region_from ?_
    refine d_k [0,1,2,3,8,9,10,66] [] 3 En465 fun ac467 En468 => ?_
    refine f_o ?_
    refine m_l 0 En468 Hv466 fun ac469 En470 => ?_
    have hb473 : plc name xs < List.length (madeX name xs) := (by first | omega | exact hit_lt (by assumption) | (simp only [List.length_set]; omega))
    obtain ⟨adr471, had472⟩ := some_of (fun e => by have h := (sv_nz (f := fRF) (sz := 5) Hv466.heap (k := 1) rfl (fun _ => rfl) (by decide)) e; omega) hb473
    refine d_k [0,1,2,3,8,9,10,67,68,69] [] 6 En470 fun ac474 En475 => ?_
    refine f_o ?_
    refine q_v (x := Instr.indexAt 41 (.slice ay288 (List.length (madeX name xs)) cy289) (.int .i64 ((plc name xs : Nat) : Int))) (v := .pointer (some (Addr.add adr471 ((plc name xs) * 5)))) En475 (Go.Dbr.run_indexsl (e := 48) (sz := 5) (j := plc name xs) (jo := (plc name xs) * 5) had472 (by kernel_rfl) (by kernel_rfl) (by omega) hb473 rfl _) fun ac476 En477 => ?_
    refine d_k [0,1,2,3,8,9,10,69,71] [] 8 En477 fun ac478 En479 => ?_
    refine f_o ?_
    refine op_storef (d := none) (t := 3) (ad := adr471) (ao := ay288) (k := 1) (cap := cy289) (sz := 5) (o := (plc name xs) * 5 + 4) (xs := List.flatMap fRF (List.set (List.set (madeX name xs) (plc name xs) (nm1, ⟨aB, cB, lB⟩, true, ⟨aN, cN, lN⟩, n1, ())) (plc name xs) (nm1, ⟨aB, cB, lB⟩, true, ⟨ao411, cp412, l⟩, n1, ()))) (v := ni k) En479 (by kernel_rfl) (Deep.add_add _ _ _) Hv466 rfl had472 (by first | (rw [sv_len (f := fRF) (sz := 5) (fun _ => rfl)]; omega) | exact Nat.lt_of_lt_of_eq (show _ < List.length (List.set (List.set (madeX name xs) (plc name xs) (nm1, ⟨aB, cB, lB⟩, true, ⟨aN, cN, lN⟩, n1, ())) (plc name xs) (nm1, ⟨aB, cB, lB⟩, true, ⟨ao411, cp412, l⟩, n1, ())) * 5 from by have h := (List.getElem?_eq_some_iff.1 (List.getElem?_set_self (by simp only [List.length_set]; omega))).1; first | omega | (simp only [List.length_set] at h ⊢; omega)) (sv_len (f := fRF) (sz := 5) (fun _ => rfl) (List.set (List.set (madeX name xs) (plc name xs) (nm1, ⟨aB, cB, lB⟩, true, ⟨aN, cN, lN⟩, n1, ())) (plc name xs) (nm1, ⟨aB, cB, lB⟩, true, ⟨ao411, cp412, l⟩, n1, ()))).symm) (by kernel_rfl) rfl ?_
    intro ac480 wo481  En482 Hv483
    have hls484 : List.length (List.set (List.set (List.set (madeX name xs) (plc name xs) (nm1, ⟨aB, cB, lB⟩, true, ⟨aN, cN, lN⟩, n1, ())) (plc name xs) (nm1, ⟨aB, cB, lB⟩, true, ⟨ao411, cp412, l⟩, n1, ())) (plc name xs) (nm1, ⟨aB, cB, lB⟩, true, ⟨ao411, cp412, l⟩, ((k : Nat) : Int), ())) = List.length (List.set (List.set (madeX name xs) (plc name xs) (nm1, ⟨aB, cB, lB⟩, true, ⟨aN, cN, lN⟩, n1, ())) (plc name xs) (nm1, ⟨aB, cB, lB⟩, true, ⟨ao411, cp412, l⟩, n1, ())) := List.length_set
    rw [flat_set (f := fRF) (x' := (nm1, ⟨aB, cB, lB⟩, true, ⟨ao411, cp412, l⟩, ((k : Nat) : Int), ())) (fun _ => rfl) (List.getElem?_set_self (by simp only [List.length_set]; omega)) (by decide) rfl] at Hv483
    refine f_e ?_
    refine then_normal ?_
    refine wp_seq ?_
    refine d_r [0,1,2,3,8,9,10] [] En482 fun ac485 En486 => ?_
    refine then_normal ?_
    refine wp_ret ?_
    refine d_ret1 (t := 8) (v := .int .i64 0) En486 (by kernel_rfl) (by kernel_rfl) ?_
    have hfin0 : Ev w [.box tb [.slice ax (List.length xs) cx] 43, .vec ax cx 5 (List.flatMap fRF xs) 48] wo481 [.box tb [.slice ay288 (List.length (madeX name xs)) cy289] 43, .vec ay288 cy289 5 (List.flatMap fRF (List.set (List.set (List.set (madeX name xs) (plc name xs) (nm1, ⟨aB, cB, lB⟩, true, ⟨aN, cN, lN⟩, n1, ())) (plc name xs) (nm1, ⟨aB, cB, lB⟩, true, ⟨ao411, cp412, l⟩, n1, ())) (plc name xs) (nm1, ⟨aB, cB, lB⟩, true, ⟨ao411, cp412, l⟩, ((k : Nat) : Int), ()))) 48, .vec ao411 cp412 1 (bys l) 5] := Hv483.pick [0, 1, 2] (by kernel_rfl) (by decide)
    have hfin : Ev w [.box tb [.slice ax (List.length xs) cx] 43, .vec ax cx 5 (List.flatMap fRF xs) 48] wo481 [.box tb [.slice ay288 (List.length (List.set (madeX name xs) (plc name xs) (nm1, ⟨aB, cB, lB⟩, true, ⟨ao411, cp412, l⟩, (k : Int), ()))) cy289] 43, .vec ay288 cy289 5 (List.flatMap fRF (List.set (madeX name xs) (plc name xs) (nm1, ⟨aB, cB, lB⟩, true, ⟨ao411, cp412, l⟩, (k : Int), ()))) 48, .vec ao411 cp412 1 (bys l) 5] := by simpa only [List.length_set, List.set_set] using hfin0
    exact ⟨ay288, cy289, ao411, cp412, rfl, hfin⟩

theorem rsettle_none (w : World) (tb : Nat) (ax : Option Addr) (cx : Nat) (xs : List RF) (h64 : List.length xs ≤ 64) (name : List UInt8) (hnm : List.length name ≤ 140737488351232) (hh : hitX name xs = false) (hH : Heap w [.box tb [.slice ax (List.length xs) cx] 43, .vec ax cx 5 (List.flatMap fRF xs) 48]) : Calls Try.prog 25 #[pt tb, .string (bstr name)] w fun e w' => e = .returned (.int .i64 22) ∧ Ev w [.box tb [.slice ax (List.length xs) cx] 43, .vec ax cx 5 (List.flatMap fRF xs) 48] w' [.box tb [.slice ax (List.length xs) cx] 43, .vec ax cx 5 (List.flatMap fRF xs) 48] := by
 refine d_0 [(0, pt tb), (1, .string (bstr name))] 40 Go.Proofs.Try.func25 Go.Proofs.Try.ntmps25 (hH) fun act0 En0 Hv0 => ?_
 refine d_s [0,1,4] [] En0 fun ac1 En2 => ?_
 refine wp_seq ?_
 refine region_from ?_
 refine d_k [0,1,4,8,9] [] 2 En2 fun ac3 En4 => ?_
 refine f_o ?_
 refine c_l [0,1] (M := [.box tb [.slice ax (List.length xs) cx] 43, .vec ax cx 5 (List.flatMap fRF xs) 48]) En4 Hv0 (fun hM5 => at_go _ tb ax cx xs (by first | omega | (simp; done) | (simp; omega)) name (by first | assumption | omega | decide | (simp; done)) hM5) ?_
 rintro _ wo6 ⟨rfl, he7⟩
 refine ⟨_, _, [.box tb [.slice ax (List.length xs) cx] 43, .vec ax cx 5 (List.flatMap fRF xs) 48], rfl, he7, by kernel_rfl, fun ac9 En10 Hv11 => ?_⟩
 refine d_e [0,1,4,5,6] [] En10 fun ac12 En13 => ?_
 refine then_normal ?_
 refine wp_seq ?_
 refine d_s [0,1,4,5,14] [] En13 fun ac14 En15 => ?_
 refine cond_at En15 (t := !(hitX name xs)) (by kernel_rfl) (fun hc16 => ?_) (fun hc16 => ?_)
 ·
  replace hc16 : ¬ (hitX name xs = true) := by simpa using hc16
  refine d_s [0,1,4,5] [] En15 fun ac17 En18 => ?_
  refine wp_ret ?_
  refine then_ret ?_
  refine d_ret1 (t := 4) (v := .int .i64 22) En18 (by kernel_rfl) (by kernel_rfl) ?_
  exact ⟨rfl, Hv11.pick [0, 1] (by kernel_rfl) (by decide)⟩
 ·
  replace hc16 : hitX name xs = true := by simpa using hc16
  exact absurd hh (by simp_all)

theorem rsettle_not (w : World) (tb : Nat) (ax : Option Addr) (cx : Nat) (xs : List RF) (h64 : List.length xs ≤ 64) (name : List UInt8) (hnm : List.length name ≤ 140737488351232) (hh : hitX name xs = true) (nm1 : List UInt8) (aB : Option Addr) (cB : Nat) (lB : List UInt8) (aN : Option Addr) (cN : Nat) (lN : List UInt8) (n1 : Int) (hx : (xs)[plc name xs]? = some (nm1, ⟨aB, cB, lB⟩, false, ⟨aN, cN, lN⟩, n1, ())) (hH : Heap w [.box tb [.slice ax (List.length xs) cx] 43, .vec ax cx 5 (List.flatMap fRF xs) 48]) : Calls Try.prog 25 #[pt tb, .string (bstr name)] w fun e w' => e = .returned (.int .i64 25) ∧ Ev w [.box tb [.slice ax (List.length xs) cx] 43, .vec ax cx 5 (List.flatMap fRF xs) 48] w' [.box tb [.slice ax (List.length xs) cx] 43, .vec ax cx 5 (List.flatMap fRF xs) 48] := by
 have hlt := hit_lt hh
 refine d_0 [(0, pt tb), (1, .string (bstr name))] 40 Go.Proofs.Try.func25 Go.Proofs.Try.ntmps25 (hH) fun act0 En0 Hv0 => ?_
 refine d_s [0,1,4] [] En0 fun ac1 En2 => ?_
 refine wp_seq ?_
 refine region_from ?_
 refine d_k [0,1,4,8,9] [] 2 En2 fun ac3 En4 => ?_
 refine f_o ?_
 refine c_l [0,1] (M := [.box tb [.slice ax (List.length xs) cx] 43, .vec ax cx 5 (List.flatMap fRF xs) 48]) En4 Hv0 (fun hM5 => at_go _ tb ax cx xs (by first | omega | (simp; done) | (simp; omega)) name (by first | assumption | omega | decide | (simp; done)) hM5) ?_
 rintro _ wo6 ⟨rfl, he7⟩
 refine ⟨_, _, [.box tb [.slice ax (List.length xs) cx] 43, .vec ax cx 5 (List.flatMap fRF xs) 48], rfl, he7, by kernel_rfl, fun ac9 En10 Hv11 => ?_⟩
 refine d_e [0,1,4,5,6] [] En10 fun ac12 En13 => ?_
 refine then_normal ?_
 refine wp_seq ?_
 refine d_s [0,1,4,5,14] [] En13 fun ac14 En15 => ?_
 refine cond_at En15 (t := !(hitX name xs)) (by kernel_rfl) (fun hc16 => ?_) (fun hc16 => ?_)
 ·
  replace hc16 : ¬ (hitX name xs = true) := by simpa using hc16
  exact absurd hh (by simp_all)
 ·
  replace hc16 : hitX name xs = true := by simpa using hc16
  refine wp_skip ?_
  refine then_normal ?_
  refine wp_seq ?_
  refine wp_seq ?_
  refine region_from ?_
  refine d_k [0,1,4,5,17] [] 3 En15 fun ac17 En18 => ?_
  refine f_o ?_
  refine m_l 0 En18 Hv11 fun ac19 En20 => ?_
  have hb23 : plc name xs < List.length xs := (by first | omega | exact hit_lt (by assumption))
  obtain ⟨adr21, had22⟩ := some_of (sv_nz (f := fRF) (sz := 5) Hv11.heap (k := 1) rfl (fun _ => rfl) (by decide)) hb23
  refine d_k [0,1,4,5,18,19] [] 5 En20 fun ac24 En25 => ?_
  refine f_o ?_
  refine q_v (x := Instr.indexAt 41 (.slice ax (List.length xs) cx) (.int .i64 ((plc name xs : Nat) : Int))) (v := .pointer (some (Addr.add adr21 ((plc name xs) * 5)))) En25 (Go.Dbr.run_indexsl (e := 48) (sz := 5) (j := plc name xs) (jo := (plc name xs) * 5) had22 (by kernel_rfl) (by kernel_rfl) (by omega) hb23 rfl _) fun ac26 En27 => ?_
  refine d_k [0,1,4,5,21] [] 7 En27 fun ac28 En29 => ?_
  refine f_o ?_
  refine op_loadf (d := some 22) (t := 4) (ad := adr21) (ao := ax) (ys := List.flatMap fRF xs) (o := (plc name xs) * 5 + 2) (v := .bool false) En29 (by kernel_rfl) (Deep.add_add _ _ _) (Hv11.heap.reads (k := 1) rfl) had22 ((flat_get (sz := 5) (j := 2) (fun _ _ => rfl) hx (by decide)).trans rfl) (by kernel_rfl) ?_
  intro ac30 En31
  refine d_e [0,1,4,5,23] [] En31 fun ac32 En33 => ?_
  refine then_normal ?_
  refine c_t En33 ?_
  refine d_s [0,1,4,5] [] En33 fun ac34 En35 => ?_
  refine wp_ret ?_
  refine then_ret ?_
  refine d_ret1 (t := 4) (v := .int .i64 25) En35 (by kernel_rfl) (by kernel_rfl) ?_
  exact ⟨rfl, Hv11.pick [0, 1] (by kernel_rfl) (by decide)⟩

theorem rsettle_ok (w : World) (tb : Nat) (ax : Option Addr) (cx : Nat) (xs : List RF) (h64 : List.length xs ≤ 64) (name : List UInt8) (hnm : List.length name ≤ 140737488351232) (hh : hitX name xs = true) (nm1 : List UInt8) (aB : Option Addr) (cB : Nat) (lB : List UInt8) (aN : Option Addr) (cN : Nat) (lN : List UInt8) (n1 : Int) (hx : (xs)[plc name xs]? = some (nm1, ⟨aB, cB, lB⟩, true, ⟨aN, cN, lN⟩, n1, ())) (hH : Heap w [.box tb [.slice ax (List.length xs) cx] 43, .vec ax cx 5 (List.flatMap fRF xs) 48]) : Calls Try.prog 25 #[pt tb, .string (bstr name)] w fun e w' => ∃ ay cy, e = .returned (.int .i64 0) ∧ Ev w [.box tb [.slice ax (List.length xs) cx] 43, .vec ax cx 5 (List.flatMap fRF xs) 48] w' [.box tb [.slice ay (List.length (List.set xs (plc name xs) (name, ⟨aN, cN, lN⟩, false, ⟨none, 0, []⟩, 0, ()))) cy] 43, .vec ay cy 5 (List.flatMap fRF (List.set xs (plc name xs) (name, ⟨aN, cN, lN⟩, false, ⟨none, 0, []⟩, 0, ()))) 48] := by
 have hlt := hit_lt hh
 refine d_0 [(0, pt tb), (1, .string (bstr name))] 40 Go.Proofs.Try.func25 Go.Proofs.Try.ntmps25 (hH) fun act0 En0 Hv0 => ?_
 refine d_s [0,1,4] [] En0 fun ac1 En2 => ?_
 refine wp_seq ?_
 refine region_from ?_
 refine d_k [0,1,4,8,9] [] 2 En2 fun ac3 En4 => ?_
 refine f_o ?_
 refine c_l [0,1] (M := [.box tb [.slice ax (List.length xs) cx] 43, .vec ax cx 5 (List.flatMap fRF xs) 48]) En4 Hv0 (fun hM5 => at_go _ tb ax cx xs (by first | omega | (simp; done) | (simp; omega)) name (by first | assumption | omega | decide | (simp; done)) hM5) ?_
 rintro _ wo6 ⟨rfl, he7⟩
 refine ⟨_, _, [.box tb [.slice ax (List.length xs) cx] 43, .vec ax cx 5 (List.flatMap fRF xs) 48], rfl, he7, by kernel_rfl, fun ac9 En10 Hv11 => ?_⟩
 refine d_e [0,1,4,5,6] [] En10 fun ac12 En13 => ?_
 refine then_normal ?_
 refine wp_seq ?_
 refine d_s [0,1,4,5,14] [] En13 fun ac14 En15 => ?_
 refine cond_at En15 (t := !(hitX name xs)) (by kernel_rfl) (fun hc16 => ?_) (fun hc16 => ?_)
 ·
  replace hc16 : ¬ (hitX name xs = true) := by simpa using hc16
  exact absurd hh (by simp_all)
 ·
  replace hc16 : hitX name xs = true := by simpa using hc16
  refine wp_skip ?_
  refine then_normal ?_
  refine wp_seq ?_
  refine wp_seq ?_
  refine region_from ?_
  refine d_k [0,1,4,5,17] [] 3 En15 fun ac17 En18 => ?_
  refine f_o ?_
  refine m_l 0 En18 Hv11 fun ac19 En20 => ?_
  have hb23 : plc name xs < List.length xs := (by first | omega | exact hit_lt (by assumption))
  obtain ⟨adr21, had22⟩ := some_of (sv_nz (f := fRF) (sz := 5) Hv11.heap (k := 1) rfl (fun _ => rfl) (by decide)) hb23
  refine d_k [0,1,4,5,18,19] [] 5 En20 fun ac24 En25 => ?_
  refine f_o ?_
  refine q_v (x := Instr.indexAt 41 (.slice ax (List.length xs) cx) (.int .i64 ((plc name xs : Nat) : Int))) (v := .pointer (some (Addr.add adr21 ((plc name xs) * 5)))) En25 (Go.Dbr.run_indexsl (e := 48) (sz := 5) (j := plc name xs) (jo := (plc name xs) * 5) had22 (by kernel_rfl) (by kernel_rfl) (by omega) hb23 rfl _) fun ac26 En27 => ?_
  refine d_k [0,1,4,5,21] [] 7 En27 fun ac28 En29 => ?_
  refine f_o ?_
  refine op_loadf (d := some 22) (t := 4) (ad := adr21) (ao := ax) (ys := List.flatMap fRF xs) (o := (plc name xs) * 5 + 2) (v := .bool true) En29 (by kernel_rfl) (Deep.add_add _ _ _) (Hv11.heap.reads (k := 1) rfl) had22 ((flat_get (sz := 5) (j := 2) (fun _ _ => rfl) hx (by decide)).trans rfl) (by kernel_rfl) ?_
  intro ac30 En31
  refine d_e [0,1,4,5,23] [] En31 fun ac32 En33 => ?_
  refine then_normal ?_
  refine c_f En33 ?_
  refine wp_skip ?_
  refine then_normal ?_
  refine wp_seq ?_
  obtain ⟨adr34, had35⟩ := some_of (sv_nz (f := fRF) (sz := 5) Hv11.heap (k := 1) rfl (fun _ => rfl) (by decide)) (show plc name xs < List.length xs from hlt)
  refine r_c (fun ac wo => Env ac 40 [(0, pt tb), (1, .string (bstr name)), (4, .int .i64 0), (5, .int .i64 ((plc name xs : Nat) : Int))] ∧ Ev w [.box tb [.slice ax (List.length xs) cx] 43, .vec ax cx 5 (List.flatMap fRF xs) 48] wo [.box tb [.slice ax (List.length xs) cx] 43, .vec ax cx 5 (List.flatMap fRF (List.set xs (plc name xs) (name, ⟨aN, cN, lN⟩, false, ⟨none, 0, []⟩, (0 : Int), ()))) 48]) ?_ ?_
  ·
   refine s_g0 [(0, pt tb), (1, .string (bstr name)), (4, .int .i64 0), (5, .int .i64 ((plc name xs : Nat) : Int))] [0,1,2,3,4,5,6,7,8,9,10,11,12,13,14,15] [(24, pt tb), (25, pt tb), (26, pt tb), (27, .slice ax (List.length xs) cx), (28, .int .i64 ((plc name xs : Nat) : Int)), (29, .string (bstr name)), (30, pt tb), (31, pt tb), (32, pt tb), (33, .slice ax (List.length xs) cx), (34, .int .i64 ((plc name xs : Nat) : Int)), (35, .pointer (some (Addr.add adr34 ((plc name xs) * 5)))), (36, .pointer (some (Addr.add (Addr.add adr34 ((plc name xs) * 5)) 3))), (37, .slice aN (List.length lN) cN), (38, .agg #[.string (bstr name), .slice aN (List.length lN) cN, .bool false, .slice none 0 0, .int .i64 0]), (39, .pointer (some (Addr.add adr34 ((plc name xs) * 5))))] 1 [(0, pt tb), (1, .string (bstr name)), (4, .int .i64 0), (5, .int .i64 ((plc name xs : Nat) : Int)), (38, .agg #[.string (bstr name), .slice aN (List.length lN) cN, .bool false, .slice none 0 0, .int .i64 0]), (39, .pointer (some (Addr.add adr34 ((plc name xs) * 5))))] (En33.sb) (Hv11.trans (Ev.drew Hv11.heap)) ?_ fun ac73 wo74 En75 Hv76 => ?_
   ·
    refine s_p [] ?_
    refine s_p [] ?_
    refine s_p [] ?_
    refine s_l 0 ?_
    refine s_p [] ?_
    refine s_p [] ?_
    refine s_p [] ?_
    refine s_p [] ?_
    refine s_p [] ?_
    refine s_l 0 ?_
    refine s_p [] ?_
    have hb48 : plc name xs < List.length xs := (by first | omega | exact hit_lt (by assumption))
    refine s_c (fun Mx49 ac50 wo51 En52 Hv53 => ?_) ?_
    ·
     refine q_v (x := Instr.indexAt 41 (.slice ax (List.length xs) cx) (.int .i64 ((plc name xs : Nat) : Int))) (v := .pointer (some (Addr.add adr34 ((plc name xs) * 5)))) En52 (Go.Dbr.run_indexsl (e := 48) (sz := 5) (j := plc name xs) (jo := (plc name xs) * 5) had35 (by kernel_rfl) (by kernel_rfl) (by omega) hb48 rfl _) fun ac54 En55 => ?_
     exact s_e En55 Hv53
    refine s_p [] ?_
    refine s_c (fun Mx56 ac57 wo58 En59 Hv60 => ?_) ?_
    ·
     refine op_loadf (d := some 37) (t := 22) (ad := adr34) (ao := ax) (ys := List.flatMap fRF xs) (o := (plc name xs) * 5 + 3) (v := .slice aN (List.length lN) cN) En59 (by kernel_rfl) (Deep.add_add _ _ _) (Hv60.heap.reads (k := 1) rfl) had35 ((flat_get (sz := 5) (j := 3) (fun _ _ => rfl) hx (by decide)).trans rfl) (by kernel_rfl) ?_
     intro ac61 En62
     exact s_e En62 Hv60
    refine s_p [] ?_
    have hb65 : plc name xs < List.length xs := (by first | omega | exact hit_lt (by assumption))
    refine s_c (fun Mx66 ac67 wo68 En69 Hv70 => ?_) ?_
    ·
     refine q_v (x := Instr.indexAt 41 (.slice ax (List.length xs) cx) (.int .i64 ((plc name xs : Nat) : Int))) (v := .pointer (some (Addr.add adr34 ((plc name xs) * 5)))) En69 (Go.Dbr.run_indexsl (e := 48) (sz := 5) (j := plc name xs) (jo := (plc name xs) * 5) had35 (by kernel_rfl) (by kernel_rfl) (by omega) hb65 rfl _) fun ac71 En72 => ?_
     exact s_e En72 Hv70
    exact s_n
   refine q_u 16 ?_
   refine op_storerec (d := none) (t := 48) (ad := adr34) (ao := ax) (k := 1) (cap := cx) (sz := 5) (j := plc name xs) (f := fRF) (xs := xs) (y := (name, ⟨aN, cN, lN⟩, false, ⟨none, 0, []⟩, (0 : Int), ())) (v := .agg #[.string (bstr name), .slice aN (List.length lN) cN, .bool false, .slice none 0 0, .int .i64 0]) En75 (by kernel_rfl) rfl Hv76 rfl had35 (fun _ => rfl) (by first | omega | (simp; done) | (simp; omega)) (by kernel_rfl) (by kernel_rfl) (one_all rfl) ?_
   intro ac82 wo83  En84 Hv85
   have hls86 : List.length (List.set xs (plc name xs) (name, ⟨aN, cN, lN⟩, false, ⟨none, 0, []⟩, (0 : Int), ())) = List.length xs := List.length_set
   exact a_e ⟨En84.sub (by kernel_rfl), Hv85.pick [0, 1] (by kernel_rfl) (by decide)⟩
  rintro ac87 wo88 ⟨En89, Hv90⟩
  refine then_normal ?_
  refine d_s [0,1,4,5] [] En89 fun ac91 En92 => ?_
  refine wp_ret ?_
  refine d_ret1 (t := 4) (v := .int .i64 0) En92 (by kernel_rfl) (by kernel_rfl) ?_
  have hfin0 : Ev w [.box tb [.slice ax (List.length xs) cx] 43, .vec ax cx 5 (List.flatMap fRF xs) 48] wo88 [.box tb [.slice ax (List.length xs) cx] 43, .vec ax cx 5 (List.flatMap fRF (List.set xs (plc name xs) (name, ⟨aN, cN, lN⟩, false, ⟨none, 0, []⟩, (0 : Int), ()))) 48] := Hv90.pick [0, 1] (by kernel_rfl) (by decide)
  have hfin : Ev w [.box tb [.slice ax (List.length xs) cx] 43, .vec ax cx 5 (List.flatMap fRF xs) 48] wo88 [.box tb [.slice ax (List.length (List.set xs (plc name xs) (name, ⟨aN, cN, lN⟩, false, ⟨none, 0, []⟩, 0, ()))) cx] 43, .vec ax cx 5 (List.flatMap fRF (List.set xs (plc name xs) (name, ⟨aN, cN, lN⟩, false, ⟨none, 0, []⟩, 0, ()))) 48] := by simpa only [List.length_set, List.set_set] using hfin0
  exact ⟨ax, cx, rfl, hfin⟩

theorem rrem_none (w : World) (tb : Nat) (ax : Option Addr) (cx : Nat) (xs : List RF) (h64 : List.length xs ≤ 64) (name : List UInt8) (hnm : List.length name ≤ 140737488351232) (hh : hitX name xs = false) (hH : Heap w [.box tb [.slice ax (List.length xs) cx] 43, .vec ax cx 5 (List.flatMap fRF xs) 48]) : Calls Try.prog 27 #[pt tb, .string (bstr name)] w fun e w' => e = .returned (.int .i64 22) ∧ Ev w [.box tb [.slice ax (List.length xs) cx] 43, .vec ax cx 5 (List.flatMap fRF xs) 48] w' [.box tb [.slice ax (List.length xs) cx] 43, .vec ax cx 5 (List.flatMap fRF xs) 48] := by
 refine d_0 [(0, pt tb), (1, .string (bstr name))] 36 Go.Proofs.Try.func27 Go.Proofs.Try.ntmps27 (hH) fun act0 En0 Hv0 => ?_
 refine d_s [0,1,4] [] En0 fun ac1 En2 => ?_
 refine wp_seq ?_
 refine region_from ?_
 refine d_k [0,4,9,10] [] 2 En2 fun ac3 En4 => ?_
 refine f_o ?_
 refine c_l [0,1] (M := [.box tb [.slice ax (List.length xs) cx] 43, .vec ax cx 5 (List.flatMap fRF xs) 48]) En4 Hv0 (fun hM5 => at_go _ tb ax cx xs (by first | omega | (simp; done) | (simp; omega)) name (by first | assumption | omega | decide | (simp; done)) hM5) ?_
 rintro _ wo6 ⟨rfl, he7⟩
 refine ⟨_, _, [.box tb [.slice ax (List.length xs) cx] 43, .vec ax cx 5 (List.flatMap fRF xs) 48], rfl, he7, by kernel_rfl, fun ac9 En10 Hv11 => ?_⟩
 refine d_e [0,4,5,6] [] En10 fun ac12 En13 => ?_
 refine then_normal ?_
 refine wp_seq ?_
 refine d_s [0,4,5,15] [] En13 fun ac14 En15 => ?_
 refine cond_at En15 (t := !(hitX name xs)) (by kernel_rfl) (fun hc16 => ?_) (fun hc16 => ?_)
 ·
  replace hc16 : ¬ (hitX name xs = true) := by simpa using hc16
  refine d_s [0,4,5] [] En15 fun ac17 En18 => ?_
  refine wp_ret ?_
  refine then_ret ?_
  refine d_ret1 (t := 4) (v := .int .i64 22) En18 (by kernel_rfl) (by kernel_rfl) ?_
  exact ⟨rfl, Hv11.pick [0, 1] (by kernel_rfl) (by decide)⟩
 ·
  replace hc16 : hitX name xs = true := by simpa using hc16
  exact absurd hh (by simp_all)

theorem rrem_ok (w : World) (tb : Nat) (ax : Option Addr) (cx : Nat) (xs : List RF) (h64 : List.length xs ≤ 64) (name : List UInt8) (hnm : List.length name ≤ 140737488351232) (hh : hitX name xs = true) (hH : Heap w [.box tb [.slice ax (List.length xs) cx] 43, .vec ax cx 5 (List.flatMap fRF xs) 48]) : Calls Try.prog 27 #[pt tb, .string (bstr name)] w fun e w' => ∃ ay cy, e = .returned (.int .i64 0) ∧ Ev w [.box tb [.slice ax (List.length xs) cx] 43, .vec ax cx 5 (List.flatMap fRF xs) 48] w' [.box tb [.slice ay (List.length (cutX name xs)) cy] 43, .vec ay cy 5 (List.flatMap fRF (cutX name xs)) 48] := by
 have hlt := hit_lt hh
 refine d_0 [(0, pt tb), (1, .string (bstr name))] 36 Go.Proofs.Try.func27 Go.Proofs.Try.ntmps27 (hH) fun act0 En0 Hv0 => ?_
 refine d_s [0,1,4] [] En0 fun ac1 En2 => ?_
 refine wp_seq ?_
 refine region_from ?_
 refine d_k [0,4,9,10] [] 2 En2 fun ac3 En4 => ?_
 refine f_o ?_
 refine c_l [0,1] (M := [.box tb [.slice ax (List.length xs) cx] 43, .vec ax cx 5 (List.flatMap fRF xs) 48]) En4 Hv0 (fun hM5 => at_go _ tb ax cx xs (by first | omega | (simp; done) | (simp; omega)) name (by first | assumption | omega | decide | (simp; done)) hM5) ?_
 rintro _ wo6 ⟨rfl, he7⟩
 refine ⟨_, _, [.box tb [.slice ax (List.length xs) cx] 43, .vec ax cx 5 (List.flatMap fRF xs) 48], rfl, he7, by kernel_rfl, fun ac9 En10 Hv11 => ?_⟩
 refine d_e [0,4,5,6] [] En10 fun ac12 En13 => ?_
 refine then_normal ?_
 refine wp_seq ?_
 refine d_s [0,4,5,15] [] En13 fun ac14 En15 => ?_
 refine cond_at En15 (t := !(hitX name xs)) (by kernel_rfl) (fun hc16 => ?_) (fun hc16 => ?_)
 ·
  replace hc16 : ¬ (hitX name xs = true) := by simpa using hc16
  exact absurd hh (by simp_all)
 ·
  replace hc16 : hitX name xs = true := by simpa using hc16
  refine wp_skip ?_
  refine then_normal ?_
  refine wp_seq ?_
  refine region_from ?_
  refine f_o ?_
  refine op_lit (d := some 16) (t := 41) (T := 48) (m := 0) (parts := #[]) (xs := List.flatMap fRF ([] : List ((List UInt8) × (Sl UInt8) × (Bool) × (Sl UInt8) × (Int) × Unit))) (sz := 5) En15 (by kernel_rfl) (by kernel_rfl) rfl (by decide) Hv11 ?_
  intro ac18 wo19 bk17 En20 Hv21
  refine d_k [0,4,5,16,19] [] 4 En20 fun ac22 En23 => ?_
  refine f_o ?_
  refine m_l 0 En23 Hv21 fun ac24 En25 => ?_
  refine d_k [0,4,5,16,20,21] [] 6 En25 fun ac26 En27 => ?_
  refine f_o ?_
  have hcap28 := sv_vcap (f := fRF) (sz := 5) Hv21.heap (k := 1) rfl (fun _ => rfl) (by decide)
  refine op_slice0 (d := some 22) (t := 41) (e := 48) (sz := 5) (len := List.length xs) (cap := cx) (hi := plc name xs) (ao := ax) (lov := none) (hiv := (some (.int .i64 ((plc name xs : Nat) : Int)))) En27 (by kernel_rfl) (by kernel_rfl) (by kernel_rfl) (by omega) (.inl ⟨rfl, rfl⟩) (.inr ⟨.i64, rfl⟩) ?_
  intro ac29 En30
  refine f_o ?_
  refine op_append (d := some 23) (t := 41) (tx := 41) (ty := 41) (k := 2) (p := 0) (m := plc name xs) (x := .slice ax (plc name xs) cx) (bytes := 80) En30 (by kernel_rfl) Hv21 rfl rfl (Reads.src (size := 5) (tx := 41) (e' := 48) (by kernel_rfl) (sv_take_reads (f := fRF) (sz := 5) (fun _ => rfl) (Hv21.heap.reads (k := 1) rfl) (plc name xs)) (sv_lenn (f := fRF) (sz := 5) (fun _ => rfl) (by first | (simp; done) | (simp; omega))) (fun e => by have := (sv_nz (f := fRF) (sz := 5) Hv21.heap (k := 1) rfl (fun _ => rfl) (by decide)) e; omega) (flat_one (f := fRF) (fun _ => one_all rfl) _)) (by kernel_rfl) (z := .agg #[.string (bstr []), .slice none 0 0, .bool false, .slice none 0 0, .int .i64 0]) (by kernel_rfl) rfl (by decide) (by first | omega | (simp; omega) | (simp at *; omega)) (by unfold maxLen; omega) ?_
  intro ac35 wo36 ao31 cp32 En37 Hv38 hnz _
  clear hnz
  rw [← List.flatMap_append] at Hv38
  have ehz33 : 0 + (plc name xs) = List.length (([] : List ((List UInt8) × (Sl UInt8) × (Bool) × (Sl UInt8) × (Int) × Unit)) ++ (List.take (plc name xs) xs)) := (by first | (simp; done) | (simp; omega) | omega)
  rw [ehz33] at En37
  refine d_e [0,4,5,7] [] En37 fun ac39 En40 => ?_
  refine then_normal ?_
  refine wp_seq ?_
  refine region_from ?_
  refine d_k [0,4,5,24,25,28] [] 5 En40 fun ac41 En42 => ?_
  refine f_o ?_
  refine m_l 0 En42 Hv38 fun ac43 En44 => ?_
  refine d_k [0,4,5,24,25,29,31] [(7, g_n (w_a (plc name xs) 1))] 8 En44 fun ac45 En46 => ?_
  refine f_o ?_
  have hcap47 := sv_vcap (f := fRF) (sz := 5) Hv38.heap (k := 1) rfl (fun _ => rfl) (by decide)
  refine op_slice (d := some 32) (t := 41) (e := 48) (sz := 5) (len := List.length xs) (cap := cx) (lo := (plc name xs) + 1) (hi := List.length xs) (ao := ax) (lov := (some (.int .i64 (((plc name xs) + 1 : Nat) : Int)))) (hiv := none) En46 (by kernel_rfl) (by kernel_rfl) (by kernel_rfl) (by omega) (by omega) (.inr ⟨.i64, rfl⟩) (.inl ⟨rfl, rfl⟩) ?_
  intro ac48 En49
  refine f_o ?_
  refine op_append (d := some 33) (t := 41) (tx := 41) (ty := 41) (k := 2) (p := List.length (([] : List ((List UInt8) × (Sl UInt8) × (Bool) × (Sl UInt8) × (Int) × Unit)) ++ (List.take (plc name xs) xs))) (m := (List.length xs) - ((plc name xs) + 1)) (x := .slice (cutAt ax cx ((plc name xs) + 1) 5) ((List.length xs) - ((plc name xs) + 1)) (cx - ((plc name xs) + 1))) (bytes := 80) En49 (by kernel_rfl) Hv38 rfl (sv_len (f := fRF) (sz := 5) (fun _ => rfl) _) (Reads.src (size := 5) (tx := 41) (e' := 48) (by kernel_rfl) (sv_drop_reads (f := fRF) (sz := 5) (fun _ => rfl) (Hv38.heap.reads (k := 1) rfl) cx ((plc name xs) + 1) (n := (List.length xs)) (by first | rfl | (simp; done)) (by omega) (by omega)) (sv_lenn (f := fRF) (sz := 5) (fun _ => rfl) (by first | (simp; done) | (simp; omega))) (fun e => cut_nz (sv_nz (f := fRF) (sz := 5) Hv38.heap (k := 1) rfl (fun _ => rfl) (by decide)) e (by omega)) (flat_one (f := fRF) (fun _ => one_all rfl) _)) (by kernel_rfl) (z := .agg #[.string (bstr []), .slice none 0 0, .bool false, .slice none 0 0, .int .i64 0]) (by kernel_rfl) rfl (by decide) (by first | omega | (simp; omega) | (simp at *; omega)) (by unfold maxLen; omega) ?_
  intro ac54 wo55 ao50 cp51 En56 Hv57 hnz _
  clear hnz
  rw [← List.flatMap_append] at Hv57
  have ehz52 : (List.length (([] : List ((List UInt8) × (Sl UInt8) × (Bool) × (Sl UInt8) × (Int) × Unit)) ++ (List.take (plc name xs) xs))) + ((List.length xs) - ((plc name xs) + 1)) = List.length ((([] : List ((List UInt8) × (Sl UInt8) × (Bool) × (Sl UInt8) × (Int) × Unit)) ++ (List.take (plc name xs) xs)) ++ (List.drop ((plc name xs) + 1) xs)) := (by first | (simp; done) | (simp; omega) | omega)
  rw [ehz52] at En56
  refine d_k [0,4,5,33,35] [] 12 En56 fun ac58 En59 => ?_
  refine f_o ?_
  refine m_s 0 [.box tb [.slice ao50 (List.length ((([] : List ((List UInt8) × (Sl UInt8) × (Bool) × (Sl UInt8) × (Int) × Unit)) ++ (List.take (plc name xs) xs)) ++ (List.drop ((plc name xs) + 1) xs))) cp51] 43, .vec ax cx 5 (List.flatMap fRF xs) 48, .vec ao50 cp51 5 (List.flatMap fRF ((([] : List ((List UInt8) × (Sl UInt8) × (Bool) × (Sl UInt8) × (Int) × Unit)) ++ (List.take (plc name xs) xs)) ++ (List.drop ((plc name xs) + 1) xs))) 48] En59 Hv57 fun ac60 wo61 En62 Hv63 => ?_
  refine f_e ?_
  refine then_normal ?_
  refine d_s [0,4,5] [] En62 fun ac64 En65 => ?_
  refine wp_ret ?_
  refine d_ret1 (t := 4) (v := .int .i64 0) En65 (by kernel_rfl) (by kernel_rfl) ?_
  have hfin : Ev w [.box tb [.slice ax (List.length xs) cx] 43, .vec ax cx 5 (List.flatMap fRF xs) 48] wo61 [.box tb [.slice ao50 (List.length (cutX name xs)) cp51] 43, .vec ao50 cp51 5 (List.flatMap fRF (cutX name xs)) 48] := by have h : Ev w [.box tb [.slice ax (List.length xs) cx] 43, .vec ax cx 5 (List.flatMap fRF xs) 48] wo61 [.box tb [.slice ao50 (List.length ((([] : List ((List UInt8) × (Sl UInt8) × (Bool) × (Sl UInt8) × (Int) × Unit)) ++ (List.take (plc name xs) xs)) ++ (List.drop ((plc name xs) + 1) xs))) cp51] 43, .vec ao50 cp51 5 (List.flatMap fRF ((([] : List ((List UInt8) × (Sl UInt8) × (Bool) × (Sl UInt8) × (Int) × Unit)) ++ (List.take (plc name xs) xs)) ++ (List.drop ((plc name xs) + 1) xs))) 48] := Hv63.pick [0, 2] (by kernel_rfl) (by decide); rw [show (([] : List ((List UInt8) × (Sl UInt8) × (Bool) × (Sl UInt8) × (Int) × Unit)) ++ (List.take (plc name xs) xs)) ++ (List.drop ((plc name xs) + 1) xs) = cutX name xs from cut_eq name xs] at h; exact h
  exact ⟨ao50, cp51, rfl, hfin⟩

theorem rtorn_go (w : World) (tb : Nat) (ax : Option Addr) (cx : Nat) (xs : List RF) (h64 : List.length xs ≤ 64) (name : List UInt8) (hnm : List.length name ≤ 140737488351232)  (hH : Heap w [.box tb [.slice ax (List.length xs) cx] 43, .vec ax cx 5 (List.flatMap fRF xs) 48]) : Calls Try.prog 28 #[pt tb, .string (bstr name)] w fun e w' => e = .returned (.bool (tornX name xs)) ∧ Ev w [.box tb [.slice ax (List.length xs) cx] 43, .vec ax cx 5 (List.flatMap fRF xs) 48] w' [.box tb [.slice ax (List.length xs) cx] 43, .vec ax cx 5 (List.flatMap fRF xs) 48] := by
 refine d_0 [(0, pt tb), (1, .string (bstr name))] 24 Go.Proofs.Try.func28 Go.Proofs.Try.ntmps28 (hH) fun act0 En0 Hv0 => ?_
 refine d_s [0,1,4] [] En0 fun ac1 En2 => ?_
 refine wp_seq ?_
 refine region_from ?_
 refine d_k [0,4,8,9] [] 2 En2 fun ac3 En4 => ?_
 refine f_o ?_
 refine c_l [0,1] (M := [.box tb [.slice ax (List.length xs) cx] 43, .vec ax cx 5 (List.flatMap fRF xs) 48]) En4 Hv0 (fun hM5 => at_go _ tb ax cx xs (by first | omega | (simp; done) | (simp; omega)) name (by first | assumption | omega | decide | (simp; done)) hM5) ?_
 rintro _ wo6 ⟨rfl, he7⟩
 refine ⟨_, _, [.box tb [.slice ax (List.length xs) cx] 43, .vec ax cx 5 (List.flatMap fRF xs) 48], rfl, he7, by kernel_rfl, fun ac9 En10 Hv11 => ?_⟩
 refine d_e [0,4,5,6] [] En10 fun ac12 En13 => ?_
 refine then_normal ?_
 refine wp_seq ?_
 refine region_from ?_
 refine d_k [0,4,5,14] [] 2 En13 fun ac14 En15 => ?_
 rcases Bool.eq_false_or_eq_true (hitX name xs) with hb16 | hb16
 ·
  have En17 := En15.fx (t := 14) (congrArg Value.bool hb16)
  have hp18 : hitX name xs = true := hb16
  refine d_k [0,4,5,14,17] [] 5 En17 fun ac19 En20 => ?_
  refine f_o ?_
  refine m_l 0 En20 Hv11 fun ac21 En22 => ?_
  have hb25 : plc name xs < List.length xs := (by first | omega | exact hit_lt (by assumption))
  obtain ⟨adr23, had24⟩ := some_of (sv_nz (f := fRF) (sz := 5) Hv11.heap (k := 1) rfl (fun _ => rfl) (by decide)) hb25
  have hb26 : plc name xs < List.length xs := by omega
  obtain ⟨⟨x28a, ⟨a_x28b, c_x28b, x28b⟩, x28c, ⟨a_x28d, c_x28d, x28d⟩, x28e, _⟩, hx27⟩ : ∃ x, (xs)[plc name xs]? = some x := ⟨_, List.getElem?_eq_getElem hb26⟩
  refine d_k [0,4,14,18,19] [] 7 En22 fun ac29 En30 => ?_
  refine f_o ?_
  refine q_v (x := Instr.indexAt 41 (.slice ax (List.length xs) cx) (.int .i64 ((plc name xs : Nat) : Int))) (v := .pointer (some (Addr.add adr23 ((plc name xs) * 5)))) En30 (Go.Dbr.run_indexsl (e := 48) (sz := 5) (j := plc name xs) (jo := (plc name xs) * 5) had24 (by kernel_rfl) (by kernel_rfl) (by omega) hb25 rfl _) fun ac31 En32 => ?_
  refine d_k [0,4,14,21] [] 9 En32 fun ac33 En34 => ?_
  refine f_o ?_
  refine op_loadf (d := some 22) (t := 4) (ad := adr23) (ao := ax) (ys := List.flatMap fRF xs) (o := (plc name xs) * 5 + 2) (v := .bool x28c) En34 (by kernel_rfl) (Deep.add_add _ _ _) (Hv11.heap.reads (k := 1) rfl) had24 ((flat_get (sz := 5) (j := 2) (fun _ _ => rfl) hx27 (by decide)).trans rfl) (by kernel_rfl) ?_
  intro ac35 En36
  refine d_e [0,4] [] En36 fun ac37 En38 => ?_
  refine then_normal ?_
  refine wp_ret ?_
  refine d_ret1 (t := 4) (v := .bool x28c) En38 (by kernel_rfl) (by kernel_rfl) ?_
  rw [tornX_hit (by assumption) hx27]
  exact ⟨rfl, Hv11.pick [0, 1] (by kernel_rfl) (by decide)⟩
 ·
  have En39 := En15.fx (t := 14) (congrArg Value.bool hb16)
  have hp40 : ¬ (hitX name xs = true) := Bool.eq_false_iff.1 hb16
  refine d_e [0,4] [] En39 fun ac41 En42 => ?_
  refine then_normal ?_
  refine wp_ret ?_
  refine d_ret1 (t := 4) (v := .bool false) En42 (by kernel_rfl) (by kernel_rfl) ?_
  rw [tornX_no (by assumption)]
  exact ⟨rfl, Hv11.pick [0, 1] (by kernel_rfl) (by decide)⟩

theorem rread_none (w : World) (tb : Nat) (ax : Option Addr) (cx : Nat) (xs : List RF) (h64 : List.length xs ≤ 64) (name : List UInt8) (hnm : List.length name ≤ 140737488351232) (hh : hitX name xs = false) (hH : Heap w [.box tb [.slice ax (List.length xs) cx] 43, .vec ax cx 5 (List.flatMap fRF xs) 48]) : Calls Try.prog 17 #[pt tb, .string (bstr name)] w fun e w' => e = .returned (.tuple #[.slice none 0 0, .int .i64 22]) ∧ Ev w [.box tb [.slice ax (List.length xs) cx] 43, .vec ax cx 5 (List.flatMap fRF xs) 48] w' [.box tb [.slice ax (List.length xs) cx] 43, .vec ax cx 5 (List.flatMap fRF xs) 48] := by
 refine d_0 [(0, pt tb), (1, .string (bstr name))] 46 Go.Proofs.Try.func17 Go.Proofs.Try.ntmps17 (hH) fun act0 En0 Hv0 => ?_
 refine d_s [0,1,4,5] [] En0 fun ac1 En2 => ?_
 refine wp_seq ?_
 refine region_from ?_
 refine d_k [0,4,5,11,12] [] 2 En2 fun ac3 En4 => ?_
 refine f_o ?_
 refine c_l [0,1] (M := [.box tb [.slice ax (List.length xs) cx] 43, .vec ax cx 5 (List.flatMap fRF xs) 48]) En4 Hv0 (fun hM5 => at_go _ tb ax cx xs (by first | omega | (simp; done) | (simp; omega)) name (by first | assumption | omega | decide | (simp; done)) hM5) ?_
 rintro _ wo6 ⟨rfl, he7⟩
 refine ⟨_, _, [.box tb [.slice ax (List.length xs) cx] 43, .vec ax cx 5 (List.flatMap fRF xs) 48], rfl, he7, by kernel_rfl, fun ac9 En10 Hv11 => ?_⟩
 refine d_e [0,4,5,6,7] [] En10 fun ac12 En13 => ?_
 refine then_normal ?_
 refine wp_seq ?_
 refine d_s [0,4,5,6,17] [] En13 fun ac14 En15 => ?_
 refine cond_at En15 (t := !(hitX name xs)) (by kernel_rfl) (fun hc16 => ?_) (fun hc16 => ?_)
 ·
  replace hc16 : ¬ (hitX name xs = true) := by simpa using hc16
  refine d_s [0,4,5,6] [] En15 fun ac17 En18 => ?_
  refine wp_ret ?_
  refine then_ret ?_
  refine d_ret2 (t := 4) (u := 5) (v := .slice none 0 0) (x := .int .i64 22) En18 (by kernel_rfl) (by kernel_rfl) (by kernel_rfl) ?_
  exact ⟨rfl, Hv11.pick [0, 1] (by kernel_rfl) (by decide)⟩
 ·
  replace hc16 : hitX name xs = true := by simpa using hc16
  exact absurd hh (by simp_all)

theorem rread_go (w : World) (tb : Nat) (ax : Option Addr) (cx : Nat) (xs : List RF) (h64 : List.length xs ≤ 64) (name : List UInt8) (hnm : List.length name ≤ 140737488351232) (hh : hitX name xs = true) (nm1 : List UInt8) (aB : Option Addr) (cB : Nat) (lB : List UInt8) (t1 : Bool) (aN : Option Addr) (cN : Nat) (lN : List UInt8) (k1 : Nat) (hx : (xs)[plc name xs]? = some (nm1, ⟨aB, cB, lB⟩, t1, ⟨aN, cN, lN⟩, ((k1 : Nat) : Int), ())) (iB : InB w [.box tb [.slice ax (List.length xs) cx] 43, .vec ax cx 5 (List.flatMap fRF xs) 48] aB cB lB) (iN : InB w [.box tb [.slice ax (List.length xs) cx] 43, .vec ax cx 5 (List.flatMap fRF xs) 48] aN cN lN) (hA : List.length lB ≤ 65536) (hB : List.length lN ≤ 65536) (hk : k1 ≤ List.length lN) (hH : Heap w [.box tb [.slice ax (List.length xs) cx] 43, .vec ax cx 5 (List.flatMap fRF xs) 48]) : Calls Try.prog 17 #[pt tb, .string (bstr name)] w fun e w' => ∃ ao co, e = .returned (.tuple #[.slice ao (List.length (rdL lB lN k1)) co, .int .i64 0]) ∧ Ev w [.box tb [.slice ax (List.length xs) cx] 43, .vec ax cx 5 (List.flatMap fRF xs) 48] w' [.box tb [.slice ax (List.length xs) cx] 43, .vec ax cx 5 (List.flatMap fRF xs) 48, .vec ao co 1 (bys (rdL lB lN k1)) 5] := by
 have hlt := hit_lt hh
 have hsa := iB.small
 have hca := iB.cap
 have hcb := iN.cap
 refine d_0 [(0, pt tb), (1, .string (bstr name))] 46 Go.Proofs.Try.func17 Go.Proofs.Try.ntmps17 (hH) fun act0 En0 Hv0 => ?_
 refine d_s [0,1,4,5] [] En0 fun ac1 En2 => ?_
 refine wp_seq ?_
 refine region_from ?_
 refine d_k [0,4,5,11,12] [] 2 En2 fun ac3 En4 => ?_
 refine f_o ?_
 refine c_l [0,1] (M := [.box tb [.slice ax (List.length xs) cx] 43, .vec ax cx 5 (List.flatMap fRF xs) 48]) En4 Hv0 (fun hM5 => at_go _ tb ax cx xs (by first | omega | (simp; done) | (simp; omega)) name (by first | assumption | omega | decide | (simp; done)) hM5) ?_
 rintro _ wo6 ⟨rfl, he7⟩
 refine ⟨_, _, [.box tb [.slice ax (List.length xs) cx] 43, .vec ax cx 5 (List.flatMap fRF xs) 48], rfl, he7, by kernel_rfl, fun ac9 En10 Hv11 => ?_⟩
 refine d_e [0,4,5,6,7] [] En10 fun ac12 En13 => ?_
 refine then_normal ?_
 refine wp_seq ?_
 refine d_s [0,4,5,6,17] [] En13 fun ac14 En15 => ?_
 refine cond_at En15 (t := !(hitX name xs)) (by kernel_rfl) (fun hc16 => ?_) (fun hc16 => ?_)
 ·
  replace hc16 : ¬ (hitX name xs = true) := by simpa using hc16
  exact absurd hh (by simp_all)
 ·
  replace hc16 : hitX name xs = true := by simpa using hc16
  refine wp_skip ?_
  refine then_normal ?_
  refine wp_seq ?_
  refine region_from ?_
  refine d_k [0,4,5,6,20] [] 3 En15 fun ac17 En18 => ?_
  refine f_o ?_
  refine m_l 0 En18 Hv11 fun ac19 En20 => ?_
  have hb23 : plc name xs < List.length xs := (by first | omega | exact hit_lt (by assumption))
  obtain ⟨adr21, had22⟩ := some_of (sv_nz (f := fRF) (sz := 5) Hv11.heap (k := 1) rfl (fun _ => rfl) (by decide)) hb23
  refine d_k [0,4,5,21,22] [] 5 En20 fun ac24 En25 => ?_
  refine f_o ?_
  refine q_v (x := Instr.indexAt 41 (.slice ax (List.length xs) cx) (.int .i64 ((plc name xs : Nat) : Int))) (v := .pointer (some (Addr.add adr21 ((plc name xs) * 5)))) En25 (Go.Dbr.run_indexsl (e := 48) (sz := 5) (j := plc name xs) (jo := (plc name xs) * 5) had22 (by kernel_rfl) (by kernel_rfl) (by omega) hb23 rfl _) fun ac26 En27 => ?_
  refine f_o ?_
  refine op_loadaggat (d := some 24) (t := 48) (ad := adr21) (ao := ax) (ys := List.flatMap fRF xs) (o := (plc name xs) * 5) (m := 5) (xs := [.string (bstr nm1), .slice aB (List.length lB) cB, .bool t1, .slice aN (List.length lN) cN, ni k1]) En27 (by kernel_rfl) rfl (Hv11.heap.reads (k := 1) rfl) had22 (fun j hj => ?_) rfl (by kernel_rfl) (by kernel_rfl) ?_
  ·
   exact flat_sub (sz := 5) (off := 0) (m := 5) (fun _ _ => rfl) hx (by decide) rfl j hj
  intro ac28 En29
  refine f_o ?_
  refine m_z 48 [.string (bstr []), .slice none 0 0, .bool false, .slice none 0 0, .int .i64 0] En29 Hv11 fun ac31 wo32 bk30 En33 Hv34 => ?_
  refine f_o ?_
  refine m_g 2 0 5 [.string (bstr nm1), .slice aB (List.length lB) cB, .bool t1, .slice aN (List.length lN) cN, ni k1] [.string (bstr nm1), .slice aB (List.length lB) cB, .bool t1, .slice aN (List.length lN) cN, ni k1] [.box tb [.slice ax (List.length xs) cx] 43, .vec ax cx 5 (List.flatMap fRF xs) 48, .box bk30 [.string (bstr nm1), .slice aB (List.length lB) cB, .bool t1, .slice aN (List.length lN) cN, ni k1] 48] En33 Hv34 rfl rfl (by simp) (one_all (by kernel_rfl)) rfl rfl fun ac35 wo36 En37 Hv38 => ?_
  refine f_e ?_
  refine then_normal ?_
  refine wp_seq ?_
  refine region_from ?_
  refine f_o ?_
  refine op_lit (d := some 25) (t := 22) (T := 5) (m := 0) (parts := #[]) (xs := bys []) (sz := 1) En37 (by kernel_rfl) (by kernel_rfl) rfl (by decide) Hv38 ?_
  intro ac40 wo41 bk39 En42 Hv43
  refine d_k [0,4,5,8,25,26] [] 2 En42 fun ac44 En45 => ?_
  refine f_o ?_
  refine m_l 2 En45 Hv43 fun ac46 En47 => ?_
  refine d_k [0,4,5,8,25,27,28] [] 4 En47 fun ac48 En49 => ?_
  refine f_o ?_
  refine m_l 2 En49 Hv43 fun ac50 En51 => ?_
  refine f_o ?_
  have hcap52 := iN.cap
  refine op_slice0 (d := some 30) (t := 22) (e := 5) (sz := 1) (len := List.length lN) (cap := cN) (hi := k1) (ao := aN) (lov := none) (hiv := (some (ni k1))) En51 (by kernel_rfl) (by kernel_rfl) (by kernel_rfl) (by omega) (.inl ⟨rfl, rfl⟩) (.inr ⟨.i64, rfl⟩) ?_
  intro ac53 En54
  refine f_o ?_
  refine op_append (d := some 31) (t := 22) (tx := 22) (ty := 22) (k := 3) (p := 0) (m := k1) (x := .slice aN k1 cN) (bytes := 1) En54 (by kernel_rfl) Hv43 rfl rfl (Reads.src (size := 1) (tx := 22) (e' := 5) (by kernel_rfl) (bys_take_reads (iN.ev Hv43).reads k1) (bys_lenn (by first | (simp; done) | (simp; omega))) (fun e => by have := iN.nz e; omega) (bys_one _)) (by kernel_rfl) (z := .int .u8 0) (by kernel_rfl) rfl (by decide) (by omega) (by unfold maxLen; omega) ?_
  intro ac59 wo60 ao55 cp56 En61 Hv62 hnz _
  clear hnz
  rw [bys_nil_append] at Hv62
  have ehz57 : 0 + k1 = List.length (List.take k1 lN) := (by first | (simp; done) | (simp; omega) | omega)
  rw [ehz57] at En61
  refine d_e [0,4,5,8,9] [] En61 fun ac63 En64 => ?_
  refine then_normal ?_
  refine wp_seq ?_
  refine wp_seq ?_
  refine region_from ?_
  refine d_k [0,4,5,8,9,32] [] 1 En64 fun ac65 En66 => ?_
  refine f_o ?_
  refine m_l 2 En66 Hv62 fun ac67 En68 => ?_
  refine d_k [0,4,5,8,9,34,35] [] 4 En68 fun ac69 En70 => ?_
  refine f_o ?_
  refine m_l 2 En70 Hv62 fun ac71 En72 => ?_
  refine d_e [0,4,5,8,9,37] [] En72 fun ac73 En74 => ?_
  refine then_normal ?_
  refine c_d (((List.length lB : Nat) : Int) > ((k1 : Nat) : Int)) En74 (fun hc75 => ?_) (fun hc75 => ?_)
  ·
   refine region_from ?_
   refine d_k [0,4,5,8,9,38,39] [] 2 En74 fun ac76 En77 => ?_
   refine f_o ?_
   refine m_l 2 En77 Hv62 fun ac78 En79 => ?_
   refine d_k [0,4,5,8,9,38,40,41] [] 4 En79 fun ac80 En81 => ?_
   refine f_o ?_
   refine m_l 2 En81 Hv62 fun ac82 En83 => ?_
   refine f_o ?_
   have hcap84 := iB.cap
   refine op_slice (d := some 43) (t := 22) (e := 5) (sz := 1) (len := List.length lB) (cap := cB) (lo := k1) (hi := List.length lB) (ao := aB) (lov := (some (ni k1))) (hiv := none) En83 (by kernel_rfl) (by kernel_rfl) (by kernel_rfl) (by omega) (by omega) (.inr ⟨.i64, rfl⟩) (.inl ⟨rfl, rfl⟩) ?_
   intro ac85 En86
   refine f_o ?_
   refine op_append (d := some 44) (t := 22) (tx := 22) (ty := 22) (k := 3) (p := List.length (List.take k1 lN)) (m := (List.length lB) - k1) (x := .slice (cutAt aB cB k1 1) ((List.length lB) - k1) (cB - k1)) (bytes := 1) En86 (by kernel_rfl) Hv62 rfl (bys_len _) (Reads.src (size := 1) (tx := 22) (e' := 5) (by kernel_rfl) (bys_drop_reads (iB.ev Hv62).reads cB k1 (n := (List.length lB)) (by simp) (by omega) (by omega)) (bys_lenn (by first | (simp; done) | (simp; omega))) (fun e => cut_nz iB.nz e (by omega)) (bys_one _)) (by kernel_rfl) (z := .int .u8 0) (by kernel_rfl) rfl (by decide) (by omega) (by unfold maxLen; omega) ?_
   intro ac91 wo92 ao87 cp88 En93 Hv94 hnz _
   clear hnz
   rw [← bys_append] at Hv94
   have ehz89 : (List.length (List.take k1 lN)) + ((List.length lB) - k1) = List.length ((List.take k1 lN) ++ (List.drop k1 lB)) := (by first | (simp; done) | (simp; omega) | omega)
   rw [ehz89] at En93
   refine d_e [0,4,5,8,9] [] En93 fun ac95 En96 => ?_
   refine then_normal ?_
   refine d_s [0,4,5,8,9] [] En96 fun ac97 En98 => ?_
   refine wp_ret ?_
   refine d_ret2 (t := 4) (u := 5) (v := .slice ao87 (List.length ((List.take k1 lN) ++ (List.drop k1 lB))) cp88) (x := .int .i64 0) En98 (by kernel_rfl) (by kernel_rfl) (by kernel_rfl) ?_
   rw [show (List.take k1 lN) ++ (List.drop k1 lB) = rdL lB lN k1 from by (try simp only [List.nil_append]); first | exact rdr_1 (by omega) | exact rdr_2 (by omega)] at Hv94
   refine ⟨ao87, cp88, ?_, Hv94.pick [0, 1, 3] (by kernel_rfl) (by decide)⟩
   first | rfl | (rw [show (List.take k1 lN) ++ (List.drop k1 lB) = rdL lB lN k1 from by (try simp only [List.nil_append]); first | exact rdr_1 (by omega) | exact rdr_2 (by omega)])
  ·
   refine wp_skip ?_
   refine then_normal ?_
   refine d_s [0,4,5,8,9] [] En74 fun ac99 En100 => ?_
   refine wp_ret ?_
   refine d_ret2 (t := 4) (u := 5) (v := .slice ao55 (List.length (List.take k1 lN)) cp56) (x := .int .i64 0) En100 (by kernel_rfl) (by kernel_rfl) (by kernel_rfl) ?_
   rw [show List.take k1 lN = rdL lB lN k1 from by (try simp only [List.nil_append]); first | exact rdr_1 (by omega) | exact rdr_2 (by omega)] at Hv62
   refine ⟨ao55, cp56, ?_, Hv62.pick [0, 1, 3] (by kernel_rfl) (by decide)⟩
   first | rfl | (rw [show List.take k1 lN = rdL lB lN k1 from by (try simp only [List.nil_append]); first | exact rdr_1 (by omega) | exact rdr_2 (by omega)])

end Go.Proofs.Ytfeibokonhdgnaa
