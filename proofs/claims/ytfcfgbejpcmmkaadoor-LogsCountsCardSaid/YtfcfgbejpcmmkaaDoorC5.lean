/- LogsCounts: the walk. -/
import Derived.Test.YtfcfgbejpcmmkaaDoorC4
import Derived.Test.YtfcfgbejpcmmkaaDoorSq
namespace Go.Proofs.YtfcfgbejpcmmkaaDoor
open Go.Dbr
set_option maxRecDepth 100000
set_option maxHeartbeats 2000000
set_option linter.unusedVariables false
set_option linter.unusedSimpArgs false

theorem InvC.step {m : CM} {xs : List RCnt} (I : InvC m xs) (nm : Bs) (v : UInt64) : InvC (cntM m nm v) (cntX xs nm v) := by
  unfold cntM cntX
  split
  · exact I.put nm v
  · exact I
theorem InvC.slen {m : CM} {xs : List RCnt} (I : InvC m xs) (nm : Bs) (v : UInt64) : (cntX xs nm v).length ≤ xs.length + 1 := by
  unfold cntX
  split
  · exact I.len nm v
  · omega
theorem small_step {m : CM} (h : smallC m) (nm : Bs) (v : UInt64) : smallC (cntM m nm v) := by
  unfold cntM
  split
  · rename_i g; exact small_put h (word_len g).2
  · exact h
theorem at_dropC {gs ws : List RCnt} {k : Nat} {x : RCnt} (h : List.drop k gs = List.drop k ws) (hx : gs[k]? = some x) : ws[k]? = some x := by
  have h1 : (List.drop k gs)[0]? = (List.drop k ws)[0]? := by rw [h]
  rw [List.getElem?_drop, List.getElem?_drop, Nat.add_zero] at h1
  rw [← h1]; exact hx
theorem set_dropC {gs ws : List RCnt} {k : Nat} {y : RCnt} (h : List.drop k gs = List.drop k ws) : List.drop (k + 1) (gs.set k y) = List.drop (k + 1) ws := by
  have e : ∀ x : List RCnt, List.drop (k + 1) x = List.drop 1 (List.drop k x) := fun x => by rw [List.drop_drop]
  rw [List.drop_set_of_lt (Nat.lt_succ_self k), e gs, e ws, h]

theorem counts_walk (a_lw : Option Addr) (c_lw : Nat) (lw : List ((List UInt8) × (UInt64) × Unit)) (w : World) (i_lw : InS (fun p : (List UInt8) × (UInt64) × Unit => (fun l : List UInt8 => [.string (bstr l)]) p.1 ++ (fun p : (UInt64) × Unit => (fun n : UInt64 => [uv64 n]) p.1 ++ (fun _ : Unit => []) p.2) p.2) 24 (fun x : (List UInt8) × (UInt64) × Unit => ((List.length x.1 ≤ 140737488351232) ∧ (True ∧ (True)))) w [] a_lw c_lw lw) (gt : InT w []) : Calls Tryd.prog 6 #[.slice a_lw (List.length lw) c_lw] w fun e w' => e = .returned (.bool true) ∧ Ev w [] w' [] := by
 refine d_0 [(0, .slice a_lw (List.length lw) c_lw)] 93 Go.Proofs.Tryd.func6 Go.Proofs.Tryd.ntmps6 (Heap.nil _) fun act0 En0 Hv0 => ?_
 refine wp_seq ?_
 refine d_r [0,2] [] En0 fun ac1 En2 => ?_
 refine then_normal ?_
 refine wp_seq ?_
 refine region_from ?_
 refine f_o ?_
 refine c_p En2 Hv0 (head_go _ ((gt.ev Hv0).nil)) fun ac7 wo4 En8 Hv9 => ?_
 refine d_e [0,2,3] [] En8 fun ac10 En11 => ?_
 refine then_normal ?_
 refine wp_seq ?_
 refine region_from ?_
 refine f_o ?_
 refine c_0 En11 Hv9 (newm_go _) ?_
 rintro _ wo15 ⟨g12, mb13, rfl, he16⟩
 refine ⟨_, _, _, rfl, he16, rfl, fun ac18 En19 Hv20 => ?_⟩
 refine d_e [0,2,3,4,5] [] En19 fun ac21 En22 => ?_
 refine then_normal ?_
 refine wp_seq ?_
 refine wp_seq ?_
 refine d_r [0,2,4,26] [] En22 fun ac23 En24 => ?_
 refine then_normal ?_
 refine c_f En24 ?_
 refine wp_skip ?_
 refine then_normal ?_
 refine wp_seq ?_
 refine d_r [0,2,4,6] [] En24 fun ac25 En26 => ?_
 refine then_normal ?_
 refine wp_seq ?_
 refine wp_seq ?_
 refine d_r [0,2,4,6,7] [] En26 fun ac27 En28 => ?_
 refine then_normal ?_
 refine wp_block ?_
 have Hv29 : Ev w [] wo15 [.box g12 [.int .i64 1, .slice none 0 0, .int .u64 0, .map (some mb13)] 79, .map mb13 (kvs uv64 []), .vec none 0 2 (List.flatMap fCnt []) 54] := Ev.nil (sz := 2) (T := 54) Hv20
 refine loop_m (fun ms30 ac wo => ∃ (i : Nat) (a3 : Option Addr) (c3 : Nat) (ws : List RCnt) (m : CM), ms30 = (List.length lw - i : Nat) ∧ Env ac 93 [(0, .slice a_lw (List.length lw) c_lw), (4, pt g12), (6, .slice a3 (List.length ws) c3), (7, ni i)] ∧ Ev w [] wo [.box g12 [.int .i64 1, .slice none 0 0, .int .u64 0, .map (some mb13)] 79, .map mb13 (kvs uv64 m), .vec a3 c3 2 (List.flatMap fCnt ws) 54] ∧ (i ≤ List.length lw) ∧ (InvC m ws) ∧ (smallC m) ∧ (List.length ws ≤ i)) ⟨_, 0, none, 0, [], [], rfl, En28.sub (by kernel_rfl), Hv29.pick [0, 1, 2] (by kernel_rfl) (by decide), (Nat.zero_le _), InvC.nil, (fun _ h => by cases h), (Nat.le_refl _)⟩ ?_
 rintro mm36 ac32 wo33 ⟨i, a3, c3, ws, m, rfl, En34, Hv35, hil, hI, hsm, hwl⟩
 refine wp_seq ?_
 refine wp_seq ?_
 refine d_r [0,4,6,7,30] [] En34 fun ac37 En38 => ?_
 refine then_normal ?_
 refine c_d (((i : Nat) : Int) < ((List.length lw : Nat) : Int)) En38 (fun hc39 => ?_) (fun hc39 => ?_)
 ·
  refine wp_skip ?_
  refine then_normal ?_
  refine wp_seq ?_
  refine wp_block ?_
  refine wp_seq ?_
  have hzl := i_lw.small
  have hb40 : i < List.length lw := by omega
  obtain ⟨⟨x42a, x42b, _⟩, hx41⟩ : ∃ x, (lw)[i]? = some x := ⟨_, List.getElem?_eq_getElem hb40⟩
  obtain ⟨s_x42a, _, _⟩ := i_lw.each _ (List.mem_of_getElem? hx41)
  replace s_x42a : (List.length x42a ≤ 140737488351232) := s_x42a
  refine r_c (fun ac wo => ∃ (ac112 : _) (cc113 : _), Env ac 93 [(0, .slice a_lw (List.length lw) c_lw), (4, pt g12), (6, .slice a3 (List.length ws) c3), (7, ni i), (8, .slice ac112 (List.length (cntX ws x42a x42b)) cc113), (9, .int .i64 (cntE x42a))] ∧ Ev w [] wo [.vec ac112 cc113 2 (List.flatMap fCnt (cntX ws x42a x42b)) 54, .box g12 [.int .i64 1, .slice none 0 0, .int .u64 0, .map (some mb13)] 79, .map mb13 (kvs uv64 m)]) ?_ ?_
  ·
   refine h_s (fun wv => Ev w [] wv []) [] 17 ?_
   have wo43 := Hv35.trans (Ev.drew Hv35.heap)
   have hb125 : i < List.length lw := (by omega)
   obtain ⟨adr123, had124⟩ := some_of i_lw.nz hb125
   refine q_s [0,1,2] [] 14 En38 (wo43.pick [] (by kernel_rfl) (by decide)) fun ac126 En127 => ?_
   refine q_f 3 (s := Instr.indexAt 46 (.slice a_lw (List.length lw) c_lw) (ni i)) (v := .pointer (some (Addr.add adr123 (i * 2)))) En127 (fun _ => Go.Dbr.run_indexsl (e := 51) (sz := 2) (j := i) (jo := i * 2) had124 (by kernel_rfl) (by kernel_rfl) (by omega) hb125 rfl _) (fun _ => wo43.pick [] (by kernel_rfl) (by decide)) fun ac128 En129 => ?_
   refine q_s [4] [] 12 En129 (wo43.pick [] (by kernel_rfl) (by decide)) fun ac130 En131 => ?_
   refine q_r 5 (s := Instr.loadAt 9 (.pointer (some (Addr.add adr123 (i * 2))))) (v := .string (bstr x42a)) En131 (fun w hS => run_loadel (ad := adr123) (o := i * 2) rfl (i_lw.ro.ev hS).reads had124 ((flat_get (sz := 2) (j := 0) (fun _ _ => rfl) hx41 (by decide)).trans rfl) (by kernel_rfl)) (wo43.pick [] (by kernel_rfl) (by decide)) fun ac132 En133 => ?_
   have hb136 : i < List.length lw := (by omega)
   obtain ⟨adr134, had135⟩ := some_of i_lw.nz hb136
   refine q_s [6,7] [] 9 En133 (wo43.pick [] (by kernel_rfl) (by decide)) fun ac137 En138 => ?_
   refine q_f 8 (s := Instr.indexAt 46 (.slice a_lw (List.length lw) c_lw) (ni i)) (v := .pointer (some (Addr.add adr134 (i * 2)))) En138 (fun _ => Go.Dbr.run_indexsl (e := 51) (sz := 2) (j := i) (jo := i * 2) had135 (by kernel_rfl) (by kernel_rfl) (by omega) hb136 rfl _) (fun _ => wo43.pick [] (by kernel_rfl) (by decide)) fun ac139 En140 => ?_
   refine q_s [9] [] 7 En140 (wo43.pick [] (by kernel_rfl) (by decide)) fun ac141 En142 => ?_
   refine q_r 10 (s := Instr.loadAt 22 (.pointer (some (Addr.add (Addr.add adr134 (i * 2)) 1)))) (v := uv64 x42b) En142 (fun w hS => run_loadel (ad := adr134) (o := i * 2 + 1) (Deep.add_add _ _ _) (i_lw.ro.ev hS).reads had135 ((flat_get (sz := 2) (j := 1) (fun _ _ => rfl) hx41 (by decide)).trans rfl) (by kernel_rfl)) (wo43.pick [] (by kernel_rfl) (by decide)) fun ac143 En144 => ?_
   refine q_t 11 ?_
   refine c_l [2] (M := [.vec a3 c3 2 (List.flatMap fCnt ws) 54]) En144 wo43 (fun hM147 => dcount_go _ a3 c3 ws x42a x42b (by assumption) (by omega) hM147) ?_
   rintro _ wo148 ⟨ac145, cc146, rfl, he149⟩
   refine ⟨_, _, [.vec ac145 cc146 2 (List.flatMap fCnt (cntX ws x42a x42b)) 54, .box g12 [.int .i64 1, .slice none 0 0, .int .u64 0, .map (some mb13)] 79, .map mb13 (kvs uv64 m)], rfl, he149, by kernel_rfl, fun ac151 En152 Hv153 => ?_⟩
   refine ⟨fun _ => Hv153.pick [] (by kernel_rfl) (by decide), ?_⟩
   refine q_s [12,13,14,15,16] [] 0 En152 (Hv153.pick [] (by kernel_rfl) (by decide)) fun ac154 En155 => ?_
   exact h_e ⟨ac145, cc146, En155.sub (by kernel_rfl), Hv153.pick [0, 1, 2] (by kernel_rfl) (by decide)⟩
  rintro ac156 wo157 ⟨ac112, cc113, En158, Hv159⟩
  refine then_normal ?_
  refine wp_seq ?_
  refine d_r [0,4,6,7,9] [] En158 fun ac160 En161 => ?_
  refine then_normal ?_
  refine wp_seq ?_
  refine wp_seq ?_
  refine r_c (fun ac wo => Env ac 93 [(0, .slice a_lw (List.length lw) c_lw), (4, pt g12), (6, .slice ac112 (List.length (cntX ws x42a x42b)) cc113), (7, ni i), (62, .bool (cntE x42a != cntE x42a))] ∧ Ev w [] wo [.box g12 [.int .i64 1, .slice none 0 0, .int .u64 0, .map (some mb13)] 79, .map mb13 (kvs uv64 (cntM m x42a x42b)), .vec ac112 cc113 2 (List.flatMap fCnt (cntX ws x42a x42b)) 54]) ?_ ?_
  ·
   refine h_s (fun wv => Ev w [] wv []) [] 14 ?_
   have wo162 := Hv159.trans (Ev.drew Hv159.heap)
   have hb240 : i < List.length lw := (by omega)
   obtain ⟨adr238, had239⟩ := some_of i_lw.nz hb240
   refine q_s [0,1,2] [] 11 En161 (wo162.pick [] (by kernel_rfl) (by decide)) fun ac241 En242 => ?_
   refine q_f 3 (s := Instr.indexAt 46 (.slice a_lw (List.length lw) c_lw) (ni i)) (v := .pointer (some (Addr.add adr238 (i * 2)))) En242 (fun _ => Go.Dbr.run_indexsl (e := 51) (sz := 2) (j := i) (jo := i * 2) had239 (by kernel_rfl) (by kernel_rfl) (by omega) hb240 rfl _) (fun _ => wo162.pick [] (by kernel_rfl) (by decide)) fun ac243 En244 => ?_
   refine q_s [4] [] 9 En244 (wo162.pick [] (by kernel_rfl) (by decide)) fun ac245 En246 => ?_
   refine q_r 5 (s := Instr.loadAt 9 (.pointer (some (Addr.add adr238 (i * 2))))) (v := .string (bstr x42a)) En246 (fun w hS => run_loadel (ad := adr238) (o := i * 2) rfl (i_lw.ro.ev hS).reads had239 ((flat_get (sz := 2) (j := 0) (fun _ _ => rfl) hx41 (by decide)).trans rfl) (by kernel_rfl)) (wo162.pick [] (by kernel_rfl) (by decide)) fun ac247 En248 => ?_
   have hb251 : i < List.length lw := (by omega)
   obtain ⟨adr249, had250⟩ := some_of i_lw.nz hb251
   refine q_s [6,7] [] 6 En248 (wo162.pick [] (by kernel_rfl) (by decide)) fun ac252 En253 => ?_
   refine q_f 8 (s := Instr.indexAt 46 (.slice a_lw (List.length lw) c_lw) (ni i)) (v := .pointer (some (Addr.add adr249 (i * 2)))) En253 (fun _ => Go.Dbr.run_indexsl (e := 51) (sz := 2) (j := i) (jo := i * 2) had250 (by kernel_rfl) (by kernel_rfl) (by omega) hb251 rfl _) (fun _ => wo162.pick [] (by kernel_rfl) (by decide)) fun ac254 En255 => ?_
   refine q_s [9] [] 4 En255 (wo162.pick [] (by kernel_rfl) (by decide)) fun ac256 En257 => ?_
   refine q_r 10 (s := Instr.loadAt 22 (.pointer (some (Addr.add (Addr.add adr249 (i * 2)) 1)))) (v := uv64 x42b) En257 (fun w hS => run_loadel (ad := adr249) (o := i * 2 + 1) (Deep.add_add _ _ _) (i_lw.ro.ev hS).reads had250 ((flat_get (sz := 2) (j := 1) (fun _ _ => rfl) hx41 (by decide)).trans rfl) (by kernel_rfl)) (wo162.pick [] (by kernel_rfl) (by decide)) fun ac258 En259 => ?_
   refine q_s [12] [] 2 En259 (wo162.pick [] (by kernel_rfl) (by decide)) fun ac260 En261 => ?_
   refine q_t 11 ?_
   refine c_l [1,2] (M := [.box g12 [.int .i64 1, .slice none 0 0, .int .u64 0, .map (some mb13)] 79, .map mb13 (kvs uv64 m)]) En261 wo162 (fun hM262 => count_go _ g12 1 (.slice none 0 0) (0 : UInt64) mb13 m x42a x42b (by assumption) hM262) ?_
   rintro _ wo263 ⟨rfl, he264⟩
   refine ⟨_, _, [.box g12 [.int .i64 1, .slice none 0 0, .int .u64 0, .map (some mb13)] 79, .map mb13 (kvs uv64 (cntM m x42a x42b)), .vec ac112 cc113 2 (List.flatMap fCnt (cntX ws x42a x42b)) 54], rfl, he264, by kernel_rfl, fun ac266 En267 Hv268 => ?_⟩
   refine ⟨fun _ => Hv268.pick [] (by kernel_rfl) (by decide), ?_⟩
   refine q_s [13] [] 0 En267 (Hv268.pick [] (by kernel_rfl) (by decide)) fun ac269 En270 => ?_
   exact h_e ⟨En270.sub (by kernel_rfl), Hv268.pick [0, 1, 2] (by kernel_rfl) (by decide)⟩
  rintro ac271 wo272 ⟨En273, Hv274⟩
  refine then_normal ?_
  refine c_n (cntE x42a) (cntE x42a) En273 (fun hc275 => ?_) (fun hc275 => ?_)
  ·
   refine wp_seq ?_
   refine d_r [0,2,4,6,7] [] En273 fun ac276 En277 => ?_
   refine then_normal ?_
   refine wp_ret ?_
   refine then_ret ?_
   refine block_ret ?_
   refine then_ret ?_
   refine then_ret ?_
   refine block_ret ?_
   refine then_ret ?_
   refine d_ret1 (t := 2) (v := .bool false) En277 (by kernel_rfl) (by kernel_rfl) ?_
   first | contradiction | omega | exact absurd ⟨rfl, rfl⟩ hc275 | exact absurd rfl hc275 | (simp_all; done)
  ·
   refine wp_skip ?_
   refine then_normal ?_
   refine wp_seq ?_
   have hI2 := hI.step x42a x42b
   have hsm2 := small_step hsm x42a x42b
   have hw2 := hI.slen x42a x42b
   have hml := hI2.mlen
   refine region_from ?_
   refine d_k [0,4,6,7,63] [] 1 En273 fun ac278 En279 => ?_
   refine f_o ?_
   refine c_l [0,1] (M := [.box g12 [.int .i64 1, .slice none 0 0, .int .u64 0, .map (some mb13)] 79, .map mb13 (kvs uv64 (cntM m x42a x42b))]) En279 Hv274 (fun hM282 => counters_go _ g12 1 (.slice none 0 0) (0 : UInt64) mb13 (cntM m x42a x42b) hsm2 (by omega) hM282) ?_
   rintro _ wo283 ⟨ac280, cc281, rfl, he284⟩
   refine ⟨_, _, [.box g12 [.int .i64 1, .slice none 0 0, .int .u64 0, .map (some mb13)] 79, .map mb13 (kvs uv64 (cntM m x42a x42b)), .vec ac280 cc281 2 (List.flatMap fCnt (cnts (cntM m x42a x42b))) 54, .vec ac112 cc113 2 (List.flatMap fCnt (cntX ws x42a x42b)) 54], rfl, he284, by kernel_rfl, fun ac286 En287 Hv288 => ?_⟩
   refine d_e [0,4,6,7,10] [] En287 fun ac289 En290 => ?_
   refine then_normal ?_
   refine wp_seq ?_
   refine wp_seq ?_
   have hC := hI2.cnts
   have Hv291 := Hv288
   rw [hC] at Hv291
   replace Hv291 : Ev w [] wo283 [.box g12 [.int .i64 1, .slice none 0 0, .int .u64 0, .map (some mb13)] 79, .map mb13 (kvs uv64 (cntM m x42a x42b)), .vec ac280 cc281 2 (List.flatMap fCnt (cntX ws x42a x42b)) 54, .vec ac112 cc113 2 (List.flatMap fCnt (cntX ws x42a x42b)) 54] := Hv291
   have En292 := En290
   rw [hC] at En292
   replace En292 : Env _ 93 [(0, .slice a_lw (List.length lw) c_lw), (4, pt g12), (6, .slice ac112 (List.length (cntX ws x42a x42b)) cc113), (7, ni i), (10, .slice ac280 (List.length (cntX ws x42a x42b)) cc281)] := En292.sub (by kernel_rfl)
   refine d_r [0,4,6,7,10,69] [] En292 fun ac293 En294 => ?_
   refine then_normal ?_
   refine c_n ((List.length (cntX ws x42a x42b) : Nat) : Int) ((List.length (cntX ws x42a x42b) : Nat) : Int) En294 (fun hc295 => ?_) (fun hc295 => ?_)
   ·
    refine wp_seq ?_
    refine d_r [0,2,4,6,7,10] [] En294 fun ac296 En297 => ?_
    refine then_normal ?_
    refine wp_ret ?_
    refine then_ret ?_
    refine block_ret ?_
    refine then_ret ?_
    refine then_ret ?_
    refine block_ret ?_
    refine then_ret ?_
    refine d_ret1 (t := 2) (v := .bool false) En297 (by kernel_rfl) (by kernel_rfl) ?_
    first | contradiction | omega | exact absurd ⟨rfl, rfl⟩ hc295 | exact absurd rfl hc295 | (simp_all; done)
   ·
    refine wp_skip ?_
    refine then_normal ?_
    refine wp_seq ?_
    refine d_r [0,4,6,7,10,11] [] En294 fun ac298 En299 => ?_
    refine then_normal ?_
    refine wp_block ?_
    refine loop_m (fun ms300 ac wo => ∃ (k : Nat) (gs : List RCnt), ms300 = (List.length (cntX ws x42a x42b) - k : Nat) ∧ Env ac 93 [(0, .slice a_lw (List.length lw) c_lw), (4, pt g12), (6, .slice ac112 (List.length (cntX ws x42a x42b)) cc113), (7, ni i), (10, .slice ac280 (List.length (cntX ws x42a x42b)) cc281), (11, ni k)] ∧ Ev w [] wo [.vec ac280 cc281 2 (List.flatMap fCnt gs) 54, .box g12 [.int .i64 1, .slice none 0 0, .int .u64 0, .map (some mb13)] 79, .map mb13 (kvs uv64 (cntM m x42a x42b)), .vec ac112 cc113 2 (List.flatMap fCnt (cntX ws x42a x42b)) 54] ∧ (k ≤ List.length (cntX ws x42a x42b)) ∧ (List.drop k gs = List.drop k (cntX ws x42a x42b)) ∧ (List.length gs = List.length (cntX ws x42a x42b))) ⟨_, 0, (cntX ws x42a x42b), rfl, En299.sub (by kernel_rfl), Hv291.pick [2, 0, 1, 3] (by kernel_rfl) (by decide), (Nat.zero_le _), rfl, rfl⟩ ?_
    rintro mm306 ac302 wo303 ⟨k, gs, rfl, En304, Hv305, hkl, hgk, hgl⟩
    refine wp_seq ?_
    refine wp_seq ?_
    refine d_r [0,4,6,7,10,11,73] [] En304 fun ac307 En308 => ?_
    refine then_normal ?_
    refine c_d (((k : Nat) : Int) < ((List.length (cntX ws x42a x42b) : Nat) : Int)) En308 (fun hc309 => ?_) (fun hc309 => ?_)
    ·
     refine wp_skip ?_
     refine then_normal ?_
     refine wp_seq ?_
     refine wp_block ?_
     refine wp_seq ?_
     refine wp_seq ?_
     have hb310 : k < List.length gs := by omega
     obtain ⟨⟨x312a, x312b, _⟩, hx311⟩ : ∃ x, (gs)[k]? = some x := ⟨_, List.getElem?_eq_getElem hb310⟩
     have hxw313 : (cntX ws x42a x42b)[k]? = some (x312a, x312b, ()) := at_dropC hgk hx311
     refine r_c (fun ac wo => Env ac 93 [(0, .slice a_lw (List.length lw) c_lw), (4, pt g12), (6, .slice ac112 (List.length (cntX ws x42a x42b)) cc113), (7, ni i), (10, .slice ac280 (List.length (cntX ws x42a x42b)) cc281), (11, ni k), (84, .bool (!((x312a == x312a) && (x312b == x312b))))] ∧ Ev w [] wo [.vec ac280 cc281 2 (List.flatMap fCnt gs) 54, .box g12 [.int .i64 1, .slice none 0 0, .int .u64 0, .map (some mb13)] 79, .map mb13 (kvs uv64 (cntM m x42a x42b)), .vec ac112 cc113 2 (List.flatMap fCnt (cntX ws x42a x42b)) 54]) ?_ ?_
     ·
      refine h_s (fun wv => Ev w [] wv [.vec ac280 cc281 2 (List.flatMap fCnt gs) 54, .vec ac112 cc113 2 (List.flatMap fCnt (cntX ws x42a x42b)) 54]) [] 9 ?_
      have wo314 := Hv305.trans (Ev.drew Hv305.heap)
      have hb363 : k < List.length (cntX ws x42a x42b) := (by omega)
      obtain ⟨adr361, had362⟩ := some_of (fun e => by have h := (sv_nz (f := fCnt) (sz := 2) wo314.heap (k := 0) rfl (fun _ => rfl) (by decide)) e; omega) hb363
      refine q_s [0,1] [] 7 En308 (wo314.pick [0, 3] (by kernel_rfl) (by decide)) fun ac364 En365 => ?_
      refine q_f 2 (s := Instr.indexAt 47 (.slice ac280 (List.length (cntX ws x42a x42b)) cc281) (ni k)) (v := .pointer (some (Addr.add adr361 (k * 2)))) En365 (fun _ => Go.Dbr.run_indexsl (e := 54) (sz := 2) (j := k) (jo := k * 2) had362 (by kernel_rfl) (by kernel_rfl) (by omega) hb363 rfl _) (fun _ => wo314.pick [0, 3] (by kernel_rfl) (by decide)) fun ac366 En367 => ?_
      refine q_r 3 (s := Instr.loadAt 54 (.pointer (some (Addr.add adr361 (k * 2))))) (v := .agg #[.string (bstr x312a), uv64 x312b]) En367 (fun w hS => run_loadaggat (ad := adr361) (o := k * 2) (m := 2) (xs := [.string (bstr x312a), uv64 x312b]) rfl (hS.heap.reads (k := 0) rfl) had362 (fun j hj => flat_sub (sz := 2) (off := 0) (m := 2) (fun _ _ => rfl) hx311 (by decide) rfl j hj) rfl (by kernel_rfl) (by kernel_rfl)) (wo314.pick [0, 3] (by kernel_rfl) (by decide)) fun ac368 En369 => ?_
      have hb372 : k < List.length (cntX ws x42a x42b) := (by omega)
      obtain ⟨adr370, had371⟩ := some_of (sv_nz (f := fCnt) (sz := 2) wo314.heap (k := 3) rfl (fun _ => rfl) (by decide)) hb372
      refine q_s [4,5] [] 3 En369 (wo314.pick [0, 3] (by kernel_rfl) (by decide)) fun ac373 En374 => ?_
      refine q_f 6 (s := Instr.indexAt 47 (.slice ac112 (List.length (cntX ws x42a x42b)) cc113) (ni k)) (v := .pointer (some (Addr.add adr370 (k * 2)))) En374 (fun _ => Go.Dbr.run_indexsl (e := 54) (sz := 2) (j := k) (jo := k * 2) had371 (by kernel_rfl) (by kernel_rfl) (by omega) hb372 rfl _) (fun _ => wo314.pick [0, 3] (by kernel_rfl) (by decide)) fun ac375 En376 => ?_
      refine q_r 7 (s := Instr.loadAt 54 (.pointer (some (Addr.add adr370 (k * 2))))) (v := .agg #[.string (bstr x312a), uv64 x312b]) En376 (fun w hS => run_loadaggat (ad := adr370) (o := k * 2) (m := 2) (xs := [.string (bstr x312a), uv64 x312b]) rfl (hS.heap.reads (k := 1) rfl) had371 (fun j hj => flat_sub (sz := 2) (off := 0) (m := 2) (fun _ _ => rfl) hxw313 (by decide) rfl j hj) rfl (by kernel_rfl) (by kernel_rfl)) (wo314.pick [0, 3] (by kernel_rfl) (by decide)) fun ac377 En378 => ?_
      refine q_f 8 (s := eqOp .neq 54 (.tmp 79) (.tmp 83) (.agg #[.string (bstr x312a), uv64 x312b]) (.agg #[.string (bstr x312a), uv64 x312b])) (v := .bool (!((x312a == x312a) && (x312b == x312b)))) En378 (fun _ => cntr_neq _) (fun _ => wo314.pick [0, 3] (by kernel_rfl) (by decide)) fun ac379 En380 => ?_
      exact h_e ⟨En380.sub (by kernel_rfl), wo314.pick [0, 1, 2, 3] (by kernel_rfl) (by decide)⟩
     rintro ac381 wo382 ⟨En383, Hv384⟩
     refine then_normal ?_
     refine cond_at En383 (t := !((x312a == x312a) && (x312b == x312b))) (by kernel_rfl) (fun hc385 => ?_) (fun hc385 => ?_)
     ·
      replace hc385 : ¬ (x312a = x312a ∧ x312b = x312b) := by first | (simp at hc385; done) | (simp; done) | simpa using hc385
      refine wp_seq ?_
      refine d_r [0,2,4,6,7,10,11] [] En383 fun ac386 En387 => ?_
      refine then_normal ?_
      refine wp_ret ?_
      refine then_ret ?_
      refine block_ret ?_
      refine then_ret ?_
      refine then_ret ?_
      refine block_ret ?_
      refine block_ret ?_
      refine then_ret ?_
      refine then_ret ?_
      refine block_ret ?_
      refine then_ret ?_
      refine d_ret1 (t := 2) (v := .bool false) En387 (by kernel_rfl) (by kernel_rfl) ?_
      first | contradiction | omega | exact absurd ⟨rfl, rfl⟩ hc385 | exact absurd rfl hc385 | (simp_all; done)
     ·
      replace hc385 : x312a = x312a ∧ x312b = x312b := by first | (simp at hc385; done) | (simp; done) | simpa using hc385
      refine wp_skip ?_
      refine then_normal ?_
      have hb390 : k < List.length (cntX ws x42a x42b) := (by omega)
      obtain ⟨adr388, had389⟩ := some_of (fun e => by have h := (sv_nz (f := fCnt) (sz := 2) Hv384.heap (k := 0) rfl (fun _ => rfl) (by decide)) e; omega) hb390
      refine region_from ?_
      refine d_k [0,4,6,7,10,11,85,86] [] 2 En383 fun ac391 En392 => ?_
      refine f_o ?_
      refine q_v (x := Instr.indexAt 47 (.slice ac280 (List.length (cntX ws x42a x42b)) cc281) (ni k)) (v := .pointer (some (Addr.add adr388 (k * 2)))) En392 (Go.Dbr.run_indexsl (e := 54) (sz := 2) (j := k) (jo := k * 2) had389 (by kernel_rfl) (by kernel_rfl) (by omega) hb390 rfl _) fun ac393 En394 => ?_
      refine d_k [0,4,6,7,10,11,85,86,88] [] 4 En394 fun ac395 En396 => ?_
      refine f_o ?_
      refine op_loadf (d := some 89) (t := 22) (ad := adr388) (ao := ac280) (ys := List.flatMap fCnt gs) (o := k * 2 + 1) (v := uv64 x312b) En396 (by kernel_rfl) (Deep.add_add _ _ _) (Hv384.heap.reads (k := 0) rfl) had389 ((flat_get (sz := 2) (j := 1) (fun _ _ => rfl) hx311 (by decide)).trans rfl) (by kernel_rfl) ?_
      intro ac397 En398
      have hb401 : k < List.length (cntX ws x42a x42b) := (by omega)
      obtain ⟨adr399, had400⟩ := some_of (fun e => by have h := (sv_nz (f := fCnt) (sz := 2) Hv384.heap (k := 0) rfl (fun _ => rfl) (by decide)) e; omega) hb401
      refine d_k [0,4,6,7,10,11,85,86,90] [(5, g_i .u64 (Go.Dbr.u64_add (x := x312b) (y := (1 : UInt64)) rfl rfl))] 6 En398 fun ac402 En403 => ?_
      refine f_o ?_
      refine q_v (x := Instr.indexAt 47 (.slice ac280 (List.length (cntX ws x42a x42b)) cc281) (ni k)) (v := .pointer (some (Addr.add adr399 (k * 2)))) En403 (Go.Dbr.run_indexsl (e := 54) (sz := 2) (j := k) (jo := k * 2) had400 (by kernel_rfl) (by kernel_rfl) (by omega) hb401 rfl _) fun ac404 En405 => ?_
      refine d_k [0,4,6,7,10,11,90,92] [] 8 En405 fun ac406 En407 => ?_
      refine f_o ?_
      refine op_storef (d := none) (t := 22) (ad := adr399) (ao := ac280) (k := 0) (cap := cc281) (sz := 2) (o := k * 2 + 1) (xs := List.flatMap fCnt gs) (v := .int .u64 ((UInt64.toNat (x312b + (1 : UInt64)) : Nat) : Int)) En407 (by kernel_rfl) (Deep.add_add _ _ _) Hv384 rfl had400 (by first | (rw [sv_len (f := fCnt) (sz := 2) (fun _ => rfl)]; omega) | exact Nat.lt_of_lt_of_eq (show _ < List.length gs * 2 from by have h := (List.getElem?_eq_some_iff.1 hx311).1; first | omega | (simp only [List.length_set] at h ⊢; omega)) (sv_len (f := fCnt) (sz := 2) (fun _ => rfl) gs).symm) (by kernel_rfl) rfl ?_
      intro ac408 wo409  En410 Hv411
      have hls412 : List.length (List.set gs k (x312a, x312b + (1 : UInt64), ())) = List.length gs := List.length_set
      rw [flat_set (f := fCnt) (x' := (x312a, x312b + (1 : UInt64), ())) (fun _ => rfl) hx311 (by decide) rfl] at Hv411
      refine f_e ?_
      refine block_normal ?_
      refine then_normal ?_
      refine d_r [0,4,6,7,10,11] [(1, g_n (w_a k 1))] En410 fun ac413 En414 => ?_
      refine then_normal ?_
      refine ⟨_, ⟨k + 1, (List.set gs k (x312a, x312b + (1 : UInt64), ())), rfl, En414.sub (by kernel_rfl), Hv411.pick [0, 1, 2, 3] (by kernel_rfl) (by decide), (by omega), (set_dropC hgk), (by rw [List.length_set]; exact hgl)⟩, ?_⟩
      omega
    ·
     refine wp_exit ?_
     refine then_exit ?_
     refine then_exit ?_
     refine block_exit ?_
     refine block_normal ?_
     refine then_normal ?_
     refine d_r [0,4,6,7,10,11] [(1, g_n (w_a i 1))] En308 fun ac415 En416 => ?_
     refine then_normal ?_
     refine ⟨_, ⟨i + 1, ac112, cc113, (cntX ws x42a x42b), (cntM m x42a x42b), rfl, En416.sub (by kernel_rfl), Hv305.pick [1, 2, 3] (by kernel_rfl) (by decide), (by omega), hI2, hsm2, (by omega)⟩, ?_⟩
     omega
 ·
  refine wp_exit ?_
  refine then_exit ?_
  refine then_exit ?_
  refine block_exit ?_
  refine then_normal ?_
  refine wp_seq ?_
  refine d_r [0,2,4,6,7] [] En38 fun ac417 En418 => ?_
  refine then_normal ?_
  refine wp_ret ?_
  refine d_ret1 (t := 2) (v := .bool true) En418 (by kernel_rfl) (by kernel_rfl) ?_
  exact ⟨rfl, Hv35.pick [] (by kernel_rfl) (by decide)⟩

end Go.Proofs.YtfcfgbejpcmmkaaDoor
