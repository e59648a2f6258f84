/- Layer 13: secrets and bytes, walked. -/
import Derived.Test.YtpfhmbbiadpbeaaE3
namespace Go.Proofs.Ytpfhmbbiadpbeaa
open Go.Dbr
set_option maxRecDepth 100000
set_option maxHeartbeats 2000000
set_option linter.unusedVariables false
set_option linter.unusedSimpArgs false

theorem sh_ok {d : L4} {p : PZ} (h : (shN d p).2 = 0) : (shN d p).1 = List.reverse (lb 32 (nv (mulP (nv d) p).2.1)) := by
  unfold shN at *
  cases hm : mayN d with
  | false => rw [hm] at h; exact absurd (show (132 : Int) = 0 from h) (by decide)
  | true =>
    rw [hm] at h
    simp only [Bool.cond_true] at *
    cases ho : onP p && !p.1 with
    | false => rw [ho] at h; exact absurd (show (131 : Int) = 0 from h) (by decide)
    | true => rfl
theorem lawMeet {c d : L4} (h1 : (shN d (mulP (nv c) Gp)).2 = 0) (h2 : (shN c (mulP (nv d) Gp)).2 = 0) : ((shN d (mulP (nv c) Gp)).1 == (shN c (mulP (nv d) Gp)).1) = true := by
  rw [sh_ok h1, sh_ok h2, lawTurn]
  exact beq_self_eq_true _

theorem meets_walk (d : List UInt64) (c : List UInt64) (pa : Bool) (pb : List UInt64) (pc : List UInt64) (w : World) (n_d : (List.length d = 4)) (n_c : (List.length c = 4)) (n_pb : (List.length pb = 4)) (n_pc : (List.length pc = 4)) : Calls Try.prog 7 #[.agg (List.toArray (u64s d)), .agg (List.toArray (u64s c)), .agg (List.toArray (([.bool pa] : List Value) ++ ((u64s pb) ++ (u64s pc))))] w fun e w' => e = .returned (.bool true) ∧ Ev w [] w' [] := by
 refine d_0 [(0, .agg (List.toArray (u64s d))), (1, .agg (List.toArray (u64s c))), (2, .agg (List.toArray (([.bool pa] : List Value) ++ ((u64s pb) ++ (u64s pc)))))] 90 Go.Proofs.Try.func7 Go.Proofs.Try.ntmps7 (Heap.nil _) fun act0 En0 Hv0 => ?_
 refine wp_seq ?_
 refine region_from ?_
 refine f_o ?_
 refine m_m 24 (u64s d) En0 Hv0 fun ac2 wo3 bk1 En4 Hv5 => ?_
 refine f_o ?_
 refine m_m 24 (u64s c) En4 Hv5 fun ac7 wo8 bk6 En9 Hv10 => ?_
 refine f_o ?_
 refine m_m 26 (([.bool pa] : List Value) ++ ((u64s pb) ++ (u64s pc))) En9 Hv10 fun ac12 wo13 bk11 En14 Hv15 => ?_
 refine d_e [3,4,5,6] [] En14 fun ac16 En17 => ?_
 refine then_normal ?_
 refine wp_seq ?_
 refine region_from ?_
 refine f_o ?_
 refine c_p En17 Hv15 (head_ok _) fun ac22 wo19 En23 Hv24 => ?_
 refine d_e [3,4,5,6,7] [] En23 fun ac25 En26 => ?_
 refine then_normal ?_
 refine wp_seq ?_
 refine r_c (fun ac wo => ∃ (bk334 : Nat), Env ac 90 [(3, pt bk1), (4, pt bk6), (5, pt bk11), (6, .bool false), (7, .bool true), (8, pt bk334), (9, .int .i64 ((shN d (mulP (nv c) Gp)).2))] ∧ Ev w [] wo [.box bk1 (u64s d) 24, .box bk6 (u64s c) 24, .box bk11 (([.bool pa] : List Value) ++ ((u64s pb) ++ (u64s pc))) 26, .box bk334 (bys ((shN d (mulP (nv c) Gp)).1)) 41]) ?_ ?_
 ·
  refine h_s (fun wv => Ev w [] wv [.box bk1 (u64s d) 24, .box bk6 (u64s c) 24]) [] 11 ?_
  have wo27 := Hv24.trans (Ev.drew Hv24.heap)
  refine h_name fun G hG => ?_
  have nd426 : ∀ (ac : Act) (wo : World), Env ac 90 [(3, pt bk1), (4, pt bk6), (5, pt bk11), (6, .bool false), (7, .bool true), (25, .tuple #[.agg (List.toArray (bys ((shN d (mulP (nv c) Gp)).1))), .int .i64 ((shN d (mulP (nv c) Gp)).2)])] → Ev w [] wo [.box bk1 (u64s d) 24, .box bk6 (u64s c) 24, .box bk11 (([.bool pa] : List Value) ++ ((u64s pb) ++ (u64s pc))) 26] → G 6 #[true, true, true, true, true, false, false, false, false, false, false] ac wo := by
   intro ac427 wo428 En429 Hv430
   refine h_from hG ?_
   refine q_s [5,6,7] [] 3 En429 (Hv430.pk [0, 1]) fun ac431 En432 => ?_
   refine q_t 8 ?_
   refine m_z 41 (bys (List.replicate 32 0)) En432 Hv430 fun ac434 wo435 bk433 En436 Hv437 => ?_
   refine ⟨fun _ => Hv437.pk [0, 1], ?_⟩
   refine q_t 9 ?_
   refine m_g 3 0 32 (bys ((shN d (mulP (nv c) Gp)).1)) (bys ((shN d (mulP (nv c) Gp)).1)) [.box bk1 (u64s d) 24, .box bk6 (u64s c) 24, .box bk11 (([.bool pa] : List Value) ++ ((u64s pb) ++ (u64s pc))) 26, .box bk433 (bys ((shN d (mulP (nv c) Gp)).1)) 41] En436 Hv437 rfl (bys_lenh (shN_len _ _)) (by rw [(bys_lenh (List.length_replicate))]; first | decide | (simp; done)) (bys_one _) (store_whole (bys_lenh (List.length_replicate))) rfl fun ac438 wo439 En440 Hv441 => ?_
   refine ⟨fun _ => Hv441.pk [0, 1], ?_⟩
   refine q_s [10] [] 0 En440 (Hv441.pk [0, 1]) fun ac442 En443 => ?_
   exact h_e ⟨bk433, En443.sb, Hv441.pk [0, 1, 2, 3]⟩
  have nd444 : ∀ (ac : Act) (wo : World) (bk345 : Nat), Env ac 90 [(3, pt bk1), (4, pt bk6), (5, pt bk11), (6, .bool false), (7, .bool true), (8, pt bk345), (21, .agg (List.toArray (u64s d))), (24, .agg (List.toArray (([.bool ((mulP (nv c) Gp).1)] : List Value) ++ ((u64s ((mulP (nv c) Gp).2.1)) ++ (u64s ((mulP (nv c) Gp).2.2))))))] → Ev w [] wo [.box bk1 (u64s d) 24, .box bk6 (u64s c) 24, .box bk11 (([.bool pa] : List Value) ++ ((u64s pb) ++ (u64s pc))) 26, .box bk345 (bys (List.replicate 32 0)) 41] → G 6 #[true, true, true, true, false, false, false, false, true, false, false] ac wo := by
   intro ac445 wo446 bk345 En447 Hv448
   refine h_from hG ?_
   refine q_t 4 ?_
   refine c_p En447 Hv448 (shared_go _ d n_d ((mulP (nv c) Gp).1) ((mulP (nv c) Gp).2.1) ((mulP (nv c) Gp).2.2) ((mulP_len _ _).1) ((mulP_len _ _).2)) fun ac453 wo450 En454 Hv455 => ?_
   refine ⟨fun _ => Hv455.pk [0, 1], ?_⟩
   refine q_s [5,6,7] [] 2 En454 (Hv455.pk [0, 1]) fun ac456 En457 => ?_
   refine q_t 9 ?_
   refine m_g 3 0 32 (bys ((shN d (mulP (nv c) Gp)).1)) (bys ((shN d (mulP (nv c) Gp)).1)) [.box bk1 (u64s d) 24, .box bk6 (u64s c) 24, .box bk11 (([.bool pa] : List Value) ++ ((u64s pb) ++ (u64s pc))) 26, .box bk345 (bys ((shN d (mulP (nv c) Gp)).1)) 41] En457 Hv455 rfl (bys_lenh (shN_len _ _)) (by rw [(bys_lenh (List.length_replicate))]; first | decide | (simp; done)) (bys_one _) (store_whole (bys_lenh (List.length_replicate))) rfl fun ac458 wo459 En460 Hv461 => ?_
   refine ⟨fun _ => Hv461.pk [0, 1], ?_⟩
   refine q_s [10] [] 0 En460 (Hv461.pk [0, 1]) fun ac462 En463 => ?_
   exact h_e ⟨bk345, En463.sb, Hv461.pk [0, 1, 2, 3]⟩
  have nd464 : ∀ (ac : Act) (wo : World), Env ac 90 [(3, pt bk1), (4, pt bk6), (5, pt bk11), (6, .bool false), (7, .bool true), (21, .agg (List.toArray (u64s d))), (24, .agg (List.toArray (([.bool ((mulP (nv c) Gp).1)] : List Value) ++ ((u64s ((mulP (nv c) Gp).2.1)) ++ (u64s ((mulP (nv c) Gp).2.2))))))] → Ev w [] wo [.box bk1 (u64s d) 24, .box bk6 (u64s c) 24, .box bk11 (([.bool pa] : List Value) ++ ((u64s pb) ++ (u64s pc))) 26] → G 7 #[true, true, true, true, false, false, false, false, false, false, false] ac wo := by
   intro ac465 wo466 En467 Hv468
   refine h_from hG ?_
   refine h_ways [4, 8] (by kernel_rfl) rfl ?_
   refine ⟨?_, ?_, trivial⟩
   ·
    rintro _ rfl
    refine c_p En467 Hv468 (shared_go _ d n_d ((mulP (nv c) Gp).1) ((mulP (nv c) Gp).2.1) ((mulP (nv c) Gp).2.2) ((mulP_len _ _).1) ((mulP_len _ _).2)) fun ac473 wo470 En474 Hv475 => ?_
    refine ⟨fun _ => Hv475.pk [0, 1], ?_⟩
    exact h_to hG (by kernel_rfl) (nd426 _ _ (En474.sb) (Hv475.pk [0, 1, 2]))
   ·
    rintro _ rfl
    refine m_z 41 (bys (List.replicate 32 0)) En467 Hv468 fun ac477 wo478 bk476 En479 Hv480 => ?_
    refine ⟨fun _ => Hv480.pk [0, 1], ?_⟩
    exact h_to hG (by kernel_rfl) (nd444 _ _ bk476 (En479.sb) (Hv480.pk [0, 1, 2, 3]))
  have nd481 : ∀ (ac : Act) (wo : World) (bk365 : Nat), Env ac 90 [(3, pt bk1), (4, pt bk6), (5, pt bk11), (6, .bool false), (7, .bool true), (8, pt bk365), (21, .agg (List.toArray (u64s d))), (22, .agg (List.toArray (u64s c))), (23, .agg (List.toArray (([.bool false] : List Value) ++ ((u64s (nd GX)) ++ (u64s (nd GY))))))] → Ev w [] wo [.box bk1 (u64s d) 24, .box bk6 (u64s c) 24, .box bk11 (([.bool pa] : List Value) ++ ((u64s pb) ++ (u64s pc))) 26, .box bk365 (bys (List.replicate 32 0)) 41] → G 7 #[true, true, true, false, false, false, false, false, true, false, false] ac wo := by
   intro ac482 wo483 bk365 En484 Hv485
   refine h_from hG ?_
   refine q_t 3 ?_
   refine c_p En484 Hv485 (pmult_go _ c n_c false (nd GX) (nd GY) (nds_len _ _) (nds_len _ _)) fun ac490 wo487 En491 Hv492 => ?_
   refine ⟨fun _ => Hv492.pk [0, 1], ?_⟩
   refine q_t 4 ?_
   refine c_p En491 Hv492 (shared_go _ d n_d ((mulP (nv c) Gp).1) ((mulP (nv c) Gp).2.1) ((mulP (nv c) Gp).2.2) ((mulP_len _ _).1) ((mulP_len _ _).2)) fun ac497 wo494 En498 Hv499 => ?_
   refine ⟨fun _ => Hv499.pk [0, 1], ?_⟩
   refine q_s [5,6,7] [] 2 En498 (Hv499.pk [0, 1]) fun ac500 En501 => ?_
   refine q_t 9 ?_
   refine m_g 3 0 32 (bys ((shN d (mulP (nv c) Gp)).1)) (bys ((shN d (mulP (nv c) Gp)).1)) [.box bk1 (u64s d) 24, .box bk6 (u64s c) 24, .box bk11 (([.bool pa] : List Value) ++ ((u64s pb) ++ (u64s pc))) 26, .box bk365 (bys ((shN d (mulP (nv c) Gp)).1)) 41] En501 Hv499 rfl (bys_lenh (shN_len _ _)) (by rw [(bys_lenh (List.length_replicate))]; first | decide | (simp; done)) (bys_one _) (store_whole (bys_lenh (List.length_replicate))) rfl fun ac502 wo503 En504 Hv505 => ?_
   refine ⟨fun _ => Hv505.pk [0, 1], ?_⟩
   refine q_s [10] [] 0 En504 (Hv505.pk [0, 1]) fun ac506 En507 => ?_
   exact h_e ⟨bk365, En507.sb, Hv505.pk [0, 1, 2, 3]⟩
  have nd508 : ∀ (ac : Act) (wo : World), Env ac 90 [(3, pt bk1), (4, pt bk6), (5, pt bk11), (6, .bool false), (7, .bool true), (21, .agg (List.toArray (u64s d))), (22, .agg (List.toArray (u64s c))), (23, .agg (List.toArray (([.bool false] : List Value) ++ ((u64s (nd GX)) ++ (u64s (nd GY))))))] → Ev w [] wo [.box bk1 (u64s d) 24, .box bk6 (u64s c) 24, .box bk11 (([.bool pa] : List Value) ++ ((u64s pb) ++ (u64s pc))) 26] → G 8 #[true, true, true, false, false, false, false, false, false, false, false] ac wo := by
   intro ac509 wo510 En511 Hv512
   refine h_from hG ?_
   refine h_ways [3, 8] (by kernel_rfl) rfl ?_
   refine ⟨?_, ?_, trivial⟩
   ·
    rintro _ rfl
    refine c_p En511 Hv512 (pmult_go _ c n_c false (nd GX) (nd GY) (nds_len _ _) (nds_len _ _)) fun ac517 wo514 En518 Hv519 => ?_
    refine ⟨fun _ => Hv519.pk [0, 1], ?_⟩
    exact h_to hG (by kernel_rfl) (nd464 _ _ (En518.sb) (Hv519.pk [0, 1, 2]))
   ·
    rintro _ rfl
    refine m_z 41 (bys (List.replicate 32 0)) En511 Hv512 fun ac521 wo522 bk520 En523 Hv524 => ?_
    refine ⟨fun _ => Hv524.pk [0, 1], ?_⟩
    exact h_to hG (by kernel_rfl) (nd481 _ _ bk520 (En523.sb) (Hv524.pk [0, 1, 2, 3]))
  have nd525 : ∀ (ac : Act) (wo : World) (bk392 : Nat), Env ac 90 [(3, pt bk1), (4, pt bk6), (5, pt bk11), (6, .bool false), (7, .bool true), (8, pt bk392), (21, .agg (List.toArray (u64s d))), (22, .agg (List.toArray (u64s c)))] → Ev w [] wo [.box bk1 (u64s d) 24, .box bk6 (u64s c) 24, .box bk11 (([.bool pa] : List Value) ++ ((u64s pb) ++ (u64s pc))) 26, .box bk392 (bys (List.replicate 32 0)) 41] → G 8 #[true, true, false, false, false, false, false, false, true, false, false] ac wo := by
   intro ac526 wo527 bk392 En528 Hv529
   refine h_from hG ?_
   refine q_t 2 ?_
   refine c_p En528 Hv529 (pbase_go _) fun ac534 wo531 En535 Hv536 => ?_
   refine ⟨fun _ => Hv536.pk [0, 1], ?_⟩
   refine q_t 3 ?_
   refine c_p En535 Hv536 (pmult_go _ c n_c false (nd GX) (nd GY) (nds_len _ _) (nds_len _ _)) fun ac541 wo538 En542 Hv543 => ?_
   refine ⟨fun _ => Hv543.pk [0, 1], ?_⟩
   refine q_t 4 ?_
   refine c_p En542 Hv543 (shared_go _ d n_d ((mulP (nv c) Gp).1) ((mulP (nv c) Gp).2.1) ((mulP (nv c) Gp).2.2) ((mulP_len _ _).1) ((mulP_len _ _).2)) fun ac548 wo545 En549 Hv550 => ?_
   refine ⟨fun _ => Hv550.pk [0, 1], ?_⟩
   refine q_s [5,6,7] [] 2 En549 (Hv550.pk [0, 1]) fun ac551 En552 => ?_
   refine q_t 9 ?_
   refine m_g 3 0 32 (bys ((shN d (mulP (nv c) Gp)).1)) (bys ((shN d (mulP (nv c) Gp)).1)) [.box bk1 (u64s d) 24, .box bk6 (u64s c) 24, .box bk11 (([.bool pa] : List Value) ++ ((u64s pb) ++ (u64s pc))) 26, .box bk392 (bys ((shN d (mulP (nv c) Gp)).1)) 41] En552 Hv550 rfl (bys_lenh (shN_len _ _)) (by rw [(bys_lenh (List.length_replicate))]; first | decide | (simp; done)) (bys_one _) (store_whole (bys_lenh (List.length_replicate))) rfl fun ac553 wo554 En555 Hv556 => ?_
   refine ⟨fun _ => Hv556.pk [0, 1], ?_⟩
   refine q_s [10] [] 0 En555 (Hv556.pk [0, 1]) fun ac557 En558 => ?_
   exact h_e ⟨bk392, En558.sb, Hv556.pk [0, 1, 2, 3]⟩
  refine h_from hG ?_
  refine q_r 0 (s := Instr.loadAt 24 (pt bk1)) (v := .agg (List.toArray (u64s d))) En26 (fun w hS => run_loadAgg2 (m := 4) (cs := u64s d) (u64s_lenh n_d) (by kernel_rfl) (by kernel_rfl) (hS.heap.cells (k := 0) (off := 0) (m := 4) rfl (load_whole (u64s_lenh n_d)))) (wo27.pk [0, 1]) fun ac559 En560 => ?_
  refine q_r 1 (s := Instr.loadAt 24 (pt bk6)) (v := .agg (List.toArray (u64s c))) En560 (fun w hS => run_loadAgg2 (m := 4) (cs := u64s c) (u64s_lenh n_c) (by kernel_rfl) (by kernel_rfl) (hS.heap.cells (k := 1) (off := 0) (m := 4) rfl (load_whole (u64s_lenh n_c)))) (wo27.pk [0, 1]) fun ac561 En562 => ?_
  refine h_ways [2, 8] (by kernel_rfl) rfl ?_
  refine ⟨?_, ?_, trivial⟩
  ·
   rintro _ rfl
   refine c_p En562 wo27 (pbase_go _) fun ac567 wo564 En568 Hv569 => ?_
   refine ⟨fun _ => Hv569.pk [0, 1], ?_⟩
   exact h_to hG (by kernel_rfl) (nd508 _ _ (En568.sb) (Hv569.pk [0, 1, 2]))
  ·
   rintro _ rfl
   refine m_z 41 (bys (List.replicate 32 0)) En562 wo27 fun ac571 wo572 bk570 En573 Hv574 => ?_
   refine ⟨fun _ => Hv574.pk [0, 1], ?_⟩
   exact h_to hG (by kernel_rfl) (nd525 _ _ bk570 (En573.sb) (Hv574.pk [0, 1, 2, 3]))
 rintro ac575 wo576 ⟨bk334, En577, Hv578⟩
 refine then_normal ?_
 refine wp_seq ?_
 refine r_c (fun ac wo => ∃ (bk886 : Nat), Env ac 90 [(3, pt bk1), (4, pt bk6), (5, pt bk11), (6, .bool false), (7, .bool true), (8, pt bk334), (9, .int .i64 ((shN d (mulP (nv c) Gp)).2)), (10, pt bk886), (11, .int .i64 ((shN c (mulP (nv d) Gp)).2))] ∧ Ev w [] wo [.box bk1 (u64s d) 24, .box bk6 (u64s c) 24, .box bk11 (([.bool pa] : List Value) ++ ((u64s pb) ++ (u64s pc))) 26, .box bk334 (bys ((shN d (mulP (nv c) Gp)).1)) 41, .box bk886 (bys ((shN c (mulP (nv d) Gp)).1)) 41]) ?_ ?_
 ·
  refine h_s (fun wv => Ev w [] wv [.box bk1 (u64s d) 24, .box bk6 (u64s c) 24]) [] 11 ?_
  have wo579 := Hv578.trans (Ev.drew Hv578.heap)
  refine h_name fun G hG => ?_
  have nd978 : ∀ (ac : Act) (wo : World), Env ac 90 [(3, pt bk1), (4, pt bk6), (5, pt bk11), (6, .bool false), (7, .bool true), (8, pt bk334), (9, .int .i64 ((shN d (mulP (nv c) Gp)).2)), (33, .tuple #[.agg (List.toArray (bys ((shN c (mulP (nv d) Gp)).1))), .int .i64 ((shN c (mulP (nv d) Gp)).2)])] → Ev w [] wo [.box bk1 (u64s d) 24, .box bk6 (u64s c) 24, .box bk11 (([.bool pa] : List Value) ++ ((u64s pb) ++ (u64s pc))) 26, .box bk334 (bys ((shN d (mulP (nv c) Gp)).1)) 41] → G 6 #[true, true, true, true, true, false, false, false, false, false, false] ac wo := by
   intro ac979 wo980 En981 Hv982
   refine h_from hG ?_
   refine q_s [5,6,7] [] 3 En981 (Hv982.pk [0, 1]) fun ac983 En984 => ?_
   refine q_t 8 ?_
   refine m_z 41 (bys (List.replicate 32 0)) En984 Hv982 fun ac986 wo987 bk985 En988 Hv989 => ?_
   refine ⟨fun _ => Hv989.pk [0, 1], ?_⟩
   refine q_t 9 ?_
   refine m_g 4 0 32 (bys ((shN c (mulP (nv d) Gp)).1)) (bys ((shN c (mulP (nv d) Gp)).1)) [.box bk1 (u64s d) 24, .box bk6 (u64s c) 24, .box bk11 (([.bool pa] : List Value) ++ ((u64s pb) ++ (u64s pc))) 26, .box bk334 (bys ((shN d (mulP (nv c) Gp)).1)) 41, .box bk985 (bys ((shN c (mulP (nv d) Gp)).1)) 41] En988 Hv989 rfl (bys_lenh (shN_len _ _)) (by rw [(bys_lenh (List.length_replicate))]; first | decide | (simp; done)) (bys_one _) (store_whole (bys_lenh (List.length_replicate))) rfl fun ac990 wo991 En992 Hv993 => ?_
   refine ⟨fun _ => Hv993.pk [0, 1], ?_⟩
   refine q_s [10] [] 0 En992 (Hv993.pk [0, 1]) fun ac994 En995 => ?_
   exact h_e ⟨bk985, En995.sb, Hv993.pk [0, 1, 2, 3, 4]⟩
  have nd996 : ∀ (ac : Act) (wo : World) (bk897 : Nat), Env ac 90 [(3, pt bk1), (4, pt bk6), (5, pt bk11), (6, .bool false), (7, .bool true), (8, pt bk334), (9, .int .i64 ((shN d (mulP (nv c) Gp)).2)), (10, pt bk897), (29, .agg (List.toArray (u64s c))), (32, .agg (List.toArray (([.bool ((mulP (nv d) Gp).1)] : List Value) ++ ((u64s ((mulP (nv d) Gp).2.1)) ++ (u64s ((mulP (nv d) Gp).2.2))))))] → Ev w [] wo [.box bk1 (u64s d) 24, .box bk6 (u64s c) 24, .box bk11 (([.bool pa] : List Value) ++ ((u64s pb) ++ (u64s pc))) 26, .box bk334 (bys ((shN d (mulP (nv c) Gp)).1)) 41, .box bk897 (bys (List.replicate 32 0)) 41] → G 6 #[true, true, true, true, false, false, false, false, true, false, false] ac wo := by
   intro ac997 wo998 bk897 En999 Hv1000
   refine h_from hG ?_
   refine q_t 4 ?_
   refine c_p En999 Hv1000 (shared_go _ c n_c ((mulP (nv d) Gp).1) ((mulP (nv d) Gp).2.1) ((mulP (nv d) Gp).2.2) ((mulP_len _ _).1) ((mulP_len _ _).2)) fun ac1005 wo1002 En1006 Hv1007 => ?_
   refine ⟨fun _ => Hv1007.pk [0, 1], ?_⟩
   refine q_s [5,6,7] [] 2 En1006 (Hv1007.pk [0, 1]) fun ac1008 En1009 => ?_
   refine q_t 9 ?_
   refine m_g 4 0 32 (bys ((shN c (mulP (nv d) Gp)).1)) (bys ((shN c (mulP (nv d) Gp)).1)) [.box bk1 (u64s d) 24, .box bk6 (u64s c) 24, .box bk11 (([.bool pa] : List Value) ++ ((u64s pb) ++ (u64s pc))) 26, .box bk334 (bys ((shN d (mulP (nv c) Gp)).1)) 41, .box bk897 (bys ((shN c (mulP (nv d) Gp)).1)) 41] En1009 Hv1007 rfl (bys_lenh (shN_len _ _)) (by rw [(bys_lenh (List.length_replicate))]; first | decide | (simp; done)) (bys_one _) (store_whole (bys_lenh (List.length_replicate))) rfl fun ac1010 wo1011 En1012 Hv1013 => ?_
   refine ⟨fun _ => Hv1013.pk [0, 1], ?_⟩
   refine q_s [10] [] 0 En1012 (Hv1013.pk [0, 1]) fun ac1014 En1015 => ?_
   exact h_e ⟨bk897, En1015.sb, Hv1013.pk [0, 1, 2, 3, 4]⟩
  have nd1016 : ∀ (ac : Act) (wo : World), Env ac 90 [(3, pt bk1), (4, pt bk6), (5, pt bk11), (6, .bool false), (7, .bool true), (8, pt bk334), (9, .int .i64 ((shN d (mulP (nv c) Gp)).2)), (29, .agg (List.toArray (u64s c))), (32, .agg (List.toArray (([.bool ((mulP (nv d) Gp).1)] : List Value) ++ ((u64s ((mulP (nv d) Gp).2.1)) ++ (u64s ((mulP (nv d) Gp).2.2))))))] → Ev w [] wo [.box bk1 (u64s d) 24, .box bk6 (u64s c) 24, .box bk11 (([.bool pa] : List Value) ++ ((u64s pb) ++ (u64s pc))) 26, .box bk334 (bys ((shN d (mulP (nv c) Gp)).1)) 41] → G 7 #[true, true, true, true, false, false, false, false, false, false, false] ac wo := by
   intro ac1017 wo1018 En1019 Hv1020
   refine h_from hG ?_
   refine h_ways [4, 8] (by kernel_rfl) rfl ?_
   refine ⟨?_, ?_, trivial⟩
   ·
    rintro _ rfl
    refine c_p En1019 Hv1020 (shared_go _ c n_c ((mulP (nv d) Gp).1) ((mulP (nv d) Gp).2.1) ((mulP (nv d) Gp).2.2) ((mulP_len _ _).1) ((mulP_len _ _).2)) fun ac1025 wo1022 En1026 Hv1027 => ?_
    refine ⟨fun _ => Hv1027.pk [0, 1], ?_⟩
    exact h_to hG (by kernel_rfl) (nd978 _ _ (En1026.sb) (Hv1027.pk [0, 1, 2, 3]))
   ·
    rintro _ rfl
    refine m_z 41 (bys (List.replicate 32 0)) En1019 Hv1020 fun ac1029 wo1030 bk1028 En1031 Hv1032 => ?_
    refine ⟨fun _ => Hv1032.pk [0, 1], ?_⟩
    exact h_to hG (by kernel_rfl) (nd996 _ _ bk1028 (En1031.sb) (Hv1032.pk [0, 1, 2, 3, 4]))
  have nd1033 : ∀ (ac : Act) (wo : World) (bk917 : Nat), Env ac 90 [(3, pt bk1), (4, pt bk6), (5, pt bk11), (6, .bool false), (7, .bool true), (8, pt bk334), (9, .int .i64 ((shN d (mulP (nv c) Gp)).2)), (10, pt bk917), (29, .agg (List.toArray (u64s c))), (30, .agg (List.toArray (u64s d))), (31, .agg (List.toArray (([.bool false] : List Value) ++ ((u64s (nd GX)) ++ (u64s (nd GY))))))] → Ev w [] wo [.box bk1 (u64s d) 24, .box bk6 (u64s c) 24, .box bk11 (([.bool pa] : List Value) ++ ((u64s pb) ++ (u64s pc))) 26, .box bk334 (bys ((shN d (mulP (nv c) Gp)).1)) 41, .box bk917 (bys (List.replicate 32 0)) 41] → G 7 #[true, true, true, false, false, false, false, false, true, false, false] ac wo := by
   intro ac1034 wo1035 bk917 En1036 Hv1037
   refine h_from hG ?_
   refine q_t 3 ?_
   refine c_p En1036 Hv1037 (pmult_go _ d n_d false (nd GX) (nd GY) (nds_len _ _) (nds_len _ _)) fun ac1042 wo1039 En1043 Hv1044 => ?_
   refine ⟨fun _ => Hv1044.pk [0, 1], ?_⟩
   refine q_t 4 ?_
   refine c_p En1043 Hv1044 (shared_go _ c n_c ((mulP (nv d) Gp).1) ((mulP (nv d) Gp).2.1) ((mulP (nv d) Gp).2.2) ((mulP_len _ _).1) ((mulP_len _ _).2)) fun ac1049 wo1046 En1050 Hv1051 => ?_
   refine ⟨fun _ => Hv1051.pk [0, 1], ?_⟩
   refine q_s [5,6,7] [] 2 En1050 (Hv1051.pk [0, 1]) fun ac1052 En1053 => ?_
   refine q_t 9 ?_
   refine m_g 4 0 32 (bys ((shN c (mulP (nv d) Gp)).1)) (bys ((shN c (mulP (nv d) Gp)).1)) [.box bk1 (u64s d) 24, .box bk6 (u64s c) 24, .box bk11 (([.bool pa] : List Value) ++ ((u64s pb) ++ (u64s pc))) 26, .box bk334 (bys ((shN d (mulP (nv c) Gp)).1)) 41, .box bk917 (bys ((shN c (mulP (nv d) Gp)).1)) 41] En1053 Hv1051 rfl (bys_lenh (shN_len _ _)) (by rw [(bys_lenh (List.length_replicate))]; first | decide | (simp; done)) (bys_one _) (store_whole (bys_lenh (List.length_replicate))) rfl fun ac1054 wo1055 En1056 Hv1057 => ?_
   refine ⟨fun _ => Hv1057.pk [0, 1], ?_⟩
   refine q_s [10] [] 0 En1056 (Hv1057.pk [0, 1]) fun ac1058 En1059 => ?_
   exact h_e ⟨bk917, En1059.sb, Hv1057.pk [0, 1, 2, 3, 4]⟩
  have nd1060 : ∀ (ac : Act) (wo : World), Env ac 90 [(3, pt bk1), (4, pt bk6), (5, pt bk11), (6, .bool false), (7, .bool true), (8, pt bk334), (9, .int .i64 ((shN d (mulP (nv c) Gp)).2)), (29, .agg (List.toArray (u64s c))), (30, .agg (List.toArray (u64s d))), (31, .agg (List.toArray (([.bool false] : List Value) ++ ((u64s (nd GX)) ++ (u64s (nd GY))))))] → Ev w [] wo [.box bk1 (u64s d) 24, .box bk6 (u64s c) 24, .box bk11 (([.bool pa] : List Value) ++ ((u64s pb) ++ (u64s pc))) 26, .box bk334 (bys ((shN d (mulP (nv c) Gp)).1)) 41] → G 8 #[true, true, true, false, false, false, false, false, false, false, false] ac wo := by
   intro ac1061 wo1062 En1063 Hv1064
   refine h_from hG ?_
   refine h_ways [3, 8] (by kernel_rfl) rfl ?_
   refine ⟨?_, ?_, trivial⟩
   ·
    rintro _ rfl
    refine c_p En1063 Hv1064 (pmult_go _ d n_d false (nd GX) (nd GY) (nds_len _ _) (nds_len _ _)) fun ac1069 wo1066 En1070 Hv1071 => ?_
    refine ⟨fun _ => Hv1071.pk [0, 1], ?_⟩
    exact h_to hG (by kernel_rfl) (nd1016 _ _ (En1070.sb) (Hv1071.pk [0, 1, 2, 3]))
   ·
    rintro _ rfl
    refine m_z 41 (bys (List.replicate 32 0)) En1063 Hv1064 fun ac1073 wo1074 bk1072 En1075 Hv1076 => ?_
    refine ⟨fun _ => Hv1076.pk [0, 1], ?_⟩
    exact h_to hG (by kernel_rfl) (nd1033 _ _ bk1072 (En1075.sb) (Hv1076.pk [0, 1, 2, 3, 4]))
  have nd1077 : ∀ (ac : Act) (wo : World) (bk944 : Nat), Env ac 90 [(3, pt bk1), (4, pt bk6), (5, pt bk11), (6, .bool false), (7, .bool true), (8, pt bk334), (9, .int .i64 ((shN d (mulP (nv c) Gp)).2)), (10, pt bk944), (29, .agg (List.toArray (u64s c))), (30, .agg (List.toArray (u64s d)))] → Ev w [] wo [.box bk1 (u64s d) 24, .box bk6 (u64s c) 24, .box bk11 (([.bool pa] : List Value) ++ ((u64s pb) ++ (u64s pc))) 26, .box bk334 (bys ((shN d (mulP (nv c) Gp)).1)) 41, .box bk944 (bys (List.replicate 32 0)) 41] → G 8 #[true, true, false, false, false, false, false, false, true, false, false] ac wo := by
   intro ac1078 wo1079 bk944 En1080 Hv1081
   refine h_from hG ?_
   refine q_t 2 ?_
   refine c_p En1080 Hv1081 (pbase_go _) fun ac1086 wo1083 En1087 Hv1088 => ?_
   refine ⟨fun _ => Hv1088.pk [0, 1], ?_⟩
   refine q_t 3 ?_
   refine c_p En1087 Hv1088 (pmult_go _ d n_d false (nd GX) (nd GY) (nds_len _ _) (nds_len _ _)) fun ac1093 wo1090 En1094 Hv1095 => ?_
   refine ⟨fun _ => Hv1095.pk [0, 1], ?_⟩
   refine q_t 4 ?_
   refine c_p En1094 Hv1095 (shared_go _ c n_c ((mulP (nv d) Gp).1) ((mulP (nv d) Gp).2.1) ((mulP (nv d) Gp).2.2) ((mulP_len _ _).1) ((mulP_len _ _).2)) fun ac1100 wo1097 En1101 Hv1102 => ?_
   refine ⟨fun _ => Hv1102.pk [0, 1], ?_⟩
   refine q_s [5,6,7] [] 2 En1101 (Hv1102.pk [0, 1]) fun ac1103 En1104 => ?_
   refine q_t 9 ?_
   refine m_g 4 0 32 (bys ((shN c (mulP (nv d) Gp)).1)) (bys ((shN c (mulP (nv d) Gp)).1)) [.box bk1 (u64s d) 24, .box bk6 (u64s c) 24, .box bk11 (([.bool pa] : List Value) ++ ((u64s pb) ++ (u64s pc))) 26, .box bk334 (bys ((shN d (mulP (nv c) Gp)).1)) 41, .box bk944 (bys ((shN c (mulP (nv d) Gp)).1)) 41] En1104 Hv1102 rfl (bys_lenh (shN_len _ _)) (by rw [(bys_lenh (List.length_replicate))]; first | decide | (simp; done)) (bys_one _) (store_whole (bys_lenh (List.length_replicate))) rfl fun ac1105 wo1106 En1107 Hv1108 => ?_
   refine ⟨fun _ => Hv1108.pk [0, 1], ?_⟩
   refine q_s [10] [] 0 En1107 (Hv1108.pk [0, 1]) fun ac1109 En1110 => ?_
   exact h_e ⟨bk944, En1110.sb, Hv1108.pk [0, 1, 2, 3, 4]⟩
  refine h_from hG ?_
  refine q_r 0 (s := Instr.loadAt 24 (pt bk6)) (v := .agg (List.toArray (u64s c))) En577 (fun w hS => run_loadAgg2 (m := 4) (cs := u64s c) (u64s_lenh n_c) (by kernel_rfl) (by kernel_rfl) (hS.heap.cells (k := 1) (off := 0) (m := 4) rfl (load_whole (u64s_lenh n_c)))) (wo579.pk [0, 1]) fun ac1111 En1112 => ?_
  refine q_r 1 (s := Instr.loadAt 24 (pt bk1)) (v := .agg (List.toArray (u64s d))) En1112 (fun w hS => run_loadAgg2 (m := 4) (cs := u64s d) (u64s_lenh n_d) (by kernel_rfl) (by kernel_rfl) (hS.heap.cells (k := 0) (off := 0) (m := 4) rfl (load_whole (u64s_lenh n_d)))) (wo579.pk [0, 1]) fun ac1113 En1114 => ?_
  refine h_ways [2, 8] (by kernel_rfl) rfl ?_
  refine ⟨?_, ?_, trivial⟩
  ·
   rintro _ rfl
   refine c_p En1114 wo579 (pbase_go _) fun ac1119 wo1116 En1120 Hv1121 => ?_
   refine ⟨fun _ => Hv1121.pk [0, 1], ?_⟩
   exact h_to hG (by kernel_rfl) (nd1060 _ _ (En1120.sb) (Hv1121.pk [0, 1, 2, 3]))
  ·
   rintro _ rfl
   refine m_z 41 (bys (List.replicate 32 0)) En1114 wo579 fun ac1123 wo1124 bk1122 En1125 Hv1126 => ?_
   refine ⟨fun _ => Hv1126.pk [0, 1], ?_⟩
   exact h_to hG (by kernel_rfl) (nd1077 _ _ bk1122 (En1125.sb) (Hv1126.pk [0, 1, 2, 3, 4]))
 rintro ac1127 wo1128 ⟨bk886, En1129, Hv1130⟩
 refine then_normal ?_
 refine wp_seq ?_
 refine region_from ?_
 refine f_o ?_
 refine m_a 0 0 4 (u64s d) En1129 Hv1130 rfl (load_whole (u64s_lenh n_d)) (u64s_lenh n_d) fun ac1131 En1132 => ?_
 refine f_o ?_
 refine m_a 2 0 9 (([.bool pa] : List Value) ++ ((u64s pb) ++ (u64s pc))) En1132 Hv1130 rfl (load_whole (len_app rfl (len_app (u64s_lenh n_pb) (u64s_lenh n_pc)))) (len_app rfl (len_app (u64s_lenh n_pb) (u64s_lenh n_pc))) fun ac1133 En1134 => ?_
 refine f_o ?_
 refine c_p En1134 Hv1130 (shared_go _ d n_d pa pb pc n_pb n_pc) fun ac1139 wo1136 En1140 Hv1141 => ?_
 refine d_k [3,4,5,6,7,8,9,10,11,40,41] [] 6 En1140 fun ac1142 En1143 => ?_
 refine f_o ?_
 refine m_z 41 (bys (List.replicate 32 0)) En1143 Hv1141 fun ac1145 wo1146 bk1144 En1147 Hv1148 => ?_
 refine f_o ?_
 refine m_g 5 0 32 (bys ((shN d (pa, pb, pc)).1)) (bys ((shN d (pa, pb, pc)).1)) [.box bk1 (u64s d) 24, .box bk6 (u64s c) 24, .box bk11 (([.bool pa] : List Value) ++ ((u64s pb) ++ (u64s pc))) 26, .box bk334 (bys ((shN d (mulP (nv c) Gp)).1)) 41, .box bk886 (bys ((shN c (mulP (nv d) Gp)).1)) 41, .box bk1144 (bys ((shN d (pa, pb, pc)).1)) 41] En1147 Hv1148 rfl (bys_lenh (shN_len _ _)) (by rw [(bys_lenh (List.length_replicate))]; first | decide | (simp; done)) (bys_one _) (store_whole (bys_lenh (List.length_replicate))) rfl fun ac1149 wo1150 En1151 Hv1152 => ?_
 refine d_e [3,4,5,6,7,8,9,10,11,12,13] [] En1151 fun ac1153 En1154 => ?_
 refine then_normal ?_
 refine wp_seq ?_
 refine region_from ?_
 refine f_o ?_
 refine m_a 0 0 4 (u64s d) En1154 Hv1152 rfl (load_whole (u64s_lenh n_d)) (u64s_lenh n_d) fun ac1155 En1156 => ?_
 refine f_o ?_
 refine m_a 2 0 9 (([.bool pa] : List Value) ++ ((u64s pb) ++ (u64s pc))) En1156 Hv1152 rfl (load_whole (len_app rfl (len_app (u64s_lenh n_pb) (u64s_lenh n_pc)))) (len_app rfl (len_app (u64s_lenh n_pb) (u64s_lenh n_pc))) fun ac1157 En1158 => ?_
 refine f_o ?_
 refine c_p En1158 Hv1152 (dshared_go _ d n_d pa pb pc n_pb n_pc) fun ac1163 wo1160 En1164 Hv1165 => ?_
 refine d_k [3,4,5,6,7,8,9,10,11,12,13,46,47] [] 6 En1164 fun ac1166 En1167 => ?_
 refine f_o ?_
 refine m_z 41 (bys (List.replicate 32 0)) En1167 Hv1165 fun ac1169 wo1170 bk1168 En1171 Hv1172 => ?_
 refine f_o ?_
 refine m_g 6 0 32 (bys ((shN d (pa, pb, pc)).1)) (bys ((shN d (pa, pb, pc)).1)) [.box bk1 (u64s d) 24, .box bk6 (u64s c) 24, .box bk11 (([.bool pa] : List Value) ++ ((u64s pb) ++ (u64s pc))) 26, .box bk334 (bys ((shN d (mulP (nv c) Gp)).1)) 41, .box bk886 (bys ((shN c (mulP (nv d) Gp)).1)) 41, .box bk1144 (bys ((shN d (pa, pb, pc)).1)) 41, .box bk1168 (bys ((shN d (pa, pb, pc)).1)) 41] En1171 Hv1172 rfl (bys_lenh (shN_len _ _)) (by rw [(bys_lenh (List.length_replicate))]; first | decide | (simp; done)) (bys_one _) (store_whole (bys_lenh (List.length_replicate))) rfl fun ac1173 wo1174 En1175 Hv1176 => ?_
 refine d_e [3,4,5,6,7,8,9,10,11,12,13,14,15] [] En1175 fun ac1177 En1178 => ?_
 refine then_normal ?_
 refine wp_seq ?_
 refine region_from ?_
 refine d_k [3,4,5,6,7,8,9,10,11,12,13,14,15,50] [] 3 En1178 fun ac1179 En1180 => ?_
 rcases Bool.eq_false_or_eq_true ((shN d (mulP (nv c) Gp)).2 != (0 : Int)) with hb1181 | hb1181
 ·
  have En1182 := En1180.fx (t := 50) (congrArg Value.bool hb1181)
  have hp1183 : ¬ ((shN d (mulP (nv c) Gp)).2 = (0 : Int)) := by simpa using hb1181
  refine d_e [3,4,5,6,7,8,9,10,12,13,14,15,16] [] En1182 fun ac1184 En1185 => ?_
  refine then_normal ?_
  refine wp_seq ?_
  refine r_c (fun ac wo => ∃ (bk1372 : Nat), Env ac 90 [(3, pt bk1), (4, pt bk6), (5, pt bk11), (6, .bool false), (7, .bool true), (8, pt bk334), (9, .int .i64 ((shN d (mulP (nv c) Gp)).2)), (10, pt bk886), (12, pt bk1144), (13, .int .i64 ((shN d (pa, pb, pc)).2)), (14, pt bk1168), (15, .int .i64 ((shN d (pa, pb, pc)).2)), (16, .bool true), (17, pt bk1372), (18, .int .i64 ((shN d (mulP (nv c) Gp)).2))] ∧ Ev w [] wo [.box bk1 (u64s d) 24, .box bk6 (u64s c) 24, .box bk11 (([.bool pa] : List Value) ++ ((u64s pb) ++ (u64s pc))) 26, .box bk334 (bys ((shN d (mulP (nv c) Gp)).1)) 41, .box bk886 (bys ((shN c (mulP (nv d) Gp)).1)) 41, .box bk1144 (bys ((shN d (pa, pb, pc)).1)) 41, .box bk1168 (bys ((shN d (pa, pb, pc)).1)) 41, .box bk1372 (bys ((shN d (mulP (nv c) Gp)).1)) 41]) ?_ ?_
  ·
   refine h_s (fun wv => Ev w [] wv [.box bk1 (u64s d) 24, .box bk6 (u64s c) 24]) [] 10 ?_
   have wo1186 := Hv1176.trans (Ev.drew Hv1176.heap)
   refine h_name fun G hG => ?_
   have nd1430 : ∀ (ac : Act) (wo : World), Env ac 90 [(3, pt bk1), (4, pt bk6), (5, pt bk11), (6, .bool false), (7, .bool true), (8, pt bk334), (9, .int .i64 ((shN d (mulP (nv c) Gp)).2)), (10, pt bk886), (12, pt bk1144), (13, .int .i64 ((shN d (pa, pb, pc)).2)), (14, pt bk1168), (15, .int .i64 ((shN d (pa, pb, pc)).2)), (16, .bool true), (63, .tuple #[.agg (List.toArray (bys ((shN d (mulP (nv c) Gp)).1))), .int .i64 ((shN d (mulP (nv c) Gp)).2)])] → Ev w [] wo [.box bk1 (u64s d) 24, .box bk6 (u64s c) 24, .box bk11 (([.bool pa] : List Value) ++ ((u64s pb) ++ (u64s pc))) 26, .box bk334 (bys ((shN d (mulP (nv c) Gp)).1)) 41, .box bk886 (bys ((shN c (mulP (nv d) Gp)).1)) 41, .box bk1144 (bys ((shN d (pa, pb, pc)).1)) 41, .box bk1168 (bys ((shN d (pa, pb, pc)).1)) 41] → G 6 #[true, true, true, true, false, false, false, false, false, false] ac wo := by
    intro ac1431 wo1432 En1433 Hv1434
    refine h_from hG ?_
    refine q_s [4,5,6] [] 3 En1433 (Hv1434.pk [0, 1]) fun ac1435 En1436 => ?_
    refine q_t 7 ?_
    refine m_z 41 (bys (List.replicate 32 0)) En1436 Hv1434 fun ac1438 wo1439 bk1437 En1440 Hv1441 => ?_
    refine ⟨fun _ => Hv1441.pk [0, 1], ?_⟩
    refine q_t 8 ?_
    refine m_g 7 0 32 (bys ((shN d (mulP (nv c) Gp)).1)) (bys ((shN d (mulP (nv c) Gp)).1)) [.box bk1 (u64s d) 24, .box bk6 (u64s c) 24, .box bk11 (([.bool pa] : List Value) ++ ((u64s pb) ++ (u64s pc))) 26, .box bk334 (bys ((shN d (mulP (nv c) Gp)).1)) 41, .box bk886 (bys ((shN c (mulP (nv d) Gp)).1)) 41, .box bk1144 (bys ((shN d (pa, pb, pc)).1)) 41, .box bk1168 (bys ((shN d (pa, pb, pc)).1)) 41, .box bk1437 (bys ((shN d (mulP (nv c) Gp)).1)) 41] En1440 Hv1441 rfl (bys_lenh (shN_len _ _)) (by rw [(bys_lenh (List.length_replicate))]; first | decide | (simp; done)) (bys_one _) (store_whole (bys_lenh (List.length_replicate))) rfl fun ac1442 wo1443 En1444 Hv1445 => ?_
    refine ⟨fun _ => Hv1445.pk [0, 1], ?_⟩
    refine q_s [9] [] 0 En1444 (Hv1445.pk [0, 1]) fun ac1446 En1447 => ?_
    exact h_e ⟨bk1437, En1447.sb, Hv1445.pk [0, 1, 2, 3, 4, 5, 6, 7]⟩
   have nd1448 : ∀ (ac : Act) (wo : World) (bk1383 : Nat), Env ac 90 [(3, pt bk1), (4, pt bk6), (5, pt bk11), (6, .bool false), (7, .bool true), (8, pt bk334), (9, .int .i64 ((shN d (mulP (nv c) Gp)).2)), (10, pt bk886), (12, pt bk1144), (13, .int .i64 ((shN d (pa, pb, pc)).2)), (14, pt bk1168), (15, .int .i64 ((shN d (pa, pb, pc)).2)), (16, .bool true), (17, pt bk1383), (60, .agg (List.toArray (u64s d))), (62, .agg (List.toArray (([.bool ((mulP (nv c) Gp).1)] : List Value) ++ ((u64s ((mulP (nv c) Gp).2.1)) ++ (u64s ((mulP (nv c) Gp).2.2))))))] → Ev w [] wo [.box bk1 (u64s d) 24, .box bk6 (u64s c) 24, .box bk11 (([.bool pa] : List Value) ++ ((u64s pb) ++ (u64s pc))) 26, .box bk334 (bys ((shN d (mulP (nv c) Gp)).1)) 41, .box bk886 (bys ((shN c (mulP (nv d) Gp)).1)) 41, .box bk1144 (bys ((shN d (pa, pb, pc)).1)) 41, .box bk1168 (bys ((shN d (pa, pb, pc)).1)) 41, .box bk1383 (bys (List.replicate 32 0)) 41] → G 6 #[true, true, true, false, false, false, false, true, false, false] ac wo := by
    intro ac1449 wo1450 bk1383 En1451 Hv1452
    refine h_from hG ?_
    refine q_t 3 ?_
    refine c_p En1451 Hv1452 (dshared_go _ d n_d ((mulP (nv c) Gp).1) ((mulP (nv c) Gp).2.1) ((mulP (nv c) Gp).2.2) ((mulP_len _ _).1) ((mulP_len _ _).2)) fun ac1457 wo1454 En1458 Hv1459 => ?_
    refine ⟨fun _ => Hv1459.pk [0, 1], ?_⟩
    refine q_s [4,5,6] [] 2 En1458 (Hv1459.pk [0, 1]) fun ac1460 En1461 => ?_
    refine q_t 8 ?_
    refine m_g 7 0 32 (bys ((shN d (mulP (nv c) Gp)).1)) (bys ((shN d (mulP (nv c) Gp)).1)) [.box bk1 (u64s d) 24, .box bk6 (u64s c) 24, .box bk11 (([.bool pa] : List Value) ++ ((u64s pb) ++ (u64s pc))) 26, .box bk334 (bys ((shN d (mulP (nv c) Gp)).1)) 41, .box bk886 (bys ((shN c (mulP (nv d) Gp)).1)) 41, .box bk1144 (bys ((shN d (pa, pb, pc)).1)) 41, .box bk1168 (bys ((shN d (pa, pb, pc)).1)) 41, .box bk1383 (bys ((shN d (mulP (nv c) Gp)).1)) 41] En1461 Hv1459 rfl (bys_lenh (shN_len _ _)) (by rw [(bys_lenh (List.length_replicate))]; first | decide | (simp; done)) (bys_one _) (store_whole (bys_lenh (List.length_replicate))) rfl fun ac1462 wo1463 En1464 Hv1465 => ?_
    refine ⟨fun _ => Hv1465.pk [0, 1], ?_⟩
    refine q_s [9] [] 0 En1464 (Hv1465.pk [0, 1]) fun ac1466 En1467 => ?_
    exact h_e ⟨bk1383, En1467.sb, Hv1465.pk [0, 1, 2, 3, 4, 5, 6, 7]⟩
   have nd1468 : ∀ (ac : Act) (wo : World), Env ac 90 [(3, pt bk1), (4, pt bk6), (5, pt bk11), (6, .bool false), (7, .bool true), (8, pt bk334), (9, .int .i64 ((shN d (mulP (nv c) Gp)).2)), (10, pt bk886), (12, pt bk1144), (13, .int .i64 ((shN d (pa, pb, pc)).2)), (14, pt bk1168), (15, .int .i64 ((shN d (pa, pb, pc)).2)), (16, .bool true), (60, .agg (List.toArray (u64s d))), (62, .agg (List.toArray (([.bool ((mulP (nv c) Gp).1)] : List Value) ++ ((u64s ((mulP (nv c) Gp).2.1)) ++ (u64s ((mulP (nv c) Gp).2.2))))))] → Ev w [] wo [.box bk1 (u64s d) 24, .box bk6 (u64s c) 24, .box bk11 (([.bool pa] : List Value) ++ ((u64s pb) ++ (u64s pc))) 26, .box bk334 (bys ((shN d (mulP (nv c) Gp)).1)) 41, .box bk886 (bys ((shN c (mulP (nv d) Gp)).1)) 41, .box bk1144 (bys ((shN d (pa, pb, pc)).1)) 41, .box bk1168 (bys ((shN d (pa, pb, pc)).1)) 41] → G 7 #[true, true, true, false, false, false, false, false, false, false] ac wo := by
    intro ac1469 wo1470 En1471 Hv1472
    refine h_from hG ?_
    refine h_ways [3, 7] (by kernel_rfl) rfl ?_
    refine ⟨?_, ?_, trivial⟩
    ·
     rintro _ rfl
     refine c_p En1471 Hv1472 (dshared_go _ d n_d ((mulP (nv c) Gp).1) ((mulP (nv c) Gp).2.1) ((mulP (nv c) Gp).2.2) ((mulP_len _ _).1) ((mulP_len _ _).2)) fun ac1477 wo1474 En1478 Hv1479 => ?_
     refine ⟨fun _ => Hv1479.pk [0, 1], ?_⟩
     exact h_to hG (by kernel_rfl) (nd1430 _ _ (En1478.sb) (Hv1479.pk [0, 1, 2, 3, 4, 5, 6]))
    ·
     rintro _ rfl
     refine m_z 41 (bys (List.replicate 32 0)) En1471 Hv1472 fun ac1481 wo1482 bk1480 En1483 Hv1484 => ?_
     refine ⟨fun _ => Hv1484.pk [0, 1], ?_⟩
     exact h_to hG (by kernel_rfl) (nd1448 _ _ bk1480 (En1483.sb) (Hv1484.pk [0, 1, 2, 3, 4, 5, 6, 7]))
   have nd1485 : ∀ (ac : Act) (wo : World) (bk1403 : Nat), Env ac 90 [(3, pt bk1), (4, pt bk6), (5, pt bk11), (6, .bool false), (7, .bool true), (8, pt bk334), (9, .int .i64 ((shN d (mulP (nv c) Gp)).2)), (10, pt bk886), (12, pt bk1144), (13, .int .i64 ((shN d (pa, pb, pc)).2)), (14, pt bk1168), (15, .int .i64 ((shN d (pa, pb, pc)).2)), (16, .bool true), (17, pt bk1403), (60, .agg (List.toArray (u64s d))), (61, .agg (List.toArray (u64s c)))] → Ev w [] wo [.box bk1 (u64s d) 24, .box bk6 (u64s c) 24, .box bk11 (([.bool pa] : List Value) ++ ((u64s pb) ++ (u64s pc))) 26, .box bk334 (bys ((shN d (mulP (nv c) Gp)).1)) 41, .box bk886 (bys ((shN c (mulP (nv d) Gp)).1)) 41, .box bk1144 (bys ((shN d (pa, pb, pc)).1)) 41, .box bk1168 (bys ((shN d (pa, pb, pc)).1)) 41, .box bk1403 (bys (List.replicate 32 0)) 41] → G 7 #[true, true, false, false, false, false, false, true, false, false] ac wo := by
    intro ac1486 wo1487 bk1403 En1488 Hv1489
    refine h_from hG ?_
    refine q_t 2 ?_
    refine c_p En1488 Hv1489 (point_go _ c n_c) fun ac1494 wo1491 En1495 Hv1496 => ?_
    refine ⟨fun _ => Hv1496.pk [0, 1], ?_⟩
    refine q_t 3 ?_
    refine c_p En1495 Hv1496 (dshared_go _ d n_d ((mulP (nv c) Gp).1) ((mulP (nv c) Gp).2.1) ((mulP (nv c) Gp).2.2) ((mulP_len _ _).1) ((mulP_len _ _).2)) fun ac1501 wo1498 En1502 Hv1503 => ?_
    refine ⟨fun _ => Hv1503.pk [0, 1], ?_⟩
    refine q_s [4,5,6] [] 2 En1502 (Hv1503.pk [0, 1]) fun ac1504 En1505 => ?_
    refine q_t 8 ?_
    refine m_g 7 0 32 (bys ((shN d (mulP (nv c) Gp)).1)) (bys ((shN d (mulP (nv c) Gp)).1)) [.box bk1 (u64s d) 24, .box bk6 (u64s c) 24, .box bk11 (([.bool pa] : List Value) ++ ((u64s pb) ++ (u64s pc))) 26, .box bk334 (bys ((shN d (mulP (nv c) Gp)).1)) 41, .box bk886 (bys ((shN c (mulP (nv d) Gp)).1)) 41, .box bk1144 (bys ((shN d (pa, pb, pc)).1)) 41, .box bk1168 (bys ((shN d (pa, pb, pc)).1)) 41, .box bk1403 (bys ((shN d (mulP (nv c) Gp)).1)) 41] En1505 Hv1503 rfl (bys_lenh (shN_len _ _)) (by rw [(bys_lenh (List.length_replicate))]; first | decide | (simp; done)) (bys_one _) (store_whole (bys_lenh (List.length_replicate))) rfl fun ac1506 wo1507 En1508 Hv1509 => ?_
    refine ⟨fun _ => Hv1509.pk [0, 1], ?_⟩
    refine q_s [9] [] 0 En1508 (Hv1509.pk [0, 1]) fun ac1510 En1511 => ?_
    exact h_e ⟨bk1403, En1511.sb, Hv1509.pk [0, 1, 2, 3, 4, 5, 6, 7]⟩
   refine h_from hG ?_
   refine q_r 0 (s := Instr.loadAt 24 (pt bk1)) (v := .agg (List.toArray (u64s d))) En1185 (fun w hS => run_loadAgg2 (m := 4) (cs := u64s d) (u64s_lenh n_d) (by kernel_rfl) (by kernel_rfl) (hS.heap.cells (k := 0) (off := 0) (m := 4) rfl (load_whole (u64s_lenh n_d)))) (wo1186.pk [0, 1]) fun ac1512 En1513 => ?_
   refine q_r 1 (s := Instr.loadAt 24 (pt bk6)) (v := .agg (List.toArray (u64s c))) En1513 (fun w hS => run_loadAgg2 (m := 4) (cs := u64s c) (u64s_lenh n_c) (by kernel_rfl) (by kernel_rfl) (hS.heap.cells (k := 1) (off := 0) (m := 4) rfl (load_whole (u64s_lenh n_c)))) (wo1186.pk [0, 1]) fun ac1514 En1515 => ?_
   refine h_ways [2, 7] (by kernel_rfl) rfl ?_
   refine ⟨?_, ?_, trivial⟩
   ·
    rintro _ rfl
    refine c_p En1515 wo1186 (point_go _ c n_c) fun ac1520 wo1517 En1521 Hv1522 => ?_
    refine ⟨fun _ => Hv1522.pk [0, 1], ?_⟩
    exact h_to hG (by kernel_rfl) (nd1468 _ _ (En1521.sb) (Hv1522.pk [0, 1, 2, 3, 4, 5, 6]))
   ·
    rintro _ rfl
    refine m_z 41 (bys (List.replicate 32 0)) En1515 wo1186 fun ac1524 wo1525 bk1523 En1526 Hv1527 => ?_
    refine ⟨fun _ => Hv1527.pk [0, 1], ?_⟩
    exact h_to hG (by kernel_rfl) (nd1485 _ _ bk1523 (En1526.sb) (Hv1527.pk [0, 1, 2, 3, 4, 5, 6, 7]))
  rintro ac1528 wo1529 ⟨bk1372, En1530, Hv1531⟩
  refine then_normal ?_
  refine wp_seq ?_
  refine region_from ?_
  refine d_k [3,4,5,6,8,9,10,12,13,14,15,17,18,70] [] 5 En1530 fun ac1532 En1533 => ?_
  refine f_o ?_
  refine m_a 5 0 32 (bys ((shN d (pa, pb, pc)).1)) En1533 Hv1531 rfl (load_whole (bys_lenh (shN_len _ _))) (bys_lenh (shN_len _ _)) fun ac1534 En1535 => ?_
  refine f_o ?_
  refine m_a 6 0 32 (bys ((shN d (pa, pb, pc)).1)) En1535 Hv1531 rfl (load_whole (bys_lenh (shN_len _ _))) (bys_lenh (shN_len _ _)) fun ac1536 En1537 => ?_
  refine f_o ?_
  refine q_v (x := eqOp .eql 41 (.tmp 71) (.tmp 72) (.agg (List.toArray (bys ((shN d (pa, pb, pc)).1)))) (.agg (List.toArray (bys ((shN d (pa, pb, pc)).1))))) (v := .bool true) En1537 (Go.Dbr.run_is (fun w => Go.Dbr.bys_eqop (a := (.tmp 71)) (b := (.tmp 72)) (e := 5) (m := 32) (by kernel_rfl) (by kernel_rfl) (by kernel_rfl) (by kernel_rfl) (by kernel_rfl) (shN_len _ _) (shN_len _ _) w) (beq_self_eq_true _) _) fun ac1538 En1539 => ?_
  refine d_k [3,4,5,6,8,9,10,12,14,17,18,80] [(12, g_b (show ((shN d (pa, pb, pc)).2 == (shN d (pa, pb, pc)).2) = true from (beq_self_eq_true _)))] 15 En1539 fun ac1540 En1541 => ?_
  refine f_o ?_
  refine m_a 3 0 32 (bys ((shN d (mulP (nv c) Gp)).1)) En1541 Hv1531 rfl (load_whole (bys_lenh (shN_len _ _))) (bys_lenh (shN_len _ _)) fun ac1542 En1543 => ?_
  refine f_o ?_
  refine m_a 7 0 32 (bys ((shN d (mulP (nv c) Gp)).1)) En1543 Hv1531 rfl (load_whole (bys_lenh (shN_len _ _))) (bys_lenh (shN_len _ _)) fun ac1544 En1545 => ?_
  refine f_o ?_
  refine q_v (x := eqOp .eql 41 (.tmp 81) (.tmp 82) (.agg (List.toArray (bys ((shN d (mulP (nv c) Gp)).1)))) (.agg (List.toArray (bys ((shN d (mulP (nv c) Gp)).1))))) (v := .bool true) En1545 (Go.Dbr.run_is (fun w => Go.Dbr.bys_eqop (a := (.tmp 81)) (b := (.tmp 82)) (e := 5) (m := 32) (by kernel_rfl) (by kernel_rfl) (by kernel_rfl) (by kernel_rfl) (by kernel_rfl) (shN_len _ _) (shN_len _ _) w) (beq_self_eq_true _) _) fun ac1546 En1547 => ?_
  refine d_e [3,4,5,6,8,9,10,12,14,17] [(22, g_b (show ((shN d (mulP (nv c) Gp)).2 == (shN d (mulP (nv c) Gp)).2) = true from (beq_self_eq_true _)))] En1547 fun ac1548 En1549 => ?_
  refine then_normal ?_
  refine wp_ret ?_
  refine d_ret1 (t := 6) (v := .bool true) En1549 (by kernel_rfl) (by kernel_rfl) ?_
  exact ⟨by first | rfl | kernel_rfl, Hv1531.pk []⟩
 ·
  have En1550 := En1180.fx (t := 50) (congrArg Value.bool hb1181)
  have hp1551 : (shN d (mulP (nv c) Gp)).2 = (0 : Int) := by simpa using hb1181
  refine d_k [3,4,5,6,7,8,9,10,12,13,14,15,54] [] 7 En1550 fun ac1552 En1553 => ?_
  rcases Bool.eq_false_or_eq_true ((shN c (mulP (nv d) Gp)).2 != (0 : Int)) with hb1554 | hb1554
  ·
   have En1555 := En1553.fx (t := 54) (congrArg Value.bool hb1554)
   have hp1556 : ¬ ((shN c (mulP (nv d) Gp)).2 = (0 : Int)) := by simpa using hb1554
   refine d_e [3,4,5,6,7,8,9,10,12,13,14,15,16] [] En1555 fun ac1557 En1558 => ?_
   refine then_normal ?_
   refine wp_seq ?_
   refine r_c (fun ac wo => ∃ (bk1745 : Nat), Env ac 90 [(3, pt bk1), (4, pt bk6), (5, pt bk11), (6, .bool false), (7, .bool true), (8, pt bk334), (9, .int .i64 ((shN d (mulP (nv c) Gp)).2)), (10, pt bk886), (12, pt bk1144), (13, .int .i64 ((shN d (pa, pb, pc)).2)), (14, pt bk1168), (15, .int .i64 ((shN d (pa, pb, pc)).2)), (16, .bool true), (17, pt bk1745), (18, .int .i64 ((shN d (mulP (nv c) Gp)).2))] ∧ Ev w [] wo [.box bk1 (u64s d) 24, .box bk6 (u64s c) 24, .box bk11 (([.bool pa] : List Value) ++ ((u64s pb) ++ (u64s pc))) 26, .box bk334 (bys ((shN d (mulP (nv c) Gp)).1)) 41, .box bk886 (bys ((shN c (mulP (nv d) Gp)).1)) 41, .box bk1144 (bys ((shN d (pa, pb, pc)).1)) 41, .box bk1168 (bys ((shN d (pa, pb, pc)).1)) 41, .box bk1745 (bys ((shN d (mulP (nv c) Gp)).1)) 41]) ?_ ?_
   ·
    refine h_s (fun wv => Ev w [] wv [.box bk1 (u64s d) 24, .box bk6 (u64s c) 24]) [] 10 ?_
    have wo1559 := Hv1176.trans (Ev.drew Hv1176.heap)
    refine h_name fun G hG => ?_
    have nd1803 : ∀ (ac : Act) (wo : World), Env ac 90 [(3, pt bk1), (4, pt bk6), (5, pt bk11), (6, .bool false), (7, .bool true), (8, pt bk334), (9, .int .i64 ((shN d (mulP (nv c) Gp)).2)), (10, pt bk886), (12, pt bk1144), (13, .int .i64 ((shN d (pa, pb, pc)).2)), (14, pt bk1168), (15, .int .i64 ((shN d (pa, pb, pc)).2)), (16, .bool true), (63, .tuple #[.agg (List.toArray (bys ((shN d (mulP (nv c) Gp)).1))), .int .i64 ((shN d (mulP (nv c) Gp)).2)])] → Ev w [] wo [.box bk1 (u64s d) 24, .box bk6 (u64s c) 24, .box bk11 (([.bool pa] : List Value) ++ ((u64s pb) ++ (u64s pc))) 26, .box bk334 (bys ((shN d (mulP (nv c) Gp)).1)) 41, .box bk886 (bys ((shN c (mulP (nv d) Gp)).1)) 41, .box bk1144 (bys ((shN d (pa, pb, pc)).1)) 41, .box bk1168 (bys ((shN d (pa, pb, pc)).1)) 41] → G 6 #[true, true, true, true, false, false, false, false, false, false] ac wo := by
     intro ac1804 wo1805 En1806 Hv1807
     refine h_from hG ?_
     refine q_s [4,5,6] [] 3 En1806 (Hv1807.pk [0, 1]) fun ac1808 En1809 => ?_
     refine q_t 7 ?_
     refine m_z 41 (bys (List.replicate 32 0)) En1809 Hv1807 fun ac1811 wo1812 bk1810 En1813 Hv1814 => ?_
     refine ⟨fun _ => Hv1814.pk [0, 1], ?_⟩
     refine q_t 8 ?_
     refine m_g 7 0 32 (bys ((shN d (mulP (nv c) Gp)).1)) (bys ((shN d (mulP (nv c) Gp)).1)) [.box bk1 (u64s d) 24, .box bk6 (u64s c) 24, .box bk11 (([.bool pa] : List Value) ++ ((u64s pb) ++ (u64s pc))) 26, .box bk334 (bys ((shN d (mulP (nv c) Gp)).1)) 41, .box bk886 (bys ((shN c (mulP (nv d) Gp)).1)) 41, .box bk1144 (bys ((shN d (pa, pb, pc)).1)) 41, .box bk1168 (bys ((shN d (pa, pb, pc)).1)) 41, .box bk1810 (bys ((shN d (mulP (nv c) Gp)).1)) 41] En1813 Hv1814 rfl (bys_lenh (shN_len _ _)) (by rw [(bys_lenh (List.length_replicate))]; first | decide | (simp; done)) (bys_one _) (store_whole (bys_lenh (List.length_replicate))) rfl fun ac1815 wo1816 En1817 Hv1818 => ?_
     refine ⟨fun _ => Hv1818.pk [0, 1], ?_⟩
     refine q_s [9] [] 0 En1817 (Hv1818.pk [0, 1]) fun ac1819 En1820 => ?_
     exact h_e ⟨bk1810, En1820.sb, Hv1818.pk [0, 1, 2, 3, 4, 5, 6, 7]⟩
    have nd1821 : ∀ (ac : Act) (wo : World) (bk1756 : Nat), Env ac 90 [(3, pt bk1), (4, pt bk6), (5, pt bk11), (6, .bool false), (7, .bool true), (8, pt bk334), (9, .int .i64 ((shN d (mulP (nv c) Gp)).2)), (10, pt bk886), (12, pt bk1144), (13, .int .i64 ((shN d (pa, pb, pc)).2)), (14, pt bk1168), (15, .int .i64 ((shN d (pa, pb, pc)).2)), (16, .bool true), (17, pt bk1756), (60, .agg (List.toArray (u64s d))), (62, .agg (List.toArray (([.bool ((mulP (nv c) Gp).1)] : List Value) ++ ((u64s ((mulP (nv c) Gp).2.1)) ++ (u64s ((mulP (nv c) Gp).2.2))))))] → Ev w [] wo [.box bk1 (u64s d) 24, .box bk6 (u64s c) 24, .box bk11 (([.bool pa] : List Value) ++ ((u64s pb) ++ (u64s pc))) 26, .box bk334 (bys ((shN d (mulP (nv c) Gp)).1)) 41, .box bk886 (bys ((shN c (mulP (nv d) Gp)).1)) 41, .box bk1144 (bys ((shN d (pa, pb, pc)).1)) 41, .box bk1168 (bys ((shN d (pa, pb, pc)).1)) 41, .box bk1756 (bys (List.replicate 32 0)) 41] → G 6 #[true, true, true, false, false, false, false, true, false, false] ac wo := by
     intro ac1822 wo1823 bk1756 En1824 Hv1825
     refine h_from hG ?_
     refine q_t 3 ?_
     refine c_p En1824 Hv1825 (dshared_go _ d n_d ((mulP (nv c) Gp).1) ((mulP (nv c) Gp).2.1) ((mulP (nv c) Gp).2.2) ((mulP_len _ _).1) ((mulP_len _ _).2)) fun ac1830 wo1827 En1831 Hv1832 => ?_
     refine ⟨fun _ => Hv1832.pk [0, 1], ?_⟩
     refine q_s [4,5,6] [] 2 En1831 (Hv1832.pk [0, 1]) fun ac1833 En1834 => ?_
     refine q_t 8 ?_
     refine m_g 7 0 32 (bys ((shN d (mulP (nv c) Gp)).1)) (bys ((shN d (mulP (nv c) Gp)).1)) [.box bk1 (u64s d) 24, .box bk6 (u64s c) 24, .box bk11 (([.bool pa] : List Value) ++ ((u64s pb) ++ (u64s pc))) 26, .box bk334 (bys ((shN d (mulP (nv c) Gp)).1)) 41, .box bk886 (bys ((shN c (mulP (nv d) Gp)).1)) 41, .box bk1144 (bys ((shN d (pa, pb, pc)).1)) 41, .box bk1168 (bys ((shN d (pa, pb, pc)).1)) 41, .box bk1756 (bys ((shN d (mulP (nv c) Gp)).1)) 41] En1834 Hv1832 rfl (bys_lenh (shN_len _ _)) (by rw [(bys_lenh (List.length_replicate))]; first | decide | (simp; done)) (bys_one _) (store_whole (bys_lenh (List.length_replicate))) rfl fun ac1835 wo1836 En1837 Hv1838 => ?_
     refine ⟨fun _ => Hv1838.pk [0, 1], ?_⟩
     refine q_s [9] [] 0 En1837 (Hv1838.pk [0, 1]) fun ac1839 En1840 => ?_
     exact h_e ⟨bk1756, En1840.sb, Hv1838.pk [0, 1, 2, 3, 4, 5, 6, 7]⟩
    have nd1841 : ∀ (ac : Act) (wo : World), Env ac 90 [(3, pt bk1), (4, pt bk6), (5, pt bk11), (6, .bool false), (7, .bool true), (8, pt bk334), (9, .int .i64 ((shN d (mulP (nv c) Gp)).2)), (10, pt bk886), (12, pt bk1144), (13, .int .i64 ((shN d (pa, pb, pc)).2)), (14, pt bk1168), (15, .int .i64 ((shN d (pa, pb, pc)).2)), (16, .bool true), (60, .agg (List.toArray (u64s d))), (62, .agg (List.toArray (([.bool ((mulP (nv c) Gp).1)] : List Value) ++ ((u64s ((mulP (nv c) Gp).2.1)) ++ (u64s ((mulP (nv c) Gp).2.2))))))] → Ev w [] wo [.box bk1 (u64s d) 24, .box bk6 (u64s c) 24, .box bk11 (([.bool pa] : List Value) ++ ((u64s pb) ++ (u64s pc))) 26, .box bk334 (bys ((shN d (mulP (nv c) Gp)).1)) 41, .box bk886 (bys ((shN c (mulP (nv d) Gp)).1)) 41, .box bk1144 (bys ((shN d (pa, pb, pc)).1)) 41, .box bk1168 (bys ((shN d (pa, pb, pc)).1)) 41] → G 7 #[true, true, true, false, false, false, false, false, false, false] ac wo := by
     intro ac1842 wo1843 En1844 Hv1845
     refine h_from hG ?_
     refine h_ways [3, 7] (by kernel_rfl) rfl ?_
     refine ⟨?_, ?_, trivial⟩
     ·
      rintro _ rfl
      refine c_p En1844 Hv1845 (dshared_go _ d n_d ((mulP (nv c) Gp).1) ((mulP (nv c) Gp).2.1) ((mulP (nv c) Gp).2.2) ((mulP_len _ _).1) ((mulP_len _ _).2)) fun ac1850 wo1847 En1851 Hv1852 => ?_
      refine ⟨fun _ => Hv1852.pk [0, 1], ?_⟩
      exact h_to hG (by kernel_rfl) (nd1803 _ _ (En1851.sb) (Hv1852.pk [0, 1, 2, 3, 4, 5, 6]))
     ·
      rintro _ rfl
      refine m_z 41 (bys (List.replicate 32 0)) En1844 Hv1845 fun ac1854 wo1855 bk1853 En1856 Hv1857 => ?_
      refine ⟨fun _ => Hv1857.pk [0, 1], ?_⟩
      exact h_to hG (by kernel_rfl) (nd1821 _ _ bk1853 (En1856.sb) (Hv1857.pk [0, 1, 2, 3, 4, 5, 6, 7]))
    have nd1858 : ∀ (ac : Act) (wo : World) (bk1776 : Nat), Env ac 90 [(3, pt bk1), (4, pt bk6), (5, pt bk11), (6, .bool false), (7, .bool true), (8, pt bk334), (9, .int .i64 ((shN d (mulP (nv c) Gp)).2)), (10, pt bk886), (12, pt bk1144), (13, .int .i64 ((shN d (pa, pb, pc)).2)), (14, pt bk1168), (15, .int .i64 ((shN d (pa, pb, pc)).2)), (16, .bool true), (17, pt bk1776), (60, .agg (List.toArray (u64s d))), (61, .agg (List.toArray (u64s c)))] → Ev w [] wo [.box bk1 (u64s d) 24, .box bk6 (u64s c) 24, .box bk11 (([.bool pa] : List Value) ++ ((u64s pb) ++ (u64s pc))) 26, .box bk334 (bys ((shN d (mulP (nv c) Gp)).1)) 41, .box bk886 (bys ((shN c (mulP (nv d) Gp)).1)) 41, .box bk1144 (bys ((shN d (pa, pb, pc)).1)) 41, .box bk1168 (bys ((shN d (pa, pb, pc)).1)) 41, .box bk1776 (bys (List.replicate 32 0)) 41] → G 7 #[true, true, false, false, false, false, false, true, false, false] ac wo := by
     intro ac1859 wo1860 bk1776 En1861 Hv1862
     refine h_from hG ?_
     refine q_t 2 ?_
     refine c_p En1861 Hv1862 (point_go _ c n_c) fun ac1867 wo1864 En1868 Hv1869 => ?_
     refine ⟨fun _ => Hv1869.pk [0, 1], ?_⟩
     refine q_t 3 ?_
     refine c_p En1868 Hv1869 (dshared_go _ d n_d ((mulP (nv c) Gp).1) ((mulP (nv c) Gp).2.1) ((mulP (nv c) Gp).2.2) ((mulP_len _ _).1) ((mulP_len _ _).2)) fun ac1874 wo1871 En1875 Hv1876 => ?_
     refine ⟨fun _ => Hv1876.pk [0, 1], ?_⟩
     refine q_s [4,5,6] [] 2 En1875 (Hv1876.pk [0, 1]) fun ac1877 En1878 => ?_
     refine q_t 8 ?_
     refine m_g 7 0 32 (bys ((shN d (mulP (nv c) Gp)).1)) (bys ((shN d (mulP (nv c) Gp)).1)) [.box bk1 (u64s d) 24, .box bk6 (u64s c) 24, .box bk11 (([.bool pa] : List Value) ++ ((u64s pb) ++ (u64s pc))) 26, .box bk334 (bys ((shN d (mulP (nv c) Gp)).1)) 41, .box bk886 (bys ((shN c (mulP (nv d) Gp)).1)) 41, .box bk1144 (bys ((shN d (pa, pb, pc)).1)) 41, .box bk1168 (bys ((shN d (pa, pb, pc)).1)) 41, .box bk1776 (bys ((shN d (mulP (nv c) Gp)).1)) 41] En1878 Hv1876 rfl (bys_lenh (shN_len _ _)) (by rw [(bys_lenh (List.length_replicate))]; first | decide | (simp; done)) (bys_one _) (store_whole (bys_lenh (List.length_replicate))) rfl fun ac1879 wo1880 En1881 Hv1882 => ?_
     refine ⟨fun _ => Hv1882.pk [0, 1], ?_⟩
     refine q_s [9] [] 0 En1881 (Hv1882.pk [0, 1]) fun ac1883 En1884 => ?_
     exact h_e ⟨bk1776, En1884.sb, Hv1882.pk [0, 1, 2, 3, 4, 5, 6, 7]⟩
    refine h_from hG ?_
    refine q_r 0 (s := Instr.loadAt 24 (pt bk1)) (v := .agg (List.toArray (u64s d))) En1558 (fun w hS => run_loadAgg2 (m := 4) (cs := u64s d) (u64s_lenh n_d) (by kernel_rfl) (by kernel_rfl) (hS.heap.cells (k := 0) (off := 0) (m := 4) rfl (load_whole (u64s_lenh n_d)))) (wo1559.pk [0, 1]) fun ac1885 En1886 => ?_
    refine q_r 1 (s := Instr.loadAt 24 (pt bk6)) (v := .agg (List.toArray (u64s c))) En1886 (fun w hS => run_loadAgg2 (m := 4) (cs := u64s c) (u64s_lenh n_c) (by kernel_rfl) (by kernel_rfl) (hS.heap.cells (k := 1) (off := 0) (m := 4) rfl (load_whole (u64s_lenh n_c)))) (wo1559.pk [0, 1]) fun ac1887 En1888 => ?_
    refine h_ways [2, 7] (by kernel_rfl) rfl ?_
    refine ⟨?_, ?_, trivial⟩
    ·
     rintro _ rfl
     refine c_p En1888 wo1559 (point_go _ c n_c) fun ac1893 wo1890 En1894 Hv1895 => ?_
     refine ⟨fun _ => Hv1895.pk [0, 1], ?_⟩
     exact h_to hG (by kernel_rfl) (nd1841 _ _ (En1894.sb) (Hv1895.pk [0, 1, 2, 3, 4, 5, 6]))
    ·
     rintro _ rfl
     refine m_z 41 (bys (List.replicate 32 0)) En1888 wo1559 fun ac1897 wo1898 bk1896 En1899 Hv1900 => ?_
     refine ⟨fun _ => Hv1900.pk [0, 1], ?_⟩
     exact h_to hG (by kernel_rfl) (nd1858 _ _ bk1896 (En1899.sb) (Hv1900.pk [0, 1, 2, 3, 4, 5, 6, 7]))
   rintro ac1901 wo1902 ⟨bk1745, En1903, Hv1904⟩
   refine then_normal ?_
   refine wp_seq ?_
   refine region_from ?_
   refine d_k [3,4,5,6,8,9,10,12,13,14,15,17,18,70] [] 5 En1903 fun ac1905 En1906 => ?_
   refine f_o ?_
   refine m_a 5 0 32 (bys ((shN d (pa, pb, pc)).1)) En1906 Hv1904 rfl (load_whole (bys_lenh (shN_len _ _))) (bys_lenh (shN_len _ _)) fun ac1907 En1908 => ?_
   refine f_o ?_
   refine m_a 6 0 32 (bys ((shN d (pa, pb, pc)).1)) En1908 Hv1904 rfl (load_whole (bys_lenh (shN_len _ _))) (bys_lenh (shN_len _ _)) fun ac1909 En1910 => ?_
   refine f_o ?_
   refine q_v (x := eqOp .eql 41 (.tmp 71) (.tmp 72) (.agg (List.toArray (bys ((shN d (pa, pb, pc)).1)))) (.agg (List.toArray (bys ((shN d (pa, pb, pc)).1))))) (v := .bool true) En1910 (Go.Dbr.run_is (fun w => Go.Dbr.bys_eqop (a := (.tmp 71)) (b := (.tmp 72)) (e := 5) (m := 32) (by kernel_rfl) (by kernel_rfl) (by kernel_rfl) (by kernel_rfl) (by kernel_rfl) (shN_len _ _) (shN_len _ _) w) (beq_self_eq_true _) _) fun ac1911 En1912 => ?_
   refine d_k [3,4,5,6,8,9,10,12,14,17,18,80] [(12, g_b (show ((shN d (pa, pb, pc)).2 == (shN d (pa, pb, pc)).2) = true from (beq_self_eq_true _)))] 15 En1912 fun ac1913 En1914 => ?_
   refine f_o ?_
   refine m_a 3 0 32 (bys ((shN d (mulP (nv c) Gp)).1)) En1914 Hv1904 rfl (load_whole (bys_lenh (shN_len _ _))) (bys_lenh (shN_len _ _)) fun ac1915 En1916 => ?_
   refine f_o ?_
   refine m_a 7 0 32 (bys ((shN d (mulP (nv c) Gp)).1)) En1916 Hv1904 rfl (load_whole (bys_lenh (shN_len _ _))) (bys_lenh (shN_len _ _)) fun ac1917 En1918 => ?_
   refine f_o ?_
   refine q_v (x := eqOp .eql 41 (.tmp 81) (.tmp 82) (.agg (List.toArray (bys ((shN d (mulP (nv c) Gp)).1)))) (.agg (List.toArray (bys ((shN d (mulP (nv c) Gp)).1))))) (v := .bool true) En1918 (Go.Dbr.run_is (fun w => Go.Dbr.bys_eqop (a := (.tmp 81)) (b := (.tmp 82)) (e := 5) (m := 32) (by kernel_rfl) (by kernel_rfl) (by kernel_rfl) (by kernel_rfl) (by kernel_rfl) (shN_len _ _) (shN_len _ _) w) (beq_self_eq_true _) _) fun ac1919 En1920 => ?_
   refine d_e [3,4,5,6,8,9,10,12,14,17] [(22, g_b (show ((shN d (mulP (nv c) Gp)).2 == (shN d (mulP (nv c) Gp)).2) = true from (beq_self_eq_true _)))] En1920 fun ac1921 En1922 => ?_
   refine then_normal ?_
   refine wp_ret ?_
   refine d_ret1 (t := 6) (v := .bool true) En1922 (by kernel_rfl) (by kernel_rfl) ?_
   exact ⟨by first | rfl | kernel_rfl, Hv1904.pk []⟩
  ·
   have En1923 := En1553.fx (t := 54) (congrArg Value.bool hb1554)
   have hp1924 : (shN c (mulP (nv d) Gp)).2 = (0 : Int) := by simpa using hb1554
   refine f_o ?_
   refine m_a 3 0 32 (bys ((shN d (mulP (nv c) Gp)).1)) En1923 Hv1176 rfl (load_whole (bys_lenh (shN_len _ _))) (bys_lenh (shN_len _ _)) fun ac1925 En1926 => ?_
   refine f_o ?_
   refine m_a 4 0 32 (bys ((shN c (mulP (nv d) Gp)).1)) En1926 Hv1176 rfl (load_whole (bys_lenh (shN_len _ _))) (bys_lenh (shN_len _ _)) fun ac1927 En1928 => ?_
   refine f_o ?_
   refine q_v (x := eqOp .eql 41 (.tmp 55) (.tmp 56) (.agg (List.toArray (bys ((shN d (mulP (nv c) Gp)).1)))) (.agg (List.toArray (bys ((shN c (mulP (nv d) Gp)).1))))) (v := .bool true) En1928 (Go.Dbr.run_is (fun w => Go.Dbr.bys_eqop (a := (.tmp 55)) (b := (.tmp 56)) (e := 5) (m := 32) (by kernel_rfl) (by kernel_rfl) (by kernel_rfl) (by kernel_rfl) (by kernel_rfl) (shN_len _ _) (shN_len _ _) w) (lawMeet hp1551 hp1924) _) fun ac1929 En1930 => ?_
   refine d_e [3,4,5,6,7,8,9,10,12,13,14,15,16] [] En1930 fun ac1931 En1932 => ?_
   refine then_normal ?_
   refine wp_seq ?_
   refine r_c (fun ac wo => ∃ (bk2119 : Nat), Env ac 90 [(3, pt bk1), (4, pt bk6), (5, pt bk11), (6, .bool false), (7, .bool true), (8, pt bk334), (9, .int .i64 ((shN d (mulP (nv c) Gp)).2)), (10, pt bk886), (12, pt bk1144), (13, .int .i64 ((shN d (pa, pb, pc)).2)), (14, pt bk1168), (15, .int .i64 ((shN d (pa, pb, pc)).2)), (16, .bool true), (17, pt bk2119), (18, .int .i64 ((shN d (mulP (nv c) Gp)).2))] ∧ Ev w [] wo [.box bk1 (u64s d) 24, .box bk6 (u64s c) 24, .box bk11 (([.bool pa] : List Value) ++ ((u64s pb) ++ (u64s pc))) 26, .box bk334 (bys ((shN d (mulP (nv c) Gp)).1)) 41, .box bk886 (bys ((shN c (mulP (nv d) Gp)).1)) 41, .box bk1144 (bys ((shN d (pa, pb, pc)).1)) 41, .box bk1168 (bys ((shN d (pa, pb, pc)).1)) 41, .box bk2119 (bys ((shN d (mulP (nv c) Gp)).1)) 41]) ?_ ?_
   ·
    refine h_s (fun wv => Ev w [] wv [.box bk1 (u64s d) 24, .box bk6 (u64s c) 24]) [] 10 ?_
    have wo1933 := Hv1176.trans (Ev.drew Hv1176.heap)
    refine h_name fun G hG => ?_
    have nd2177 : ∀ (ac : Act) (wo : World), Env ac 90 [(3, pt bk1), (4, pt bk6), (5, pt bk11), (6, .bool false), (7, .bool true), (8, pt bk334), (9, .int .i64 ((shN d (mulP (nv c) Gp)).2)), (10, pt bk886), (12, pt bk1144), (13, .int .i64 ((shN d (pa, pb, pc)).2)), (14, pt bk1168), (15, .int .i64 ((shN d (pa, pb, pc)).2)), (16, .bool true), (63, .tuple #[.agg (List.toArray (bys ((shN d (mulP (nv c) Gp)).1))), .int .i64 ((shN d (mulP (nv c) Gp)).2)])] → Ev w [] wo [.box bk1 (u64s d) 24, .box bk6 (u64s c) 24, .box bk11 (([.bool pa] : List Value) ++ ((u64s pb) ++ (u64s pc))) 26, .box bk334 (bys ((shN d (mulP (nv c) Gp)).1)) 41, .box bk886 (bys ((shN c (mulP (nv d) Gp)).1)) 41, .box bk1144 (bys ((shN d (pa, pb, pc)).1)) 41, .box bk1168 (bys ((shN d (pa, pb, pc)).1)) 41] → G 6 #[true, true, true, true, false, false, false, false, false, false] ac wo := by
     intro ac2178 wo2179 En2180 Hv2181
     refine h_from hG ?_
     refine q_s [4,5,6] [] 3 En2180 (Hv2181.pk [0, 1]) fun ac2182 En2183 => ?_
     refine q_t 7 ?_
     refine m_z 41 (bys (List.replicate 32 0)) En2183 Hv2181 fun ac2185 wo2186 bk2184 En2187 Hv2188 => ?_
     refine ⟨fun _ => Hv2188.pk [0, 1], ?_⟩
     refine q_t 8 ?_
     refine m_g 7 0 32 (bys ((shN d (mulP (nv c) Gp)).1)) (bys ((shN d (mulP (nv c) Gp)).1)) [.box bk1 (u64s d) 24, .box bk6 (u64s c) 24, .box bk11 (([.bool pa] : List Value) ++ ((u64s pb) ++ (u64s pc))) 26, .box bk334 (bys ((shN d (mulP (nv c) Gp)).1)) 41, .box bk886 (bys ((shN c (mulP (nv d) Gp)).1)) 41, .box bk1144 (bys ((shN d (pa, pb, pc)).1)) 41, .box bk1168 (bys ((shN d (pa, pb, pc)).1)) 41, .box bk2184 (bys ((shN d (mulP (nv c) Gp)).1)) 41] En2187 Hv2188 rfl (bys_lenh (shN_len _ _)) (by rw [(bys_lenh (List.length_replicate))]; first | decide | (simp; done)) (bys_one _) (store_whole (bys_lenh (List.length_replicate))) rfl fun ac2189 wo2190 En2191 Hv2192 => ?_
     refine ⟨fun _ => Hv2192.pk [0, 1], ?_⟩
     refine q_s [9] [] 0 En2191 (Hv2192.pk [0, 1]) fun ac2193 En2194 => ?_
     exact h_e ⟨bk2184, En2194.sb, Hv2192.pk [0, 1, 2, 3, 4, 5, 6, 7]⟩
    have nd2195 : ∀ (ac : Act) (wo : World) (bk2130 : Nat), Env ac 90 [(3, pt bk1), (4, pt bk6), (5, pt bk11), (6, .bool false), (7, .bool true), (8, pt bk334), (9, .int .i64 ((shN d (mulP (nv c) Gp)).2)), (10, pt bk886), (12, pt bk1144), (13, .int .i64 ((shN d (pa, pb, pc)).2)), (14, pt bk1168), (15, .int .i64 ((shN d (pa, pb, pc)).2)), (16, .bool true), (17, pt bk2130), (60, .agg (List.toArray (u64s d))), (62, .agg (List.toArray (([.bool ((mulP (nv c) Gp).1)] : List Value) ++ ((u64s ((mulP (nv c) Gp).2.1)) ++ (u64s ((mulP (nv c) Gp).2.2))))))] → Ev w [] wo [.box bk1 (u64s d) 24, .box bk6 (u64s c) 24, .box bk11 (([.bool pa] : List Value) ++ ((u64s pb) ++ (u64s pc))) 26, .box bk334 (bys ((shN d (mulP (nv c) Gp)).1)) 41, .box bk886 (bys ((shN c (mulP (nv d) Gp)).1)) 41, .box bk1144 (bys ((shN d (pa, pb, pc)).1)) 41, .box bk1168 (bys ((shN d (pa, pb, pc)).1)) 41, .box bk2130 (bys (List.replicate 32 0)) 41] → G 6 #[true, true, true, false, false, false, false, true, false, false] ac wo := by
     intro ac2196 wo2197 bk2130 En2198 Hv2199
     refine h_from hG ?_
     refine q_t 3 ?_
     refine c_p En2198 Hv2199 (dshared_go _ d n_d ((mulP (nv c) Gp).1) ((mulP (nv c) Gp).2.1) ((mulP (nv c) Gp).2.2) ((mulP_len _ _).1) ((mulP_len _ _).2)) fun ac2204 wo2201 En2205 Hv2206 => ?_
     refine ⟨fun _ => Hv2206.pk [0, 1], ?_⟩
     refine q_s [4,5,6] [] 2 En2205 (Hv2206.pk [0, 1]) fun ac2207 En2208 => ?_
     refine q_t 8 ?_
     refine m_g 7 0 32 (bys ((shN d (mulP (nv c) Gp)).1)) (bys ((shN d (mulP (nv c) Gp)).1)) [.box bk1 (u64s d) 24, .box bk6 (u64s c) 24, .box bk11 (([.bool pa] : List Value) ++ ((u64s pb) ++ (u64s pc))) 26, .box bk334 (bys ((shN d (mulP (nv c) Gp)).1)) 41, .box bk886 (bys ((shN c (mulP (nv d) Gp)).1)) 41, .box bk1144 (bys ((shN d (pa, pb, pc)).1)) 41, .box bk1168 (bys ((shN d (pa, pb, pc)).1)) 41, .box bk2130 (bys ((shN d (mulP (nv c) Gp)).1)) 41] En2208 Hv2206 rfl (bys_lenh (shN_len _ _)) (by rw [(bys_lenh (List.length_replicate))]; first | decide | (simp; done)) (bys_one _) (store_whole (bys_lenh (List.length_replicate))) rfl fun ac2209 wo2210 En2211 Hv2212 => ?_
     refine ⟨fun _ => Hv2212.pk [0, 1], ?_⟩
     refine q_s [9] [] 0 En2211 (Hv2212.pk [0, 1]) fun ac2213 En2214 => ?_
     exact h_e ⟨bk2130, En2214.sb, Hv2212.pk [0, 1, 2, 3, 4, 5, 6, 7]⟩
    have nd2215 : ∀ (ac : Act) (wo : World), Env ac 90 [(3, pt bk1), (4, pt bk6), (5, pt bk11), (6, .bool false), (7, .bool true), (8, pt bk334), (9, .int .i64 ((shN d (mulP (nv c) Gp)).2)), (10, pt bk886), (12, pt bk1144), (13, .int .i64 ((shN d (pa, pb, pc)).2)), (14, pt bk1168), (15, .int .i64 ((shN d (pa, pb, pc)).2)), (16, .bool true), (60, .agg (List.toArray (u64s d))), (62, .agg (List.toArray (([.bool ((mulP (nv c) Gp).1)] : List Value) ++ ((u64s ((mulP (nv c) Gp).2.1)) ++ (u64s ((mulP (nv c) Gp).2.2))))))] → Ev w [] wo [.box bk1 (u64s d) 24, .box bk6 (u64s c) 24, .box bk11 (([.bool pa] : List Value) ++ ((u64s pb) ++ (u64s pc))) 26, .box bk334 (bys ((shN d (mulP (nv c) Gp)).1)) 41, .box bk886 (bys ((shN c (mulP (nv d) Gp)).1)) 41, .box bk1144 (bys ((shN d (pa, pb, pc)).1)) 41, .box bk1168 (bys ((shN d (pa, pb, pc)).1)) 41] → G 7 #[true, true, true, false, false, false, false, false, false, false] ac wo := by
     intro ac2216 wo2217 En2218 Hv2219
     refine h_from hG ?_
     refine h_ways [3, 7] (by kernel_rfl) rfl ?_
     refine ⟨?_, ?_, trivial⟩
     ·
      rintro _ rfl
      refine c_p En2218 Hv2219 (dshared_go _ d n_d ((mulP (nv c) Gp).1) ((mulP (nv c) Gp).2.1) ((mulP (nv c) Gp).2.2) ((mulP_len _ _).1) ((mulP_len _ _).2)) fun ac2224 wo2221 En2225 Hv2226 => ?_
      refine ⟨fun _ => Hv2226.pk [0, 1], ?_⟩
      exact h_to hG (by kernel_rfl) (nd2177 _ _ (En2225.sb) (Hv2226.pk [0, 1, 2, 3, 4, 5, 6]))
     ·
      rintro _ rfl
      refine m_z 41 (bys (List.replicate 32 0)) En2218 Hv2219 fun ac2228 wo2229 bk2227 En2230 Hv2231 => ?_
      refine ⟨fun _ => Hv2231.pk [0, 1], ?_⟩
      exact h_to hG (by kernel_rfl) (nd2195 _ _ bk2227 (En2230.sb) (Hv2231.pk [0, 1, 2, 3, 4, 5, 6, 7]))
    have nd2232 : ∀ (ac : Act) (wo : World) (bk2150 : Nat), Env ac 90 [(3, pt bk1), (4, pt bk6), (5, pt bk11), (6, .bool false), (7, .bool true), (8, pt bk334), (9, .int .i64 ((shN d (mulP (nv c) Gp)).2)), (10, pt bk886), (12, pt bk1144), (13, .int .i64 ((shN d (pa, pb, pc)).2)), (14, pt bk1168), (15, .int .i64 ((shN d (pa, pb, pc)).2)), (16, .bool true), (17, pt bk2150), (60, .agg (List.toArray (u64s d))), (61, .agg (List.toArray (u64s c)))] → Ev w [] wo [.box bk1 (u64s d) 24, .box bk6 (u64s c) 24, .box bk11 (([.bool pa] : List Value) ++ ((u64s pb) ++ (u64s pc))) 26, .box bk334 (bys ((shN d (mulP (nv c) Gp)).1)) 41, .box bk886 (bys ((shN c (mulP (nv d) Gp)).1)) 41, .box bk1144 (bys ((shN d (pa, pb, pc)).1)) 41, .box bk1168 (bys ((shN d (pa, pb, pc)).1)) 41, .box bk2150 (bys (List.replicate 32 0)) 41] → G 7 #[true, true, false, false, false, false, false, true, false, false] ac wo := by
     intro ac2233 wo2234 bk2150 En2235 Hv2236
     refine h_from hG ?_
     refine q_t 2 ?_
     refine c_p En2235 Hv2236 (point_go _ c n_c) fun ac2241 wo2238 En2242 Hv2243 => ?_
     refine ⟨fun _ => Hv2243.pk [0, 1], ?_⟩
     refine q_t 3 ?_
     refine c_p En2242 Hv2243 (dshared_go _ d n_d ((mulP (nv c) Gp).1) ((mulP (nv c) Gp).2.1) ((mulP (nv c) Gp).2.2) ((mulP_len _ _).1) ((mulP_len _ _).2)) fun ac2248 wo2245 En2249 Hv2250 => ?_
     refine ⟨fun _ => Hv2250.pk [0, 1], ?_⟩
     refine q_s [4,5,6] [] 2 En2249 (Hv2250.pk [0, 1]) fun ac2251 En2252 => ?_
     refine q_t 8 ?_
     refine m_g 7 0 32 (bys ((shN d (mulP (nv c) Gp)).1)) (bys ((shN d (mulP (nv c) Gp)).1)) [.box bk1 (u64s d) 24, .box bk6 (u64s c) 24, .box bk11 (([.bool pa] : List Value) ++ ((u64s pb) ++ (u64s pc))) 26, .box bk334 (bys ((shN d (mulP (nv c) Gp)).1)) 41, .box bk886 (bys ((shN c (mulP (nv d) Gp)).1)) 41, .box bk1144 (bys ((shN d (pa, pb, pc)).1)) 41, .box bk1168 (bys ((shN d (pa, pb, pc)).1)) 41, .box bk2150 (bys ((shN d (mulP (nv c) Gp)).1)) 41] En2252 Hv2250 rfl (bys_lenh (shN_len _ _)) (by rw [(bys_lenh (List.length_replicate))]; first | decide | (simp; done)) (bys_one _) (store_whole (bys_lenh (List.length_replicate))) rfl fun ac2253 wo2254 En2255 Hv2256 => ?_
     refine ⟨fun _ => Hv2256.pk [0, 1], ?_⟩
     refine q_s [9] [] 0 En2255 (Hv2256.pk [0, 1]) fun ac2257 En2258 => ?_
     exact h_e ⟨bk2150, En2258.sb, Hv2256.pk [0, 1, 2, 3, 4, 5, 6, 7]⟩
    refine h_from hG ?_
    refine q_r 0 (s := Instr.loadAt 24 (pt bk1)) (v := .agg (List.toArray (u64s d))) En1932 (fun w hS => run_loadAgg2 (m := 4) (cs := u64s d) (u64s_lenh n_d) (by kernel_rfl) (by kernel_rfl) (hS.heap.cells (k := 0) (off := 0) (m := 4) rfl (load_whole (u64s_lenh n_d)))) (wo1933.pk [0, 1]) fun ac2259 En2260 => ?_
    refine q_r 1 (s := Instr.loadAt 24 (pt bk6)) (v := .agg (List.toArray (u64s c))) En2260 (fun w hS => run_loadAgg2 (m := 4) (cs := u64s c) (u64s_lenh n_c) (by kernel_rfl) (by kernel_rfl) (hS.heap.cells (k := 1) (off := 0) (m := 4) rfl (load_whole (u64s_lenh n_c)))) (wo1933.pk [0, 1]) fun ac2261 En2262 => ?_
    refine h_ways [2, 7] (by kernel_rfl) rfl ?_
    refine ⟨?_, ?_, trivial⟩
    ·
     rintro _ rfl
     refine c_p En2262 wo1933 (point_go _ c n_c) fun ac2267 wo2264 En2268 Hv2269 => ?_
     refine ⟨fun _ => Hv2269.pk [0, 1], ?_⟩
     exact h_to hG (by kernel_rfl) (nd2215 _ _ (En2268.sb) (Hv2269.pk [0, 1, 2, 3, 4, 5, 6]))
    ·
     rintro _ rfl
     refine m_z 41 (bys (List.replicate 32 0)) En2262 wo1933 fun ac2271 wo2272 bk2270 En2273 Hv2274 => ?_
     refine ⟨fun _ => Hv2274.pk [0, 1], ?_⟩
     exact h_to hG (by kernel_rfl) (nd2232 _ _ bk2270 (En2273.sb) (Hv2274.pk [0, 1, 2, 3, 4, 5, 6, 7]))
   rintro ac2275 wo2276 ⟨bk2119, En2277, Hv2278⟩
   refine then_normal ?_
   refine wp_seq ?_
   refine region_from ?_
   refine d_k [3,4,5,6,8,9,10,12,13,14,15,17,18,70] [] 5 En2277 fun ac2279 En2280 => ?_
   refine f_o ?_
   refine m_a 5 0 32 (bys ((shN d (pa, pb, pc)).1)) En2280 Hv2278 rfl (load_whole (bys_lenh (shN_len _ _))) (bys_lenh (shN_len _ _)) fun ac2281 En2282 => ?_
   refine f_o ?_
   refine m_a 6 0 32 (bys ((shN d (pa, pb, pc)).1)) En2282 Hv2278 rfl (load_whole (bys_lenh (shN_len _ _))) (bys_lenh (shN_len _ _)) fun ac2283 En2284 => ?_
   refine f_o ?_
   refine q_v (x := eqOp .eql 41 (.tmp 71) (.tmp 72) (.agg (List.toArray (bys ((shN d (pa, pb, pc)).1)))) (.agg (List.toArray (bys ((shN d (pa, pb, pc)).1))))) (v := .bool true) En2284 (Go.Dbr.run_is (fun w => Go.Dbr.bys_eqop (a := (.tmp 71)) (b := (.tmp 72)) (e := 5) (m := 32) (by kernel_rfl) (by kernel_rfl) (by kernel_rfl) (by kernel_rfl) (by kernel_rfl) (shN_len _ _) (shN_len _ _) w) (beq_self_eq_true _) _) fun ac2285 En2286 => ?_
   refine d_k [3,4,5,6,8,9,10,12,14,17,18,80] [(12, g_b (show ((shN d (pa, pb, pc)).2 == (shN d (pa, pb, pc)).2) = true from (beq_self_eq_true _)))] 15 En2286 fun ac2287 En2288 => ?_
   refine f_o ?_
   refine m_a 3 0 32 (bys ((shN d (mulP (nv c) Gp)).1)) En2288 Hv2278 rfl (load_whole (bys_lenh (shN_len _ _))) (bys_lenh (shN_len _ _)) fun ac2289 En2290 => ?_
   refine f_o ?_
   refine m_a 7 0 32 (bys ((shN d (mulP (nv c) Gp)).1)) En2290 Hv2278 rfl (load_whole (bys_lenh (shN_len _ _))) (bys_lenh (shN_len _ _)) fun ac2291 En2292 => ?_
   refine f_o ?_
   refine q_v (x := eqOp .eql 41 (.tmp 81) (.tmp 82) (.agg (List.toArray (bys ((shN d (mulP (nv c) Gp)).1)))) (.agg (List.toArray (bys ((shN d (mulP (nv c) Gp)).1))))) (v := .bool true) En2292 (Go.Dbr.run_is (fun w => Go.Dbr.bys_eqop (a := (.tmp 81)) (b := (.tmp 82)) (e := 5) (m := 32) (by kernel_rfl) (by kernel_rfl) (by kernel_rfl) (by kernel_rfl) (by kernel_rfl) (shN_len _ _) (shN_len _ _) w) (beq_self_eq_true _) _) fun ac2293 En2294 => ?_
   refine d_e [3,4,5,6,8,9,10,12,14,17] [(22, g_b (show ((shN d (mulP (nv c) Gp)).2 == (shN d (mulP (nv c) Gp)).2) = true from (beq_self_eq_true _)))] En2294 fun ac2295 En2296 => ?_
   refine then_normal ?_
   refine wp_ret ?_
   refine d_ret1 (t := 6) (v := .bool true) En2296 (by kernel_rfl) (by kernel_rfl) ?_
   exact ⟨by first | rfl | kernel_rfl, Hv2278.pk []⟩

end Go.Proofs.Ytpfhmbbiadpbeaa
