import Derived.Test.YtofecellbfhnjaaTh12
import Derived.Test.YtofecellbfhnjaaTh11
import Derived.Test.YtofecellbfhnjaaTh7
/- Layer 17: WireThere, walked. -/





namespace Go.Proofs.Ytofecellbfhnjaa
open Go.Dbr
set_option maxRecDepth 100000
set_option maxHeartbeats 2000000
set_option linter.unusedVariables false
set_option linter.unusedSimpArgs false

theorem got_a {α : Type} {q : α × PS} {x : α} (h : q = (x, [], false, false)) : gotA q = 0 := by rw [h]; rfl
theorem doneL_len (b : Bool) (l : Bs) : (doneL b l).length ≤ l.length := by
  cases b with
  | true => exact Nat.zero_le _
  | false => exact Nat.le_refl _

theorem sumE2 (xs : List RExt) : (List.map (fun e : EX => e.2.length + 1) (List.map (fun y : RExt => (y.1, y.2.1.l)) xs)).sum = (List.map (fun x : RExt => (0 + (List.length x.2.1.l + (0))) + 1) xs).sum := by
  rw [List.map_map]
  congr 1
  apply List.map_congr_left
  intro x _
  show List.length x.2.1.l + 1 = (0 + (List.length x.2.1.l + (0))) + 1
  omega

theorem there_walk (a_ma : Option Addr) (c_ma : Nat) (ma : List UInt8) (a_mb : Option Addr) (c_mb : Nat) (mb : List ((Sl UInt8) × (Sl ((UInt16) × (Sl UInt8) × Unit)) × Unit)) (ta : UInt32) (tb : UInt32) (a_tc : Option Addr) (c_tc : Nat) (tc : List UInt8) (a_td : Option Addr) (c_td : Nat) (td : List UInt8) (a_te : Option Addr) (c_te : Nat) (te : List ((UInt16) × (Sl UInt8) × Unit)) (va : UInt16) (a_vb : Option Addr) (c_vb : Nat) (vb : List UInt8) (da : List UInt8) (a_db : Option Addr) (c_db : Nat) (db : List (UInt16)) (a_dc : Option Addr) (c_dc : Nat) (dc : List (List UInt8)) (a_dd : Option Addr) (c_dd : Nat) (dd : List UInt8) (a_de : Option Addr) (c_de : Nat) (de : List ((UInt16) × (Sl UInt8) × Unit)) (a_df : Option Addr) (c_df : Nat) (df : List ((Sl UInt8) × (UInt32) × (Sl UInt8) × Unit)) (a_dg : Option Addr) (c_dg : Nat) (dg : List ((UInt16) × (Sl UInt8) × Unit)) (dh : UInt16) (w : World) (i_ma : InB w [] a_ma c_ma ma) (i_mb : InS (fun p : (Sl UInt8) × (Sl ((UInt16) × (Sl UInt8) × Unit)) × Unit => (fun s : Sl UInt8 => s.f) p.1 ++ (fun p : (Sl ((UInt16) × (Sl UInt8) × Unit)) × Unit => (fun s : Sl ((UInt16) × (Sl UInt8) × Unit) => s.f) p.1 ++ (fun _ : Unit => []) p.2) p.2) 48 (fun x : (Sl UInt8) × (Sl ((UInt16) × (Sl UInt8) × Unit)) × Unit => (InB w [] x.1.a x.1.c x.1.l ∧ (InS (fun p : (UInt16) × (Sl UInt8) × Unit => (fun n : UInt16 => [uv16 n]) p.1 ++ (fun p : (Sl UInt8) × Unit => (fun s : Sl UInt8 => s.f) p.1 ++ (fun _ : Unit => []) p.2) p.2) 32 (fun x : (UInt16) × (Sl UInt8) × Unit => (True ∧ (InB w [] x.2.1.a x.2.1.c x.2.1.l ∧ (True)))) w [] x.2.1.a x.2.1.c x.2.1.l ∧ (True)))) w [] a_mb c_mb mb) (i_tc : InB w [] a_tc c_tc tc) (i_td : InB w [] a_td c_td td) (i_te : InS (fun p : (UInt16) × (Sl UInt8) × Unit => (fun n : UInt16 => [uv16 n]) p.1 ++ (fun p : (Sl UInt8) × Unit => (fun s : Sl UInt8 => s.f) p.1 ++ (fun _ : Unit => []) p.2) p.2) 32 (fun x : (UInt16) × (Sl UInt8) × Unit => (True ∧ (InB w [] x.2.1.a x.2.1.c x.2.1.l ∧ (True)))) w [] a_te c_te te) (i_vb : InB w [] a_vb c_vb vb) (s_da : (List.length da ≤ 140737488351232)) (i_db : InS (fun n : UInt16 => [uv16 n]) 2 (fun x : UInt16 => True) w [] a_db c_db db) (i_dc : InS (fun l : List UInt8 => [.string (bstr l)]) 16 (fun x : List UInt8 => (List.length x ≤ 140737488351232)) w [] a_dc c_dc dc) (i_dd : InB w [] a_dd c_dd dd) (i_de : InS (fun p : (UInt16) × (Sl UInt8) × Unit => (fun n : UInt16 => [uv16 n]) p.1 ++ (fun p : (Sl UInt8) × Unit => (fun s : Sl UInt8 => s.f) p.1 ++ (fun _ : Unit => []) p.2) p.2) 32 (fun x : (UInt16) × (Sl UInt8) × Unit => (True ∧ (InB w [] x.2.1.a x.2.1.c x.2.1.l ∧ (True)))) w [] a_de c_de de) (i_df : InS (fun p : (Sl UInt8) × (UInt32) × (Sl UInt8) × Unit => (fun s : Sl UInt8 => s.f) p.1 ++ (fun p : (UInt32) × (Sl UInt8) × Unit => (fun n : UInt32 => [uv32 n]) p.1 ++ (fun p : (Sl UInt8) × Unit => (fun s : Sl UInt8 => s.f) p.1 ++ (fun _ : Unit => []) p.2) p.2) p.2) 56 (fun x : (Sl UInt8) × (UInt32) × (Sl UInt8) × Unit => (InB w [] x.1.a x.1.c x.1.l ∧ (True ∧ (InB w [] x.2.2.1.a x.2.2.1.c x.2.2.1.l ∧ (True))))) w [] a_df c_df df) (i_dg : InS (fun p : (UInt16) × (Sl UInt8) × Unit => (fun n : UInt16 => [uv16 n]) p.1 ++ (fun p : (Sl UInt8) × Unit => (fun s : Sl UInt8 => s.f) p.1 ++ (fun _ : Unit => []) p.2) p.2) 32 (fun x : (UInt16) × (Sl UInt8) × Unit => (True ∧ (InB w [] x.2.1.a x.2.1.c x.2.1.l ∧ (True)))) w [] a_dg c_dg dg) (hB : (List.length ma + ((List.map (fun x => (List.length x.1.l + ((List.map (fun x => (0 + (List.length x.2.1.l + (0))) + 1) x.2.1.l).sum + (0))) + 1) mb).sum + (0))) + (0 + (0 + (List.length tc + (List.length td + ((List.map (fun x => (0 + (List.length x.2.1.l + (0))) + 1) te).sum + (0)))))) + (0 + (List.length vb + (0))) + (List.length da + ((List.map (fun x => 0 + 1) db).sum + ((List.map (fun x => List.length x + 1) dc).sum + (List.length dd + ((List.map (fun x => (0 + (List.length x.2.1.l + (0))) + 1) de).sum + ((List.map (fun x => (List.length x.1.l + (0 + (List.length x.2.2.1.l + (0)))) + 1) df).sum + ((List.map (fun x => (0 + (List.length x.2.1.l + (0))) + 1) dg).sum + (0 + (0))))))))) ≤ 1048576) : Calls Try.prog 8 #[.agg #[.slice a_ma (List.length ma) c_ma, .slice a_mb (List.length mb) c_mb], .agg #[uv32 ta, uv32 tb, .slice a_tc (List.length tc) c_tc, .slice a_td (List.length td) c_td, .slice a_te (List.length te) c_te], .agg #[uv16 va, .slice a_vb (List.length vb) c_vb], .agg #[.string (bstr da), .slice a_db (List.length db) c_db, .slice a_dc (List.length dc) c_dc, .slice a_dd (List.length dd) c_dd, .slice a_de (List.length de) c_de, .slice a_df (List.length df) c_df, .slice a_dg (List.length dg) c_dg, uv16 dh]] w fun e w' => e = .returned (.bool true) ∧ Ev w [] w' [] := by
 have hz_t : (List.map (fun x => (0 + (List.length x.2.1.l + (0))) + 1) te).sum ≤ 1048576 := by omega
 have hz_m : (List.map (fun x => (List.length x.1.l + ((List.map (fun x => (0 + (List.length x.2.1.l + (0))) + 1) x.2.1.l).sum + (0))) + 1) mb).sum ≤ 1048576 := by omega
 have hq_t : List.length (allM exF (List.map (fun y : RExt => (y.1, y.2.1.l)) te)).1 ≤ 16777216 := allB_all (allB_of (g := fun y => List.length y.2) exF_l (m := (fun x : RExt => (0 + (List.length x.2.1.l + (0))) + 1)) (fun y => by show List.length y.2.1.l + 1 ≤ (0 + (List.length y.2.1.l + (0))) + 1; omega) hz_t)
 have hq_m : allB crF (List.map (fun y : RCer => (y.1.l, List.map (fun y : RExt => (y.1, y.2.1.l)) y.2.1.l)) mb) := allB_of (g := fun x : CE => List.length x.1 + (List.map (fun e : EX => e.2.length + 1) x.2).sum) crF_l (m := (fun x : RCer => (List.length x.1.l + ((List.map (fun x : RExt => (0 + (List.length x.2.1.l + (0))) + 1) x.2.1.l).sum + (0))) + 1)) (fun y => by show List.length y.1.l + (List.map (fun e : EX => e.2.length + 1) (List.map (fun y : RExt => (y.1, y.2.1.l)) y.2.1.l)).sum + 1 ≤ (List.length y.1.l + ((List.map (fun x : RExt => (0 + (List.length x.2.1.l + (0))) + 1) y.2.1.l).sum + (0))) + 1; rw [sumE2]; omega) hz_m
 have hz_dc : (List.map (fun x => List.length x + 1) dc).sum ≤ 1048576 := by omega
 have hz_de : (List.map (fun x => (0 + (List.length x.2.1.l + (0))) + 1) de).sum ≤ 1048576 := by omega
 have hq_alF : allB alF (List.map (fun y : RStr => y) dc) := allB_of (g := (fun y => List.length y)) alF_l (m := (fun x : RStr => List.length x + 1)) (fun y => (by show List.length y + 1 ≤ List.length y + 1; omega)) hz_dc
 have hq_shF : allB shF (List.map (fun y : RSha => (y.1, y.2.1.l)) de) := allB_of (g := (fun y => List.length y.2)) shF_l (m := (fun x : RSha => (0 + (List.length x.2.1.l + (0))) + 1)) (fun y => (by show List.length y.2.1.l + 1 ≤ (0 + (List.length y.2.1.l + (0))) + 1; omega)) hz_de
 have hl_m := allB_all hq_m
 have hl_c := allB_all hq_alF
 have hl_e := allB_all hq_shF
 refine d_0 [(0, .agg #[.slice a_ma (List.length ma) c_ma, .slice a_mb (List.length mb) c_mb]), (1, .agg #[uv32 ta, uv32 tb, .slice a_tc (List.length tc) c_tc, .slice a_td (List.length td) c_td, .slice a_te (List.length te) c_te]), (2, .agg #[uv16 va, .slice a_vb (List.length vb) c_vb]), (3, .agg #[.string (bstr da), .slice a_db (List.length db) c_db, .slice a_dc (List.length dc) c_dc, .slice a_dd (List.length dd) c_dd, .slice a_de (List.length de) c_de, .slice a_df (List.length df) c_df, .slice a_dg (List.length dg) c_dg, uv16 dh])] 160 Go.Proofs.Try.func8 Go.Proofs.Try.ntmps8 (Heap.nil _) fun act0 En0 Hv0 => ?_
 refine wp_seq ?_
 refine region_from ?_
 refine f_o ?_
 refine m_m 83 [.slice a_ma (List.length ma) c_ma, .slice a_mb (List.length mb) c_mb] En0 Hv0 fun ac2 wo3 bk1 En4 Hv5 => ?_
 refine f_o ?_
 refine m_m 86 [uv32 ta, uv32 tb, .slice a_tc (List.length tc) c_tc, .slice a_td (List.length td) c_td, .slice a_te (List.length te) c_te] En4 Hv5 fun ac7 wo8 bk6 En9 Hv10 => ?_
 refine f_o ?_
 refine m_m 88 [uv16 va, .slice a_vb (List.length vb) c_vb] En9 Hv10 fun ac12 wo13 bk11 En14 Hv15 => ?_
 refine f_o ?_
 refine m_m 39 [.string (bstr da), .slice a_db (List.length db) c_db, .slice a_dc (List.length dc) c_dc, .slice a_dd (List.length dd) c_dd, .slice a_de (List.length de) c_de, .slice a_df (List.length df) c_df, .slice a_dg (List.length dg) c_dg, uv16 dh] En14 Hv15 fun ac17 wo18 bk16 En19 Hv20 => ?_
 refine d_e [4,5,6,7,8] [] En19 fun ac21 En22 => ?_
 refine then_normal ?_
 refine wp_seq ?_
 refine region_from ?_
 refine f_o ?_
 refine c_p En22 Hv20 (head_ok _) fun ac27 wo24 En28 Hv29 => ?_
 refine d_e [4,5,6,7,8,9] [] En28 fun ac30 En31 => ?_
 refine then_normal ?_
 refine wp_seq ?_
 refine region_from ?_
 refine f_o ?_
 refine m_a 0 0 2 [.slice a_ma (List.length ma) c_ma, .slice a_mb (List.length mb) c_mb] En31 Hv29 rfl rfl rfl fun ac32 En33 => ?_
 refine f_o ?_
 refine c_0 En33 Hv29 (pcert_go _ a_ma c_ma ma a_mb c_mb mb ((i_ma.ev Hv29).pick [] (by kernel_rfl)) (i_mb.go Hv29 [] (by kernel_rfl) (fun _ h => ⟨(InB.ev h.1 Hv29).pick [] (by kernel_rfl), (h.2.1.go Hv29 [] (by kernel_rfl) (fun _ h => ⟨h.1, (InB.ev h.2.1 Hv29).pick [] (by kernel_rfl), h.2.2⟩)), h.2.2⟩)) (by assumption)) ?_
 rintro _ wo37 ⟨pa34, pc35, rfl, he38⟩
 refine ⟨_, _, _, rfl, he38, rfl, fun ac40 En41 Hv42 => ?_⟩
 refine d_e [4,5,6,7,8,9,10] [] En41 fun ac43 En44 => ?_
 refine then_normal ?_
 refine wp_seq ?_
 refine wp_seq ?_
 have hlen3 : List.length (certP (ma, List.map (fun y : RCer => (y.1.l, List.map (fun y : RExt => (y.1, y.2.1.l)) y.2.1.l)) mb)) ≤ 40000000 := Nat.le_trans (doneL_len _ _) (by simp only [certF, wput_len, List.length_nil]; omega)
 refine d_r [4,5,6,7,8,9,10,32] [] En44 fun ac45 En46 => ?_
 refine then_normal ?_
 refine region_cut (F := fun ac wo => Env ac 160 [(4, pt bk1), (5, pt bk6), (6, pt bk11), (7, pt bk16), (8, .bool false), (9, .bool true), (10, .slice pa34 (List.length (certP (ma, List.map (fun y : RCer => (y.1.l, List.map (fun y : RExt => (y.1, y.2.1.l)) y.2.1.l)) mb))) pc35)] ∧ Ev w [] wo [.vec pa34 pc35 1 (bys (certP (ma, List.map (fun y : RCer => (y.1.l, List.map (fun y : RExt => (y.1, y.2.1.l)) y.2.1.l)) mb))) 5, .box bk1 [.slice a_ma (List.length ma) c_ma, .slice a_mb (List.length mb) c_mb] 83, .box bk6 [uv32 ta, uv32 tb, .slice a_tc (List.length tc) c_tc, .slice a_td (List.length td) c_td, .slice a_te (List.length te) c_te] 86, .box bk11 [uv16 va, .slice a_vb (List.length vb) c_vb] 88, .box bk16 [.string (bstr da), .slice a_db (List.length db) c_db, .slice a_dc (List.length dc) c_dc, .slice a_dd (List.length dd) c_dd, .slice a_de (List.length de) c_de, .slice a_df (List.length df) c_df, .slice a_dg (List.length dg) c_dg, uv16 dh] 39]) ?_ ?_
 ·
  refine c_d (((List.length (certP (ma, List.map (fun y : RCer => (y.1.l, List.map (fun y : RExt => (y.1, y.2.1.l)) y.2.1.l)) mb)) : Nat) : Int) > (0 : Int)) En46 (fun hc47 => ?_) (fun hc47 => ?_)
  ·
   refine wp_seq ?_
   refine region_from ?_
   refine d_k [4,5,6,7,8,9,10,34] [] 1 En46 fun ac48 En49 => ?_
   refine f_o ?_
   refine c_0 En49 Hv42 (getcert_go _ pa34 (List.length (certP (ma, List.map (fun y : RCer => (y.1.l, List.map (fun y : RExt => (y.1, y.2.1.l)) y.2.1.l)) mb))) pc35 (certP (ma, List.map (fun y : RCer => (y.1.l, List.map (fun y : RExt => (y.1, y.2.1.l)) y.2.1.l)) mb)) (by first | rfl | (simp; done) | (simp; omega) | omega) (bys_in Hv42.heap (k := 0) rfl [] (by kernel_rfl) rfl (by first | omega | (simp; done) | (simp; omega)))) ?_
   rintro _ wo61 ⟨oaa50, oca51, bla52, oab53, ocb54, xsb55, rfl, he62, hpu56, hf57, hf58, hf59⟩
   refine ⟨_, _, _, rfl, he62, rfl, fun ac64 En65 Hv66 => ?_⟩
   refine d_k [4,5,6,7,8,9,10,36,37] [] 5 En65 fun ac67 En68 => ?_
   refine f_o ?_
   refine m_z 83 [.slice none 0 0, .slice none 0 0] En68 Hv66 fun ac70 wo71 bk69 En72 Hv73 => ?_
   refine f_o ?_
   refine m_g 8 0 2 [.slice oaa50 (List.length bla52) oca51, .slice oab53 (List.length xsb55) ocb54] [.slice oaa50 (List.length bla52) oca51, .slice oab53 (List.length xsb55) ocb54] [.vec oaa50 oca51 1 (bys bla52) 5, .vec oab53 ocb54 2 (List.flatMap fCer xsb55) 196, .grp (List.flatMap innCer xsb55), .vec pa34 pc35 1 (bys (certP (ma, List.map (fun y : RCer => (y.1.l, List.map (fun y : RExt => (y.1, y.2.1.l)) y.2.1.l)) mb))) 5, .box bk1 [.slice a_ma (List.length ma) c_ma, .slice a_mb (List.length mb) c_mb] 83, .box bk6 [uv32 ta, uv32 tb, .slice a_tc (List.length tc) c_tc, .slice a_td (List.length td) c_td, .slice a_te (List.length te) c_te] 86, .box bk11 [uv16 va, .slice a_vb (List.length vb) c_vb] 88, .box bk16 [.string (bstr da), .slice a_db (List.length db) c_db, .slice a_dc (List.length dc) c_dc, .slice a_dd (List.length dd) c_dd, .slice a_de (List.length de) c_de, .slice a_df (List.length df) c_df, .slice a_dg (List.length dg) c_dg, uv16 dh] 39, .box bk69 [.slice oaa50 (List.length bla52) oca51, .slice oab53 (List.length xsb55) ocb54] 83] En72 Hv73 rfl rfl (by simp) (one_all (by kernel_rfl)) rfl rfl fun ac74 wo75 En76 Hv77 => ?_
   refine d_e [4,5,6,7,8,9,10,11,12] [] En76 fun ac78 En79 => ?_
   refine then_normal ?_
   refine wp_seq ?_
   refine region_from ?_
   refine f_o ?_
   refine m_a 8 0 2 [.slice oaa50 (List.length bla52) oca51, .slice oab53 (List.length xsb55) ocb54] En79 Hv77 rfl rfl rfl fun ac80 En81 => ?_
   refine f_o ?_
   refine m_a 4 0 2 [.slice a_ma (List.length ma) c_ma, .slice a_mb (List.length mb) c_mb] En81 Hv77 rfl rfl rfl fun ac82 En83 => ?_
   refine f_o ?_
   refine c_p En83 Hv77 (samecert_go _ oaa50 oca51 bla52 oab53 ocb54 xsb55 a_ma c_ma ma a_mb c_mb mb (bys_in Hv77.heap (k := 0) rfl [] (by kernel_rfl) rfl (Nat.le_trans hf57 (by decide))) (Hv77.heap.innS (k := 1) (f := fCer) (sz := 2) (by_ := 48) rfl (fun _ => rfl) (by decide) [] (by kernel_rfl) rfl (by first | omega | (simp; done) | (simp; omega)) (fun y hy => ⟨Hv77.heap.innB (k := 2) rfl (List.mem_flatMap.2 ⟨y, hy, List.mem_cons_self⟩) [] (by kernel_rfl) rfl (Nat.le_trans (hf59 y hy).1 (by decide)), innL Hv77.heap (k := 2) (f := fExt) (sz := 2) (by_ := 32) rfl (List.mem_flatMap.2 ⟨y, hy, List.mem_cons_of_mem _ List.mem_cons_self⟩) (fun _ => rfl) (by decide) [] (by kernel_rfl) rfl (by have := (hf59 y hy).2.1; omega) (fun z hz => ⟨trivial, Hv77.heap.innB (k := 2) rfl (List.mem_flatMap.2 ⟨y, hy, List.mem_cons_of_mem _ (List.mem_cons_of_mem _ (List.mem_flatMap.2 ⟨z, hz, List.mem_cons_self⟩))⟩) [] (by kernel_rfl) rfl (Nat.le_trans ((hf59 y hy).2.2 z hz) (by decide)), trivial⟩), trivial⟩)) ((i_ma.ev Hv77).pick [] (by kernel_rfl)) (i_mb.go Hv77 [] (by kernel_rfl) (fun _ h => ⟨(InB.ev h.1 Hv77).pick [] (by kernel_rfl), (h.2.1.go Hv77 [] (by kernel_rfl) (fun _ h => ⟨h.1, (InB.ev h.2.1 Hv77).pick [] (by kernel_rfl), h.2.2⟩)), h.2.2⟩))) fun ac88 wo85 En89 Hv90 => ?_
   refine d_e [4,5,6,7,8,9,10,11,12,13] [(3, g_b (show (((bla52, List.map (fun y : RCer => (y.1.l, List.map (fun y : RExt => (y.1, y.2.1.l)) y.2.1.l)) xsb55) == (ma, List.map (fun y : RCer => (y.1.l, List.map (fun y : RExt => (y.1, y.2.1.l)) y.2.1.l)) mb))) = true from (by rw [hpu56, (got_back (z := _) (cert_back (by omega))).2]; exact beq_self_eq_true _)))] En89 fun ac91 En92 => ?_
   refine then_normal ?_
   refine wp_seq ?_
   refine d_r [4,5,6,7,8,9,10,11,46] [(1, g_b (show (gotA (certM (certP (ma, List.map (fun y : RCer => (y.1.l, List.map (fun y : RExt => (y.1, y.2.1.l)) y.2.1.l)) mb)) false false) != (0 : Int)) = false from (by rw [got_a (cert_back (by omega))]; rfl)))] En92 fun ac93 En94 => ?_
   refine then_normal ?_
   refine c_f En94 ?_
   refine wp_skip ?_
   exact ⟨rfl, ⟨En94.sb, Hv90.pk [3, 4, 5, 6, 7]⟩⟩
  ·
   refine wp_skip ?_
   exact ⟨rfl, ⟨En46.sb, Hv42.pk [0, 1, 2, 3, 4]⟩⟩
 ·
  rintro ac95 wo96 ⟨En97, Hv98⟩
  refine then_normal ?_
  refine wp_seq ?_
  refine region_from ?_
  refine f_o ?_
  refine m_a 2 0 5 [uv32 ta, uv32 tb, .slice a_tc (List.length tc) c_tc, .slice a_td (List.length td) c_td, .slice a_te (List.length te) c_te] En97 Hv98 rfl rfl rfl fun ac99 En100 => ?_
  refine f_o ?_
  refine c_0 En100 Hv98 (pticket_go _ ta tb a_tc c_tc tc a_td c_td td a_te c_te te ((i_tc.ev Hv98).pick [] (by kernel_rfl)) ((i_td.ev Hv98).pick [] (by kernel_rfl)) (i_te.go Hv98 [] (by kernel_rfl) (fun _ h => ⟨h.1, (InB.ev h.2.1 Hv98).pick [] (by kernel_rfl), h.2.2⟩)) (by assumption) (by omega)) ?_
  rintro _ wo104 ⟨pa101, pc102, rfl, he105⟩
  refine ⟨_, _, _, rfl, he105, rfl, fun ac107 En108 Hv109 => ?_⟩
  refine d_e [4,5,6,7,8,9,10] [] En108 fun ac110 En111 => ?_
  refine then_normal ?_
  refine wp_seq ?_
  refine wp_seq ?_
  have hlen9 : List.length (ticP (ta, tb, tc, td, List.map (fun y : RExt => (y.1, y.2.1.l)) te)) ≤ 40000000 := Nat.le_trans (doneL_len _ _) (by simp only [ticF, wexF, wput_len, List.length_append, beN_len, List.length_nil]; omega)
  refine d_r [4,5,6,7,8,9,10,51] [] En111 fun ac112 En113 => ?_
  refine then_normal ?_
  refine region_cut (F := fun ac wo => Env ac 160 [(4, pt bk1), (5, pt bk6), (6, pt bk11), (7, pt bk16), (8, .bool false), (9, .bool true), (10, .slice pa101 (List.length (ticP (ta, tb, tc, td, List.map (fun y : RExt => (y.1, y.2.1.l)) te))) pc102)] ∧ Ev w [] wo [.vec pa101 pc102 1 (bys (ticP (ta, tb, tc, td, List.map (fun y : RExt => (y.1, y.2.1.l)) te))) 5, .vec pa34 pc35 1 (bys (certP (ma, List.map (fun y : RCer => (y.1.l, List.map (fun y : RExt => (y.1, y.2.1.l)) y.2.1.l)) mb))) 5, .box bk1 [.slice a_ma (List.length ma) c_ma, .slice a_mb (List.length mb) c_mb] 83, .box bk6 [uv32 ta, uv32 tb, .slice a_tc (List.length tc) c_tc, .slice a_td (List.length td) c_td, .slice a_te (List.length te) c_te] 86, .box bk11 [uv16 va, .slice a_vb (List.length vb) c_vb] 88, .box bk16 [.string (bstr da), .slice a_db (List.length db) c_db, .slice a_dc (List.length dc) c_dc, .slice a_dd (List.length dd) c_dd, .slice a_de (List.length de) c_de, .slice a_df (List.length df) c_df, .slice a_dg (List.length dg) c_dg, uv16 dh] 39]) ?_ ?_
  ·
   refine c_d (((List.length (ticP (ta, tb, tc, td, List.map (fun y : RExt => (y.1, y.2.1.l)) te)) : Nat) : Int) > (0 : Int)) En113 (fun hc114 => ?_) (fun hc114 => ?_)
   ·
    refine wp_seq ?_
    refine region_from ?_
    refine d_k [4,5,6,7,8,9,10,53] [] 1 En113 fun ac115 En116 => ?_
    refine f_o ?_
    refine c_0 En116 Hv109 (getticket_go _ pa101 (List.length (ticP (ta, tb, tc, td, List.map (fun y : RExt => (y.1, y.2.1.l)) te))) pc102 (ticP (ta, tb, tc, td, List.map (fun y : RExt => (y.1, y.2.1.l)) te)) (by first | rfl | (simp; done) | (simp; omega) | omega) (bys_in Hv109.heap (k := 0) rfl [] (by kernel_rfl) rfl (by first | omega | (simp; done) | (simp; omega)))) ?_
    rintro _ wo134 ⟨xva117, xvb118, oac119, occ120, blc121, oad122, ocd123, bld124, oae125, oce126, xse127, rfl, he135, hpu128, hf129, hf130, hf131, hf132⟩
    refine ⟨_, _, _, rfl, he135, rfl, fun ac137 En138 Hv139 => ?_⟩
    refine d_k [4,5,6,7,8,9,10,55,56] [] 5 En138 fun ac140 En141 => ?_
    refine f_o ?_
    refine m_z 86 [.int .u32 0, .int .u32 0, .slice none 0 0, .slice none 0 0, .slice none 0 0] En141 Hv139 fun ac143 wo144 bk142 En145 Hv146 => ?_
    refine f_o ?_
    refine m_g 10 0 5 [uv32 xva117, uv32 xvb118, .slice oac119 (List.length blc121) occ120, .slice oad122 (List.length bld124) ocd123, .slice oae125 (List.length xse127) oce126] [uv32 xva117, uv32 xvb118, .slice oac119 (List.length blc121) occ120, .slice oad122 (List.length bld124) ocd123, .slice oae125 (List.length xse127) oce126] [.vec oac119 occ120 1 (bys blc121) 5, .vec oad122 ocd123 1 (bys bld124) 5, .vec oae125 oce126 2 (List.flatMap fExt xse127) 147, .grp (List.flatMap innExt xse127), .vec pa101 pc102 1 (bys (ticP (ta, tb, tc, td, List.map (fun y : RExt => (y.1, y.2.1.l)) te))) 5, .vec pa34 pc35 1 (bys (certP (ma, List.map (fun y : RCer => (y.1.l, List.map (fun y : RExt => (y.1, y.2.1.l)) y.2.1.l)) mb))) 5, .box bk1 [.slice a_ma (List.length ma) c_ma, .slice a_mb (List.length mb) c_mb] 83, .box bk6 [uv32 ta, uv32 tb, .slice a_tc (List.length tc) c_tc, .slice a_td (List.length td) c_td, .slice a_te (List.length te) c_te] 86, .box bk11 [uv16 va, .slice a_vb (List.length vb) c_vb] 88, .box bk16 [.string (bstr da), .slice a_db (List.length db) c_db, .slice a_dc (List.length dc) c_dc, .slice a_dd (List.length dd) c_dd, .slice a_de (List.length de) c_de, .slice a_df (List.length df) c_df, .slice a_dg (List.length dg) c_dg, uv16 dh] 39, .box bk142 [uv32 xva117, uv32 xvb118, .slice oac119 (List.length blc121) occ120, .slice oad122 (List.length bld124) ocd123, .slice oae125 (List.length xse127) oce126] 86] En145 Hv146 rfl rfl (by simp) (one_all (by kernel_rfl)) rfl rfl fun ac147 wo148 En149 Hv150 => ?_
    refine d_e [4,5,6,7,8,9,10,14,15] [] En149 fun ac151 En152 => ?_
    refine then_normal ?_
    refine wp_seq ?_
    refine region_from ?_
    refine f_o ?_
    refine m_a 10 0 5 [uv32 xva117, uv32 xvb118, .slice oac119 (List.length blc121) occ120, .slice oad122 (List.length bld124) ocd123, .slice oae125 (List.length xse127) oce126] En152 Hv150 rfl rfl rfl fun ac153 En154 => ?_
    refine f_o ?_
    refine m_a 7 0 5 [uv32 ta, uv32 tb, .slice a_tc (List.length tc) c_tc, .slice a_td (List.length td) c_td, .slice a_te (List.length te) c_te] En154 Hv150 rfl rfl rfl fun ac155 En156 => ?_
    refine f_o ?_
    refine c_p En156 Hv150 (sametic_go _ xva117 xvb118 oac119 occ120 blc121 oad122 ocd123 bld124 oae125 oce126 xse127 ta tb a_tc c_tc tc a_td c_td td a_te c_te te (bys_in Hv150.heap (k := 0) rfl [] (by kernel_rfl) rfl (Nat.le_trans hf129 (by decide))) (bys_in Hv150.heap (k := 1) rfl [] (by kernel_rfl) rfl (Nat.le_trans hf130 (by decide))) (Hv150.heap.innS (k := 2) (f := fExt) (sz := 2) (by_ := 32) rfl (fun _ => rfl) (by decide) [] (by kernel_rfl) rfl (by first | omega | (simp; done) | (simp; omega)) (fun y hy => ⟨trivial, Hv150.heap.innB (k := 3) rfl (List.mem_flatMap.2 ⟨y, hy, List.mem_cons_self⟩) [] (by kernel_rfl) rfl (Nat.le_trans (hf132 y hy) (by decide)), trivial⟩)) ((i_tc.ev Hv150).pick [] (by kernel_rfl)) ((i_td.ev Hv150).pick [] (by kernel_rfl)) (i_te.go Hv150 [] (by kernel_rfl) (fun _ h => ⟨h.1, (InB.ev h.2.1 Hv150).pick [] (by kernel_rfl), h.2.2⟩))) fun ac161 wo158 En162 Hv163 => ?_
    refine d_e [4,5,6,7,8,9,10,14,15,16] [(3, g_b (show (((xva117, xvb118, blc121, bld124, List.map (fun y : RExt => (y.1, y.2.1.l)) xse127) == (ta, tb, tc, td, List.map (fun y : RExt => (y.1, y.2.1.l)) te))) = true from (by rw [hpu128, (got_back (z := _) (tic_back (by omega))).2]; exact beq_self_eq_true _)))] En162 fun ac164 En165 => ?_
    refine then_normal ?_
    refine wp_seq ?_
    refine d_r [4,5,6,7,8,9,10,14,65] [(1, g_b (show (gotA (ticM (ticP (ta, tb, tc, td, List.map (fun y : RExt => (y.1, y.2.1.l)) te)) false false) != (0 : Int)) = false from (by rw [got_a (tic_back (by omega))]; rfl)))] En165 fun ac166 En167 => ?_
    refine then_normal ?_
    refine c_f En167 ?_
    refine wp_skip ?_
    exact ⟨rfl, ⟨En167.sb, Hv163.pk [4, 5, 6, 7, 8, 9]⟩⟩
   ·
    refine wp_skip ?_
    exact ⟨rfl, ⟨En113.sb, Hv109.pk [0, 1, 2, 3, 4, 5]⟩⟩
  ·
   rintro ac168 wo169 ⟨En170, Hv171⟩
   refine then_normal ?_
   refine wp_seq ?_
   refine region_from ?_
   refine f_o ?_
   refine m_a 4 0 2 [uv16 va, .slice a_vb (List.length vb) c_vb] En170 Hv171 rfl rfl rfl fun ac172 En173 => ?_
   refine f_o ?_
   refine c_0 En173 Hv171 (pverify_go _ va a_vb c_vb vb ((i_vb.ev Hv171).pick [] (by kernel_rfl))) ?_
   rintro _ wo177 ⟨pa174, pc175, rfl, he178⟩
   refine ⟨_, _, _, rfl, he178, rfl, fun ac180 En181 Hv182 => ?_⟩
   refine d_e [4,5,6,7,8,9,10] [] En181 fun ac183 En184 => ?_
   refine then_normal ?_
   refine wp_seq ?_
   refine wp_seq ?_
   have hlen15 : List.length (verP (va, vb)) ≤ 40000000 := Nat.le_trans (doneL_len _ _) (by simp only [exF, wput_len, List.length_append, beN_len, List.length_nil]; omega)
   refine d_r [4,5,6,7,8,9,10,70] [] En184 fun ac185 En186 => ?_
   refine then_normal ?_
   refine region_cut (F := fun ac wo => Env ac 160 [(4, pt bk1), (5, pt bk6), (6, pt bk11), (7, pt bk16), (8, .bool false), (9, .bool true), (10, .slice pa174 (List.length (verP (va, vb))) pc175)] ∧ Ev w [] wo [.vec pa174 pc175 1 (bys (verP (va, vb))) 5, .vec pa101 pc102 1 (bys (ticP (ta, tb, tc, td, List.map (fun y : RExt => (y.1, y.2.1.l)) te))) 5, .vec pa34 pc35 1 (bys (certP (ma, List.map (fun y : RCer => (y.1.l, List.map (fun y : RExt => (y.1, y.2.1.l)) y.2.1.l)) mb))) 5, .box bk1 [.slice a_ma (List.length ma) c_ma, .slice a_mb (List.length mb) c_mb] 83, .box bk6 [uv32 ta, uv32 tb, .slice a_tc (List.length tc) c_tc, .slice a_td (List.length td) c_td, .slice a_te (List.length te) c_te] 86, .box bk11 [uv16 va, .slice a_vb (List.length vb) c_vb] 88, .box bk16 [.string (bstr da), .slice a_db (List.length db) c_db, .slice a_dc (List.length dc) c_dc, .slice a_dd (List.length dd) c_dd, .slice a_de (List.length de) c_de, .slice a_df (List.length df) c_df, .slice a_dg (List.length dg) c_dg, uv16 dh] 39]) ?_ ?_
   ·
    refine c_d (((List.length (verP (va, vb)) : Nat) : Int) > (0 : Int)) En186 (fun hc187 => ?_) (fun hc187 => ?_)
    ·
     refine wp_seq ?_
     refine region_from ?_
     refine d_k [4,5,6,7,8,9,10,72] [] 1 En186 fun ac188 En189 => ?_
     refine f_o ?_
     refine c_0 En189 Hv182 (getverify_go _ pa174 (List.length (verP (va, vb))) pc175 (verP (va, vb)) (by first | rfl | (simp; done) | (simp; omega) | omega) (bys_in Hv182.heap (k := 0) rfl [] (by kernel_rfl) rfl (by first | omega | (simp; done) | (simp; omega)))) ?_
     rintro _ wo197 ⟨xva190, oab191, ocb192, blb193, rfl, he198, hpu194, hf195⟩
     refine ⟨_, _, _, rfl, he198, rfl, fun ac200 En201 Hv202 => ?_⟩
     refine d_k [4,5,6,7,8,9,10,74,75] [] 5 En201 fun ac203 En204 => ?_
     refine f_o ?_
     refine m_z 88 [.int .u16 0, .slice none 0 0] En204 Hv202 fun ac206 wo207 bk205 En208 Hv209 => ?_
     refine f_o ?_
     refine m_g 8 0 2 [uv16 xva190, .slice oab191 (List.length blb193) ocb192] [uv16 xva190, .slice oab191 (List.length blb193) ocb192] [.vec oab191 ocb192 1 (bys blb193) 5, .vec pa174 pc175 1 (bys (verP (va, vb))) 5, .vec pa101 pc102 1 (bys (ticP (ta, tb, tc, td, List.map (fun y : RExt => (y.1, y.2.1.l)) te))) 5, .vec pa34 pc35 1 (bys (certP (ma, List.map (fun y : RCer => (y.1.l, List.map (fun y : RExt => (y.1, y.2.1.l)) y.2.1.l)) mb))) 5, .box bk1 [.slice a_ma (List.length ma) c_ma, .slice a_mb (List.length mb) c_mb] 83, .box bk6 [uv32 ta, uv32 tb, .slice a_tc (List.length tc) c_tc, .slice a_td (List.length td) c_td, .slice a_te (List.length te) c_te] 86, .box bk11 [uv16 va, .slice a_vb (List.length vb) c_vb] 88, .box bk16 [.string (bstr da), .slice a_db (List.length db) c_db, .slice a_dc (List.length dc) c_dc, .slice a_dd (List.length dd) c_dd, .slice a_de (List.length de) c_de, .slice a_df (List.length df) c_df, .slice a_dg (List.length dg) c_dg, uv16 dh] 39, .box bk205 [uv16 xva190, .slice oab191 (List.length blb193) ocb192] 88] En208 Hv209 rfl rfl (by simp) (one_all (by kernel_rfl)) rfl rfl fun ac210 wo211 En212 Hv213 => ?_
     refine d_e [4,5,6,7,8,9,10,17,18] [] En212 fun ac214 En215 => ?_
     refine then_normal ?_
     refine wp_seq ?_
     refine region_from ?_
     refine d_k [4,5,6,7,8,9,10,17,78,79] [(1, g_b (show (gotA (extM (verP (va, vb)) false false) != (0 : Int)) = false from (by rw [got_a (ver_back (by omega))]; rfl)))] 4 En215 fun ac216 En217 => ?_
     refine f_o ?_
     refine m_l 8 En217 Hv213 fun ac218 En219 => ?_
     refine d_k [4,5,6,7,8,9,10,17,78,80,81] [] 6 En219 fun ac220 En221 => ?_
     refine f_o ?_
     refine m_l 6 En221 Hv213 fun ac222 En223 => ?_
     refine d_k [4,5,6,7,8,9,10,17,85,86] [(7, g_b (show (((UInt16.toNat xva190 : Nat) : Int) != ((UInt16.toNat va : Nat) : Int)) = false from (by rw [(Prod.mk.inj (hpu194.trans (got_back (z := _) (ver_back (by omega))).2)).1]; first | exact bne_self_eq_false _ | exact nbeq_self _ | rfl)))] 11 En223 fun ac224 En225 => ?_
     refine f_o ?_
     refine m_l 8 En225 Hv213 fun ac226 En227 => ?_
     refine f_o ?_
     refine op_str (d := some 88) (src := 23) (dst := 9) (e := 5) (ao := oab191) (cap := ocb192) (p := List.length blb193) (bs := blb193) En227 (by kernel_rfl) rfl (by kernel_rfl) (by kernel_rfl) (by kernel_rfl) (Hv213.heap.reads (k := 0) rfl) (bys_vnz Hv213.heap (k := 0) rfl) ?_
     intro ac228 En229
     refine d_k [4,5,6,7,8,9,10,17,85,88,89] [] 14 En229 fun ac230 En231 => ?_
     refine f_o ?_
     refine m_l 6 En231 Hv213 fun ac232 En233 => ?_
     refine f_o ?_
     refine op_str (d := some 91) (src := 23) (dst := 9) (e := 5) (ao := a_vb) (cap := c_vb) (p := List.length vb) (bs := vb) En233 (by kernel_rfl) rfl (by kernel_rfl) (by kernel_rfl) (by kernel_rfl) (i_vb.ev Hv213).reads i_vb.nz ?_
     intro ac234 En235
     refine d_e [4,5,6,7,8,9,10,17,93] [(16, g_v (show (.bool (!(ByteArray.toList (bstr blb193) == ByteArray.toList (bstr vb))) : Value) = .bool false by rw [Go.Dbr.bstr_eq blb193 vb, show (!(blb193 == vb)) = false from (by rw [(Prod.mk.inj (hpu194.trans (got_back (z := _) (ver_back (by omega))).2)).2]; first | exact bne_self_eq_false _ | exact nbeq_self _ | rfl)] <;> rfl))] En235 fun ac236 En237 => ?_
     refine then_normal ?_
     refine c_f En237 ?_
     refine wp_skip ?_
     exact ⟨rfl, ⟨En237.sb, Hv213.pk [1, 2, 3, 4, 5, 6, 7]⟩⟩
    ·
     refine wp_skip ?_
     exact ⟨rfl, ⟨En186.sb, Hv182.pk [0, 1, 2, 3, 4, 5, 6]⟩⟩
   ·
    rintro ac238 wo239 ⟨En240, Hv241⟩
    refine then_normal ?_
    refine wp_seq ?_
    refine region_from ?_
    refine d_k [4,5,6,7,8,9,10,94] [] 1 En240 fun ac242 En243 => ?_
    refine f_o ?_
    refine m_l 6 En243 Hv241 fun ac244 En245 => ?_
    refine f_o ?_
    refine c_0 En245 Hv241 (palpn_go _ a_dc c_dc dc (i_dc.go Hv241 [] (by kernel_rfl) (fun _ h => h)) (by assumption)) ?_
    rintro _ wo249 ⟨pa246, pc247, rfl, he250⟩
    refine ⟨_, _, _, rfl, he250, rfl, fun ac252 En253 Hv254 => ?_⟩
    refine d_e [4,5,6,7,8,9,10] [] En253 fun ac255 En256 => ?_
    refine then_normal ?_
    refine wp_seq ?_
    refine wp_seq ?_
    have hlen20 : List.length (putP alF 2 1 (List.map (fun y : RStr => y) dc)) ≤ 40000000 := Nat.le_trans (doneL_len _ _) (by simp only [wput_len, List.length_nil]; omega)
    refine d_r [4,5,6,7,8,9,10,99] [] En256 fun ac257 En258 => ?_
    refine then_normal ?_
    refine region_cut (F := fun ac wo => Env ac 160 [(4, pt bk1), (5, pt bk6), (6, pt bk11), (7, pt bk16), (8, .bool false), (9, .bool true), (10, .slice pa246 (List.length (putP alF 2 1 (List.map (fun y : RStr => y) dc))) pc247)] ∧ Ev w [] wo [.vec pa246 pc247 1 (bys (putP alF 2 1 (List.map (fun y : RStr => y) dc))) 5, .vec pa174 pc175 1 (bys (verP (va, vb))) 5, .vec pa101 pc102 1 (bys (ticP (ta, tb, tc, td, List.map (fun y : RExt => (y.1, y.2.1.l)) te))) 5, .vec pa34 pc35 1 (bys (certP (ma, List.map (fun y : RCer => (y.1.l, List.map (fun y : RExt => (y.1, y.2.1.l)) y.2.1.l)) mb))) 5, .box bk1 [.slice a_ma (List.length ma) c_ma, .slice a_mb (List.length mb) c_mb] 83, .box bk6 [uv32 ta, uv32 tb, .slice a_tc (List.length tc) c_tc, .slice a_td (List.length td) c_td, .slice a_te (List.length te) c_te] 86, .box bk11 [uv16 va, .slice a_vb (List.length vb) c_vb] 88, .box bk16 [.string (bstr da), .slice a_db (List.length db) c_db, .slice a_dc (List.length dc) c_dc, .slice a_dd (List.length dd) c_dd, .slice a_de (List.length de) c_de, .slice a_df (List.length df) c_df, .slice a_dg (List.length dg) c_dg, uv16 dh] 39]) ?_ ?_
    ·
     refine c_d (((List.length (putP alF 2 1 (List.map (fun y : RStr => y) dc)) : Nat) : Int) > (0 : Int)) En258 (fun hc259 => ?_) (fun hc259 => ?_)
     ·
      refine wp_seq ?_
      refine region_from ?_
      refine d_k [4,5,6,7,8,9,10,101] [] 1 En258 fun ac260 En261 => ?_
      refine f_o ?_
      refine c_0 En261 Hv254 (getalpn_go _ pa246 (List.length (putP alF 2 1 (List.map (fun y : RStr => y) dc))) pc247 (putP alF 2 1 (List.map (fun y : RStr => y) dc)) (by first | rfl | (simp; done) | (simp; omega) | omega) (bys_in Hv254.heap (k := 0) rfl [] (by kernel_rfl) rfl (by first | omega | (simp; done) | (simp; omega)))) ?_
      rintro _ wo269 ⟨oa262, oc263, xs264, rfl, he270, hpu265, hf266, hf267⟩
      refine ⟨_, _, _, rfl, he270, rfl, fun ac272 En273 Hv274 => ?_⟩
      refine d_e [4,5,6,7,8,9,10,19,20] [] En273 fun ac275 En276 => ?_
      refine then_normal ?_
      refine wp_seq ?_
      refine region_from ?_
      refine d_k [4,5,6,7,8,9,10,20,105,106] [] 2 En276 fun ac277 En278 => ?_
      refine f_o ?_
      refine m_l 8 En278 Hv274 fun ac279 En280 => ?_
      refine f_o ?_
      refine c_p En280 Hv274 (sametxt_go _ oa262 oc263 xs264 (Hv274.heap.innS (k := 0) (f := fStr) (sz := 1) (by_ := 16) rfl (fun _ => rfl) (by decide) [] (by kernel_rfl) rfl (by first | omega | (simp; done) | (simp; omega)) (fun y hy => hf267 y hy)) a_dc c_dc dc (i_dc.go Hv274 [] (by kernel_rfl) (fun _ h => h))) fun ac285 wo282 En286 Hv287 => ?_
      refine d_e [4,5,6,7,8,9,10,20,21] [(4, g_b (show ((List.map (fun y : RStr => y) xs264 == List.map (fun y : RStr => y) dc)) = true from (by rw [hpu265, (got_back (z := _) (al_all (by omega))).2]; exact beq_self_eq_true _)))] En286 fun ac288 En289 => ?_
      refine then_normal ?_
      refine wp_seq ?_
      refine d_r [4,5,6,7,8,9,10,114] [(1, g_b (show (gotA (manyM (listM 1 1 255) 2 1 (putP alF 2 1 (List.map (fun y : RStr => y) dc)) false false) != (0 : Int)) = false from (by rw [got_a (al_all (by omega))]; rfl)))] En289 fun ac290 En291 => ?_
      refine then_normal ?_
      refine c_f En291 ?_
      refine wp_skip ?_
      exact ⟨rfl, ⟨En291.sb, Hv287.pk [1, 2, 3, 4, 5, 6, 7, 8]⟩⟩
     ·
      refine wp_skip ?_
      exact ⟨rfl, ⟨En258.sb, Hv254.pk [0, 1, 2, 3, 4, 5, 6, 7]⟩⟩
    ·
     rintro ac292 wo293 ⟨En294, Hv295⟩
     refine then_normal ?_
     refine wp_seq ?_
     refine region_from ?_
     refine d_k [4,5,6,7,8,9,10,115] [] 1 En294 fun ac296 En297 => ?_
     refine f_o ?_
     refine m_l 7 En297 Hv295 fun ac298 En299 => ?_
     refine f_o ?_
     refine c_0 En299 Hv295 (pshares_go _ a_de c_de de (i_de.go Hv295 [] (by kernel_rfl) (fun _ h => ⟨h.1, (InB.ev h.2.1 Hv295).pick [] (by kernel_rfl), h.2.2⟩)) (by assumption)) ?_
     rintro _ wo303 ⟨pa300, pc301, rfl, he304⟩
     refine ⟨_, _, _, rfl, he304, rfl, fun ac306 En307 Hv308 => ?_⟩
     refine d_e [4,5,6,7,8,9,10] [] En307 fun ac309 En310 => ?_
     refine then_normal ?_
     refine wp_seq ?_
     refine wp_seq ?_
     have hlen26 : List.length (putP shF 2 0 (List.map (fun y : RSha => (y.1, y.2.1.l)) de)) ≤ 40000000 := Nat.le_trans (doneL_len _ _) (by simp only [wput_len, List.length_nil]; omega)
     refine d_r [4,5,6,7,8,9,10,120] [] En310 fun ac311 En312 => ?_
     refine then_normal ?_
     refine region_cut (F := fun ac wo => Env ac 160 [(4, pt bk1), (5, pt bk6), (6, pt bk11), (7, pt bk16), (8, .bool false), (9, .bool true), (10, .slice pa300 (List.length (putP shF 2 0 (List.map (fun y : RSha => (y.1, y.2.1.l)) de))) pc301)] ∧ Ev w [] wo [.vec pa300 pc301 1 (bys (putP shF 2 0 (List.map (fun y : RSha => (y.1, y.2.1.l)) de))) 5, .vec pa246 pc247 1 (bys (putP alF 2 1 (List.map (fun y : RStr => y) dc))) 5, .vec pa174 pc175 1 (bys (verP (va, vb))) 5, .vec pa101 pc102 1 (bys (ticP (ta, tb, tc, td, List.map (fun y : RExt => (y.1, y.2.1.l)) te))) 5, .vec pa34 pc35 1 (bys (certP (ma, List.map (fun y : RCer => (y.1.l, List.map (fun y : RExt => (y.1, y.2.1.l)) y.2.1.l)) mb))) 5, .box bk1 [.slice a_ma (List.length ma) c_ma, .slice a_mb (List.length mb) c_mb] 83, .box bk6 [uv32 ta, uv32 tb, .slice a_tc (List.length tc) c_tc, .slice a_td (List.length td) c_td, .slice a_te (List.length te) c_te] 86, .box bk11 [uv16 va, .slice a_vb (List.length vb) c_vb] 88, .box bk16 [.string (bstr da), .slice a_db (List.length db) c_db, .slice a_dc (List.length dc) c_dc, .slice a_dd (List.length dd) c_dd, .slice a_de (List.length de) c_de, .slice a_df (List.length df) c_df, .slice a_dg (List.length dg) c_dg, uv16 dh] 39]) ?_ ?_
     ·
      refine c_d (((List.length (putP shF 2 0 (List.map (fun y : RSha => (y.1, y.2.1.l)) de)) : Nat) : Int) > (0 : Int)) En312 (fun hc313 => ?_) (fun hc313 => ?_)
      ·
       refine wp_seq ?_
       refine region_from ?_
       refine d_k [4,5,6,7,8,9,10,122] [] 1 En312 fun ac314 En315 => ?_
       refine f_o ?_
       refine c_0 En315 Hv308 (getshares_go _ pa300 (List.length (putP shF 2 0 (List.map (fun y : RSha => (y.1, y.2.1.l)) de))) pc301 (putP shF 2 0 (List.map (fun y : RSha => (y.1, y.2.1.l)) de)) (by first | rfl | (simp; done) | (simp; omega) | omega) (bys_in Hv308.heap (k := 0) rfl [] (by kernel_rfl) rfl (by first | omega | (simp; done) | (simp; omega)))) ?_
       rintro _ wo323 ⟨oa316, oc317, xs318, rfl, he324, hpu319, hf320, hf321⟩
       refine ⟨_, _, _, rfl, he324, rfl, fun ac326 En327 Hv328 => ?_⟩
       refine d_e [4,5,6,7,8,9,10,22,23] [] En327 fun ac329 En330 => ?_
       refine then_normal ?_
       refine wp_seq ?_
       refine region_from ?_
       refine d_k [4,5,6,7,8,9,10,23,126,127] [] 2 En330 fun ac331 En332 => ?_
       refine f_o ?_
       refine m_l 10 En332 Hv328 fun ac333 En334 => ?_
       refine f_o ?_
       refine c_p En334 Hv328 (samesha_go _ oa316 oc317 xs318 (Hv328.heap.innS (k := 0) (f := fSha) (sz := 2) (by_ := 32) rfl (fun _ => rfl) (by decide) [] (by kernel_rfl) rfl (by first | omega | (simp; done) | (simp; omega)) (fun y hy => ⟨trivial, Hv328.heap.innB (k := 1) rfl (List.mem_flatMap.2 ⟨y, hy, List.mem_cons_self⟩) [] (by kernel_rfl) rfl (Nat.le_trans (hf321 y hy) (by decide)), trivial⟩)) a_de c_de de (i_de.go Hv328 [] (by kernel_rfl) (fun _ h => ⟨h.1, (InB.ev h.2.1 Hv328).pick [] (by kernel_rfl), h.2.2⟩))) fun ac339 wo336 En340 Hv341 => ?_
       refine d_e [4,5,6,7,8,9,10,23,24] [(4, g_b (show ((List.map (fun y : RSha => (y.1, y.2.1.l)) xs318 == List.map (fun y : RSha => (y.1, y.2.1.l)) de)) = true from (by rw [hpu319, (got_back (z := _) (sh_all (by omega))).2]; exact beq_self_eq_true _)))] En340 fun ac342 En343 => ?_
       refine then_normal ?_
       refine wp_seq ?_
       refine d_r [4,5,6,7,8,9,10,135] [(1, g_b (show (gotA (manyM shareM 2 0 (putP shF 2 0 (List.map (fun y : RSha => (y.1, y.2.1.l)) de)) false false) != (0 : Int)) = false from (by rw [got_a (sh_all (by omega))]; rfl)))] En343 fun ac344 En345 => ?_
       refine then_normal ?_
       refine c_f En345 ?_
       refine wp_skip ?_
       exact ⟨rfl, ⟨En345.sb, Hv341.pk [2, 3, 4, 5, 6, 7, 8, 9, 10]⟩⟩
      ·
       refine wp_skip ?_
       exact ⟨rfl, ⟨En312.sb, Hv308.pk [0, 1, 2, 3, 4, 5, 6, 7, 8]⟩⟩
     ·
      rintro ac346 wo347 ⟨En348, Hv349⟩
      refine then_normal ?_
      refine wp_seq ?_
      refine region_from ?_
      refine d_k [4,5,6,7,8,9,10,136] [] 1 En348 fun ac350 En351 => ?_
      refine f_o ?_
      refine m_l 8 En351 Hv349 fun ac352 En353 => ?_
      refine f_o ?_
      refine c_0 En353 Hv349 (putname_go _ da (by first | assumption | decide | omega)) ?_
      rintro _ wo357 ⟨pa354, pc355, rfl, he358⟩
      refine ⟨_, _, _, rfl, he358, rfl, fun ac360 En361 Hv362 => ?_⟩
      refine d_e [4,5,6,7,8,9,10] [] En361 fun ac363 En364 => ?_
      refine then_normal ?_
      refine wp_seq ?_
      have hlen32 : List.length (nmP da) ≤ 40000000 := Nat.le_trans (doneL_len _ _) (by simp only [wput_len, List.length_nil, List.length_singleton]; omega)
      refine region_from ?_
      refine d_k [4,5,6,7,8,9,10,140] [] 1 En364 fun ac365 En366 => ?_
      refine f_o ?_
      refine c_0 En366 Hv362 (getname_go _ pa354 (List.length (nmP da)) pc355 (nmP da) (by first | rfl | (simp; done) | (simp; omega) | omega) (bys_in Hv362.heap (k := 0) rfl [] (by kernel_rfl) rfl (by first | omega | (simp; done) | (simp; omega)))) ?_
      rintro _ wo370 ⟨bl367, rfl, he371, hpu368⟩
      refine ⟨_, _, _, rfl, he371, rfl, fun ac373 En374 Hv375 => ?_⟩
      refine d_e [4,5,6,7,8,9,10,25,26] [] En374 fun ac376 En377 => ?_
      refine then_normal ?_
      refine wp_seq ?_
      refine region_from ?_
      refine d_k [4,5,6,7,8,10,25,26,145,149] [] 6 En377 fun ac378 En379 => ?_
      rcases Bool.eq_false_or_eq_true (((List.length (nmP da) : Nat) : Int) == (0 : Int)) with hb380 | hb380
      ·
       have En381 := En379.fx (t := 149) (congrArg Value.bool hb380)
       have hp382 : ((List.length (nmP da) : Nat) : Int) = (0 : Int) := eq_of_beq hb380
       refine d_e [4,5,6,7,8,10] [] En381 fun ac383 En384 => ?_
       refine then_normal ?_
       refine wp_ret ?_
       refine d_ret1 (t := 8) (v := .bool true) En384 (by kernel_rfl) (by kernel_rfl) ?_
       exact ⟨rfl, Hv375.pk []⟩
      ·
       have En385 := En379.fx (t := 149) (congrArg Value.bool hb380)
       have hp386 : ¬ (((List.length (nmP da) : Nat) : Int) = (0 : Int)) := ne_of_beq_false hb380
       refine d_k [4,5,6,7,8,10,145,149,152,153,154] [(7, g_b (show (gotA (nmM (nmP da) false false) == (0 : Int)) = true from (by rw [got_a (nm_back (by omega))]; rfl)))] 11 En385 fun ac387 En388 => ?_
       refine f_o ?_
       refine m_l 9 En388 Hv375 fun ac389 En390 => ?_
       refine d_e [4,5,6,7,8,10] [(12, g_v (show (.bool (ByteArray.toList (bstr bl367) == ByteArray.toList (bstr da)) : Value) = .bool true by rw [Go.Dbr.bstr_eq bl367 da, show (bl367 == da) = true from (by rw [hpu368, (got_back (z := _) (nm_back (by omega))).2]; exact beq_self_eq_true _)] <;> rfl))] En390 fun ac391 En392 => ?_
       refine then_normal ?_
       refine wp_ret ?_
       refine d_ret1 (t := 8) (v := .bool true) En392 (by kernel_rfl) (by kernel_rfl) ?_
       exact ⟨rfl, Hv375.pk []⟩

end Go.Proofs.Ytofecellbfhnjaa
