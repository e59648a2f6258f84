import Derived.Test.YtofecellbfhnjaaBk14
import Derived.Test.YtofecellbfhnjaaBk7
import Derived.Test.YtofecellbfhnjaaBk11
/- Layer 17: WireBack, walked. -/




namespace Go.Proofs.Ytofecellbfhnjaa
open Go.Dbr
set_option maxRecDepth 100000
set_option maxHeartbeats 2000000
set_option linter.unusedVariables false
set_option linter.unusedSimpArgs false

theorem doneL_len (b : Bool) (l : Bs) : (doneL b l).length ≤ l.length := by
  cases b with
  | true => exact Nat.zero_le _
  | false => exact Nat.le_refl _
theorem got_a {α : Type} {q : α × PS} {x : α} (h : q = (x, [], false, false)) : gotA q = 0 := by rw [h]; rfl

theorem back_walk (ha : UInt16) (hb : List UInt8) (a_hc : Option Addr) (c_hc : Nat) (hc : List UInt8) (a_hd : Option Addr) (c_hd : Nat) (hd : List (UInt16)) (a_he : Option Addr) (c_he : Nat) (he : List ((UInt16) × (Sl UInt8) × Unit)) (a_b : Option Addr) (c_b : Nat) (b : List UInt8) (da : List UInt8) (a_db : Option Addr) (c_db : Nat) (db : List (UInt16)) (a_dc : Option Addr) (c_dc : Nat) (dc : List (List UInt8)) (a_dd : Option Addr) (c_dd : Nat) (dd : List UInt8) (a_de : Option Addr) (c_de : Nat) (de : List ((UInt16) × (Sl UInt8) × Unit)) (a_df : Option Addr) (c_df : Nat) (df : List ((Sl UInt8) × (UInt32) × (Sl UInt8) × Unit)) (a_dg : Option Addr) (c_dg : Nat) (dg : List ((UInt16) × (Sl UInt8) × Unit)) (dh : UInt16) (q : UInt16) (w : World) (n_hb : (List.length hb = 32)) (i_hc : InB w [] a_hc c_hc hc) (i_hd : InS (fun n : UInt16 => [uv16 n]) 2 (fun x : UInt16 => True) w [] a_hd c_hd hd) (i_he : InS (fun p : (UInt16) × (Sl UInt8) × Unit => (fun n : UInt16 => [uv16 n]) p.1 ++ (fun p : (Sl UInt8) × Unit => (fun s : Sl UInt8 => s.f) p.1 ++ (fun _ : Unit => []) p.2) p.2) 32 (fun x : (UInt16) × (Sl UInt8) × Unit => (True ∧ (InB w [] x.2.1.a x.2.1.c x.2.1.l ∧ (True)))) w [] a_he c_he he) (i_b : InB w [] a_b c_b b) (s_da : (List.length da ≤ 140737488351232)) (i_db : InS (fun n : UInt16 => [uv16 n]) 2 (fun x : UInt16 => True) w [] a_db c_db db) (i_dc : InS (fun l : List UInt8 => [.string (bstr l)]) 16 (fun x : List UInt8 => (List.length x ≤ 140737488351232)) w [] a_dc c_dc dc) (i_dd : InB w [] a_dd c_dd dd) (i_de : InS (fun p : (UInt16) × (Sl UInt8) × Unit => (fun n : UInt16 => [uv16 n]) p.1 ++ (fun p : (Sl UInt8) × Unit => (fun s : Sl UInt8 => s.f) p.1 ++ (fun _ : Unit => []) p.2) p.2) 32 (fun x : (UInt16) × (Sl UInt8) × Unit => (True ∧ (InB w [] x.2.1.a x.2.1.c x.2.1.l ∧ (True)))) w [] a_de c_de de) (i_df : InS (fun p : (Sl UInt8) × (UInt32) × (Sl UInt8) × Unit => (fun s : Sl UInt8 => s.f) p.1 ++ (fun p : (UInt32) × (Sl UInt8) × Unit => (fun n : UInt32 => [uv32 n]) p.1 ++ (fun p : (Sl UInt8) × Unit => (fun s : Sl UInt8 => s.f) p.1 ++ (fun _ : Unit => []) p.2) p.2) p.2) 56 (fun x : (Sl UInt8) × (UInt32) × (Sl UInt8) × Unit => (InB w [] x.1.a x.1.c x.1.l ∧ (True ∧ (InB w [] x.2.2.1.a x.2.2.1.c x.2.2.1.l ∧ (True))))) w [] a_df c_df df) (i_dg : InS (fun p : (UInt16) × (Sl UInt8) × Unit => (fun n : UInt16 => [uv16 n]) p.1 ++ (fun p : (Sl UInt8) × Unit => (fun s : Sl UInt8 => s.f) p.1 ++ (fun _ : Unit => []) p.2) p.2) 32 (fun x : (UInt16) × (Sl UInt8) × Unit => (True ∧ (InB w [] x.2.1.a x.2.1.c x.2.1.l ∧ (True)))) w [] a_dg c_dg dg) (hB : (0 + (0 + (List.length hc + ((List.map (fun x => 0 + 1) hd).sum + ((List.map (fun x => (0 + (List.length x.2.1.l + (0))) + 1) he).sum + (0)))))) + (List.length b) + (List.length da + ((List.map (fun x => 0 + 1) db).sum + ((List.map (fun x => List.length x + 1) dc).sum + (List.length dd + ((List.map (fun x => (0 + (List.length x.2.1.l + (0))) + 1) de).sum + ((List.map (fun x => (List.length x.1.l + (0 + (List.length x.2.2.1.l + (0)))) + 1) df).sum + ((List.map (fun x => (0 + (List.length x.2.1.l + (0))) + 1) dg).sum + (0 + (0))))))))) ≤ 1048576) : Calls Try.prog 9 #[.agg (List.toArray (([uv16 ha] : List Value) ++ ((bys hb) ++ ([.slice a_hc (List.length hc) c_hc, .slice a_hd (List.length hd) c_hd, .slice a_he (List.length he) c_he] : List Value)))), .slice a_b (List.length b) c_b, .agg #[.string (bstr da), .slice a_db (List.length db) c_db, .slice a_dc (List.length dc) c_dc, .slice a_dd (List.length dd) c_dd, .slice a_de (List.length de) c_de, .slice a_df (List.length df) c_df, .slice a_dg (List.length dg) c_dg, uv16 dh], uv16 q] w fun e w' => e = .returned (.bool true) ∧ Ev w [] w' [] := by
 have hz_h : (List.map (fun x => (0 + (List.length x.2.1.l + (0))) + 1) he).sum ≤ 1048576 := by omega
 have hz_hd : (List.map (fun x => 0 + 1) hd).sum ≤ 1048576 := by omega
 have hz_df : (List.map (fun x => (List.length x.1.l + (0 + (List.length x.2.2.1.l + (0)))) + 1) df).sum ≤ 1048576 := by omega
 have hq_h : List.length (allM exF (List.map (fun y : RExt => (y.1, y.2.1.l)) he)).1 ≤ 16777216 := allB_all (allB_of (g := fun y => List.length y.2) exF_l (m := (fun x : RExt => (0 + (List.length x.2.1.l + (0))) + 1)) (fun y => by show List.length y.2.1.l + 1 ≤ (0 + (List.length y.2.1.l + (0))) + 1; omega) hz_h)
 have hq_n : allB u16F (List.map (fun y : RU16 => y) hd) := allB_of (g := fun _ => 0) u16F_l (m := fun x : RU16 => 0 + 1) (fun y => by show 0 + 1 ≤ 0 + 1; omega) hz_hd
 have hq_k1F : allB k1F (List.map puPsk df) := allB_of (g := (fun y => List.length y.1 + List.length y.2.2)) k1F_l (m := (fun x : RPsk => (List.length x.1.l + (0 + (List.length x.2.2.1.l + (0)))) + 1)) (fun y => (by show List.length y.1.l + List.length y.2.2.1.l + 1 ≤ (List.length y.1.l + (0 + (List.length y.2.2.1.l + (0)))) + 1; omega)) hz_df
 have hq_k2F : allB k2F (List.map puPsk df) := allB_of (g := (fun y => List.length y.1 + List.length y.2.2)) k2F_l (m := (fun x : RPsk => (List.length x.1.l + (0 + (List.length x.2.2.1.l + (0)))) + 1)) (fun y => (by show List.length y.1.l + List.length y.2.2.1.l + 1 ≤ (List.length y.1.l + (0 + (List.length y.2.2.1.l + (0)))) + 1; omega)) hz_df
 have hl_1 := allB_all hq_k1F
 have hl_2 := allB_all hq_k2F
 have hl_n := allB_all hq_n
 have hl_h := hq_h
 rw [enc_all u16_enc] at hl_n
 rw [enc_all exF_enc] at hl_h
 dsimp only at hl_n hl_h
 refine d_0 [(0, .agg (List.toArray (([uv16 ha] : List Value) ++ ((bys hb) ++ ([.slice a_hc (List.length hc) c_hc, .slice a_hd (List.length hd) c_hd, .slice a_he (List.length he) c_he] : List Value))))), (1, .slice a_b (List.length b) c_b), (2, .agg #[.string (bstr da), .slice a_db (List.length db) c_db, .slice a_dc (List.length dc) c_dc, .slice a_dd (List.length dd) c_dd, .slice a_de (List.length de) c_de, .slice a_df (List.length df) c_df, .slice a_dg (List.length dg) c_dg, uv16 dh]), (3, uv16 q)] 138 Go.Proofs.Try.func9 Go.Proofs.Try.ntmps9 (Heap.nil _) fun act0 En0 Hv0 => ?_
 refine wp_seq ?_
 refine region_from ?_
 refine f_o ?_
 refine m_m 75 (([uv16 ha] : List Value) ++ ((bys hb) ++ ([.slice a_hc (List.length hc) c_hc, .slice a_hd (List.length hd) c_hd, .slice a_he (List.length he) c_he] : List Value))) En0 Hv0 fun ac2 wo3 bk1 En4 Hv5 => ?_
 refine f_o ?_
 refine m_m 39 [.string (bstr da), .slice a_db (List.length db) c_db, .slice a_dc (List.length dc) c_dc, .slice a_dd (List.length dd) c_dd, .slice a_de (List.length de) c_de, .slice a_df (List.length df) c_df, .slice a_dg (List.length dg) c_dg, uv16 dh] En4 Hv5 fun ac7 wo8 bk6 En9 Hv10 => ?_
 refine d_e [1,3,4,6,8] [] En9 fun ac11 En12 => ?_
 refine then_normal ?_
 refine wp_seq ?_
 refine region_from ?_
 refine f_o ?_
 refine c_p En12 Hv10 (head_ok _) fun ac17 wo14 En18 Hv19 => ?_
 refine d_e [1,3,4,6,8,9] [] En18 fun ac20 En21 => ?_
 refine then_normal ?_
 refine wp_seq ?_
 refine region_from ?_
 refine f_o ?_
 refine m_a 0 0 36 (([uv16 ha] : List Value) ++ ((bys hb) ++ ([.slice a_hc (List.length hc) c_hc, .slice a_hd (List.length hd) c_hd, .slice a_he (List.length he) c_he] : List Value))) En21 Hv19 rfl (load_whole (len_app rfl (len_app (bys_lenh n_hb) rfl))) (len_app rfl (len_app (bys_lenh n_hb) rfl)) fun ac22 En23 => ?_
 refine f_o ?_
 refine c_0 En23 Hv19 (pclient_go _ ha hb n_hb a_hc c_hc hc a_hd c_hd hd a_he c_he he ((i_hc.ev Hv19).pick [] (by kernel_rfl)) (i_hd.go Hv19 [] (by kernel_rfl) (fun _ h => h)) (i_he.go Hv19 [] (by kernel_rfl) (fun _ h => ⟨h.1, (InB.ev h.2.1 Hv19).pick [] (by kernel_rfl), h.2.2⟩)) (by assumption) (by assumption) (by omega)) ?_
 rintro _ wo27 ⟨pa24, pc25, rfl, he28⟩
 refine ⟨_, _, _, rfl, he28, rfl, fun ac30 En31 Hv32 => ?_⟩
 refine d_e [1,3,4,6,8,9,10] [] En31 fun ac33 En34 => ?_
 refine then_normal ?_
 refine wp_seq ?_
 refine wp_seq ?_
 have hlen3 : List.length (cliP (ha, hb, hc, List.map (fun y : RU16 => y) hd, List.map (fun y : RExt => (y.1, y.2.1.l)) he)) ≤ 80000000 := Nat.le_trans (doneL_len _ _) (by simp only [cliF_enc, eCl, eBg, eNs, eXs, List.length_append, wput_len, beN_len, List.length_nil, List.length_singleton]; omega)
 refine d_r [1,3,4,6,8,9,10,30] [] En34 fun ac35 En36 => ?_
 refine then_normal ?_
 refine region_cut (F := fun ac wo => Env ac 138 [(1, .slice a_b (List.length b) c_b), (3, uv16 q), (4, pt bk1), (6, pt bk6), (8, .bool false), (9, .bool true), (10, .slice pa24 (List.length (cliP (ha, hb, hc, List.map (fun y : RU16 => y) hd, List.map (fun y : RExt => (y.1, y.2.1.l)) he))) pc25)] ∧ Ev w [] wo [.vec pa24 pc25 1 (bys (cliP (ha, hb, hc, List.map (fun y : RU16 => y) hd, List.map (fun y : RExt => (y.1, y.2.1.l)) he))) 5, .box bk1 (([uv16 ha] : List Value) ++ ((bys hb) ++ ([.slice a_hc (List.length hc) c_hc, .slice a_hd (List.length hd) c_hd, .slice a_he (List.length he) c_he] : List Value))) 75, .box bk6 [.string (bstr da), .slice a_db (List.length db) c_db, .slice a_dc (List.length dc) c_dc, .slice a_dd (List.length dd) c_dd, .slice a_de (List.length de) c_de, .slice a_df (List.length df) c_df, .slice a_dg (List.length dg) c_dg, uv16 dh] 39]) ?_ ?_
 ·
  refine c_d (((List.length (cliP (ha, hb, hc, List.map (fun y : RU16 => y) hd, List.map (fun y : RExt => (y.1, y.2.1.l)) he)) : Nat) : Int) > (0 : Int)) En36 (fun hc37 => ?_) (fun hc37 => ?_)
  ·
   refine wp_seq ?_
   refine region_from ?_
   refine d_k [1,3,4,6,8,9,10,32] [] 1 En36 fun ac38 En39 => ?_
   refine f_o ?_
   refine c_0 En39 Hv32 (getclient_go _ pa24 (List.length (cliP (ha, hb, hc, List.map (fun y : RU16 => y) hd, List.map (fun y : RExt => (y.1, y.2.1.l)) he))) pc25 (cliP (ha, hb, hc, List.map (fun y : RU16 => y) hd, List.map (fun y : RExt => (y.1, y.2.1.l)) he)) (by first | rfl | (simp; done) | (simp; omega) | omega) (bys_in Hv32.heap (k := 0) rfl [] (by kernel_rfl) rfl (by first | omega | (simp; done) | (simp; omega)))) ?_
   rintro _ wo58 ⟨xva40, alb41, oac42, occ43, blc44, oad45, ocd46, xsd47, oae48, oce49, xse50, rfl, he59, hpu51, hf52, hf53, hf54, hf55, hf56⟩
   refine ⟨_, _, _, rfl, he59, rfl, fun ac61 En62 Hv63 => ?_⟩
   refine d_k [1,3,4,6,8,9,10,34,35] [] 5 En62 fun ac64 En65 => ?_
   refine f_o ?_
   refine m_z 75 (([.int .u16 0] : List Value) ++ ((bys (List.replicate 32 0)) ++ ([.slice none 0 0, .slice none 0 0, .slice none 0 0] : List Value))) En65 Hv63 fun ac67 wo68 bk66 En69 Hv70 => ?_
   refine f_o ?_
   refine m_g 7 0 36 (([uv16 xva40] : List Value) ++ ((bys alb41) ++ ([.slice oac42 (List.length blc44) occ43, .slice oad45 (List.length xsd47) ocd46, .slice oae48 (List.length xse50) oce49] : List Value))) (([uv16 xva40] : List Value) ++ ((bys alb41) ++ ([.slice oac42 (List.length blc44) occ43, .slice oad45 (List.length xsd47) ocd46, .slice oae48 (List.length xse50) oce49] : List Value))) [.vec oac42 occ43 1 (bys blc44) 5, .vec oad45 ocd46 1 (List.flatMap fU16 xsd47) 37, .vec oae48 oce49 2 (List.flatMap fExt xse50) 147, .grp (List.flatMap innExt xse50), .vec pa24 pc25 1 (bys (cliP (ha, hb, hc, List.map (fun y : RU16 => y) hd, List.map (fun y : RExt => (y.1, y.2.1.l)) he))) 5, .box bk1 (([uv16 ha] : List Value) ++ ((bys hb) ++ ([.slice a_hc (List.length hc) c_hc, .slice a_hd (List.length hd) c_hd, .slice a_he (List.length he) c_he] : List Value))) 75, .box bk6 [.string (bstr da), .slice a_db (List.length db) c_db, .slice a_dc (List.length dc) c_dc, .slice a_dd (List.length dd) c_dd, .slice a_de (List.length de) c_de, .slice a_df (List.length df) c_df, .slice a_dg (List.length dg) c_dg, uv16 dh] 39, .box bk66 (([uv16 xva40] : List Value) ++ ((bys alb41) ++ ([.slice oac42 (List.length blc44) occ43, .slice oad45 (List.length xsd47) ocd46, .slice oae48 (List.length xse50) oce49] : List Value))) 75] En69 Hv70 rfl (len_app rfl (len_app (bys_lenh hf52) rfl)) (by rw [(len_app rfl (len_app (bys_lenh (List.length_replicate)) rfl))]; first | decide | (simp; done)) (one_app (one_all (by kernel_rfl)) (one_app (bys_one _) (one_all (by kernel_rfl)))) (store_whole (len_app rfl (len_app (bys_lenh (List.length_replicate)) rfl))) rfl fun ac71 wo72 En73 Hv74 => ?_
   refine d_e [1,3,4,6,8,9,10,11,12] [] En73 fun ac75 En76 => ?_
   refine then_normal ?_
   refine wp_seq ?_
   have hmod : UInt16.toNat q % List.length (cliP (ha, hb, hc, List.map (fun y : RU16 => y) hd, List.map (fun y : RExt => (y.1, y.2.1.l)) he)) < List.length (cliP (ha, hb, hc, List.map (fun y : RU16 => y) hd, List.map (fun y : RExt => (y.1, y.2.1.l)) he)) := Nat.mod_lt _ (by omega)
   have htk : UInt16.toNat q % List.length (cliP (ha, hb, hc, List.map (fun y : RU16 => y) hd, List.map (fun y : RExt => (y.1, y.2.1.l)) he)) = List.length (List.take (UInt16.toNat q % List.length (cliP (ha, hb, hc, List.map (fun y : RU16 => y) hd, List.map (fun y : RExt => (y.1, y.2.1.l)) he))) (cliP (ha, hb, hc, List.map (fun y : RU16 => y) hd, List.map (fun y : RExt => (y.1, y.2.1.l)) he))) := by rw [List.length_take]; omega
   refine region_from ?_
   refine d_k [1,3,4,6,8,9,10,11,12,37,39,41] [(2, g_i .i64 (Go.Dbr.u16_to_i64 (x := q) rfl))] 5 En76 fun ac77 En78 => ?_
   refine f_o ?_
   refine q_v En78 (Go.Dbr.run_rem_nat (UInt16.toNat q) (List.length (cliP (ha, hb, hc, List.map (fun y : RU16 => y) hd, List.map (fun y : RExt => (y.1, y.2.1.l)) he))) (by omega) _) fun ac79 En80 => ?_
   refine f_o ?_
   have hcap81 := bys_vcap Hv74.heap (k := 4) rfl
   refine op_slice0 (d := some 43) (t := 23) (e := 5) (sz := 1) (len := List.length (cliP (ha, hb, hc, List.map (fun y : RU16 => y) hd, List.map (fun y : RExt => (y.1, y.2.1.l)) he))) (cap := pc25) (hi := (UInt16.toNat q) % (List.length (cliP (ha, hb, hc, List.map (fun y : RU16 => y) hd, List.map (fun y : RExt => (y.1, y.2.1.l)) he)))) (ao := pa24) (lov := none) (hiv := (some (.int .i64 (((UInt16.toNat q) % (List.length (cliP (ha, hb, hc, List.map (fun y : RU16 => y) hd, List.map (fun y : RExt => (y.1, y.2.1.l)) he))) : Nat) : Int)))) En80 (by kernel_rfl) (by kernel_rfl) (by kernel_rfl) (by omega) (.inl ⟨rfl, rfl⟩) (.inr ⟨.i64, rfl⟩) ?_
   intro ac82 En83
   refine f_o ?_
   refine c_0 En83 Hv74 (getclient_go _ pa24 ((UInt16.toNat q) % (List.length (cliP (ha, hb, hc, List.map (fun y : RU16 => y) hd, List.map (fun y : RExt => (y.1, y.2.1.l)) he)))) pc25 (List.take ((UInt16.toNat q) % (List.length (cliP (ha, hb, hc, List.map (fun y : RU16 => y) hd, List.map (fun y : RExt => (y.1, y.2.1.l)) he)))) (cliP (ha, hb, hc, List.map (fun y : RU16 => y) hd, List.map (fun y : RExt => (y.1, y.2.1.l)) he))) (by first | rfl | (simp; done) | (simp; omega) | omega) (bys_in_take Hv74.heap (k := 4) rfl [] (by kernel_rfl) rfl ((UInt16.toNat q) % (List.length (cliP (ha, hb, hc, List.map (fun y : RU16 => y) hd, List.map (fun y : RExt => (y.1, y.2.1.l)) he)))) (by first | decide | omega))) ?_
   rintro _ wo102 ⟨xva84, alb85, oac86, occ87, blc88, oad89, ocd90, xsd91, oae92, oce93, xse94, rfl, he103, hpu95, hf96, hf97, hf98, hf99, hf100⟩
   refine ⟨_, _, _, rfl, he103, rfl, fun ac105 En106 Hv107 => ?_⟩
   refine d_k [1,3,4,6,8,9,10,11,12,45,46] [] 11 En106 fun ac108 En109 => ?_
   refine f_o ?_
   refine m_z 75 (([.int .u16 0] : List Value) ++ ((bys (List.replicate 32 0)) ++ ([.slice none 0 0, .slice none 0 0, .slice none 0 0] : List Value))) En109 Hv107 fun ac111 wo112 bk110 En113 Hv114 => ?_
   refine f_o ?_
   refine m_g 12 0 36 (([uv16 xva84] : List Value) ++ ((bys alb85) ++ ([.slice oac86 (List.length blc88) occ87, .slice oad89 (List.length xsd91) ocd90, .slice oae92 (List.length xse94) oce93] : List Value))) (([uv16 xva84] : List Value) ++ ((bys alb85) ++ ([.slice oac86 (List.length blc88) occ87, .slice oad89 (List.length xsd91) ocd90, .slice oae92 (List.length xse94) oce93] : List Value))) [.vec oac86 occ87 1 (bys blc88) 5, .vec oad89 ocd90 1 (List.flatMap fU16 xsd91) 37, .vec oae92 oce93 2 (List.flatMap fExt xse94) 147, .grp (List.flatMap innExt xse94), .vec oac42 occ43 1 (bys blc44) 5, .vec oad45 ocd46 1 (List.flatMap fU16 xsd47) 37, .vec oae48 oce49 2 (List.flatMap fExt xse50) 147, .grp (List.flatMap innExt xse50), .vec pa24 pc25 1 (bys (cliP (ha, hb, hc, List.map (fun y : RU16 => y) hd, List.map (fun y : RExt => (y.1, y.2.1.l)) he))) 5, .box bk1 (([uv16 ha] : List Value) ++ ((bys hb) ++ ([.slice a_hc (List.length hc) c_hc, .slice a_hd (List.length hd) c_hd, .slice a_he (List.length he) c_he] : List Value))) 75, .box bk6 [.string (bstr da), .slice a_db (List.length db) c_db, .slice a_dc (List.length dc) c_dc, .slice a_dd (List.length dd) c_dd, .slice a_de (List.length de) c_de, .slice a_df (List.length df) c_df, .slice a_dg (List.length dg) c_dg, uv16 dh] 39, .box bk66 (([uv16 xva40] : List Value) ++ ((bys alb41) ++ ([.slice oac42 (List.length blc44) occ43, .slice oad45 (List.length xsd47) ocd46, .slice oae48 (List.length xse50) oce49] : List Value))) 75, .box bk110 (([uv16 xva84] : List Value) ++ ((bys alb85) ++ ([.slice oac86 (List.length blc88) occ87, .slice oad89 (List.length xsd91) ocd90, .slice oae92 (List.length xse94) oce93] : List Value))) 75] En113 Hv114 rfl (len_app rfl (len_app (bys_lenh hf96) rfl)) (by rw [(len_app rfl (len_app (bys_lenh (List.length_replicate)) rfl))]; first | decide | (simp; done)) (one_app (one_all (by kernel_rfl)) (one_app (bys_one _) (one_all (by kernel_rfl)))) (store_whole (len_app rfl (len_app (bys_lenh (List.length_replicate)) rfl))) rfl fun ac115 wo116 En117 Hv118 => ?_
   refine d_e [1,3,4,6,8,9,10,11,12,14] [] En117 fun ac119 En120 => ?_
   refine then_normal ?_
   refine wp_seq ?_
   refine region_from ?_
   refine f_o ?_
   refine m_a 11 0 36 (([uv16 xva40] : List Value) ++ ((bys alb41) ++ ([.slice oac42 (List.length blc44) occ43, .slice oad45 (List.length xsd47) ocd46, .slice oae48 (List.length xse50) oce49] : List Value))) En120 Hv118 rfl (load_whole (len_app rfl (len_app (bys_lenh hf52) rfl))) (len_app rfl (len_app (bys_lenh hf52) rfl)) fun ac121 En122 => ?_
   refine f_o ?_
   refine m_a 9 0 36 (([uv16 ha] : List Value) ++ ((bys hb) ++ ([.slice a_hc (List.length hc) c_hc, .slice a_hd (List.length hd) c_hd, .slice a_he (List.length he) c_he] : List Value))) En122 Hv118 rfl (load_whole (len_app rfl (len_app (bys_lenh n_hb) rfl))) (len_app rfl (len_app (bys_lenh n_hb) rfl)) fun ac123 En124 => ?_
   refine f_o ?_
   refine c_p En124 Hv118 (samehello_go _ xva40 alb41 oac42 occ43 blc44 oad45 ocd46 xsd47 oae48 oce49 xse50 ha hb a_hc c_hc hc a_hd c_hd hd a_he c_he he hf52 (bys_in Hv118.heap (k := 4) rfl [] (by kernel_rfl) rfl (Nat.le_trans hf53 (by decide))) (Hv118.heap.innS (k := 5) (f := fU16) (sz := 1) (by_ := 2) rfl (fun _ => rfl) (by decide) [] (by kernel_rfl) rfl (by first | omega | (simp; done) | (simp; omega)) (fun _ _ => trivial)) (Hv118.heap.innS (k := 6) (f := fExt) (sz := 2) (by_ := 32) rfl (fun _ => rfl) (by decide) [] (by kernel_rfl) rfl (by first | omega | (simp; done) | (simp; omega)) (fun y hy => ⟨trivial, Hv118.heap.innB (k := 7) rfl (List.mem_flatMap.2 ⟨y, hy, List.mem_cons_self⟩) [] (by kernel_rfl) rfl (Nat.le_trans (hf56 y hy) (by decide)), trivial⟩)) n_hb ((i_hc.ev Hv118).pick [] (by kernel_rfl)) (i_hd.go Hv118 [] (by kernel_rfl) (fun _ h => h)) (i_he.go Hv118 [] (by kernel_rfl) (fun _ h => ⟨h.1, (InB.ev h.2.1 Hv118).pick [] (by kernel_rfl), h.2.2⟩))) fun ac129 wo126 En130 Hv131 => ?_
   refine d_e [1,3,4,6,8,9,10,11,12,14,15] [(3, g_b (show (((xva40, alb41, blc44, List.map (fun y : RU16 => y) xsd47, List.map (fun y : RExt => (y.1, y.2.1.l)) xse50) == (ha, hb, hc, List.map (fun y : RU16 => y) hd, List.map (fun y : RExt => (y.1, y.2.1.l)) he))) = true from (by rw [hpu51, (got_back (z := _) (cli_back (by assumption) (by omega))).2]; exact beq_self_eq_true _)))] En130 fun ac132 En133 => ?_
   refine then_normal ?_
   refine wp_seq ?_
   refine d_r [1,3,4,6,8,9,10,11,59] [(1, g_b (show (gotA (cliM (cliP (ha, hb, hc, List.map (fun y : RU16 => y) hd, List.map (fun y : RExt => (y.1, y.2.1.l)) he)) false false) != (0 : Int)) = false from (by rw [got_a (cli_back (by assumption) (by omega))]; rfl))), (8, g_b (show (gotA (cliM (List.take ((UInt16.toNat q) % (List.length (cliP (ha, hb, hc, List.map (fun y : RU16 => y) hd, List.map (fun y : RExt => (y.1, y.2.1.l)) he)))) (cliP (ha, hb, hc, List.map (fun y : RU16 => y) hd, List.map (fun y : RExt => (y.1, y.2.1.l)) he))) false false) != (50 : Int)) = false from (by rw [cli_cut (by rw [(cli_back (by assumption) (by omega))]) (Nat.mod_lt _ (by omega))]; rfl)))] En133 fun ac134 En135 => ?_
   refine then_normal ?_
   refine c_f En135 ?_
   refine wp_skip ?_
   exact ⟨rfl, ⟨En135.sb, Hv131.pk [8, 9, 10]⟩⟩
  ·
   refine wp_skip ?_
   exact ⟨rfl, ⟨En36.sb, Hv32.pk [0, 1, 2]⟩⟩
 ·
  rintro ac136 wo137 ⟨En138, Hv139⟩
  refine then_normal ?_
  refine wp_seq ?_
  refine region_from ?_
  refine d_k [1,3,4,6,8,9,10,61] [] 1 En138 fun ac140 En141 => ?_
  refine f_o ?_
  refine c_0 En141 Hv139 (getclient_go _ a_b (List.length b) c_b b (by first | rfl | (simp; done) | (simp; omega) | omega) ((i_b.ev Hv139).pick [] (by kernel_rfl))) ?_
  rintro _ wo160 ⟨xva142, alb143, oac144, occ145, blc146, oad147, ocd148, xsd149, oae150, oce151, xse152, rfl, he161, hpu153, hf154, hf155, hf156, hf157, hf158⟩
  refine ⟨_, _, _, rfl, he161, rfl, fun ac163 En164 Hv165 => ?_⟩
  refine d_k [1,3,4,6,8,9,10,63,64] [] 5 En164 fun ac166 En167 => ?_
  refine f_o ?_
  refine m_z 75 (([.int .u16 0] : List Value) ++ ((bys (List.replicate 32 0)) ++ ([.slice none 0 0, .slice none 0 0, .slice none 0 0] : List Value))) En167 Hv165 fun ac169 wo170 bk168 En171 Hv172 => ?_
  refine f_o ?_
  refine m_g 7 0 36 (([uv16 xva142] : List Value) ++ ((bys alb143) ++ ([.slice oac144 (List.length blc146) occ145, .slice oad147 (List.length xsd149) ocd148, .slice oae150 (List.length xse152) oce151] : List Value))) (([uv16 xva142] : List Value) ++ ((bys alb143) ++ ([.slice oac144 (List.length blc146) occ145, .slice oad147 (List.length xsd149) ocd148, .slice oae150 (List.length xse152) oce151] : List Value))) [.vec oac144 occ145 1 (bys blc146) 5, .vec oad147 ocd148 1 (List.flatMap fU16 xsd149) 37, .vec oae150 oce151 2 (List.flatMap fExt xse152) 147, .grp (List.flatMap innExt xse152), .vec pa24 pc25 1 (bys (cliP (ha, hb, hc, List.map (fun y : RU16 => y) hd, List.map (fun y : RExt => (y.1, y.2.1.l)) he))) 5, .box bk1 (([uv16 ha] : List Value) ++ ((bys hb) ++ ([.slice a_hc (List.length hc) c_hc, .slice a_hd (List.length hd) c_hd, .slice a_he (List.length he) c_he] : List Value))) 75, .box bk6 [.string (bstr da), .slice a_db (List.length db) c_db, .slice a_dc (List.length dc) c_dc, .slice a_dd (List.length dd) c_dd, .slice a_de (List.length de) c_de, .slice a_df (List.length df) c_df, .slice a_dg (List.length dg) c_dg, uv16 dh] 39, .box bk168 (([uv16 xva142] : List Value) ++ ((bys alb143) ++ ([.slice oac144 (List.length blc146) occ145, .slice oad147 (List.length xsd149) ocd148, .slice oae150 (List.length xse152) oce151] : List Value))) 75] En171 Hv172 rfl (len_app rfl (len_app (bys_lenh hf154) rfl)) (by rw [(len_app rfl (len_app (bys_lenh (List.length_replicate)) rfl))]; first | decide | (simp; done)) (one_app (one_all (by kernel_rfl)) (one_app (bys_one _) (one_all (by kernel_rfl)))) (store_whole (len_app rfl (len_app (bys_lenh (List.length_replicate)) rfl))) rfl fun ac173 wo174 En175 Hv176 => ?_
  refine d_e [1,3,4,6,8,9,10,16,17] [] En175 fun ac177 En178 => ?_
  refine then_normal ?_
  refine wp_seq ?_
  refine wp_seq ?_
  rcases Bool.eq_false_or_eq_true (gotA (cliM b false false) == (0 : Int)) with hb179 | hb179
  ·
   have hb179p : gotA (cliM b false false) = (0 : Int) := eq_of_beq hb179
   refine r_c (fun ac wo => Env ac 138 [(1, .slice a_b (List.length b) c_b), (3, uv16 q), (4, pt bk1), (6, pt bk6), (8, .bool false), (9, .bool true), (10, .slice pa24 (List.length (cliP (ha, hb, hc, List.map (fun y : RU16 => y) hd, List.map (fun y : RExt => (y.1, y.2.1.l)) he))) pc25), (16, pt bk168), (17, .int .i64 (gotA (cliM b false false))), (74, .bool false)] ∧ Ev w [] wo [.vec oac144 occ145 1 (bys blc146) 5, .vec oad147 ocd148 1 (List.flatMap fU16 xsd149) 37, .vec oae150 oce151 2 (List.flatMap fExt xse152) 147, .grp (List.flatMap innExt xse152), .vec pa24 pc25 1 (bys (cliP (ha, hb, hc, List.map (fun y : RU16 => y) hd, List.map (fun y : RExt => (y.1, y.2.1.l)) he))) 5, .box bk1 (([uv16 ha] : List Value) ++ ((bys hb) ++ ([.slice a_hc (List.length hc) c_hc, .slice a_hd (List.length hd) c_hd, .slice a_he (List.length he) c_he] : List Value))) 75, .box bk6 [.string (bstr da), .slice a_db (List.length db) c_db, .slice a_dc (List.length dc) c_dc, .slice a_dd (List.length dd) c_dd, .slice a_de (List.length de) c_de, .slice a_df (List.length df) c_df, .slice a_dg (List.length dg) c_dg, uv16 dh] 39, .box bk168 (([uv16 xva142] : List Value) ++ ((bys alb143) ++ ([.slice oac144 (List.length blc146) occ145, .slice oad147 (List.length xsd149) ocd148, .slice oae150 (List.length xse152) oce151] : List Value))) 75]) ?_ ?_
   ·
    refine h_s (fun wv => Ev w [] wv [.box bk168 (([uv16 xva142] : List Value) ++ ((bys alb143) ++ ([.slice oac144 (List.length blc146) occ145, .slice oad147 (List.length xsd149) ocd148, .slice oae150 (List.length xse152) oce151] : List Value))) 75]) [] 10 ?_
    have wo180 := Hv176.trans (Ev.drew Hv176.heap)
    refine q_s [0,1,2] [] 7 En178 (wo180.pk [7]) fun ac269 En270 => ?_
    have En271 := En270.fx (t := 66) (congrArg Value.bool hb179)
    have En272 := En271.fx (t := 67) (congrArg Value.bool hb179)
    refine q_r 3 (s := Instr.loadAt 75 (pt bk168)) (v := .agg (List.toArray (([uv16 xva142] : List Value) ++ ((bys alb143) ++ ([.slice oac144 (List.length blc146) occ145, .slice oad147 (List.length xsd149) ocd148, .slice oae150 (List.length xse152) oce151] : List Value))))) En272 (fun w hS => run_loadAgg2 (m := 36) (cs := ([uv16 xva142] : List Value) ++ ((bys alb143) ++ ([.slice oac144 (List.length blc146) occ145, .slice oad147 (List.length xsd149) ocd148, .slice oae150 (List.length xse152) oce151] : List Value))) (len_app rfl (len_app (bys_lenh hf154) rfl)) (by kernel_rfl) (by kernel_rfl) (hS.heap.cells (k := 0) (off := 0) (m := 36) rfl (load_whole (len_app rfl (len_app (bys_lenh hf154) rfl))))) (wo180.pk [7]) fun ac273 En274 => ?_
    refine q_s [6] [] 5 En274 (wo180.pk [7]) fun ac275 En276 => ?_
    refine q_r 7 (s := convert 23 9 (.slice a_b (List.length b) c_b)) (v := .string (bstr b)) En276 (fun w hS => run_str2 (e := 5) (bs := b) rfl (by kernel_rfl) (by kernel_rfl) (by kernel_rfl) (i_b.ev hS).reads i_b.nz) (wo180.pk [7]) fun ac277 En278 => ?_
    refine q_t 4 ?_
    have hsz279 := cli_sz (l := b) (by assumption)
    rw [← gotV_0 (by assumption), ← hpu153] at hsz279
    dsimp only at hsz279
    have hqahsz279 := Nat.le_trans hsz279.1 (show List.length b ≤ 16777216 by omega)
    have hqbhsz279 := allB_m u16_mono (Nat.le_trans hsz279.2.1 (show List.length b ≤ 16777216 by omega))
    have hqchsz279 := hsz279.2.2
    refine c_0 En278 wo180 (pclient_go _ xva142 alb143 hf154 oac144 occ145 blc146 oad147 ocd148 xsd149 oae150 oce151 xse152 (bys_in wo180.heap (k := 0) rfl [] (by kernel_rfl) rfl (by first | omega | (simp; done) | (simp; omega))) (wo180.heap.innS (k := 1) (f := fU16) (sz := 1) (by_ := 2) rfl (fun _ => rfl) (by decide) [] (by kernel_rfl) rfl (by first | omega | (simp; done) | (simp; omega)) (fun _ _ => trivial)) (wo180.heap.innS (k := 2) (f := fExt) (sz := 2) (by_ := 32) rfl (fun _ => rfl) (by decide) [] (by kernel_rfl) rfl (by first | omega | (simp; done) | (simp; omega)) (fun y hy => ⟨trivial, wo180.heap.innB (k := 3) rfl (List.mem_flatMap.2 ⟨y, hy, List.mem_cons_self⟩) [] (by kernel_rfl) rfl (Nat.le_trans (hf158 y hy) (by decide)), trivial⟩)) (by assumption) (by assumption) (by omega)) ?_
    rintro _ wo283 ⟨pa280, pc281, rfl, he284⟩
    refine ⟨_, _, _, rfl, he284, rfl, fun ac286 En287 Hv288 => ?_⟩
    refine ⟨fun _ => Hv288.pk [8], ?_⟩
    refine q_t 5 ?_
    refine op_str (d := some 70) (src := 23) (dst := 9) (e := 5) (ao := pa280) (cap := pc281) (p := List.length (cliP (xva142, alb143, blc146, List.map (fun y : RU16 => y) xsd149, List.map (fun y : RExt => (y.1, y.2.1.l)) xse152))) (bs := cliP (xva142, alb143, blc146, List.map (fun y : RU16 => y) xsd149, List.map (fun y : RExt => (y.1, y.2.1.l)) xse152)) En287 (by kernel_rfl) rfl (by kernel_rfl) (by kernel_rfl) (by kernel_rfl) (Hv288.heap.reads (k := 0) rfl) (bys_vnz Hv288.heap (k := 0) rfl) ?_
    intro ac289 En290
    refine ⟨fun _ => Hv288.pk [8], ?_⟩
    refine q_s [8,9] [(8, g_v (show (.bool (!(ByteArray.toList (bstr (cliP (xva142, alb143, blc146, List.map (fun y : RU16 => y) xsd149, List.map (fun y : RExt => (y.1, y.2.1.l)) xse152))) == ByteArray.toList (bstr b))) : Value) = .bool false by rw [Go.Dbr.bstr_eq (cliP (xva142, alb143, blc146, List.map (fun y : RU16 => y) xsd149, List.map (fun y : RExt => (y.1, y.2.1.l)) xse152)) b, show (!((cliP (xva142, alb143, blc146, List.map (fun y : RU16 => y) xsd149, List.map (fun y : RExt => (y.1, y.2.1.l)) xse152)) == b)) = false from (by rw [hpu153.trans (gotV_0 (by assumption)), cli_rev (by assumption)]; first | exact bne_self_eq_false _ | exact nbeq_self _ | rfl)] <;> rfl))] 0 En290 (Hv288.pk [8]) fun ac291 En292 => ?_
    exact h_e ⟨En292.sb, Hv288.pk [1, 2, 3, 4, 5, 6, 7, 8]⟩
   rintro ac293 wo294 ⟨En295, Hv296⟩
   refine then_normal ?_
   refine c_f En295 ?_
   refine wp_skip ?_
   refine then_normal ?_
   refine wp_seq ?_
   refine region_from ?_
   refine d_k [1,3,4,6,8,9,10,16,17,76] [] 1 En295 fun ac297 En298 => ?_
   refine f_o ?_
   refine c_0 En298 Hv296 (getserver_go _ a_b (List.length b) c_b b (by first | rfl | (simp; done) | (simp; omega) | omega) ((i_b.ev Hv296).pick [] (by kernel_rfl))) ?_
   rintro _ wo317 ⟨xva299, alb300, oac301, occ302, blc303, oad304, ocd305, xsd306, oae307, oce308, xse309, rfl, he318, hpu310, hf311, hf312, hf313, hf314, hf315⟩
   refine ⟨_, _, _, rfl, he318, rfl, fun ac320 En321 Hv322 => ?_⟩
   refine d_k [1,3,4,6,8,9,10,16,17,78,79] [] 5 En321 fun ac323 En324 => ?_
   refine f_o ?_
   refine m_z 75 (([.int .u16 0] : List Value) ++ ((bys (List.replicate 32 0)) ++ ([.slice none 0 0, .slice none 0 0, .slice none 0 0] : List Value))) En324 Hv322 fun ac326 wo327 bk325 En328 Hv329 => ?_
   refine f_o ?_
   refine m_g 12 0 36 (([uv16 xva299] : List Value) ++ ((bys alb300) ++ ([.slice oac301 (List.length blc303) occ302, .slice oad304 (List.length xsd306) ocd305, .slice oae307 (List.length xse309) oce308] : List Value))) (([uv16 xva299] : List Value) ++ ((bys alb300) ++ ([.slice oac301 (List.length blc303) occ302, .slice oad304 (List.length xsd306) ocd305, .slice oae307 (List.length xse309) oce308] : List Value))) [.vec oac301 occ302 1 (bys blc303) 5, .vec oad304 ocd305 1 (List.flatMap fU16 xsd306) 37, .vec oae307 oce308 2 (List.flatMap fExt xse309) 147, .grp (List.flatMap innExt xse309), .vec oac144 occ145 1 (bys blc146) 5, .vec oad147 ocd148 1 (List.flatMap fU16 xsd149) 37, .vec oae150 oce151 2 (List.flatMap fExt xse152) 147, .grp (List.flatMap innExt xse152), .vec pa24 pc25 1 (bys (cliP (ha, hb, hc, List.map (fun y : RU16 => y) hd, List.map (fun y : RExt => (y.1, y.2.1.l)) he))) 5, .box bk1 (([uv16 ha] : List Value) ++ ((bys hb) ++ ([.slice a_hc (List.length hc) c_hc, .slice a_hd (List.length hd) c_hd, .slice a_he (List.length he) c_he] : List Value))) 75, .box bk6 [.string (bstr da), .slice a_db (List.length db) c_db, .slice a_dc (List.length dc) c_dc, .slice a_dd (List.length dd) c_dd, .slice a_de (List.length de) c_de, .slice a_df (List.length df) c_df, .slice a_dg (List.length dg) c_dg, uv16 dh] 39, .box bk168 (([uv16 xva142] : List Value) ++ ((bys alb143) ++ ([.slice oac144 (List.length blc146) occ145, .slice oad147 (List.length xsd149) ocd148, .slice oae150 (List.length xse152) oce151] : List Value))) 75, .box bk325 (([uv16 xva299] : List Value) ++ ((bys alb300) ++ ([.slice oac301 (List.length blc303) occ302, .slice oad304 (List.length xsd306) ocd305, .slice oae307 (List.length xse309) oce308] : List Value))) 75] En328 Hv329 rfl (len_app rfl (len_app (bys_lenh hf311) rfl)) (by rw [(len_app rfl (len_app (bys_lenh (List.length_replicate)) rfl))]; first | decide | (simp; done)) (one_app (one_all (by kernel_rfl)) (one_app (bys_one _) (one_all (by kernel_rfl)))) (store_whole (len_app rfl (len_app (bys_lenh (List.length_replicate)) rfl))) rfl fun ac330 wo331 En332 Hv333 => ?_
   refine d_e [1,3,4,6,8,9,10,16,17,18] [] En332 fun ac334 En335 => ?_
   refine then_normal ?_
   refine wp_seq ?_
   refine wp_seq ?_
   rcases Bool.eq_false_or_eq_true (gotA (srvM b false false) == (0 : Int)) with hb336 | hb336
   ·
    have hb336p : gotA (srvM b false false) = (0 : Int) := eq_of_beq hb336
    refine r_c (fun ac wo => Env ac 138 [(1, .slice a_b (List.length b) c_b), (3, uv16 q), (4, pt bk1), (6, pt bk6), (8, .bool false), (9, .bool true), (10, .slice pa24 (List.length (cliP (ha, hb, hc, List.map (fun y : RU16 => y) hd, List.map (fun y : RExt => (y.1, y.2.1.l)) he))) pc25), (16, pt bk168), (17, .int .i64 (gotA (srvM b false false))), (18, pt bk325), (89, .bool false)] ∧ Ev w [] wo [.vec oac301 occ302 1 (bys blc303) 5, .vec oad304 ocd305 1 (List.flatMap fU16 xsd306) 37, .vec oae307 oce308 2 (List.flatMap fExt xse309) 147, .grp (List.flatMap innExt xse309), .vec oac144 occ145 1 (bys blc146) 5, .vec oad147 ocd148 1 (List.flatMap fU16 xsd149) 37, .vec oae150 oce151 2 (List.flatMap fExt xse152) 147, .grp (List.flatMap innExt xse152), .vec pa24 pc25 1 (bys (cliP (ha, hb, hc, List.map (fun y : RU16 => y) hd, List.map (fun y : RExt => (y.1, y.2.1.l)) he))) 5, .box bk1 (([uv16 ha] : List Value) ++ ((bys hb) ++ ([.slice a_hc (List.length hc) c_hc, .slice a_hd (List.length hd) c_hd, .slice a_he (List.length he) c_he] : List Value))) 75, .box bk6 [.string (bstr da), .slice a_db (List.length db) c_db, .slice a_dc (List.length dc) c_dc, .slice a_dd (List.length dd) c_dd, .slice a_de (List.length de) c_de, .slice a_df (List.length df) c_df, .slice a_dg (List.length dg) c_dg, uv16 dh] 39, .box bk168 (([uv16 xva142] : List Value) ++ ((bys alb143) ++ ([.slice oac144 (List.length blc146) occ145, .slice oad147 (List.length xsd149) ocd148, .slice oae150 (List.length xse152) oce151] : List Value))) 75, .box bk325 (([uv16 xva299] : List Value) ++ ((bys alb300) ++ ([.slice oac301 (List.length blc303) occ302, .slice oad304 (List.length xsd306) ocd305, .slice oae307 (List.length xse309) oce308] : List Value))) 75]) ?_ ?_
    ·
     refine h_s (fun wv => Ev w [] wv [.box bk325 (([uv16 xva299] : List Value) ++ ((bys alb300) ++ ([.slice oac301 (List.length blc303) occ302, .slice oad304 (List.length xsd306) ocd305, .slice oae307 (List.length xse309) oce308] : List Value))) 75]) [] 10 ?_
     have wo337 := Hv333.trans (Ev.drew Hv333.heap)
     refine q_s [0,1,2] [] 7 En335 (wo337.pk [12]) fun ac426 En427 => ?_
     have En428 := En427.fx (t := 81) (congrArg Value.bool hb336)
     have En429 := En428.fx (t := 82) (congrArg Value.bool hb336)
     refine q_r 3 (s := Instr.loadAt 75 (pt bk325)) (v := .agg (List.toArray (([uv16 xva299] : List Value) ++ ((bys alb300) ++ ([.slice oac301 (List.length blc303) occ302, .slice oad304 (List.length xsd306) ocd305, .slice oae307 (List.length xse309) oce308] : List Value))))) En429 (fun w hS => run_loadAgg2 (m := 36) (cs := ([uv16 xva299] : List Value) ++ ((bys alb300) ++ ([.slice oac301 (List.length blc303) occ302, .slice oad304 (List.length xsd306) ocd305, .slice oae307 (List.length xse309) oce308] : List Value))) (len_app rfl (len_app (bys_lenh hf311) rfl)) (by kernel_rfl) (by kernel_rfl) (hS.heap.cells (k := 0) (off := 0) (m := 36) rfl (load_whole (len_app rfl (len_app (bys_lenh hf311) rfl))))) (wo337.pk [12]) fun ac430 En431 => ?_
     refine q_s [6] [] 5 En431 (wo337.pk [12]) fun ac432 En433 => ?_
     refine q_r 7 (s := convert 23 9 (.slice a_b (List.length b) c_b)) (v := .string (bstr b)) En433 (fun w hS => run_str2 (e := 5) (bs := b) rfl (by kernel_rfl) (by kernel_rfl) (by kernel_rfl) (i_b.ev hS).reads i_b.nz) (wo337.pk [12]) fun ac434 En435 => ?_
     refine q_t 4 ?_
     have hsz436 := srv_sz (l := b) (by assumption)
     rw [← gotV_0 (by assumption), ← hpu310] at hsz436
     dsimp only at hsz436
     have hqahsz436 := Nat.le_trans hsz436.1 (show List.length b ≤ 16777216 by omega)
     have hqbhsz436 := allB_m u16_mono (Nat.le_trans hsz436.2.1 (show 2 ≤ 16777216 by omega))
     have hqchsz436 := hsz436.2.2
     refine c_0 En435 wo337 (pserver_go _ xva299 alb300 hf311 oac301 occ302 blc303 oad304 ocd305 xsd306 oae307 oce308 xse309 (bys_in wo337.heap (k := 0) rfl [] (by kernel_rfl) rfl (by first | omega | (simp; done) | (simp; omega))) (wo337.heap.innS (k := 1) (f := fU16) (sz := 1) (by_ := 2) rfl (fun _ => rfl) (by decide) [] (by kernel_rfl) rfl (by first | omega | (simp; done) | (simp; omega)) (fun _ _ => trivial)) (wo337.heap.innS (k := 2) (f := fExt) (sz := 2) (by_ := 32) rfl (fun _ => rfl) (by decide) [] (by kernel_rfl) rfl (by first | omega | (simp; done) | (simp; omega)) (fun y hy => ⟨trivial, wo337.heap.innB (k := 3) rfl (List.mem_flatMap.2 ⟨y, hy, List.mem_cons_self⟩) [] (by kernel_rfl) rfl (Nat.le_trans (hf315 y hy) (by decide)), trivial⟩)) (by assumption) (by assumption) (by omega)) ?_
     rintro _ wo440 ⟨pa437, pc438, rfl, he441⟩
     refine ⟨_, _, _, rfl, he441, rfl, fun ac443 En444 Hv445 => ?_⟩
     refine ⟨fun _ => Hv445.pk [13], ?_⟩
     refine q_t 5 ?_
     refine op_str (d := some 85) (src := 23) (dst := 9) (e := 5) (ao := pa437) (cap := pc438) (p := List.length (srvP (xva299, alb300, blc303, List.map (fun y : RU16 => y) xsd306, List.map (fun y : RExt => (y.1, y.2.1.l)) xse309))) (bs := srvP (xva299, alb300, blc303, List.map (fun y : RU16 => y) xsd306, List.map (fun y : RExt => (y.1, y.2.1.l)) xse309)) En444 (by kernel_rfl) rfl (by kernel_rfl) (by kernel_rfl) (by kernel_rfl) (Hv445.heap.reads (k := 0) rfl) (bys_vnz Hv445.heap (k := 0) rfl) ?_
     intro ac446 En447
     refine ⟨fun _ => Hv445.pk [13], ?_⟩
     refine q_s [8,9] [(8, g_v (show (.bool (!(ByteArray.toList (bstr (srvP (xva299, alb300, blc303, List.map (fun y : RU16 => y) xsd306, List.map (fun y : RExt => (y.1, y.2.1.l)) xse309))) == ByteArray.toList (bstr b))) : Value) = .bool false by rw [Go.Dbr.bstr_eq (srvP (xva299, alb300, blc303, List.map (fun y : RU16 => y) xsd306, List.map (fun y : RExt => (y.1, y.2.1.l)) xse309)) b, show (!((srvP (xva299, alb300, blc303, List.map (fun y : RU16 => y) xsd306, List.map (fun y : RExt => (y.1, y.2.1.l)) xse309)) == b)) = false from (by rw [hpu310.trans (gotV_0 (by assumption)), srv_rev (by assumption)]; first | exact bne_self_eq_false _ | exact nbeq_self _ | rfl)] <;> rfl))] 0 En447 (Hv445.pk [13]) fun ac448 En449 => ?_
     exact h_e ⟨En449.sb, Hv445.pk [1, 2, 3, 4, 5, 6, 7, 8, 9, 10, 11, 12, 13]⟩
    rintro ac450 wo451 ⟨En452, Hv453⟩
    refine then_normal ?_
    refine c_f En452 ?_
    refine wp_skip ?_
    refine then_normal ?_
    refine wp_seq ?_
    refine region_from ?_
    refine d_k [1,3,4,6,8,9,10,16,17,18,91] [] 1 En452 fun ac454 En455 => ?_
    refine f_o ?_
    refine c_0 En455 Hv453 (getcert_go _ a_b (List.length b) c_b b (by first | rfl | (simp; done) | (simp; omega) | omega) ((i_b.ev Hv453).pick [] (by kernel_rfl))) ?_
    rintro _ wo467 ⟨oaa456, oca457, bla458, oab459, ocb460, xsb461, rfl, he468, hpu462, hf463, hf464, hf465⟩
    refine ⟨_, _, _, rfl, he468, rfl, fun ac470 En471 Hv472 => ?_⟩
    refine d_k [1,3,4,6,8,9,10,16,17,18,93,94] [] 5 En471 fun ac473 En474 => ?_
    refine f_o ?_
    refine m_z 83 [.slice none 0 0, .slice none 0 0] En474 Hv472 fun ac476 wo477 bk475 En478 Hv479 => ?_
    refine f_o ?_
    refine m_g 16 0 2 [.slice oaa456 (List.length bla458) oca457, .slice oab459 (List.length xsb461) ocb460] [.slice oaa456 (List.length bla458) oca457, .slice oab459 (List.length xsb461) ocb460] [.vec oaa456 oca457 1 (bys bla458) 5, .vec oab459 ocb460 2 (List.flatMap fCer xsb461) 196, .grp (List.flatMap innCer xsb461), .vec oac301 occ302 1 (bys blc303) 5, .vec oad304 ocd305 1 (List.flatMap fU16 xsd306) 37, .vec oae307 oce308 2 (List.flatMap fExt xse309) 147, .grp (List.flatMap innExt xse309), .vec oac144 occ145 1 (bys blc146) 5, .vec oad147 ocd148 1 (List.flatMap fU16 xsd149) 37, .vec oae150 oce151 2 (List.flatMap fExt xse152) 147, .grp (List.flatMap innExt xse152), .vec pa24 pc25 1 (bys (cliP (ha, hb, hc, List.map (fun y : RU16 => y) hd, List.map (fun y : RExt => (y.1, y.2.1.l)) he))) 5, .box bk1 (([uv16 ha] : List Value) ++ ((bys hb) ++ ([.slice a_hc (List.length hc) c_hc, .slice a_hd (List.length hd) c_hd, .slice a_he (List.length he) c_he] : List Value))) 75, .box bk6 [.string (bstr da), .slice a_db (List.length db) c_db, .slice a_dc (List.length dc) c_dc, .slice a_dd (List.length dd) c_dd, .slice a_de (List.length de) c_de, .slice a_df (List.length df) c_df, .slice a_dg (List.length dg) c_dg, uv16 dh] 39, .box bk168 (([uv16 xva142] : List Value) ++ ((bys alb143) ++ ([.slice oac144 (List.length blc146) occ145, .slice oad147 (List.length xsd149) ocd148, .slice oae150 (List.length xse152) oce151] : List Value))) 75, .box bk325 (([uv16 xva299] : List Value) ++ ((bys alb300) ++ ([.slice oac301 (List.length blc303) occ302, .slice oad304 (List.length xsd306) ocd305, .slice oae307 (List.length xse309) oce308] : List Value))) 75, .box bk475 [.slice oaa456 (List.length bla458) oca457, .slice oab459 (List.length xsb461) ocb460] 83] En478 Hv479 rfl rfl (by simp) (one_all (by kernel_rfl)) rfl rfl fun ac480 wo481 En482 Hv483 => ?_
    refine d_e [1,3,4,6,8,9,10,16,17,18,19] [] En482 fun ac484 En485 => ?_
    refine then_normal ?_
    refine wp_seq ?_
    refine wp_seq ?_
    rcases Bool.eq_false_or_eq_true (gotA (certM b false false) == (0 : Int)) with hb486 | hb486
    ·
     have hb486p : gotA (certM b false false) = (0 : Int) := eq_of_beq hb486
     refine r_c (fun ac wo => Env ac 138 [(1, .slice a_b (List.length b) c_b), (3, uv16 q), (4, pt bk1), (6, pt bk6), (8, .bool false), (9, .bool true), (10, .slice pa24 (List.length (cliP (ha, hb, hc, List.map (fun y : RU16 => y) hd, List.map (fun y : RExt => (y.1, y.2.1.l)) he))) pc25), (16, pt bk168), (17, .int .i64 (gotA (certM b false false))), (18, pt bk325), (19, pt bk475), (104, .bool false)] ∧ Ev w [] wo [.vec oaa456 oca457 1 (bys bla458) 5, .vec oab459 ocb460 2 (List.flatMap fCer xsb461) 196, .grp (List.flatMap innCer xsb461), .vec oac301 occ302 1 (bys blc303) 5, .vec oad304 ocd305 1 (List.flatMap fU16 xsd306) 37, .vec oae307 oce308 2 (List.flatMap fExt xse309) 147, .grp (List.flatMap innExt xse309), .vec oac144 occ145 1 (bys blc146) 5, .vec oad147 ocd148 1 (List.flatMap fU16 xsd149) 37, .vec oae150 oce151 2 (List.flatMap fExt xse152) 147, .grp (List.flatMap innExt xse152), .vec pa24 pc25 1 (bys (cliP (ha, hb, hc, List.map (fun y : RU16 => y) hd, List.map (fun y : RExt => (y.1, y.2.1.l)) he))) 5, .box bk1 (([uv16 ha] : List Value) ++ ((bys hb) ++ ([.slice a_hc (List.length hc) c_hc, .slice a_hd (List.length hd) c_hd, .slice a_he (List.length he) c_he] : List Value))) 75, .box bk6 [.string (bstr da), .slice a_db (List.length db) c_db, .slice a_dc (List.length dc) c_dc, .slice a_dd (List.length dd) c_dd, .slice a_de (List.length de) c_de, .slice a_df (List.length df) c_df, .slice a_dg (List.length dg) c_dg, uv16 dh] 39, .box bk168 (([uv16 xva142] : List Value) ++ ((bys alb143) ++ ([.slice oac144 (List.length blc146) occ145, .slice oad147 (List.length xsd149) ocd148, .slice oae150 (List.length xse152) oce151] : List Value))) 75, .box bk325 (([uv16 xva299] : List Value) ++ ((bys alb300) ++ ([.slice oac301 (List.length blc303) occ302, .slice oad304 (List.length xsd306) ocd305, .slice oae307 (List.length xse309) oce308] : List Value))) 75, .box bk475 [.slice oaa456 (List.length bla458) oca457, .slice oab459 (List.length xsb461) ocb460] 83]) ?_ ?_
     ·
      refine h_s (fun wv => Ev w [] wv [.box bk475 [.slice oaa456 (List.length bla458) oca457, .slice oab459 (List.length xsb461) ocb460] 83]) [] 10 ?_
      have wo487 := Hv483.trans (Ev.drew Hv483.heap)
      refine q_s [0,1,2] [] 7 En485 (wo487.pk [16]) fun ac576 En577 => ?_
      have En578 := En577.fx (t := 96) (congrArg Value.bool hb486)
      have En579 := En578.fx (t := 97) (congrArg Value.bool hb486)
      refine q_r 3 (s := Instr.loadAt 83 (pt bk475)) (v := .agg #[.slice oaa456 (List.length bla458) oca457, .slice oab459 (List.length xsb461) ocb460]) En579 (fun w hS => run_loadAgg2 (m := 2) (cs := [.slice oaa456 (List.length bla458) oca457, .slice oab459 (List.length xsb461) ocb460]) rfl (by kernel_rfl) (by kernel_rfl) (hS.heap.cells (k := 0) (off := 0) (m := 2) rfl rfl)) (wo487.pk [16]) fun ac580 En581 => ?_
      refine q_s [6] [] 5 En581 (wo487.pk [16]) fun ac582 En583 => ?_
      refine q_r 7 (s := convert 23 9 (.slice a_b (List.length b) c_b)) (v := .string (bstr b)) En583 (fun w hS => run_str2 (e := 5) (bs := b) rfl (by kernel_rfl) (by kernel_rfl) (by kernel_rfl) (i_b.ev hS).reads i_b.nz) (wo487.pk [16]) fun ac584 En585 => ?_
      refine q_t 4 ?_
      have hsz586 := cert_sz (l := b) (by assumption)
      rw [← gotV_0 (by assumption), ← hpu462] at hsz586
      dsimp only at hsz586
      have hqahsz586 := allB_m cr_mono (Nat.le_trans hsz586 (show List.length b ≤ 16777216 by omega))
      refine c_0 En585 wo487 (pcert_go _ oaa456 oca457 bla458 oab459 ocb460 xsb461 (bys_in wo487.heap (k := 0) rfl [] (by kernel_rfl) rfl (by first | omega | (simp; done) | (simp; omega))) (wo487.heap.innS (k := 1) (f := fCer) (sz := 2) (by_ := 48) rfl (fun _ => rfl) (by decide) [] (by kernel_rfl) rfl (by first | omega | (simp; done) | (simp; omega)) (fun y hy => ⟨wo487.heap.innB (k := 2) rfl (List.mem_flatMap.2 ⟨y, hy, List.mem_cons_self⟩) [] (by kernel_rfl) rfl (Nat.le_trans (hf465 y hy).1 (by decide)), innL wo487.heap (k := 2) (f := fExt) (sz := 2) (by_ := 32) rfl (List.mem_flatMap.2 ⟨y, hy, List.mem_cons_of_mem _ List.mem_cons_self⟩) (fun _ => rfl) (by decide) [] (by kernel_rfl) rfl (by have := (hf465 y hy).2.1; omega) (fun z hz => ⟨trivial, wo487.heap.innB (k := 2) rfl (List.mem_flatMap.2 ⟨y, hy, List.mem_cons_of_mem _ (List.mem_cons_of_mem _ (List.mem_flatMap.2 ⟨z, hz, List.mem_cons_self⟩))⟩) [] (by kernel_rfl) rfl (Nat.le_trans ((hf465 y hy).2.2 z hz) (by decide)), trivial⟩), trivial⟩)) (by assumption)) ?_
      rintro _ wo590 ⟨pa587, pc588, rfl, he591⟩
      refine ⟨_, _, _, rfl, he591, rfl, fun ac593 En594 Hv595 => ?_⟩
      refine ⟨fun _ => Hv595.pk [17], ?_⟩
      refine q_t 5 ?_
      refine op_str (d := some 100) (src := 23) (dst := 9) (e := 5) (ao := pa587) (cap := pc588) (p := List.length (certP (bla458, List.map (fun y : RCer => (y.1.l, List.map (fun y : RExt => (y.1, y.2.1.l)) y.2.1.l)) xsb461))) (bs := certP (bla458, List.map (fun y : RCer => (y.1.l, List.map (fun y : RExt => (y.1, y.2.1.l)) y.2.1.l)) xsb461)) En594 (by kernel_rfl) rfl (by kernel_rfl) (by kernel_rfl) (by kernel_rfl) (Hv595.heap.reads (k := 0) rfl) (bys_vnz Hv595.heap (k := 0) rfl) ?_
      intro ac596 En597
      refine ⟨fun _ => Hv595.pk [17], ?_⟩
      refine q_s [8,9] [(8, g_v (show (.bool (!(ByteArray.toList (bstr (certP (bla458, List.map (fun y : RCer => (y.1.l, List.map (fun y : RExt => (y.1, y.2.1.l)) y.2.1.l)) xsb461))) == ByteArray.toList (bstr b))) : Value) = .bool false by rw [Go.Dbr.bstr_eq (certP (bla458, List.map (fun y : RCer => (y.1.l, List.map (fun y : RExt => (y.1, y.2.1.l)) y.2.1.l)) xsb461)) b, show (!((certP (bla458, List.map (fun y : RCer => (y.1.l, List.map (fun y : RExt => (y.1, y.2.1.l)) y.2.1.l)) xsb461)) == b)) = false from (by rw [hpu462, cert_rev (by assumption)]; first | exact bne_self_eq_false _ | exact nbeq_self _ | rfl)] <;> rfl))] 0 En597 (Hv595.pk [17]) fun ac598 En599 => ?_
      exact h_e ⟨En599.sb, Hv595.pk [1, 2, 3, 4, 5, 6, 7, 8, 9, 10, 11, 12, 13, 14, 15, 16, 17]⟩
     rintro ac600 wo601 ⟨En602, Hv603⟩
     refine then_normal ?_
     refine c_f En602 ?_
     refine wp_skip ?_
     refine then_normal ?_
     refine wp_seq ?_
     refine region_from ?_
     refine d_k [1,3,4,6,8,9,10,16,17,18,19,105] [] 1 En602 fun ac604 En605 => ?_
     refine f_o ?_
     refine m_l 13 En605 Hv603 fun ac606 En607 => ?_
     refine f_o ?_
     refine c_0 En607 Hv603 (ppsks_go _ a_df c_df df (i_df.go Hv603 [] (by kernel_rfl) (fun _ h => ⟨(InB.ev h.1 Hv603).pick [] (by kernel_rfl), h.2.1, (InB.ev h.2.2.1 Hv603).pick [] (by kernel_rfl), h.2.2.2⟩)) (by assumption) (by assumption)) ?_
     rintro _ wo611 ⟨pa608, pc609, rfl, he612⟩
     refine ⟨_, _, _, rfl, he612, rfl, fun ac614 En615 Hv616 => ?_⟩
     refine d_e [1,3,4,6,8,9,10,16,17,18,19,20] [] En615 fun ac617 En618 => ?_
     refine then_normal ?_
     refine wp_seq ?_
     refine wp_seq ?_
     have hlen19 : List.length (pskP (List.map puPsk df)) ≤ 80000000 := Nat.le_trans (doneL_len _ _) (by simp only [wput_len, List.length_nil]; omega)
     refine d_r [1,3,4,6,8,9,10,16,17,18,19,20,110] [] En618 fun ac619 En620 => ?_
     refine then_normal ?_
     refine region_cut (F := fun ac wo => Env ac 138 [(1, .slice a_b (List.length b) c_b), (3, uv16 q), (4, pt bk1), (6, pt bk6), (8, .bool false), (9, .bool true), (10, .slice pa24 (List.length (cliP (ha, hb, hc, List.map (fun y : RU16 => y) hd, List.map (fun y : RExt => (y.1, y.2.1.l)) he))) pc25), (16, pt bk168), (17, .int .i64 (gotA (certM b false false))), (18, pt bk325), (19, pt bk475), (20, .slice pa608 (List.length (pskP (List.map puPsk df))) pc609)] ∧ Ev w [] wo [.vec pa608 pc609 1 (bys (pskP (List.map puPsk df))) 5, .vec oaa456 oca457 1 (bys bla458) 5, .vec oab459 ocb460 2 (List.flatMap fCer xsb461) 196, .grp (List.flatMap innCer xsb461), .vec oac301 occ302 1 (bys blc303) 5, .vec oad304 ocd305 1 (List.flatMap fU16 xsd306) 37, .vec oae307 oce308 2 (List.flatMap fExt xse309) 147, .grp (List.flatMap innExt xse309), .vec oac144 occ145 1 (bys blc146) 5, .vec oad147 ocd148 1 (List.flatMap fU16 xsd149) 37, .vec oae150 oce151 2 (List.flatMap fExt xse152) 147, .grp (List.flatMap innExt xse152), .vec pa24 pc25 1 (bys (cliP (ha, hb, hc, List.map (fun y : RU16 => y) hd, List.map (fun y : RExt => (y.1, y.2.1.l)) he))) 5, .box bk1 (([uv16 ha] : List Value) ++ ((bys hb) ++ ([.slice a_hc (List.length hc) c_hc, .slice a_hd (List.length hd) c_hd, .slice a_he (List.length he) c_he] : List Value))) 75, .box bk6 [.string (bstr da), .slice a_db (List.length db) c_db, .slice a_dc (List.length dc) c_dc, .slice a_dd (List.length dd) c_dd, .slice a_de (List.length de) c_de, .slice a_df (List.length df) c_df, .slice a_dg (List.length dg) c_dg, uv16 dh] 39, .box bk168 (([uv16 xva142] : List Value) ++ ((bys alb143) ++ ([.slice oac144 (List.length blc146) occ145, .slice oad147 (List.length xsd149) ocd148, .slice oae150 (List.length xse152) oce151] : List Value))) 75, .box bk325 (([uv16 xva299] : List Value) ++ ((bys alb300) ++ ([.slice oac301 (List.length blc303) occ302, .slice oad304 (List.length xsd306) ocd305, .slice oae307 (List.length xse309) oce308] : List Value))) 75, .box bk475 [.slice oaa456 (List.length bla458) oca457, .slice oab459 (List.length xsb461) ocb460] 83]) ?_ ?_
     ·
      refine c_d (((List.length (pskP (List.map puPsk df)) : Nat) : Int) > (0 : Int)) En620 (fun hc621 => ?_) (fun hc621 => ?_)
      ·
       refine wp_seq ?_
       refine region_from ?_
       refine d_k [1,3,4,6,8,9,10,16,17,18,19,20,112] [] 1 En620 fun ac622 En623 => ?_
       refine f_o ?_
       refine c_0 En623 Hv616 (getpsks_go _ pa608 (List.length (pskP (List.map puPsk df))) pc609 (pskP (List.map puPsk df)) (by first | rfl | (simp; done) | (simp; omega) | omega) (bys_in Hv616.heap (k := 0) rfl [] (by kernel_rfl) rfl (by first | omega | (simp; done) | (simp; omega)))) ?_
       rintro _ wo631 ⟨oa624, oc625, xs626, rfl, he632, hpu627, hf628, hf629⟩
       refine ⟨_, _, _, rfl, he632, rfl, fun ac634 En635 Hv636 => ?_⟩
       refine d_e [1,3,4,6,8,9,10,16,17,18,19,20,21,22,23] [] En635 fun ac637 En638 => ?_
       refine then_normal ?_
       refine wp_seq ?_
       refine region_from ?_
       refine d_k [1,3,4,6,8,9,10,16,17,18,19,20,22,23,117,118] [] 2 En638 fun ac639 En640 => ?_
       refine f_o ?_
       refine m_l 16 En640 Hv636 fun ac641 En642 => ?_
       refine f_o ?_
       refine c_p En642 Hv636 (samepsk_go _ oa624 oc625 xs626 (Hv636.heap.innS (k := 0) (f := fPsk) (sz := 3) (by_ := 56) rfl (fun _ => rfl) (by decide) [] (by kernel_rfl) rfl (by first | omega | (simp; done) | (simp; omega)) (fun y hy => ⟨Hv636.heap.innB (k := 1) rfl (List.mem_flatMap.2 ⟨y, hy, List.mem_cons_self⟩) [] (by kernel_rfl) rfl (Nat.le_trans (hf629 y hy).1 (by decide)), trivial, Hv636.heap.innB (k := 1) rfl (List.mem_flatMap.2 ⟨y, hy, (List.mem_cons_of_mem _ List.mem_cons_self)⟩) [] (by kernel_rfl) rfl (Nat.le_trans (hf629 y hy).2 (by decide)), trivial⟩)) a_df c_df df (i_df.go Hv636 [] (by kernel_rfl) (fun _ h => ⟨(InB.ev h.1 Hv636).pick [] (by kernel_rfl), h.2.1, (InB.ev h.2.2.1 Hv636).pick [] (by kernel_rfl), h.2.2.2⟩))) fun ac647 wo644 En648 Hv649 => ?_
       refine d_e [1,3,4,6,8,9,10,16,17,18,19,20,22,23,24] [(4, g_b (show ((List.map puPsk xs626 == List.map puPsk df)) = true from (by rw [hpu627, (got_back (z := _) (psk_back (by omega)).1).2]; exact beq_self_eq_true _)))] En648 fun ac650 En651 => ?_
       refine then_normal ?_
       refine wp_seq ?_
       refine d_r [1,3,4,6,8,9,10,16,17,18,19,20,136] [(1, g_b (show (gotA (pskM (pskP (List.map puPsk df)) false false) != (0 : Int)) = false from (by rw [got_a (psk_back (by omega)).1]; rfl))), (8, g_b (show (decide (((gotN (pskM (pskP (List.map puPsk df)) false false) (List.length (pskO (pskP (List.map puPsk df)) false false).2.1) : Nat) : Int) < (35 : Int))) = false from (by rw [gotN_0 (got_a (psk_back (by omega)).1)]; exact decide_eq_false (by have := (psk_back (ps := List.map puPsk df) (by omega)).2.1; omega)))), (14, g_b (show (decide (((gotN (pskM (pskP (List.map puPsk df)) false false) (List.length (pskO (pskP (List.map puPsk df)) false false).2.1) : Nat) : Int) > ((List.length (pskP (List.map puPsk df)) : Nat) : Int))) = false from (by rw [gotN_0 (got_a (psk_back (by omega)).1)]; exact decide_eq_false (by have := (psk_back (ps := List.map puPsk df) (by omega)).2.2; omega))))] En651 fun ac652 En653 => ?_
       refine then_normal ?_
       refine c_f En653 ?_
       refine wp_skip ?_
       exact ⟨rfl, ⟨En653.sb, Hv649.pk [2, 3, 4, 5, 6, 7, 8, 9, 10, 11, 12, 13, 14, 15, 16, 17, 18, 19]⟩⟩
      ·
       refine wp_skip ?_
       exact ⟨rfl, ⟨En620.sb, Hv616.pk [0, 1, 2, 3, 4, 5, 6, 7, 8, 9, 10, 11, 12, 13, 14, 15, 16, 17]⟩⟩
     ·
      rintro ac654 wo655 ⟨En656, Hv657⟩
      refine then_normal ?_
      refine wp_seq ?_
      refine d_r [1,3,4,6,8,10,16,17,18,19,20] [] En656 fun ac658 En659 => ?_
      refine then_normal ?_
      refine wp_ret ?_
      refine d_ret1 (t := 8) (v := .bool true) En659 (by kernel_rfl) (by kernel_rfl) ?_
      exact ⟨rfl, Hv657.pk []⟩
    ·
     have hb486p : ¬ (gotA (certM b false false) = (0 : Int)) := ne_of_beq_false hb486
     refine r_c (fun ac wo => Env ac 138 [(1, .slice a_b (List.length b) c_b), (3, uv16 q), (4, pt bk1), (6, pt bk6), (8, .bool false), (9, .bool true), (10, .slice pa24 (List.length (cliP (ha, hb, hc, List.map (fun y : RU16 => y) hd, List.map (fun y : RExt => (y.1, y.2.1.l)) he))) pc25), (16, pt bk168), (17, .int .i64 (gotA (certM b false false))), (18, pt bk325), (19, pt bk475), (104, .bool false)] ∧ Ev w [] wo [.vec oaa456 oca457 1 (bys bla458) 5, .vec oab459 ocb460 2 (List.flatMap fCer xsb461) 196, .grp (List.flatMap innCer xsb461), .vec oac301 occ302 1 (bys blc303) 5, .vec oad304 ocd305 1 (List.flatMap fU16 xsd306) 37, .vec oae307 oce308 2 (List.flatMap fExt xse309) 147, .grp (List.flatMap innExt xse309), .vec oac144 occ145 1 (bys blc146) 5, .vec oad147 ocd148 1 (List.flatMap fU16 xsd149) 37, .vec oae150 oce151 2 (List.flatMap fExt xse152) 147, .grp (List.flatMap innExt xse152), .vec pa24 pc25 1 (bys (cliP (ha, hb, hc, List.map (fun y : RU16 => y) hd, List.map (fun y : RExt => (y.1, y.2.1.l)) he))) 5, .box bk1 (([uv16 ha] : List Value) ++ ((bys hb) ++ ([.slice a_hc (List.length hc) c_hc, .slice a_hd (List.length hd) c_hd, .slice a_he (List.length he) c_he] : List Value))) 75, .box bk6 [.string (bstr da), .slice a_db (List.length db) c_db, .slice a_dc (List.length dc) c_dc, .slice a_dd (List.length dd) c_dd, .slice a_de (List.length de) c_de, .slice a_df (List.length df) c_df, .slice a_dg (List.length dg) c_dg, uv16 dh] 39, .box bk168 (([uv16 xva142] : List Value) ++ ((bys alb143) ++ ([.slice oac144 (List.length blc146) occ145, .slice oad147 (List.length xsd149) ocd148, .slice oae150 (List.length xse152) oce151] : List Value))) 75, .box bk325 (([uv16 xva299] : List Value) ++ ((bys alb300) ++ ([.slice oac301 (List.length blc303) occ302, .slice oad304 (List.length xsd306) ocd305, .slice oae307 (List.length xse309) oce308] : List Value))) 75, .box bk475 [.slice oaa456 (List.length bla458) oca457, .slice oab459 (List.length xsb461) ocb460] 83]) ?_ ?_
     ·
      refine draw_any (by kernel_rfl) 10 (by kernel_rfl) ?_
      have wo660 := Hv483.trans (Ev.drew Hv483.heap)
      refine q_a [0,1,2] [] 7 En485 fun ac667 En668 => ?_
      have En669 := En668.fx (t := 96) (congrArg Value.bool hb486)
      have En670 := En669.fx (t := 97) (congrArg Value.bool hb486)
      refine q_a [3,4,5,6,7,8,9] [] 0 En670 fun ac671 En672 => ?_
      exact a_e ⟨En672.sb, wo660.pk [0, 1, 2, 3, 4, 5, 6, 7, 8, 9, 10, 11, 12, 13, 14, 15, 16]⟩
     rintro ac673 wo674 ⟨En675, Hv676⟩
     refine then_normal ?_
     refine c_f En675 ?_
     refine wp_skip ?_
     refine then_normal ?_
     refine wp_seq ?_
     refine region_from ?_
     refine d_k [1,3,4,6,8,9,10,16,17,18,19,105] [] 1 En675 fun ac677 En678 => ?_
     refine f_o ?_
     refine m_l 13 En678 Hv676 fun ac679 En680 => ?_
     refine f_o ?_
     refine c_0 En680 Hv676 (ppsks_go _ a_df c_df df (i_df.go Hv676 [] (by kernel_rfl) (fun _ h => ⟨(InB.ev h.1 Hv676).pick [] (by kernel_rfl), h.2.1, (InB.ev h.2.2.1 Hv676).pick [] (by kernel_rfl), h.2.2.2⟩)) (by assumption) (by assumption)) ?_
     rintro _ wo684 ⟨pa681, pc682, rfl, he685⟩
     refine ⟨_, _, _, rfl, he685, rfl, fun ac687 En688 Hv689 => ?_⟩
     refine d_e [1,3,4,6,8,9,10,16,17,18,19,20] [] En688 fun ac690 En691 => ?_
     refine then_normal ?_
     refine wp_seq ?_
     refine wp_seq ?_
     have hlen19 : List.length (pskP (List.map puPsk df)) ≤ 80000000 := Nat.le_trans (doneL_len _ _) (by simp only [wput_len, List.length_nil]; omega)
     refine d_r [1,3,4,6,8,9,10,16,17,18,19,20,110] [] En691 fun ac692 En693 => ?_
     refine then_normal ?_
     refine region_cut (F := fun ac wo => Env ac 138 [(1, .slice a_b (List.length b) c_b), (3, uv16 q), (4, pt bk1), (6, pt bk6), (8, .bool false), (9, .bool true), (10, .slice pa24 (List.length (cliP (ha, hb, hc, List.map (fun y : RU16 => y) hd, List.map (fun y : RExt => (y.1, y.2.1.l)) he))) pc25), (16, pt bk168), (17, .int .i64 (gotA (certM b false false))), (18, pt bk325), (19, pt bk475), (20, .slice pa681 (List.length (pskP (List.map puPsk df))) pc682)] ∧ Ev w [] wo [.vec pa681 pc682 1 (bys (pskP (List.map puPsk df))) 5, .vec oaa456 oca457 1 (bys bla458) 5, .vec oab459 ocb460 2 (List.flatMap fCer xsb461) 196, .grp (List.flatMap innCer xsb461), .vec oac301 occ302 1 (bys blc303) 5, .vec oad304 ocd305 1 (List.flatMap fU16 xsd306) 37, .vec oae307 oce308 2 (List.flatMap fExt xse309) 147, .grp (List.flatMap innExt xse309), .vec oac144 occ145 1 (bys blc146) 5, .vec oad147 ocd148 1 (List.flatMap fU16 xsd149) 37, .vec oae150 oce151 2 (List.flatMap fExt xse152) 147, .grp (List.flatMap innExt xse152), .vec pa24 pc25 1 (bys (cliP (ha, hb, hc, List.map (fun y : RU16 => y) hd, List.map (fun y : RExt => (y.1, y.2.1.l)) he))) 5, .box bk1 (([uv16 ha] : List Value) ++ ((bys hb) ++ ([.slice a_hc (List.length hc) c_hc, .slice a_hd (List.length hd) c_hd, .slice a_he (List.length he) c_he] : List Value))) 75, .box bk6 [.string (bstr da), .slice a_db (List.length db) c_db, .slice a_dc (List.length dc) c_dc, .slice a_dd (List.length dd) c_dd, .slice a_de (List.length de) c_de, .slice a_df (List.length df) c_df, .slice a_dg (List.length dg) c_dg, uv16 dh] 39, .box bk168 (([uv16 xva142] : List Value) ++ ((bys alb143) ++ ([.slice oac144 (List.length blc146) occ145, .slice oad147 (List.length xsd149) ocd148, .slice oae150 (List.length xse152) oce151] : List Value))) 75, .box bk325 (([uv16 xva299] : List Value) ++ ((bys alb300) ++ ([.slice oac301 (List.length blc303) occ302, .slice oad304 (List.length xsd306) ocd305, .slice oae307 (List.length xse309) oce308] : List Value))) 75, .box bk475 [.slice oaa456 (List.length bla458) oca457, .slice oab459 (List.length xsb461) ocb460] 83]) ?_ ?_
     ·
      refine c_d (((List.length (pskP (List.map puPsk df)) : Nat) : Int) > (0 : Int)) En693 (fun hc694 => ?_) (fun hc694 => ?_)
      ·
       refine wp_seq ?_
       refine region_from ?_
       refine d_k [1,3,4,6,8,9,10,16,17,18,19,20,112] [] 1 En693 fun ac695 En696 => ?_
       refine f_o ?_
       refine c_0 En696 Hv689 (getpsks_go _ pa681 (List.length (pskP (List.map puPsk df))) pc682 (pskP (List.map puPsk df)) (by first | rfl | (simp; done) | (simp; omega) | omega) (bys_in Hv689.heap (k := 0) rfl [] (by kernel_rfl) rfl (by first | omega | (simp; done) | (simp; omega)))) ?_
       rintro _ wo704 ⟨oa697, oc698, xs699, rfl, he705, hpu700, hf701, hf702⟩
       refine ⟨_, _, _, rfl, he705, rfl, fun ac707 En708 Hv709 => ?_⟩
       refine d_e [1,3,4,6,8,9,10,16,17,18,19,20,21,22,23] [] En708 fun ac710 En711 => ?_
       refine then_normal ?_
       refine wp_seq ?_
       refine region_from ?_
       refine d_k [1,3,4,6,8,9,10,16,17,18,19,20,22,23,117,118] [] 2 En711 fun ac712 En713 => ?_
       refine f_o ?_
       refine m_l 16 En713 Hv709 fun ac714 En715 => ?_
       refine f_o ?_
       refine c_p En715 Hv709 (samepsk_go _ oa697 oc698 xs699 (Hv709.heap.innS (k := 0) (f := fPsk) (sz := 3) (by_ := 56) rfl (fun _ => rfl) (by decide) [] (by kernel_rfl) rfl (by first | omega | (simp; done) | (simp; omega)) (fun y hy => ⟨Hv709.heap.innB (k := 1) rfl (List.mem_flatMap.2 ⟨y, hy, List.mem_cons_self⟩) [] (by kernel_rfl) rfl (Nat.le_trans (hf702 y hy).1 (by decide)), trivial, Hv709.heap.innB (k := 1) rfl (List.mem_flatMap.2 ⟨y, hy, (List.mem_cons_of_mem _ List.mem_cons_self)⟩) [] (by kernel_rfl) rfl (Nat.le_trans (hf702 y hy).2 (by decide)), trivial⟩)) a_df c_df df (i_df.go Hv709 [] (by kernel_rfl) (fun _ h => ⟨(InB.ev h.1 Hv709).pick [] (by kernel_rfl), h.2.1, (InB.ev h.2.2.1 Hv709).pick [] (by kernel_rfl), h.2.2.2⟩))) fun ac720 wo717 En721 Hv722 => ?_
       refine d_e [1,3,4,6,8,9,10,16,17,18,19,20,22,23,24] [(4, g_b (show ((List.map puPsk xs699 == List.map puPsk df)) = true from (by rw [hpu700, (got_back (z := _) (psk_back (by omega)).1).2]; exact beq_self_eq_true _)))] En721 fun ac723 En724 => ?_
       refine then_normal ?_
       refine wp_seq ?_
       refine d_r [1,3,4,6,8,9,10,16,17,18,19,20,136] [(1, g_b (show (gotA (pskM (pskP (List.map puPsk df)) false false) != (0 : Int)) = false from (by rw [got_a (psk_back (by omega)).1]; rfl))), (8, g_b (show (decide (((gotN (pskM (pskP (List.map puPsk df)) false false) (List.length (pskO (pskP (List.map puPsk df)) false false).2.1) : Nat) : Int) < (35 : Int))) = false from (by rw [gotN_0 (got_a (psk_back (by omega)).1)]; exact decide_eq_false (by have := (psk_back (ps := List.map puPsk df) (by omega)).2.1; omega)))), (14, g_b (show (decide (((gotN (pskM (pskP (List.map puPsk df)) false false) (List.length (pskO (pskP (List.map puPsk df)) false false).2.1) : Nat) : Int) > ((List.length (pskP (List.map puPsk df)) : Nat) : Int))) = false from (by rw [gotN_0 (got_a (psk_back (by omega)).1)]; exact decide_eq_false (by have := (psk_back (ps := List.map puPsk df) (by omega)).2.2; omega))))] En724 fun ac725 En726 => ?_
       refine then_normal ?_
       refine c_f En726 ?_
       refine wp_skip ?_
       exact ⟨rfl, ⟨En726.sb, Hv722.pk [2, 3, 4, 5, 6, 7, 8, 9, 10, 11, 12, 13, 14, 15, 16, 17, 18, 19]⟩⟩
      ·
       refine wp_skip ?_
       exact ⟨rfl, ⟨En693.sb, Hv689.pk [0, 1, 2, 3, 4, 5, 6, 7, 8, 9, 10, 11, 12, 13, 14, 15, 16, 17]⟩⟩
     ·
      rintro ac727 wo728 ⟨En729, Hv730⟩
      refine then_normal ?_
      refine wp_seq ?_
      refine d_r [1,3,4,6,8,10,16,17,18,19,20] [] En729 fun ac731 En732 => ?_
      refine then_normal ?_
      refine wp_ret ?_
      refine d_ret1 (t := 8) (v := .bool true) En732 (by kernel_rfl) (by kernel_rfl) ?_
      exact ⟨rfl, Hv730.pk []⟩
   ·
    have hb336p : ¬ (gotA (srvM b false false) = (0 : Int)) := ne_of_beq_false hb336
    refine r_c (fun ac wo => Env ac 138 [(1, .slice a_b (List.length b) c_b), (3, uv16 q), (4, pt bk1), (6, pt bk6), (8, .bool false), (9, .bool true), (10, .slice pa24 (List.length (cliP (ha, hb, hc, List.map (fun y : RU16 => y) hd, List.map (fun y : RExt => (y.1, y.2.1.l)) he))) pc25), (16, pt bk168), (17, .int .i64 (gotA (srvM b false false))), (18, pt bk325), (89, .bool false)] ∧ Ev w [] wo [.vec oac301 occ302 1 (bys blc303) 5, .vec oad304 ocd305 1 (List.flatMap fU16 xsd306) 37, .vec oae307 oce308 2 (List.flatMap fExt xse309) 147, .grp (List.flatMap innExt xse309), .vec oac144 occ145 1 (bys blc146) 5, .vec oad147 ocd148 1 (List.flatMap fU16 xsd149) 37, .vec oae150 oce151 2 (List.flatMap fExt xse152) 147, .grp (List.flatMap innExt xse152), .vec pa24 pc25 1 (bys (cliP (ha, hb, hc, List.map (fun y : RU16 => y) hd, List.map (fun y : RExt => (y.1, y.2.1.l)) he))) 5, .box bk1 (([uv16 ha] : List Value) ++ ((bys hb) ++ ([.slice a_hc (List.length hc) c_hc, .slice a_hd (List.length hd) c_hd, .slice a_he (List.length he) c_he] : List Value))) 75, .box bk6 [.string (bstr da), .slice a_db (List.length db) c_db, .slice a_dc (List.length dc) c_dc, .slice a_dd (List.length dd) c_dd, .slice a_de (List.length de) c_de, .slice a_df (List.length df) c_df, .slice a_dg (List.length dg) c_dg, uv16 dh] 39, .box bk168 (([uv16 xva142] : List Value) ++ ((bys alb143) ++ ([.slice oac144 (List.length blc146) occ145, .slice oad147 (List.length xsd149) ocd148, .slice oae150 (List.length xse152) oce151] : List Value))) 75, .box bk325 (([uv16 xva299] : List Value) ++ ((bys alb300) ++ ([.slice oac301 (List.length blc303) occ302, .slice oad304 (List.length xsd306) ocd305, .slice oae307 (List.length xse309) oce308] : List Value))) 75]) ?_ ?_
    ·
     refine draw_any (by kernel_rfl) 10 (by kernel_rfl) ?_
     have wo733 := Hv333.trans (Ev.drew Hv333.heap)
     refine q_a [0,1,2] [] 7 En335 fun ac740 En741 => ?_
     have En742 := En741.fx (t := 81) (congrArg Value.bool hb336)
     have En743 := En742.fx (t := 82) (congrArg Value.bool hb336)
     refine q_a [3,4,5,6,7,8,9] [] 0 En743 fun ac744 En745 => ?_
     exact a_e ⟨En745.sb, wo733.pk [0, 1, 2, 3, 4, 5, 6, 7, 8, 9, 10, 11, 12]⟩
    rintro ac746 wo747 ⟨En748, Hv749⟩
    refine then_normal ?_
    refine c_f En748 ?_
    refine wp_skip ?_
    refine then_normal ?_
    refine wp_seq ?_
    refine region_from ?_
    refine d_k [1,3,4,6,8,9,10,16,17,18,91] [] 1 En748 fun ac750 En751 => ?_
    refine f_o ?_
    refine c_0 En751 Hv749 (getcert_go _ a_b (List.length b) c_b b (by first | rfl | (simp; done) | (simp; omega) | omega) ((i_b.ev Hv749).pick [] (by kernel_rfl))) ?_
    rintro _ wo763 ⟨oaa752, oca753, bla754, oab755, ocb756, xsb757, rfl, he764, hpu758, hf759, hf760, hf761⟩
    refine ⟨_, _, _, rfl, he764, rfl, fun ac766 En767 Hv768 => ?_⟩
    refine d_k [1,3,4,6,8,9,10,16,17,18,93,94] [] 5 En767 fun ac769 En770 => ?_
    refine f_o ?_
    refine m_z 83 [.slice none 0 0, .slice none 0 0] En770 Hv768 fun ac772 wo773 bk771 En774 Hv775 => ?_
    refine f_o ?_
    refine m_g 16 0 2 [.slice oaa752 (List.length bla754) oca753, .slice oab755 (List.length xsb757) ocb756] [.slice oaa752 (List.length bla754) oca753, .slice oab755 (List.length xsb757) ocb756] [.vec oaa752 oca753 1 (bys bla754) 5, .vec oab755 ocb756 2 (List.flatMap fCer xsb757) 196, .grp (List.flatMap innCer xsb757), .vec oac301 occ302 1 (bys blc303) 5, .vec oad304 ocd305 1 (List.flatMap fU16 xsd306) 37, .vec oae307 oce308 2 (List.flatMap fExt xse309) 147, .grp (List.flatMap innExt xse309), .vec oac144 occ145 1 (bys blc146) 5, .vec oad147 ocd148 1 (List.flatMap fU16 xsd149) 37, .vec oae150 oce151 2 (List.flatMap fExt xse152) 147, .grp (List.flatMap innExt xse152), .vec pa24 pc25 1 (bys (cliP (ha, hb, hc, List.map (fun y : RU16 => y) hd, List.map (fun y : RExt => (y.1, y.2.1.l)) he))) 5, .box bk1 (([uv16 ha] : List Value) ++ ((bys hb) ++ ([.slice a_hc (List.length hc) c_hc, .slice a_hd (List.length hd) c_hd, .slice a_he (List.length he) c_he] : List Value))) 75, .box bk6 [.string (bstr da), .slice a_db (List.length db) c_db, .slice a_dc (List.length dc) c_dc, .slice a_dd (List.length dd) c_dd, .slice a_de (List.length de) c_de, .slice a_df (List.length df) c_df, .slice a_dg (List.length dg) c_dg, uv16 dh] 39, .box bk168 (([uv16 xva142] : List Value) ++ ((bys alb143) ++ ([.slice oac144 (List.length blc146) occ145, .slice oad147 (List.length xsd149) ocd148, .slice oae150 (List.length xse152) oce151] : List Value))) 75, .box bk325 (([uv16 xva299] : List Value) ++ ((bys alb300) ++ ([.slice oac301 (List.length blc303) occ302, .slice oad304 (List.length xsd306) ocd305, .slice oae307 (List.length xse309) oce308] : List Value))) 75, .box bk771 [.slice oaa752 (List.length bla754) oca753, .slice oab755 (List.length xsb757) ocb756] 83] En774 Hv775 rfl rfl (by simp) (one_all (by kernel_rfl)) rfl rfl fun ac776 wo777 En778 Hv779 => ?_
    refine d_e [1,3,4,6,8,9,10,16,17,18,19] [] En778 fun ac780 En781 => ?_
    refine then_normal ?_
    refine wp_seq ?_
    refine wp_seq ?_
    rcases Bool.eq_false_or_eq_true (gotA (certM b false false) == (0 : Int)) with hb782 | hb782
    ·
     have hb782p : gotA (certM b false false) = (0 : Int) := eq_of_beq hb782
     refine r_c (fun ac wo => Env ac 138 [(1, .slice a_b (List.length b) c_b), (3, uv16 q), (4, pt bk1), (6, pt bk6), (8, .bool false), (9, .bool true), (10, .slice pa24 (List.length (cliP (ha, hb, hc, List.map (fun y : RU16 => y) hd, List.map (fun y : RExt => (y.1, y.2.1.l)) he))) pc25), (16, pt bk168), (17, .int .i64 (gotA (certM b false false))), (18, pt bk325), (19, pt bk771), (104, .bool false)] ∧ Ev w [] wo [.vec oaa752 oca753 1 (bys bla754) 5, .vec oab755 ocb756 2 (List.flatMap fCer xsb757) 196, .grp (List.flatMap innCer xsb757), .vec oac301 occ302 1 (bys blc303) 5, .vec oad304 ocd305 1 (List.flatMap fU16 xsd306) 37, .vec oae307 oce308 2 (List.flatMap fExt xse309) 147, .grp (List.flatMap innExt xse309), .vec oac144 occ145 1 (bys blc146) 5, .vec oad147 ocd148 1 (List.flatMap fU16 xsd149) 37, .vec oae150 oce151 2 (List.flatMap fExt xse152) 147, .grp (List.flatMap innExt xse152), .vec pa24 pc25 1 (bys (cliP (ha, hb, hc, List.map (fun y : RU16 => y) hd, List.map (fun y : RExt => (y.1, y.2.1.l)) he))) 5, .box bk1 (([uv16 ha] : List Value) ++ ((bys hb) ++ ([.slice a_hc (List.length hc) c_hc, .slice a_hd (List.length hd) c_hd, .slice a_he (List.length he) c_he] : List Value))) 75, .box bk6 [.string (bstr da), .slice a_db (List.length db) c_db, .slice a_dc (List.length dc) c_dc, .slice a_dd (List.length dd) c_dd, .slice a_de (List.length de) c_de, .slice a_df (List.length df) c_df, .slice a_dg (List.length dg) c_dg, uv16 dh] 39, .box bk168 (([uv16 xva142] : List Value) ++ ((bys alb143) ++ ([.slice oac144 (List.length blc146) occ145, .slice oad147 (List.length xsd149) ocd148, .slice oae150 (List.length xse152) oce151] : List Value))) 75, .box bk325 (([uv16 xva299] : List Value) ++ ((bys alb300) ++ ([.slice oac301 (List.length blc303) occ302, .slice oad304 (List.length xsd306) ocd305, .slice oae307 (List.length xse309) oce308] : List Value))) 75, .box bk771 [.slice oaa752 (List.length bla754) oca753, .slice oab755 (List.length xsb757) ocb756] 83]) ?_ ?_
     ·
      refine h_s (fun wv => Ev w [] wv [.box bk771 [.slice oaa752 (List.length bla754) oca753, .slice oab755 (List.length xsb757) ocb756] 83]) [] 10 ?_
      have wo783 := Hv779.trans (Ev.drew Hv779.heap)
      refine q_s [0,1,2] [] 7 En781 (wo783.pk [16]) fun ac872 En873 => ?_
      have En874 := En873.fx (t := 96) (congrArg Value.bool hb782)
      have En875 := En874.fx (t := 97) (congrArg Value.bool hb782)
      refine q_r 3 (s := Instr.loadAt 83 (pt bk771)) (v := .agg #[.slice oaa752 (List.length bla754) oca753, .slice oab755 (List.length xsb757) ocb756]) En875 (fun w hS => run_loadAgg2 (m := 2) (cs := [.slice oaa752 (List.length bla754) oca753, .slice oab755 (List.length xsb757) ocb756]) rfl (by kernel_rfl) (by kernel_rfl) (hS.heap.cells (k := 0) (off := 0) (m := 2) rfl rfl)) (wo783.pk [16]) fun ac876 En877 => ?_
      refine q_s [6] [] 5 En877 (wo783.pk [16]) fun ac878 En879 => ?_
      refine q_r 7 (s := convert 23 9 (.slice a_b (List.length b) c_b)) (v := .string (bstr b)) En879 (fun w hS => run_str2 (e := 5) (bs := b) rfl (by kernel_rfl) (by kernel_rfl) (by kernel_rfl) (i_b.ev hS).reads i_b.nz) (wo783.pk [16]) fun ac880 En881 => ?_
      refine q_t 4 ?_
      have hsz882 := cert_sz (l := b) (by assumption)
      rw [← gotV_0 (by assumption), ← hpu758] at hsz882
      dsimp only at hsz882
      have hqahsz882 := allB_m cr_mono (Nat.le_trans hsz882 (show List.length b ≤ 16777216 by omega))
      refine c_0 En881 wo783 (pcert_go _ oaa752 oca753 bla754 oab755 ocb756 xsb757 (bys_in wo783.heap (k := 0) rfl [] (by kernel_rfl) rfl (by first | omega | (simp; done) | (simp; omega))) (wo783.heap.innS (k := 1) (f := fCer) (sz := 2) (by_ := 48) rfl (fun _ => rfl) (by decide) [] (by kernel_rfl) rfl (by first | omega | (simp; done) | (simp; omega)) (fun y hy => ⟨wo783.heap.innB (k := 2) rfl (List.mem_flatMap.2 ⟨y, hy, List.mem_cons_self⟩) [] (by kernel_rfl) rfl (Nat.le_trans (hf761 y hy).1 (by decide)), innL wo783.heap (k := 2) (f := fExt) (sz := 2) (by_ := 32) rfl (List.mem_flatMap.2 ⟨y, hy, List.mem_cons_of_mem _ List.mem_cons_self⟩) (fun _ => rfl) (by decide) [] (by kernel_rfl) rfl (by have := (hf761 y hy).2.1; omega) (fun z hz => ⟨trivial, wo783.heap.innB (k := 2) rfl (List.mem_flatMap.2 ⟨y, hy, List.mem_cons_of_mem _ (List.mem_cons_of_mem _ (List.mem_flatMap.2 ⟨z, hz, List.mem_cons_self⟩))⟩) [] (by kernel_rfl) rfl (Nat.le_trans ((hf761 y hy).2.2 z hz) (by decide)), trivial⟩), trivial⟩)) (by assumption)) ?_
      rintro _ wo886 ⟨pa883, pc884, rfl, he887⟩
      refine ⟨_, _, _, rfl, he887, rfl, fun ac889 En890 Hv891 => ?_⟩
      refine ⟨fun _ => Hv891.pk [17], ?_⟩
      refine q_t 5 ?_
      refine op_str (d := some 100) (src := 23) (dst := 9) (e := 5) (ao := pa883) (cap := pc884) (p := List.length (certP (bla754, List.map (fun y : RCer => (y.1.l, List.map (fun y : RExt => (y.1, y.2.1.l)) y.2.1.l)) xsb757))) (bs := certP (bla754, List.map (fun y : RCer => (y.1.l, List.map (fun y : RExt => (y.1, y.2.1.l)) y.2.1.l)) xsb757)) En890 (by kernel_rfl) rfl (by kernel_rfl) (by kernel_rfl) (by kernel_rfl) (Hv891.heap.reads (k := 0) rfl) (bys_vnz Hv891.heap (k := 0) rfl) ?_
      intro ac892 En893
      refine ⟨fun _ => Hv891.pk [17], ?_⟩
      refine q_s [8,9] [(8, g_v (show (.bool (!(ByteArray.toList (bstr (certP (bla754, List.map (fun y : RCer => (y.1.l, List.map (fun y : RExt => (y.1, y.2.1.l)) y.2.1.l)) xsb757))) == ByteArray.toList (bstr b))) : Value) = .bool false by rw [Go.Dbr.bstr_eq (certP (bla754, List.map (fun y : RCer => (y.1.l, List.map (fun y : RExt => (y.1, y.2.1.l)) y.2.1.l)) xsb757)) b, show (!((certP (bla754, List.map (fun y : RCer => (y.1.l, List.map (fun y : RExt => (y.1, y.2.1.l)) y.2.1.l)) xsb757)) == b)) = false from (by rw [hpu758, cert_rev (by assumption)]; first | exact bne_self_eq_false _ | exact nbeq_self _ | rfl)] <;> rfl))] 0 En893 (Hv891.pk [17]) fun ac894 En895 => ?_
      exact h_e ⟨En895.sb, Hv891.pk [1, 2, 3, 4, 5, 6, 7, 8, 9, 10, 11, 12, 13, 14, 15, 16, 17]⟩
     rintro ac896 wo897 ⟨En898, Hv899⟩
     refine then_normal ?_
     refine c_f En898 ?_
     refine wp_skip ?_
     refine then_normal ?_
     refine wp_seq ?_
     refine region_from ?_
     refine d_k [1,3,4,6,8,9,10,16,17,18,19,105] [] 1 En898 fun ac900 En901 => ?_
     refine f_o ?_
     refine m_l 13 En901 Hv899 fun ac902 En903 => ?_
     refine f_o ?_
     refine c_0 En903 Hv899 (ppsks_go _ a_df c_df df (i_df.go Hv899 [] (by kernel_rfl) (fun _ h => ⟨(InB.ev h.1 Hv899).pick [] (by kernel_rfl), h.2.1, (InB.ev h.2.2.1 Hv899).pick [] (by kernel_rfl), h.2.2.2⟩)) (by assumption) (by assumption)) ?_
     rintro _ wo907 ⟨pa904, pc905, rfl, he908⟩
     refine ⟨_, _, _, rfl, he908, rfl, fun ac910 En911 Hv912 => ?_⟩
     refine d_e [1,3,4,6,8,9,10,16,17,18,19,20] [] En911 fun ac913 En914 => ?_
     refine then_normal ?_
     refine wp_seq ?_
     refine wp_seq ?_
     have hlen19 : List.length (pskP (List.map puPsk df)) ≤ 80000000 := Nat.le_trans (doneL_len _ _) (by simp only [wput_len, List.length_nil]; omega)
     refine d_r [1,3,4,6,8,9,10,16,17,18,19,20,110] [] En914 fun ac915 En916 => ?_
     refine then_normal ?_
     refine region_cut (F := fun ac wo => Env ac 138 [(1, .slice a_b (List.length b) c_b), (3, uv16 q), (4, pt bk1), (6, pt bk6), (8, .bool false), (9, .bool true), (10, .slice pa24 (List.length (cliP (ha, hb, hc, List.map (fun y : RU16 => y) hd, List.map (fun y : RExt => (y.1, y.2.1.l)) he))) pc25), (16, pt bk168), (17, .int .i64 (gotA (certM b false false))), (18, pt bk325), (19, pt bk771), (20, .slice pa904 (List.length (pskP (List.map puPsk df))) pc905)] ∧ Ev w [] wo [.vec pa904 pc905 1 (bys (pskP (List.map puPsk df))) 5, .vec oaa752 oca753 1 (bys bla754) 5, .vec oab755 ocb756 2 (List.flatMap fCer xsb757) 196, .grp (List.flatMap innCer xsb757), .vec oac301 occ302 1 (bys blc303) 5, .vec oad304 ocd305 1 (List.flatMap fU16 xsd306) 37, .vec oae307 oce308 2 (List.flatMap fExt xse309) 147, .grp (List.flatMap innExt xse309), .vec oac144 occ145 1 (bys blc146) 5, .vec oad147 ocd148 1 (List.flatMap fU16 xsd149) 37, .vec oae150 oce151 2 (List.flatMap fExt xse152) 147, .grp (List.flatMap innExt xse152), .vec pa24 pc25 1 (bys (cliP (ha, hb, hc, List.map (fun y : RU16 => y) hd, List.map (fun y : RExt => (y.1, y.2.1.l)) he))) 5, .box bk1 (([uv16 ha] : List Value) ++ ((bys hb) ++ ([.slice a_hc (List.length hc) c_hc, .slice a_hd (List.length hd) c_hd, .slice a_he (List.length he) c_he] : List Value))) 75, .box bk6 [.string (bstr da), .slice a_db (List.length db) c_db, .slice a_dc (List.length dc) c_dc, .slice a_dd (List.length dd) c_dd, .slice a_de (List.length de) c_de, .slice a_df (List.length df) c_df, .slice a_dg (List.length dg) c_dg, uv16 dh] 39, .box bk168 (([uv16 xva142] : List Value) ++ ((bys alb143) ++ ([.slice oac144 (List.length blc146) occ145, .slice oad147 (List.length xsd149) ocd148, .slice oae150 (List.length xse152) oce151] : List Value))) 75, .box bk325 (([uv16 xva299] : List Value) ++ ((bys alb300) ++ ([.slice oac301 (List.length blc303) occ302, .slice oad304 (List.length xsd306) ocd305, .slice oae307 (List.length xse309) oce308] : List Value))) 75, .box bk771 [.slice oaa752 (List.length bla754) oca753, .slice oab755 (List.length xsb757) ocb756] 83]) ?_ ?_
     ·
      refine c_d (((List.length (pskP (List.map puPsk df)) : Nat) : Int) > (0 : Int)) En916 (fun hc917 => ?_) (fun hc917 => ?_)
      ·
       refine wp_seq ?_
       refine region_from ?_
       refine d_k [1,3,4,6,8,9,10,16,17,18,19,20,112] [] 1 En916 fun ac918 En919 => ?_
       refine f_o ?_
       refine c_0 En919 Hv912 (getpsks_go _ pa904 (List.length (pskP (List.map puPsk df))) pc905 (pskP (List.map puPsk df)) (by first | rfl | (simp; done) | (simp; omega) | omega) (bys_in Hv912.heap (k := 0) rfl [] (by kernel_rfl) rfl (by first | omega | (simp; done) | (simp; omega)))) ?_
       rintro _ wo927 ⟨oa920, oc921, xs922, rfl, he928, hpu923, hf924, hf925⟩
       refine ⟨_, _, _, rfl, he928, rfl, fun ac930 En931 Hv932 => ?_⟩
       refine d_e [1,3,4,6,8,9,10,16,17,18,19,20,21,22,23] [] En931 fun ac933 En934 => ?_
       refine then_normal ?_
       refine wp_seq ?_
       refine region_from ?_
       refine d_k [1,3,4,6,8,9,10,16,17,18,19,20,22,23,117,118] [] 2 En934 fun ac935 En936 => ?_
       refine f_o ?_
       refine m_l 16 En936 Hv932 fun ac937 En938 => ?_
       refine f_o ?_
       refine c_p En938 Hv932 (samepsk_go _ oa920 oc921 xs922 (Hv932.heap.innS (k := 0) (f := fPsk) (sz := 3) (by_ := 56) rfl (fun _ => rfl) (by decide) [] (by kernel_rfl) rfl (by first | omega | (simp; done) | (simp; omega)) (fun y hy => ⟨Hv932.heap.innB (k := 1) rfl (List.mem_flatMap.2 ⟨y, hy, List.mem_cons_self⟩) [] (by kernel_rfl) rfl (Nat.le_trans (hf925 y hy).1 (by decide)), trivial, Hv932.heap.innB (k := 1) rfl (List.mem_flatMap.2 ⟨y, hy, (List.mem_cons_of_mem _ List.mem_cons_self)⟩) [] (by kernel_rfl) rfl (Nat.le_trans (hf925 y hy).2 (by decide)), trivial⟩)) a_df c_df df (i_df.go Hv932 [] (by kernel_rfl) (fun _ h => ⟨(InB.ev h.1 Hv932).pick [] (by kernel_rfl), h.2.1, (InB.ev h.2.2.1 Hv932).pick [] (by kernel_rfl), h.2.2.2⟩))) fun ac943 wo940 En944 Hv945 => ?_
       refine d_e [1,3,4,6,8,9,10,16,17,18,19,20,22,23,24] [(4, g_b (show ((List.map puPsk xs922 == List.map puPsk df)) = true from (by rw [hpu923, (got_back (z := _) (psk_back (by omega)).1).2]; exact beq_self_eq_true _)))] En944 fun ac946 En947 => ?_
       refine then_normal ?_
       refine wp_seq ?_
       refine d_r [1,3,4,6,8,9,10,16,17,18,19,20,136] [(1, g_b (show (gotA (pskM (pskP (List.map puPsk df)) false false) != (0 : Int)) = false from (by rw [got_a (psk_back (by omega)).1]; rfl))), (8, g_b (show (decide (((gotN (pskM (pskP (List.map puPsk df)) false false) (List.length (pskO (pskP (List.map puPsk df)) false false).2.1) : Nat) : Int) < (35 : Int))) = false from (by rw [gotN_0 (got_a (psk_back (by omega)).1)]; exact decide_eq_false (by have := (psk_back (ps := List.map puPsk df) (by omega)).2.1; omega)))), (14, g_b (show (decide (((gotN (pskM (pskP (List.map puPsk df)) false false) (List.length (pskO (pskP (List.map puPsk df)) false false).2.1) : Nat) : Int) > ((List.length (pskP (List.map puPsk df)) : Nat) : Int))) = false from (by rw [gotN_0 (got_a (psk_back (by omega)).1)]; exact decide_eq_false (by have := (psk_back (ps := List.map puPsk df) (by omega)).2.2; omega))))] En947 fun ac948 En949 => ?_
       refine then_normal ?_
       refine c_f En949 ?_
       refine wp_skip ?_
       exact ⟨rfl, ⟨En949.sb, Hv945.pk [2, 3, 4, 5, 6, 7, 8, 9, 10, 11, 12, 13, 14, 15, 16, 17, 18, 19]⟩⟩
      ·
       refine wp_skip ?_
       exact ⟨rfl, ⟨En916.sb, Hv912.pk [0, 1, 2, 3, 4, 5, 6, 7, 8, 9, 10, 11, 12, 13, 14, 15, 16, 17]⟩⟩
     ·
      rintro ac950 wo951 ⟨En952, Hv953⟩
      refine then_normal ?_
      refine wp_seq ?_
      refine d_r [1,3,4,6,8,10,16,17,18,19,20] [] En952 fun ac954 En955 => ?_
      refine then_normal ?_
      refine wp_ret ?_
      refine d_ret1 (t := 8) (v := .bool true) En955 (by kernel_rfl) (by kernel_rfl) ?_
      exact ⟨rfl, Hv953.pk []⟩
    ·
     have hb782p : ¬ (gotA (certM b false false) = (0 : Int)) := ne_of_beq_false hb782
     refine r_c (fun ac wo => Env ac 138 [(1, .slice a_b (List.length b) c_b), (3, uv16 q), (4, pt bk1), (6, pt bk6), (8, .bool false), (9, .bool true), (10, .slice pa24 (List.length (cliP (ha, hb, hc, List.map (fun y : RU16 => y) hd, List.map (fun y : RExt => (y.1, y.2.1.l)) he))) pc25), (16, pt bk168), (17, .int .i64 (gotA (certM b false false))), (18, pt bk325), (19, pt bk771), (104, .bool false)] ∧ Ev w [] wo [.vec oaa752 oca753 1 (bys bla754) 5, .vec oab755 ocb756 2 (List.flatMap fCer xsb757) 196, .grp (List.flatMap innCer xsb757), .vec oac301 occ302 1 (bys blc303) 5, .vec oad304 ocd305 1 (List.flatMap fU16 xsd306) 37, .vec oae307 oce308 2 (List.flatMap fExt xse309) 147, .grp (List.flatMap innExt xse309), .vec oac144 occ145 1 (bys blc146) 5, .vec oad147 ocd148 1 (List.flatMap fU16 xsd149) 37, .vec oae150 oce151 2 (List.flatMap fExt xse152) 147, .grp (List.flatMap innExt xse152), .vec pa24 pc25 1 (bys (cliP (ha, hb, hc, List.map (fun y : RU16 => y) hd, List.map (fun y : RExt => (y.1, y.2.1.l)) he))) 5, .box bk1 (([uv16 ha] : List Value) ++ ((bys hb) ++ ([.slice a_hc (List.length hc) c_hc, .slice a_hd (List.length hd) c_hd, .slice a_he (List.length he) c_he] : List Value))) 75, .box bk6 [.string (bstr da), .slice a_db (List.length db) c_db, .slice a_dc (List.length dc) c_dc, .slice a_dd (List.length dd) c_dd, .slice a_de (List.length de) c_de, .slice a_df (List.length df) c_df, .slice a_dg (List.length dg) c_dg, uv16 dh] 39, .box bk168 (([uv16 xva142] : List Value) ++ ((bys alb143) ++ ([.slice oac144 (List.length blc146) occ145, .slice oad147 (List.length xsd149) ocd148, .slice oae150 (List.length xse152) oce151] : List Value))) 75, .box bk325 (([uv16 xva299] : List Value) ++ ((bys alb300) ++ ([.slice oac301 (List.length blc303) occ302, .slice oad304 (List.length xsd306) ocd305, .slice oae307 (List.length xse309) oce308] : List Value))) 75, .box bk771 [.slice oaa752 (List.length bla754) oca753, .slice oab755 (List.length xsb757) ocb756] 83]) ?_ ?_
     ·
      refine draw_any (by kernel_rfl) 10 (by kernel_rfl) ?_
      have wo956 := Hv779.trans (Ev.drew Hv779.heap)
      refine q_a [0,1,2] [] 7 En781 fun ac963 En964 => ?_
      have En965 := En964.fx (t := 96) (congrArg Value.bool hb782)
      have En966 := En965.fx (t := 97) (congrArg Value.bool hb782)
      refine q_a [3,4,5,6,7,8,9] [] 0 En966 fun ac967 En968 => ?_
      exact a_e ⟨En968.sb, wo956.pk [0, 1, 2, 3, 4, 5, 6, 7, 8, 9, 10, 11, 12, 13, 14, 15, 16]⟩
     rintro ac969 wo970 ⟨En971, Hv972⟩
     refine then_normal ?_
     refine c_f En971 ?_
     refine wp_skip ?_
     refine then_normal ?_
     refine wp_seq ?_
     refine region_from ?_
     refine d_k [1,3,4,6,8,9,10,16,17,18,19,105] [] 1 En971 fun ac973 En974 => ?_
     refine f_o ?_
     refine m_l 13 En974 Hv972 fun ac975 En976 => ?_
     refine f_o ?_
     refine c_0 En976 Hv972 (ppsks_go _ a_df c_df df (i_df.go Hv972 [] (by kernel_rfl) (fun _ h => ⟨(InB.ev h.1 Hv972).pick [] (by kernel_rfl), h.2.1, (InB.ev h.2.2.1 Hv972).pick [] (by kernel_rfl), h.2.2.2⟩)) (by assumption) (by assumption)) ?_
     rintro _ wo980 ⟨pa977, pc978, rfl, he981⟩
     refine ⟨_, _, _, rfl, he981, rfl, fun ac983 En984 Hv985 => ?_⟩
     refine d_e [1,3,4,6,8,9,10,16,17,18,19,20] [] En984 fun ac986 En987 => ?_
     refine then_normal ?_
     refine wp_seq ?_
     refine wp_seq ?_
     have hlen19 : List.length (pskP (List.map puPsk df)) ≤ 80000000 := Nat.le_trans (doneL_len _ _) (by simp only [wput_len, List.length_nil]; omega)
     refine d_r [1,3,4,6,8,9,10,16,17,18,19,20,110] [] En987 fun ac988 En989 => ?_
     refine then_normal ?_
     refine region_cut (F := fun ac wo => Env ac 138 [(1, .slice a_b (List.length b) c_b), (3, uv16 q), (4, pt bk1), (6, pt bk6), (8, .bool false), (9, .bool true), (10, .slice pa24 (List.length (cliP (ha, hb, hc, List.map (fun y : RU16 => y) hd, List.map (fun y : RExt => (y.1, y.2.1.l)) he))) pc25), (16, pt bk168), (17, .int .i64 (gotA (certM b false false))), (18, pt bk325), (19, pt bk771), (20, .slice pa977 (List.length (pskP (List.map puPsk df))) pc978)] ∧ Ev w [] wo [.vec pa977 pc978 1 (bys (pskP (List.map puPsk df))) 5, .vec oaa752 oca753 1 (bys bla754) 5, .vec oab755 ocb756 2 (List.flatMap fCer xsb757) 196, .grp (List.flatMap innCer xsb757), .vec oac301 occ302 1 (bys blc303) 5, .vec oad304 ocd305 1 (List.flatMap fU16 xsd306) 37, .vec oae307 oce308 2 (List.flatMap fExt xse309) 147, .grp (List.flatMap innExt xse309), .vec oac144 occ145 1 (bys blc146) 5, .vec oad147 ocd148 1 (List.flatMap fU16 xsd149) 37, .vec oae150 oce151 2 (List.flatMap fExt xse152) 147, .grp (List.flatMap innExt xse152), .vec pa24 pc25 1 (bys (cliP (ha, hb, hc, List.map (fun y : RU16 => y) hd, List.map (fun y : RExt => (y.1, y.2.1.l)) he))) 5, .box bk1 (([uv16 ha] : List Value) ++ ((bys hb) ++ ([.slice a_hc (List.length hc) c_hc, .slice a_hd (List.length hd) c_hd, .slice a_he (List.length he) c_he] : List Value))) 75, .box bk6 [.string (bstr da), .slice a_db (List.length db) c_db, .slice a_dc (List.length dc) c_dc, .slice a_dd (List.length dd) c_dd, .slice a_de (List.length de) c_de, .slice a_df (List.length df) c_df, .slice a_dg (List.length dg) c_dg, uv16 dh] 39, .box bk168 (([uv16 xva142] : List Value) ++ ((bys alb143) ++ ([.slice oac144 (List.length blc146) occ145, .slice oad147 (List.length xsd149) ocd148, .slice oae150 (List.length xse152) oce151] : List Value))) 75, .box bk325 (([uv16 xva299] : List Value) ++ ((bys alb300) ++ ([.slice oac301 (List.length blc303) occ302, .slice oad304 (List.length xsd306) ocd305, .slice oae307 (List.length xse309) oce308] : List Value))) 75, .box bk771 [.slice oaa752 (List.length bla754) oca753, .slice oab755 (List.length xsb757) ocb756] 83]) ?_ ?_
     ·
      refine c_d (((List.length (pskP (List.map puPsk df)) : Nat) : Int) > (0 : Int)) En989 (fun hc990 => ?_) (fun hc990 => ?_)
      ·
       refine wp_seq ?_
       refine region_from ?_
       refine d_k [1,3,4,6,8,9,10,16,17,18,19,20,112] [] 1 En989 fun ac991 En992 => ?_
       refine f_o ?_
       refine c_0 En992 Hv985 (getpsks_go _ pa977 (List.length (pskP (List.map puPsk df))) pc978 (pskP (List.map puPsk df)) (by first | rfl | (simp; done) | (simp; omega) | omega) (bys_in Hv985.heap (k := 0) rfl [] (by kernel_rfl) rfl (by first | omega | (simp; done) | (simp; omega)))) ?_
       rintro _ wo1000 ⟨oa993, oc994, xs995, rfl, he1001, hpu996, hf997, hf998⟩
       refine ⟨_, _, _, rfl, he1001, rfl, fun ac1003 En1004 Hv1005 => ?_⟩
       refine d_e [1,3,4,6,8,9,10,16,17,18,19,20,21,22,23] [] En1004 fun ac1006 En1007 => ?_
       refine then_normal ?_
       refine wp_seq ?_
       refine region_from ?_
       refine d_k [1,3,4,6,8,9,10,16,17,18,19,20,22,23,117,118] [] 2 En1007 fun ac1008 En1009 => ?_
       refine f_o ?_
       refine m_l 16 En1009 Hv1005 fun ac1010 En1011 => ?_
       refine f_o ?_
       refine c_p En1011 Hv1005 (samepsk_go _ oa993 oc994 xs995 (Hv1005.heap.innS (k := 0) (f := fPsk) (sz := 3) (by_ := 56) rfl (fun _ => rfl) (by decide) [] (by kernel_rfl) rfl (by first | omega | (simp; done) | (simp; omega)) (fun y hy => ⟨Hv1005.heap.innB (k := 1) rfl (List.mem_flatMap.2 ⟨y, hy, List.mem_cons_self⟩) [] (by kernel_rfl) rfl (Nat.le_trans (hf998 y hy).1 (by decide)), trivial, Hv1005.heap.innB (k := 1) rfl (List.mem_flatMap.2 ⟨y, hy, (List.mem_cons_of_mem _ List.mem_cons_self)⟩) [] (by kernel_rfl) rfl (Nat.le_trans (hf998 y hy).2 (by decide)), trivial⟩)) a_df c_df df (i_df.go Hv1005 [] (by kernel_rfl) (fun _ h => ⟨(InB.ev h.1 Hv1005).pick [] (by kernel_rfl), h.2.1, (InB.ev h.2.2.1 Hv1005).pick [] (by kernel_rfl), h.2.2.2⟩))) fun ac1016 wo1013 En1017 Hv1018 => ?_
       refine d_e [1,3,4,6,8,9,10,16,17,18,19,20,22,23,24] [(4, g_b (show ((List.map puPsk xs995 == List.map puPsk df)) = true from (by rw [hpu996, (got_back (z := _) (psk_back (by omega)).1).2]; exact beq_self_eq_true _)))] En1017 fun ac1019 En1020 => ?_
       refine then_normal ?_
       refine wp_seq ?_
       refine d_r [1,3,4,6,8,9,10,16,17,18,19,20,136] [(1, g_b (show (gotA (pskM (pskP (List.map puPsk df)) false false) != (0 : Int)) = false from (by rw [got_a (psk_back (by omega)).1]; rfl))), (8, g_b (show (decide (((gotN (pskM (pskP (List.map puPsk df)) false false) (List.length (pskO (pskP (List.map puPsk df)) false false).2.1) : Nat) : Int) < (35 : Int))) = false from (by rw [gotN_0 (got_a (psk_back (by omega)).1)]; exact decide_eq_false (by have := (psk_back (ps := List.map puPsk df) (by omega)).2.1; omega)))), (14, g_b (show (decide (((gotN (pskM (pskP (List.map puPsk df)) false false) (List.length (pskO (pskP (List.map puPsk df)) false false).2.1) : Nat) : Int) > ((List.length (pskP (List.map puPsk df)) : Nat) : Int))) = false from (by rw [gotN_0 (got_a (psk_back (by omega)).1)]; exact decide_eq_false (by have := (psk_back (ps := List.map puPsk df) (by omega)).2.2; omega))))] En1020 fun ac1021 En1022 => ?_
       refine then_normal ?_
       refine c_f En1022 ?_
       refine wp_skip ?_
       exact ⟨rfl, ⟨En1022.sb, Hv1018.pk [2, 3, 4, 5, 6, 7, 8, 9, 10, 11, 12, 13, 14, 15, 16, 17, 18, 19]⟩⟩
      ·
       refine wp_skip ?_
       exact ⟨rfl, ⟨En989.sb, Hv985.pk [0, 1, 2, 3, 4, 5, 6, 7, 8, 9, 10, 11, 12, 13, 14, 15, 16, 17]⟩⟩
     ·
      rintro ac1023 wo1024 ⟨En1025, Hv1026⟩
      refine then_normal ?_
      refine wp_seq ?_
      refine d_r [1,3,4,6,8,10,16,17,18,19,20] [] En1025 fun ac1027 En1028 => ?_
      refine then_normal ?_
      refine wp_ret ?_
      refine d_ret1 (t := 8) (v := .bool true) En1028 (by kernel_rfl) (by kernel_rfl) ?_
      exact ⟨rfl, Hv1026.pk []⟩
  ·
   have hb179p : ¬ (gotA (cliM b false false) = (0 : Int)) := ne_of_beq_false hb179
   refine r_c (fun ac wo => Env ac 138 [(1, .slice a_b (List.length b) c_b), (3, uv16 q), (4, pt bk1), (6, pt bk6), (8, .bool false), (9, .bool true), (10, .slice pa24 (List.length (cliP (ha, hb, hc, List.map (fun y : RU16 => y) hd, List.map (fun y : RExt => (y.1, y.2.1.l)) he))) pc25), (16, pt bk168), (17, .int .i64 (gotA (cliM b false false))), (74, .bool false)] ∧ Ev w [] wo [.vec oac144 occ145 1 (bys blc146) 5, .vec oad147 ocd148 1 (List.flatMap fU16 xsd149) 37, .vec oae150 oce151 2 (List.flatMap fExt xse152) 147, .grp (List.flatMap innExt xse152), .vec pa24 pc25 1 (bys (cliP (ha, hb, hc, List.map (fun y : RU16 => y) hd, List.map (fun y : RExt => (y.1, y.2.1.l)) he))) 5, .box bk1 (([uv16 ha] : List Value) ++ ((bys hb) ++ ([.slice a_hc (List.length hc) c_hc, .slice a_hd (List.length hd) c_hd, .slice a_he (List.length he) c_he] : List Value))) 75, .box bk6 [.string (bstr da), .slice a_db (List.length db) c_db, .slice a_dc (List.length dc) c_dc, .slice a_dd (List.length dd) c_dd, .slice a_de (List.length de) c_de, .slice a_df (List.length df) c_df, .slice a_dg (List.length dg) c_dg, uv16 dh] 39, .box bk168 (([uv16 xva142] : List Value) ++ ((bys alb143) ++ ([.slice oac144 (List.length blc146) occ145, .slice oad147 (List.length xsd149) ocd148, .slice oae150 (List.length xse152) oce151] : List Value))) 75]) ?_ ?_
   ·
    refine draw_any (by kernel_rfl) 10 (by kernel_rfl) ?_
    have wo1029 := Hv176.trans (Ev.drew Hv176.heap)
    refine q_a [0,1,2] [] 7 En178 fun ac1036 En1037 => ?_
    have En1038 := En1037.fx (t := 66) (congrArg Value.bool hb179)
    have En1039 := En1038.fx (t := 67) (congrArg Value.bool hb179)
    refine q_a [3,4,5,6,7,8,9] [] 0 En1039 fun ac1040 En1041 => ?_
    exact a_e ⟨En1041.sb, wo1029.pk [0, 1, 2, 3, 4, 5, 6, 7]⟩
   rintro ac1042 wo1043 ⟨En1044, Hv1045⟩
   refine then_normal ?_
   refine c_f En1044 ?_
   refine wp_skip ?_
   refine then_normal ?_
   refine wp_seq ?_
   refine region_from ?_
   refine d_k [1,3,4,6,8,9,10,16,17,76] [] 1 En1044 fun ac1046 En1047 => ?_
   refine f_o ?_
   refine c_0 En1047 Hv1045 (getserver_go _ a_b (List.length b) c_b b (by first | rfl | (simp; done) | (simp; omega) | omega) ((i_b.ev Hv1045).pick [] (by kernel_rfl))) ?_
   rintro _ wo1066 ⟨xva1048, alb1049, oac1050, occ1051, blc1052, oad1053, ocd1054, xsd1055, oae1056, oce1057, xse1058, rfl, he1067, hpu1059, hf1060, hf1061, hf1062, hf1063, hf1064⟩
   refine ⟨_, _, _, rfl, he1067, rfl, fun ac1069 En1070 Hv1071 => ?_⟩
   refine d_k [1,3,4,6,8,9,10,16,17,78,79] [] 5 En1070 fun ac1072 En1073 => ?_
   refine f_o ?_
   refine m_z 75 (([.int .u16 0] : List Value) ++ ((bys (List.replicate 32 0)) ++ ([.slice none 0 0, .slice none 0 0, .slice none 0 0] : List Value))) En1073 Hv1071 fun ac1075 wo1076 bk1074 En1077 Hv1078 => ?_
   refine f_o ?_
   refine m_g 12 0 36 (([uv16 xva1048] : List Value) ++ ((bys alb1049) ++ ([.slice oac1050 (List.length blc1052) occ1051, .slice oad1053 (List.length xsd1055) ocd1054, .slice oae1056 (List.length xse1058) oce1057] : List Value))) (([uv16 xva1048] : List Value) ++ ((bys alb1049) ++ ([.slice oac1050 (List.length blc1052) occ1051, .slice oad1053 (List.length xsd1055) ocd1054, .slice oae1056 (List.length xse1058) oce1057] : List Value))) [.vec oac1050 occ1051 1 (bys blc1052) 5, .vec oad1053 ocd1054 1 (List.flatMap fU16 xsd1055) 37, .vec oae1056 oce1057 2 (List.flatMap fExt xse1058) 147, .grp (List.flatMap innExt xse1058), .vec oac144 occ145 1 (bys blc146) 5, .vec oad147 ocd148 1 (List.flatMap fU16 xsd149) 37, .vec oae150 oce151 2 (List.flatMap fExt xse152) 147, .grp (List.flatMap innExt xse152), .vec pa24 pc25 1 (bys (cliP (ha, hb, hc, List.map (fun y : RU16 => y) hd, List.map (fun y : RExt => (y.1, y.2.1.l)) he))) 5, .box bk1 (([uv16 ha] : List Value) ++ ((bys hb) ++ ([.slice a_hc (List.length hc) c_hc, .slice a_hd (List.length hd) c_hd, .slice a_he (List.length he) c_he] : List Value))) 75, .box bk6 [.string (bstr da), .slice a_db (List.length db) c_db, .slice a_dc (List.length dc) c_dc, .slice a_dd (List.length dd) c_dd, .slice a_de (List.length de) c_de, .slice a_df (List.length df) c_df, .slice a_dg (List.length dg) c_dg, uv16 dh] 39, .box bk168 (([uv16 xva142] : List Value) ++ ((bys alb143) ++ ([.slice oac144 (List.length blc146) occ145, .slice oad147 (List.length xsd149) ocd148, .slice oae150 (List.length xse152) oce151] : List Value))) 75, .box bk1074 (([uv16 xva1048] : List Value) ++ ((bys alb1049) ++ ([.slice oac1050 (List.length blc1052) occ1051, .slice oad1053 (List.length xsd1055) ocd1054, .slice oae1056 (List.length xse1058) oce1057] : List Value))) 75] En1077 Hv1078 rfl (len_app rfl (len_app (bys_lenh hf1060) rfl)) (by rw [(len_app rfl (len_app (bys_lenh (List.length_replicate)) rfl))]; first | decide | (simp; done)) (one_app (one_all (by kernel_rfl)) (one_app (bys_one _) (one_all (by kernel_rfl)))) (store_whole (len_app rfl (len_app (bys_lenh (List.length_replicate)) rfl))) rfl fun ac1079 wo1080 En1081 Hv1082 => ?_
   refine d_e [1,3,4,6,8,9,10,16,17,18] [] En1081 fun ac1083 En1084 => ?_
   refine then_normal ?_
   refine wp_seq ?_
   refine wp_seq ?_
   rcases Bool.eq_false_or_eq_true (gotA (srvM b false false) == (0 : Int)) with hb1085 | hb1085
   ·
    have hb1085p : gotA (srvM b false false) = (0 : Int) := eq_of_beq hb1085
    refine r_c (fun ac wo => Env ac 138 [(1, .slice a_b (List.length b) c_b), (3, uv16 q), (4, pt bk1), (6, pt bk6), (8, .bool false), (9, .bool true), (10, .slice pa24 (List.length (cliP (ha, hb, hc, List.map (fun y : RU16 => y) hd, List.map (fun y : RExt => (y.1, y.2.1.l)) he))) pc25), (16, pt bk168), (17, .int .i64 (gotA (srvM b false false))), (18, pt bk1074), (89, .bool false)] ∧ Ev w [] wo [.vec oac1050 occ1051 1 (bys blc1052) 5, .vec oad1053 ocd1054 1 (List.flatMap fU16 xsd1055) 37, .vec oae1056 oce1057 2 (List.flatMap fExt xse1058) 147, .grp (List.flatMap innExt xse1058), .vec oac144 occ145 1 (bys blc146) 5, .vec oad147 ocd148 1 (List.flatMap fU16 xsd149) 37, .vec oae150 oce151 2 (List.flatMap fExt xse152) 147, .grp (List.flatMap innExt xse152), .vec pa24 pc25 1 (bys (cliP (ha, hb, hc, List.map (fun y : RU16 => y) hd, List.map (fun y : RExt => (y.1, y.2.1.l)) he))) 5, .box bk1 (([uv16 ha] : List Value) ++ ((bys hb) ++ ([.slice a_hc (List.length hc) c_hc, .slice a_hd (List.length hd) c_hd, .slice a_he (List.length he) c_he] : List Value))) 75, .box bk6 [.string (bstr da), .slice a_db (List.length db) c_db, .slice a_dc (List.length dc) c_dc, .slice a_dd (List.length dd) c_dd, .slice a_de (List.length de) c_de, .slice a_df (List.length df) c_df, .slice a_dg (List.length dg) c_dg, uv16 dh] 39, .box bk168 (([uv16 xva142] : List Value) ++ ((bys alb143) ++ ([.slice oac144 (List.length blc146) occ145, .slice oad147 (List.length xsd149) ocd148, .slice oae150 (List.length xse152) oce151] : List Value))) 75, .box bk1074 (([uv16 xva1048] : List Value) ++ ((bys alb1049) ++ ([.slice oac1050 (List.length blc1052) occ1051, .slice oad1053 (List.length xsd1055) ocd1054, .slice oae1056 (List.length xse1058) oce1057] : List Value))) 75]) ?_ ?_
    ·
     refine h_s (fun wv => Ev w [] wv [.box bk1074 (([uv16 xva1048] : List Value) ++ ((bys alb1049) ++ ([.slice oac1050 (List.length blc1052) occ1051, .slice oad1053 (List.length xsd1055) ocd1054, .slice oae1056 (List.length xse1058) oce1057] : List Value))) 75]) [] 10 ?_
     have wo1086 := Hv1082.trans (Ev.drew Hv1082.heap)
     refine q_s [0,1,2] [] 7 En1084 (wo1086.pk [12]) fun ac1175 En1176 => ?_
     have En1177 := En1176.fx (t := 81) (congrArg Value.bool hb1085)
     have En1178 := En1177.fx (t := 82) (congrArg Value.bool hb1085)
     refine q_r 3 (s := Instr.loadAt 75 (pt bk1074)) (v := .agg (List.toArray (([uv16 xva1048] : List Value) ++ ((bys alb1049) ++ ([.slice oac1050 (List.length blc1052) occ1051, .slice oad1053 (List.length xsd1055) ocd1054, .slice oae1056 (List.length xse1058) oce1057] : List Value))))) En1178 (fun w hS => run_loadAgg2 (m := 36) (cs := ([uv16 xva1048] : List Value) ++ ((bys alb1049) ++ ([.slice oac1050 (List.length blc1052) occ1051, .slice oad1053 (List.length xsd1055) ocd1054, .slice oae1056 (List.length xse1058) oce1057] : List Value))) (len_app rfl (len_app (bys_lenh hf1060) rfl)) (by kernel_rfl) (by kernel_rfl) (hS.heap.cells (k := 0) (off := 0) (m := 36) rfl (load_whole (len_app rfl (len_app (bys_lenh hf1060) rfl))))) (wo1086.pk [12]) fun ac1179 En1180 => ?_
     refine q_s [6] [] 5 En1180 (wo1086.pk [12]) fun ac1181 En1182 => ?_
     refine q_r 7 (s := convert 23 9 (.slice a_b (List.length b) c_b)) (v := .string (bstr b)) En1182 (fun w hS => run_str2 (e := 5) (bs := b) rfl (by kernel_rfl) (by kernel_rfl) (by kernel_rfl) (i_b.ev hS).reads i_b.nz) (wo1086.pk [12]) fun ac1183 En1184 => ?_
     refine q_t 4 ?_
     have hsz1185 := srv_sz (l := b) (by assumption)
     rw [← gotV_0 (by assumption), ← hpu1059] at hsz1185
     dsimp only at hsz1185
     have hqahsz1185 := Nat.le_trans hsz1185.1 (show List.length b ≤ 16777216 by omega)
     have hqbhsz1185 := allB_m u16_mono (Nat.le_trans hsz1185.2.1 (show 2 ≤ 16777216 by omega))
     have hqchsz1185 := hsz1185.2.2
     refine c_0 En1184 wo1086 (pserver_go _ xva1048 alb1049 hf1060 oac1050 occ1051 blc1052 oad1053 ocd1054 xsd1055 oae1056 oce1057 xse1058 (bys_in wo1086.heap (k := 0) rfl [] (by kernel_rfl) rfl (by first | omega | (simp; done) | (simp; omega))) (wo1086.heap.innS (k := 1) (f := fU16) (sz := 1) (by_ := 2) rfl (fun _ => rfl) (by decide) [] (by kernel_rfl) rfl (by first | omega | (simp; done) | (simp; omega)) (fun _ _ => trivial)) (wo1086.heap.innS (k := 2) (f := fExt) (sz := 2) (by_ := 32) rfl (fun _ => rfl) (by decide) [] (by kernel_rfl) rfl (by first | omega | (simp; done) | (simp; omega)) (fun y hy => ⟨trivial, wo1086.heap.innB (k := 3) rfl (List.mem_flatMap.2 ⟨y, hy, List.mem_cons_self⟩) [] (by kernel_rfl) rfl (Nat.le_trans (hf1064 y hy) (by decide)), trivial⟩)) (by assumption) (by assumption) (by omega)) ?_
     rintro _ wo1189 ⟨pa1186, pc1187, rfl, he1190⟩
     refine ⟨_, _, _, rfl, he1190, rfl, fun ac1192 En1193 Hv1194 => ?_⟩
     refine ⟨fun _ => Hv1194.pk [13], ?_⟩
     refine q_t 5 ?_
     refine op_str (d := some 85) (src := 23) (dst := 9) (e := 5) (ao := pa1186) (cap := pc1187) (p := List.length (srvP (xva1048, alb1049, blc1052, List.map (fun y : RU16 => y) xsd1055, List.map (fun y : RExt => (y.1, y.2.1.l)) xse1058))) (bs := srvP (xva1048, alb1049, blc1052, List.map (fun y : RU16 => y) xsd1055, List.map (fun y : RExt => (y.1, y.2.1.l)) xse1058)) En1193 (by kernel_rfl) rfl (by kernel_rfl) (by kernel_rfl) (by kernel_rfl) (Hv1194.heap.reads (k := 0) rfl) (bys_vnz Hv1194.heap (k := 0) rfl) ?_
     intro ac1195 En1196
     refine ⟨fun _ => Hv1194.pk [13], ?_⟩
     refine q_s [8,9] [(8, g_v (show (.bool (!(ByteArray.toList (bstr (srvP (xva1048, alb1049, blc1052, List.map (fun y : RU16 => y) xsd1055, List.map (fun y : RExt => (y.1, y.2.1.l)) xse1058))) == ByteArray.toList (bstr b))) : Value) = .bool false by rw [Go.Dbr.bstr_eq (srvP (xva1048, alb1049, blc1052, List.map (fun y : RU16 => y) xsd1055, List.map (fun y : RExt => (y.1, y.2.1.l)) xse1058)) b, show (!((srvP (xva1048, alb1049, blc1052, List.map (fun y : RU16 => y) xsd1055, List.map (fun y : RExt => (y.1, y.2.1.l)) xse1058)) == b)) = false from (by rw [hpu1059.trans (gotV_0 (by assumption)), srv_rev (by assumption)]; first | exact bne_self_eq_false _ | exact nbeq_self _ | rfl)] <;> rfl))] 0 En1196 (Hv1194.pk [13]) fun ac1197 En1198 => ?_
     exact h_e ⟨En1198.sb, Hv1194.pk [1, 2, 3, 4, 5, 6, 7, 8, 9, 10, 11, 12, 13]⟩
    rintro ac1199 wo1200 ⟨En1201, Hv1202⟩
    refine then_normal ?_
    refine c_f En1201 ?_
    refine wp_skip ?_
    refine then_normal ?_
    refine wp_seq ?_
    refine region_from ?_
    refine d_k [1,3,4,6,8,9,10,16,17,18,91] [] 1 En1201 fun ac1203 En1204 => ?_
    refine f_o ?_
    refine c_0 En1204 Hv1202 (getcert_go _ a_b (List.length b) c_b b (by first | rfl | (simp; done) | (simp; omega) | omega) ((i_b.ev Hv1202).pick [] (by kernel_rfl))) ?_
    rintro _ wo1216 ⟨oaa1205, oca1206, bla1207, oab1208, ocb1209, xsb1210, rfl, he1217, hpu1211, hf1212, hf1213, hf1214⟩
    refine ⟨_, _, _, rfl, he1217, rfl, fun ac1219 En1220 Hv1221 => ?_⟩
    refine d_k [1,3,4,6,8,9,10,16,17,18,93,94] [] 5 En1220 fun ac1222 En1223 => ?_
    refine f_o ?_
    refine m_z 83 [.slice none 0 0, .slice none 0 0] En1223 Hv1221 fun ac1225 wo1226 bk1224 En1227 Hv1228 => ?_
    refine f_o ?_
    refine m_g 16 0 2 [.slice oaa1205 (List.length bla1207) oca1206, .slice oab1208 (List.length xsb1210) ocb1209] [.slice oaa1205 (List.length bla1207) oca1206, .slice oab1208 (List.length xsb1210) ocb1209] [.vec oaa1205 oca1206 1 (bys bla1207) 5, .vec oab1208 ocb1209 2 (List.flatMap fCer xsb1210) 196, .grp (List.flatMap innCer xsb1210), .vec oac1050 occ1051 1 (bys blc1052) 5, .vec oad1053 ocd1054 1 (List.flatMap fU16 xsd1055) 37, .vec oae1056 oce1057 2 (List.flatMap fExt xse1058) 147, .grp (List.flatMap innExt xse1058), .vec oac144 occ145 1 (bys blc146) 5, .vec oad147 ocd148 1 (List.flatMap fU16 xsd149) 37, .vec oae150 oce151 2 (List.flatMap fExt xse152) 147, .grp (List.flatMap innExt xse152), .vec pa24 pc25 1 (bys (cliP (ha, hb, hc, List.map (fun y : RU16 => y) hd, List.map (fun y : RExt => (y.1, y.2.1.l)) he))) 5, .box bk1 (([uv16 ha] : List Value) ++ ((bys hb) ++ ([.slice a_hc (List.length hc) c_hc, .slice a_hd (List.length hd) c_hd, .slice a_he (List.length he) c_he] : List Value))) 75, .box bk6 [.string (bstr da), .slice a_db (List.length db) c_db, .slice a_dc (List.length dc) c_dc, .slice a_dd (List.length dd) c_dd, .slice a_de (List.length de) c_de, .slice a_df (List.length df) c_df, .slice a_dg (List.length dg) c_dg, uv16 dh] 39, .box bk168 (([uv16 xva142] : List Value) ++ ((bys alb143) ++ ([.slice oac144 (List.length blc146) occ145, .slice oad147 (List.length xsd149) ocd148, .slice oae150 (List.length xse152) oce151] : List Value))) 75, .box bk1074 (([uv16 xva1048] : List Value) ++ ((bys alb1049) ++ ([.slice oac1050 (List.length blc1052) occ1051, .slice oad1053 (List.length xsd1055) ocd1054, .slice oae1056 (List.length xse1058) oce1057] : List Value))) 75, .box bk1224 [.slice oaa1205 (List.length bla1207) oca1206, .slice oab1208 (List.length xsb1210) ocb1209] 83] En1227 Hv1228 rfl rfl (by simp) (one_all (by kernel_rfl)) rfl rfl fun ac1229 wo1230 En1231 Hv1232 => ?_
    refine d_e [1,3,4,6,8,9,10,16,17,18,19] [] En1231 fun ac1233 En1234 => ?_
    refine then_normal ?_
    refine wp_seq ?_
    refine wp_seq ?_
    rcases Bool.eq_false_or_eq_true (gotA (certM b false false) == (0 : Int)) with hb1235 | hb1235
    ·
     have hb1235p : gotA (certM b false false) = (0 : Int) := eq_of_beq hb1235
     refine r_c (fun ac wo => Env ac 138 [(1, .slice a_b (List.length b) c_b), (3, uv16 q), (4, pt bk1), (6, pt bk6), (8, .bool false), (9, .bool true), (10, .slice pa24 (List.length (cliP (ha, hb, hc, List.map (fun y : RU16 => y) hd, List.map (fun y : RExt => (y.1, y.2.1.l)) he))) pc25), (16, pt bk168), (17, .int .i64 (gotA (certM b false false))), (18, pt bk1074), (19, pt bk1224), (104, .bool false)] ∧ Ev w [] wo [.vec oaa1205 oca1206 1 (bys bla1207) 5, .vec oab1208 ocb1209 2 (List.flatMap fCer xsb1210) 196, .grp (List.flatMap innCer xsb1210), .vec oac1050 occ1051 1 (bys blc1052) 5, .vec oad1053 ocd1054 1 (List.flatMap fU16 xsd1055) 37, .vec oae1056 oce1057 2 (List.flatMap fExt xse1058) 147, .grp (List.flatMap innExt xse1058), .vec oac144 occ145 1 (bys blc146) 5, .vec oad147 ocd148 1 (List.flatMap fU16 xsd149) 37, .vec oae150 oce151 2 (List.flatMap fExt xse152) 147, .grp (List.flatMap innExt xse152), .vec pa24 pc25 1 (bys (cliP (ha, hb, hc, List.map (fun y : RU16 => y) hd, List.map (fun y : RExt => (y.1, y.2.1.l)) he))) 5, .box bk1 (([uv16 ha] : List Value) ++ ((bys hb) ++ ([.slice a_hc (List.length hc) c_hc, .slice a_hd (List.length hd) c_hd, .slice a_he (List.length he) c_he] : List Value))) 75, .box bk6 [.string (bstr da), .slice a_db (List.length db) c_db, .slice a_dc (List.length dc) c_dc, .slice a_dd (List.length dd) c_dd, .slice a_de (List.length de) c_de, .slice a_df (List.length df) c_df, .slice a_dg (List.length dg) c_dg, uv16 dh] 39, .box bk168 (([uv16 xva142] : List Value) ++ ((bys alb143) ++ ([.slice oac144 (List.length blc146) occ145, .slice oad147 (List.length xsd149) ocd148, .slice oae150 (List.length xse152) oce151] : List Value))) 75, .box bk1074 (([uv16 xva1048] : List Value) ++ ((bys alb1049) ++ ([.slice oac1050 (List.length blc1052) occ1051, .slice oad1053 (List.length xsd1055) ocd1054, .slice oae1056 (List.length xse1058) oce1057] : List Value))) 75, .box bk1224 [.slice oaa1205 (List.length bla1207) oca1206, .slice oab1208 (List.length xsb1210) ocb1209] 83]) ?_ ?_
     ·
      refine h_s (fun wv => Ev w [] wv [.box bk1224 [.slice oaa1205 (List.length bla1207) oca1206, .slice oab1208 (List.length xsb1210) ocb1209] 83]) [] 10 ?_
      have wo1236 := Hv1232.trans (Ev.drew Hv1232.heap)
      refine q_s [0,1,2] [] 7 En1234 (wo1236.pk [16]) fun ac1325 En1326 => ?_
      have En1327 := En1326.fx (t := 96) (congrArg Value.bool hb1235)
      have En1328 := En1327.fx (t := 97) (congrArg Value.bool hb1235)
      refine q_r 3 (s := Instr.loadAt 83 (pt bk1224)) (v := .agg #[.slice oaa1205 (List.length bla1207) oca1206, .slice oab1208 (List.length xsb1210) ocb1209]) En1328 (fun w hS => run_loadAgg2 (m := 2) (cs := [.slice oaa1205 (List.length bla1207) oca1206, .slice oab1208 (List.length xsb1210) ocb1209]) rfl (by kernel_rfl) (by kernel_rfl) (hS.heap.cells (k := 0) (off := 0) (m := 2) rfl rfl)) (wo1236.pk [16]) fun ac1329 En1330 => ?_
      refine q_s [6] [] 5 En1330 (wo1236.pk [16]) fun ac1331 En1332 => ?_
      refine q_r 7 (s := convert 23 9 (.slice a_b (List.length b) c_b)) (v := .string (bstr b)) En1332 (fun w hS => run_str2 (e := 5) (bs := b) rfl (by kernel_rfl) (by kernel_rfl) (by kernel_rfl) (i_b.ev hS).reads i_b.nz) (wo1236.pk [16]) fun ac1333 En1334 => ?_
      refine q_t 4 ?_
      have hsz1335 := cert_sz (l := b) (by assumption)
      rw [← gotV_0 (by assumption), ← hpu1211] at hsz1335
      dsimp only at hsz1335
      have hqahsz1335 := allB_m cr_mono (Nat.le_trans hsz1335 (show List.length b ≤ 16777216 by omega))
      refine c_0 En1334 wo1236 (pcert_go _ oaa1205 oca1206 bla1207 oab1208 ocb1209 xsb1210 (bys_in wo1236.heap (k := 0) rfl [] (by kernel_rfl) rfl (by first | omega | (simp; done) | (simp; omega))) (wo1236.heap.innS (k := 1) (f := fCer) (sz := 2) (by_ := 48) rfl (fun _ => rfl) (by decide) [] (by kernel_rfl) rfl (by first | omega | (simp; done) | (simp; omega)) (fun y hy => ⟨wo1236.heap.innB (k := 2) rfl (List.mem_flatMap.2 ⟨y, hy, List.mem_cons_self⟩) [] (by kernel_rfl) rfl (Nat.le_trans (hf1214 y hy).1 (by decide)), innL wo1236.heap (k := 2) (f := fExt) (sz := 2) (by_ := 32) rfl (List.mem_flatMap.2 ⟨y, hy, List.mem_cons_of_mem _ List.mem_cons_self⟩) (fun _ => rfl) (by decide) [] (by kernel_rfl) rfl (by have := (hf1214 y hy).2.1; omega) (fun z hz => ⟨trivial, wo1236.heap.innB (k := 2) rfl (List.mem_flatMap.2 ⟨y, hy, List.mem_cons_of_mem _ (List.mem_cons_of_mem _ (List.mem_flatMap.2 ⟨z, hz, List.mem_cons_self⟩))⟩) [] (by kernel_rfl) rfl (Nat.le_trans ((hf1214 y hy).2.2 z hz) (by decide)), trivial⟩), trivial⟩)) (by assumption)) ?_
      rintro _ wo1339 ⟨pa1336, pc1337, rfl, he1340⟩
      refine ⟨_, _, _, rfl, he1340, rfl, fun ac1342 En1343 Hv1344 => ?_⟩
      refine ⟨fun _ => Hv1344.pk [17], ?_⟩
      refine q_t 5 ?_
      refine op_str (d := some 100) (src := 23) (dst := 9) (e := 5) (ao := pa1336) (cap := pc1337) (p := List.length (certP (bla1207, List.map (fun y : RCer => (y.1.l, List.map (fun y : RExt => (y.1, y.2.1.l)) y.2.1.l)) xsb1210))) (bs := certP (bla1207, List.map (fun y : RCer => (y.1.l, List.map (fun y : RExt => (y.1, y.2.1.l)) y.2.1.l)) xsb1210)) En1343 (by kernel_rfl) rfl (by kernel_rfl) (by kernel_rfl) (by kernel_rfl) (Hv1344.heap.reads (k := 0) rfl) (bys_vnz Hv1344.heap (k := 0) rfl) ?_
      intro ac1345 En1346
      refine ⟨fun _ => Hv1344.pk [17], ?_⟩
      refine q_s [8,9] [(8, g_v (show (.bool (!(ByteArray.toList (bstr (certP (bla1207, List.map (fun y : RCer => (y.1.l, List.map (fun y : RExt => (y.1, y.2.1.l)) y.2.1.l)) xsb1210))) == ByteArray.toList (bstr b))) : Value) = .bool false by rw [Go.Dbr.bstr_eq (certP (bla1207, List.map (fun y : RCer => (y.1.l, List.map (fun y : RExt => (y.1, y.2.1.l)) y.2.1.l)) xsb1210)) b, show (!((certP (bla1207, List.map (fun y : RCer => (y.1.l, List.map (fun y : RExt => (y.1, y.2.1.l)) y.2.1.l)) xsb1210)) == b)) = false from (by rw [hpu1211, cert_rev (by assumption)]; first | exact bne_self_eq_false _ | exact nbeq_self _ | rfl)] <;> rfl))] 0 En1346 (Hv1344.pk [17]) fun ac1347 En1348 => ?_
      exact h_e ⟨En1348.sb, Hv1344.pk [1, 2, 3, 4, 5, 6, 7, 8, 9, 10, 11, 12, 13, 14, 15, 16, 17]⟩
     rintro ac1349 wo1350 ⟨En1351, Hv1352⟩
     refine then_normal ?_
     refine c_f En1351 ?_
     refine wp_skip ?_
     refine then_normal ?_
     refine wp_seq ?_
     refine region_from ?_
     refine d_k [1,3,4,6,8,9,10,16,17,18,19,105] [] 1 En1351 fun ac1353 En1354 => ?_
     refine f_o ?_
     refine m_l 13 En1354 Hv1352 fun ac1355 En1356 => ?_
     refine f_o ?_
     refine c_0 En1356 Hv1352 (ppsks_go _ a_df c_df df (i_df.go Hv1352 [] (by kernel_rfl) (fun _ h => ⟨(InB.ev h.1 Hv1352).pick [] (by kernel_rfl), h.2.1, (InB.ev h.2.2.1 Hv1352).pick [] (by kernel_rfl), h.2.2.2⟩)) (by assumption) (by assumption)) ?_
     rintro _ wo1360 ⟨pa1357, pc1358, rfl, he1361⟩
     refine ⟨_, _, _, rfl, he1361, rfl, fun ac1363 En1364 Hv1365 => ?_⟩
     refine d_e [1,3,4,6,8,9,10,16,17,18,19,20] [] En1364 fun ac1366 En1367 => ?_
     refine then_normal ?_
     refine wp_seq ?_
     refine wp_seq ?_
     have hlen19 : List.length (pskP (List.map puPsk df)) ≤ 80000000 := Nat.le_trans (doneL_len _ _) (by simp only [wput_len, List.length_nil]; omega)
     refine d_r [1,3,4,6,8,9,10,16,17,18,19,20,110] [] En1367 fun ac1368 En1369 => ?_
     refine then_normal ?_
     refine region_cut (F := fun ac wo => Env ac 138 [(1, .slice a_b (List.length b) c_b), (3, uv16 q), (4, pt bk1), (6, pt bk6), (8, .bool false), (9, .bool true), (10, .slice pa24 (List.length (cliP (ha, hb, hc, List.map (fun y : RU16 => y) hd, List.map (fun y : RExt => (y.1, y.2.1.l)) he))) pc25), (16, pt bk168), (17, .int .i64 (gotA (certM b false false))), (18, pt bk1074), (19, pt bk1224), (20, .slice pa1357 (List.length (pskP (List.map puPsk df))) pc1358)] ∧ Ev w [] wo [.vec pa1357 pc1358 1 (bys (pskP (List.map puPsk df))) 5, .vec oaa1205 oca1206 1 (bys bla1207) 5, .vec oab1208 ocb1209 2 (List.flatMap fCer xsb1210) 196, .grp (List.flatMap innCer xsb1210), .vec oac1050 occ1051 1 (bys blc1052) 5, .vec oad1053 ocd1054 1 (List.flatMap fU16 xsd1055) 37, .vec oae1056 oce1057 2 (List.flatMap fExt xse1058) 147, .grp (List.flatMap innExt xse1058), .vec oac144 occ145 1 (bys blc146) 5, .vec oad147 ocd148 1 (List.flatMap fU16 xsd149) 37, .vec oae150 oce151 2 (List.flatMap fExt xse152) 147, .grp (List.flatMap innExt xse152), .vec pa24 pc25 1 (bys (cliP (ha, hb, hc, List.map (fun y : RU16 => y) hd, List.map (fun y : RExt => (y.1, y.2.1.l)) he))) 5, .box bk1 (([uv16 ha] : List Value) ++ ((bys hb) ++ ([.slice a_hc (List.length hc) c_hc, .slice a_hd (List.length hd) c_hd, .slice a_he (List.length he) c_he] : List Value))) 75, .box bk6 [.string (bstr da), .slice a_db (List.length db) c_db, .slice a_dc (List.length dc) c_dc, .slice a_dd (List.length dd) c_dd, .slice a_de (List.length de) c_de, .slice a_df (List.length df) c_df, .slice a_dg (List.length dg) c_dg, uv16 dh] 39, .box bk168 (([uv16 xva142] : List Value) ++ ((bys alb143) ++ ([.slice oac144 (List.length blc146) occ145, .slice oad147 (List.length xsd149) ocd148, .slice oae150 (List.length xse152) oce151] : List Value))) 75, .box bk1074 (([uv16 xva1048] : List Value) ++ ((bys alb1049) ++ ([.slice oac1050 (List.length blc1052) occ1051, .slice oad1053 (List.length xsd1055) ocd1054, .slice oae1056 (List.length xse1058) oce1057] : List Value))) 75, .box bk1224 [.slice oaa1205 (List.length bla1207) oca1206, .slice oab1208 (List.length xsb1210) ocb1209] 83]) ?_ ?_
     ·
      refine c_d (((List.length (pskP (List.map puPsk df)) : Nat) : Int) > (0 : Int)) En1369 (fun hc1370 => ?_) (fun hc1370 => ?_)
      ·
       refine wp_seq ?_
       refine region_from ?_
       refine d_k [1,3,4,6,8,9,10,16,17,18,19,20,112] [] 1 En1369 fun ac1371 En1372 => ?_
       refine f_o ?_
       refine c_0 En1372 Hv1365 (getpsks_go _ pa1357 (List.length (pskP (List.map puPsk df))) pc1358 (pskP (List.map puPsk df)) (by first | rfl | (simp; done) | (simp; omega) | omega) (bys_in Hv1365.heap (k := 0) rfl [] (by kernel_rfl) rfl (by first | omega | (simp; done) | (simp; omega)))) ?_
       rintro _ wo1380 ⟨oa1373, oc1374, xs1375, rfl, he1381, hpu1376, hf1377, hf1378⟩
       refine ⟨_, _, _, rfl, he1381, rfl, fun ac1383 En1384 Hv1385 => ?_⟩
       refine d_e [1,3,4,6,8,9,10,16,17,18,19,20,21,22,23] [] En1384 fun ac1386 En1387 => ?_
       refine then_normal ?_
       refine wp_seq ?_
       refine region_from ?_
       refine d_k [1,3,4,6,8,9,10,16,17,18,19,20,22,23,117,118] [] 2 En1387 fun ac1388 En1389 => ?_
       refine f_o ?_
       refine m_l 16 En1389 Hv1385 fun ac1390 En1391 => ?_
       refine f_o ?_
       refine c_p En1391 Hv1385 (samepsk_go _ oa1373 oc1374 xs1375 (Hv1385.heap.innS (k := 0) (f := fPsk) (sz := 3) (by_ := 56) rfl (fun _ => rfl) (by decide) [] (by kernel_rfl) rfl (by first | omega | (simp; done) | (simp; omega)) (fun y hy => ⟨Hv1385.heap.innB (k := 1) rfl (List.mem_flatMap.2 ⟨y, hy, List.mem_cons_self⟩) [] (by kernel_rfl) rfl (Nat.le_trans (hf1378 y hy).1 (by decide)), trivial, Hv1385.heap.innB (k := 1) rfl (List.mem_flatMap.2 ⟨y, hy, (List.mem_cons_of_mem _ List.mem_cons_self)⟩) [] (by kernel_rfl) rfl (Nat.le_trans (hf1378 y hy).2 (by decide)), trivial⟩)) a_df c_df df (i_df.go Hv1385 [] (by kernel_rfl) (fun _ h => ⟨(InB.ev h.1 Hv1385).pick [] (by kernel_rfl), h.2.1, (InB.ev h.2.2.1 Hv1385).pick [] (by kernel_rfl), h.2.2.2⟩))) fun ac1396 wo1393 En1397 Hv1398 => ?_
       refine d_e [1,3,4,6,8,9,10,16,17,18,19,20,22,23,24] [(4, g_b (show ((List.map puPsk xs1375 == List.map puPsk df)) = true from (by rw [hpu1376, (got_back (z := _) (psk_back (by omega)).1).2]; exact beq_self_eq_true _)))] En1397 fun ac1399 En1400 => ?_
       refine then_normal ?_
       refine wp_seq ?_
       refine d_r [1,3,4,6,8,9,10,16,17,18,19,20,136] [(1, g_b (show (gotA (pskM (pskP (List.map puPsk df)) false false) != (0 : Int)) = false from (by rw [got_a (psk_back (by omega)).1]; rfl))), (8, g_b (show (decide (((gotN (pskM (pskP (List.map puPsk df)) false false) (List.length (pskO (pskP (List.map puPsk df)) false false).2.1) : Nat) : Int) < (35 : Int))) = false from (by rw [gotN_0 (got_a (psk_back (by omega)).1)]; exact decide_eq_false (by have := (psk_back (ps := List.map puPsk df) (by omega)).2.1; omega)))), (14, g_b (show (decide (((gotN (pskM (pskP (List.map puPsk df)) false false) (List.length (pskO (pskP (List.map puPsk df)) false false).2.1) : Nat) : Int) > ((List.length (pskP (List.map puPsk df)) : Nat) : Int))) = false from (by rw [gotN_0 (got_a (psk_back (by omega)).1)]; exact decide_eq_false (by have := (psk_back (ps := List.map puPsk df) (by omega)).2.2; omega))))] En1400 fun ac1401 En1402 => ?_
       refine then_normal ?_
       refine c_f En1402 ?_
       refine wp_skip ?_
       exact ⟨rfl, ⟨En1402.sb, Hv1398.pk [2, 3, 4, 5, 6, 7, 8, 9, 10, 11, 12, 13, 14, 15, 16, 17, 18, 19]⟩⟩
      ·
       refine wp_skip ?_
       exact ⟨rfl, ⟨En1369.sb, Hv1365.pk [0, 1, 2, 3, 4, 5, 6, 7, 8, 9, 10, 11, 12, 13, 14, 15, 16, 17]⟩⟩
     ·
      rintro ac1403 wo1404 ⟨En1405, Hv1406⟩
      refine then_normal ?_
      refine wp_seq ?_
      refine d_r [1,3,4,6,8,10,16,17,18,19,20] [] En1405 fun ac1407 En1408 => ?_
      refine then_normal ?_
      refine wp_ret ?_
      refine d_ret1 (t := 8) (v := .bool true) En1408 (by kernel_rfl) (by kernel_rfl) ?_
      exact ⟨rfl, Hv1406.pk []⟩
    ·
     have hb1235p : ¬ (gotA (certM b false false) = (0 : Int)) := ne_of_beq_false hb1235
     refine r_c (fun ac wo => Env ac 138 [(1, .slice a_b (List.length b) c_b), (3, uv16 q), (4, pt bk1), (6, pt bk6), (8, .bool false), (9, .bool true), (10, .slice pa24 (List.length (cliP (ha, hb, hc, List.map (fun y : RU16 => y) hd, List.map (fun y : RExt => (y.1, y.2.1.l)) he))) pc25), (16, pt bk168), (17, .int .i64 (gotA (certM b false false))), (18, pt bk1074), (19, pt bk1224), (104, .bool false)] ∧ Ev w [] wo [.vec oaa1205 oca1206 1 (bys bla1207) 5, .vec oab1208 ocb1209 2 (List.flatMap fCer xsb1210) 196, .grp (List.flatMap innCer xsb1210), .vec oac1050 occ1051 1 (bys blc1052) 5, .vec oad1053 ocd1054 1 (List.flatMap fU16 xsd1055) 37, .vec oae1056 oce1057 2 (List.flatMap fExt xse1058) 147, .grp (List.flatMap innExt xse1058), .vec oac144 occ145 1 (bys blc146) 5, .vec oad147 ocd148 1 (List.flatMap fU16 xsd149) 37, .vec oae150 oce151 2 (List.flatMap fExt xse152) 147, .grp (List.flatMap innExt xse152), .vec pa24 pc25 1 (bys (cliP (ha, hb, hc, List.map (fun y : RU16 => y) hd, List.map (fun y : RExt => (y.1, y.2.1.l)) he))) 5, .box bk1 (([uv16 ha] : List Value) ++ ((bys hb) ++ ([.slice a_hc (List.length hc) c_hc, .slice a_hd (List.length hd) c_hd, .slice a_he (List.length he) c_he] : List Value))) 75, .box bk6 [.string (bstr da), .slice a_db (List.length db) c_db, .slice a_dc (List.length dc) c_dc, .slice a_dd (List.length dd) c_dd, .slice a_de (List.length de) c_de, .slice a_df (List.length df) c_df, .slice a_dg (List.length dg) c_dg, uv16 dh] 39, .box bk168 (([uv16 xva142] : List Value) ++ ((bys alb143) ++ ([.slice oac144 (List.length blc146) occ145, .slice oad147 (List.length xsd149) ocd148, .slice oae150 (List.length xse152) oce151] : List Value))) 75, .box bk1074 (([uv16 xva1048] : List Value) ++ ((bys alb1049) ++ ([.slice oac1050 (List.length blc1052) occ1051, .slice oad1053 (List.length xsd1055) ocd1054, .slice oae1056 (List.length xse1058) oce1057] : List Value))) 75, .box bk1224 [.slice oaa1205 (List.length bla1207) oca1206, .slice oab1208 (List.length xsb1210) ocb1209] 83]) ?_ ?_
     ·
      refine draw_any (by kernel_rfl) 10 (by kernel_rfl) ?_
      have wo1409 := Hv1232.trans (Ev.drew Hv1232.heap)
      refine q_a [0,1,2] [] 7 En1234 fun ac1416 En1417 => ?_
      have En1418 := En1417.fx (t := 96) (congrArg Value.bool hb1235)
      have En1419 := En1418.fx (t := 97) (congrArg Value.bool hb1235)
      refine q_a [3,4,5,6,7,8,9] [] 0 En1419 fun ac1420 En1421 => ?_
      exact a_e ⟨En1421.sb, wo1409.pk [0, 1, 2, 3, 4, 5, 6, 7, 8, 9, 10, 11, 12, 13, 14, 15, 16]⟩
     rintro ac1422 wo1423 ⟨En1424, Hv1425⟩
     refine then_normal ?_
     refine c_f En1424 ?_
     refine wp_skip ?_
     refine then_normal ?_
     refine wp_seq ?_
     refine region_from ?_
     refine d_k [1,3,4,6,8,9,10,16,17,18,19,105] [] 1 En1424 fun ac1426 En1427 => ?_
     refine f_o ?_
     refine m_l 13 En1427 Hv1425 fun ac1428 En1429 => ?_
     refine f_o ?_
     refine c_0 En1429 Hv1425 (ppsks_go _ a_df c_df df (i_df.go Hv1425 [] (by kernel_rfl) (fun _ h => ⟨(InB.ev h.1 Hv1425).pick [] (by kernel_rfl), h.2.1, (InB.ev h.2.2.1 Hv1425).pick [] (by kernel_rfl), h.2.2.2⟩)) (by assumption) (by assumption)) ?_
     rintro _ wo1433 ⟨pa1430, pc1431, rfl, he1434⟩
     refine ⟨_, _, _, rfl, he1434, rfl, fun ac1436 En1437 Hv1438 => ?_⟩
     refine d_e [1,3,4,6,8,9,10,16,17,18,19,20] [] En1437 fun ac1439 En1440 => ?_
     refine then_normal ?_
     refine wp_seq ?_
     refine wp_seq ?_
     have hlen19 : List.length (pskP (List.map puPsk df)) ≤ 80000000 := Nat.le_trans (doneL_len _ _) (by simp only [wput_len, List.length_nil]; omega)
     refine d_r [1,3,4,6,8,9,10,16,17,18,19,20,110] [] En1440 fun ac1441 En1442 => ?_
     refine then_normal ?_
     refine region_cut (F := fun ac wo => Env ac 138 [(1, .slice a_b (List.length b) c_b), (3, uv16 q), (4, pt bk1), (6, pt bk6), (8, .bool false), (9, .bool true), (10, .slice pa24 (List.length (cliP (ha, hb, hc, List.map (fun y : RU16 => y) hd, List.map (fun y : RExt => (y.1, y.2.1.l)) he))) pc25), (16, pt bk168), (17, .int .i64 (gotA (certM b false false))), (18, pt bk1074), (19, pt bk1224), (20, .slice pa1430 (List.length (pskP (List.map puPsk df))) pc1431)] ∧ Ev w [] wo [.vec pa1430 pc1431 1 (bys (pskP (List.map puPsk df))) 5, .vec oaa1205 oca1206 1 (bys bla1207) 5, .vec oab1208 ocb1209 2 (List.flatMap fCer xsb1210) 196, .grp (List.flatMap innCer xsb1210), .vec oac1050 occ1051 1 (bys blc1052) 5, .vec oad1053 ocd1054 1 (List.flatMap fU16 xsd1055) 37, .vec oae1056 oce1057 2 (List.flatMap fExt xse1058) 147, .grp (List.flatMap innExt xse1058), .vec oac144 occ145 1 (bys blc146) 5, .vec oad147 ocd148 1 (List.flatMap fU16 xsd149) 37, .vec oae150 oce151 2 (List.flatMap fExt xse152) 147, .grp (List.flatMap innExt xse152), .vec pa24 pc25 1 (bys (cliP (ha, hb, hc, List.map (fun y : RU16 => y) hd, List.map (fun y : RExt => (y.1, y.2.1.l)) he))) 5, .box bk1 (([uv16 ha] : List Value) ++ ((bys hb) ++ ([.slice a_hc (List.length hc) c_hc, .slice a_hd (List.length hd) c_hd, .slice a_he (List.length he) c_he] : List Value))) 75, .box bk6 [.string (bstr da), .slice a_db (List.length db) c_db, .slice a_dc (List.length dc) c_dc, .slice a_dd (List.length dd) c_dd, .slice a_de (List.length de) c_de, .slice a_df (List.length df) c_df, .slice a_dg (List.length dg) c_dg, uv16 dh] 39, .box bk168 (([uv16 xva142] : List Value) ++ ((bys alb143) ++ ([.slice oac144 (List.length blc146) occ145, .slice oad147 (List.length xsd149) ocd148, .slice oae150 (List.length xse152) oce151] : List Value))) 75, .box bk1074 (([uv16 xva1048] : List Value) ++ ((bys alb1049) ++ ([.slice oac1050 (List.length blc1052) occ1051, .slice oad1053 (List.length xsd1055) ocd1054, .slice oae1056 (List.length xse1058) oce1057] : List Value))) 75, .box bk1224 [.slice oaa1205 (List.length bla1207) oca1206, .slice oab1208 (List.length xsb1210) ocb1209] 83]) ?_ ?_
     ·
      refine c_d (((List.length (pskP (List.map puPsk df)) : Nat) : Int) > (0 : Int)) En1442 (fun hc1443 => ?_) (fun hc1443 => ?_)
      ·
       refine wp_seq ?_
       refine region_from ?_
       refine d_k [1,3,4,6,8,9,10,16,17,18,19,20,112] [] 1 En1442 fun ac1444 En1445 => ?_
       refine f_o ?_
       refine c_0 En1445 Hv1438 (getpsks_go _ pa1430 (List.length (pskP (List.map puPsk df))) pc1431 (pskP (List.map puPsk df)) (by first | rfl | (simp; done) | (simp; omega) | omega) (bys_in Hv1438.heap (k := 0) rfl [] (by kernel_rfl) rfl (by first | omega | (simp; done) | (simp; omega)))) ?_
       rintro _ wo1453 ⟨oa1446, oc1447, xs1448, rfl, he1454, hpu1449, hf1450, hf1451⟩
       refine ⟨_, _, _, rfl, he1454, rfl, fun ac1456 En1457 Hv1458 => ?_⟩
       refine d_e [1,3,4,6,8,9,10,16,17,18,19,20,21,22,23] [] En1457 fun ac1459 En1460 => ?_
       refine then_normal ?_
       refine wp_seq ?_
       refine region_from ?_
       refine d_k [1,3,4,6,8,9,10,16,17,18,19,20,22,23,117,118] [] 2 En1460 fun ac1461 En1462 => ?_
       refine f_o ?_
       refine m_l 16 En1462 Hv1458 fun ac1463 En1464 => ?_
       refine f_o ?_
       refine c_p En1464 Hv1458 (samepsk_go _ oa1446 oc1447 xs1448 (Hv1458.heap.innS (k := 0) (f := fPsk) (sz := 3) (by_ := 56) rfl (fun _ => rfl) (by decide) [] (by kernel_rfl) rfl (by first | omega | (simp; done) | (simp; omega)) (fun y hy => ⟨Hv1458.heap.innB (k := 1) rfl (List.mem_flatMap.2 ⟨y, hy, List.mem_cons_self⟩) [] (by kernel_rfl) rfl (Nat.le_trans (hf1451 y hy).1 (by decide)), trivial, Hv1458.heap.innB (k := 1) rfl (List.mem_flatMap.2 ⟨y, hy, (List.mem_cons_of_mem _ List.mem_cons_self)⟩) [] (by kernel_rfl) rfl (Nat.le_trans (hf1451 y hy).2 (by decide)), trivial⟩)) a_df c_df df (i_df.go Hv1458 [] (by kernel_rfl) (fun _ h => ⟨(InB.ev h.1 Hv1458).pick [] (by kernel_rfl), h.2.1, (InB.ev h.2.2.1 Hv1458).pick [] (by kernel_rfl), h.2.2.2⟩))) fun ac1469 wo1466 En1470 Hv1471 => ?_
       refine d_e [1,3,4,6,8,9,10,16,17,18,19,20,22,23,24] [(4, g_b (show ((List.map puPsk xs1448 == List.map puPsk df)) = true from (by rw [hpu1449, (got_back (z := _) (psk_back (by omega)).1).2]; exact beq_self_eq_true _)))] En1470 fun ac1472 En1473 => ?_
       refine then_normal ?_
       refine wp_seq ?_
       refine d_r [1,3,4,6,8,9,10,16,17,18,19,20,136] [(1, g_b (show (gotA (pskM (pskP (List.map puPsk df)) false false) != (0 : Int)) = false from (by rw [got_a (psk_back (by omega)).1]; rfl))), (8, g_b (show (decide (((gotN (pskM (pskP (List.map puPsk df)) false false) (List.length (pskO (pskP (List.map puPsk df)) false false).2.1) : Nat) : Int) < (35 : Int))) = false from (by rw [gotN_0 (got_a (psk_back (by omega)).1)]; exact decide_eq_false (by have := (psk_back (ps := List.map puPsk df) (by omega)).2.1; omega)))), (14, g_b (show (decide (((gotN (pskM (pskP (List.map puPsk df)) false false) (List.length (pskO (pskP (List.map puPsk df)) false false).2.1) : Nat) : Int) > ((List.length (pskP (List.map puPsk df)) : Nat) : Int))) = false from (by rw [gotN_0 (got_a (psk_back (by omega)).1)]; exact decide_eq_false (by have := (psk_back (ps := List.map puPsk df) (by omega)).2.2; omega))))] En1473 fun ac1474 En1475 => ?_
       refine then_normal ?_
       refine c_f En1475 ?_
       refine wp_skip ?_
       exact ⟨rfl, ⟨En1475.sb, Hv1471.pk [2, 3, 4, 5, 6, 7, 8, 9, 10, 11, 12, 13, 14, 15, 16, 17, 18, 19]⟩⟩
      ·
       refine wp_skip ?_
       exact ⟨rfl, ⟨En1442.sb, Hv1438.pk [0, 1, 2, 3, 4, 5, 6, 7, 8, 9, 10, 11, 12, 13, 14, 15, 16, 17]⟩⟩
     ·
      rintro ac1476 wo1477 ⟨En1478, Hv1479⟩
      refine then_normal ?_
      refine wp_seq ?_
      refine d_r [1,3,4,6,8,10,16,17,18,19,20] [] En1478 fun ac1480 En1481 => ?_
      refine then_normal ?_
      refine wp_ret ?_
      refine d_ret1 (t := 8) (v := .bool true) En1481 (by kernel_rfl) (by kernel_rfl) ?_
      exact ⟨rfl, Hv1479.pk []⟩
   ·
    have hb1085p : ¬ (gotA (srvM b false false) = (0 : Int)) := ne_of_beq_false hb1085
    refine r_c (fun ac wo => Env ac 138 [(1, .slice a_b (List.length b) c_b), (3, uv16 q), (4, pt bk1), (6, pt bk6), (8, .bool false), (9, .bool true), (10, .slice pa24 (List.length (cliP (ha, hb, hc, List.map (fun y : RU16 => y) hd, List.map (fun y : RExt => (y.1, y.2.1.l)) he))) pc25), (16, pt bk168), (17, .int .i64 (gotA (srvM b false false))), (18, pt bk1074), (89, .bool false)] ∧ Ev w [] wo [.vec oac1050 occ1051 1 (bys blc1052) 5, .vec oad1053 ocd1054 1 (List.flatMap fU16 xsd1055) 37, .vec oae1056 oce1057 2 (List.flatMap fExt xse1058) 147, .grp (List.flatMap innExt xse1058), .vec oac144 occ145 1 (bys blc146) 5, .vec oad147 ocd148 1 (List.flatMap fU16 xsd149) 37, .vec oae150 oce151 2 (List.flatMap fExt xse152) 147, .grp (List.flatMap innExt xse152), .vec pa24 pc25 1 (bys (cliP (ha, hb, hc, List.map (fun y : RU16 => y) hd, List.map (fun y : RExt => (y.1, y.2.1.l)) he))) 5, .box bk1 (([uv16 ha] : List Value) ++ ((bys hb) ++ ([.slice a_hc (List.length hc) c_hc, .slice a_hd (List.length hd) c_hd, .slice a_he (List.length he) c_he] : List Value))) 75, .box bk6 [.string (bstr da), .slice a_db (List.length db) c_db, .slice a_dc (List.length dc) c_dc, .slice a_dd (List.length dd) c_dd, .slice a_de (List.length de) c_de, .slice a_df (List.length df) c_df, .slice a_dg (List.length dg) c_dg, uv16 dh] 39, .box bk168 (([uv16 xva142] : List Value) ++ ((bys alb143) ++ ([.slice oac144 (List.length blc146) occ145, .slice oad147 (List.length xsd149) ocd148, .slice oae150 (List.length xse152) oce151] : List Value))) 75, .box bk1074 (([uv16 xva1048] : List Value) ++ ((bys alb1049) ++ ([.slice oac1050 (List.length blc1052) occ1051, .slice oad1053 (List.length xsd1055) ocd1054, .slice oae1056 (List.length xse1058) oce1057] : List Value))) 75]) ?_ ?_
    ·
     refine draw_any (by kernel_rfl) 10 (by kernel_rfl) ?_
     have wo1482 := Hv1082.trans (Ev.drew Hv1082.heap)
     refine q_a [0,1,2] [] 7 En1084 fun ac1489 En1490 => ?_
     have En1491 := En1490.fx (t := 81) (congrArg Value.bool hb1085)
     have En1492 := En1491.fx (t := 82) (congrArg Value.bool hb1085)
     refine q_a [3,4,5,6,7,8,9] [] 0 En1492 fun ac1493 En1494 => ?_
     exact a_e ⟨En1494.sb, wo1482.pk [0, 1, 2, 3, 4, 5, 6, 7, 8, 9, 10, 11, 12]⟩
    rintro ac1495 wo1496 ⟨En1497, Hv1498⟩
    refine then_normal ?_
    refine c_f En1497 ?_
    refine wp_skip ?_
    refine then_normal ?_
    refine wp_seq ?_
    refine region_from ?_
    refine d_k [1,3,4,6,8,9,10,16,17,18,91] [] 1 En1497 fun ac1499 En1500 => ?_
    refine f_o ?_
    refine c_0 En1500 Hv1498 (getcert_go _ a_b (List.length b) c_b b (by first | rfl | (simp; done) | (simp; omega) | omega) ((i_b.ev Hv1498).pick [] (by kernel_rfl))) ?_
    rintro _ wo1512 ⟨oaa1501, oca1502, bla1503, oab1504, ocb1505, xsb1506, rfl, he1513, hpu1507, hf1508, hf1509, hf1510⟩
    refine ⟨_, _, _, rfl, he1513, rfl, fun ac1515 En1516 Hv1517 => ?_⟩
    refine d_k [1,3,4,6,8,9,10,16,17,18,93,94] [] 5 En1516 fun ac1518 En1519 => ?_
    refine f_o ?_
    refine m_z 83 [.slice none 0 0, .slice none 0 0] En1519 Hv1517 fun ac1521 wo1522 bk1520 En1523 Hv1524 => ?_
    refine f_o ?_
    refine m_g 16 0 2 [.slice oaa1501 (List.length bla1503) oca1502, .slice oab1504 (List.length xsb1506) ocb1505] [.slice oaa1501 (List.length bla1503) oca1502, .slice oab1504 (List.length xsb1506) ocb1505] [.vec oaa1501 oca1502 1 (bys bla1503) 5, .vec oab1504 ocb1505 2 (List.flatMap fCer xsb1506) 196, .grp (List.flatMap innCer xsb1506), .vec oac1050 occ1051 1 (bys blc1052) 5, .vec oad1053 ocd1054 1 (List.flatMap fU16 xsd1055) 37, .vec oae1056 oce1057 2 (List.flatMap fExt xse1058) 147, .grp (List.flatMap innExt xse1058), .vec oac144 occ145 1 (bys blc146) 5, .vec oad147 ocd148 1 (List.flatMap fU16 xsd149) 37, .vec oae150 oce151 2 (List.flatMap fExt xse152) 147, .grp (List.flatMap innExt xse152), .vec pa24 pc25 1 (bys (cliP (ha, hb, hc, List.map (fun y : RU16 => y) hd, List.map (fun y : RExt => (y.1, y.2.1.l)) he))) 5, .box bk1 (([uv16 ha] : List Value) ++ ((bys hb) ++ ([.slice a_hc (List.length hc) c_hc, .slice a_hd (List.length hd) c_hd, .slice a_he (List.length he) c_he] : List Value))) 75, .box bk6 [.string (bstr da), .slice a_db (List.length db) c_db, .slice a_dc (List.length dc) c_dc, .slice a_dd (List.length dd) c_dd, .slice a_de (List.length de) c_de, .slice a_df (List.length df) c_df, .slice a_dg (List.length dg) c_dg, uv16 dh] 39, .box bk168 (([uv16 xva142] : List Value) ++ ((bys alb143) ++ ([.slice oac144 (List.length blc146) occ145, .slice oad147 (List.length xsd149) ocd148, .slice oae150 (List.length xse152) oce151] : List Value))) 75, .box bk1074 (([uv16 xva1048] : List Value) ++ ((bys alb1049) ++ ([.slice oac1050 (List.length blc1052) occ1051, .slice oad1053 (List.length xsd1055) ocd1054, .slice oae1056 (List.length xse1058) oce1057] : List Value))) 75, .box bk1520 [.slice oaa1501 (List.length bla1503) oca1502, .slice oab1504 (List.length xsb1506) ocb1505] 83] En1523 Hv1524 rfl rfl (by simp) (one_all (by kernel_rfl)) rfl rfl fun ac1525 wo1526 En1527 Hv1528 => ?_
    refine d_e [1,3,4,6,8,9,10,16,17,18,19] [] En1527 fun ac1529 En1530 => ?_
    refine then_normal ?_
    refine wp_seq ?_
    refine wp_seq ?_
    rcases Bool.eq_false_or_eq_true (gotA (certM b false false) == (0 : Int)) with hb1531 | hb1531
    ·
     have hb1531p : gotA (certM b false false) = (0 : Int) := eq_of_beq hb1531
     refine r_c (fun ac wo => Env ac 138 [(1, .slice a_b (List.length b) c_b), (3, uv16 q), (4, pt bk1), (6, pt bk6), (8, .bool false), (9, .bool true), (10, .slice pa24 (List.length (cliP (ha, hb, hc, List.map (fun y : RU16 => y) hd, List.map (fun y : RExt => (y.1, y.2.1.l)) he))) pc25), (16, pt bk168), (17, .int .i64 (gotA (certM b false false))), (18, pt bk1074), (19, pt bk1520), (104, .bool false)] ∧ Ev w [] wo [.vec oaa1501 oca1502 1 (bys bla1503) 5, .vec oab1504 ocb1505 2 (List.flatMap fCer xsb1506) 196, .grp (List.flatMap innCer xsb1506), .vec oac1050 occ1051 1 (bys blc1052) 5, .vec oad1053 ocd1054 1 (List.flatMap fU16 xsd1055) 37, .vec oae1056 oce1057 2 (List.flatMap fExt xse1058) 147, .grp (List.flatMap innExt xse1058), .vec oac144 occ145 1 (bys blc146) 5, .vec oad147 ocd148 1 (List.flatMap fU16 xsd149) 37, .vec oae150 oce151 2 (List.flatMap fExt xse152) 147, .grp (List.flatMap innExt xse152), .vec pa24 pc25 1 (bys (cliP (ha, hb, hc, List.map (fun y : RU16 => y) hd, List.map (fun y : RExt => (y.1, y.2.1.l)) he))) 5, .box bk1 (([uv16 ha] : List Value) ++ ((bys hb) ++ ([.slice a_hc (List.length hc) c_hc, .slice a_hd (List.length hd) c_hd, .slice a_he (List.length he) c_he] : List Value))) 75, .box bk6 [.string (bstr da), .slice a_db (List.length db) c_db, .slice a_dc (List.length dc) c_dc, .slice a_dd (List.length dd) c_dd, .slice a_de (List.length de) c_de, .slice a_df (List.length df) c_df, .slice a_dg (List.length dg) c_dg, uv16 dh] 39, .box bk168 (([uv16 xva142] : List Value) ++ ((bys alb143) ++ ([.slice oac144 (List.length blc146) occ145, .slice oad147 (List.length xsd149) ocd148, .slice oae150 (List.length xse152) oce151] : List Value))) 75, .box bk1074 (([uv16 xva1048] : List Value) ++ ((bys alb1049) ++ ([.slice oac1050 (List.length blc1052) occ1051, .slice oad1053 (List.length xsd1055) ocd1054, .slice oae1056 (List.length xse1058) oce1057] : List Value))) 75, .box bk1520 [.slice oaa1501 (List.length bla1503) oca1502, .slice oab1504 (List.length xsb1506) ocb1505] 83]) ?_ ?_
     ·
      refine h_s (fun wv => Ev w [] wv [.box bk1520 [.slice oaa1501 (List.length bla1503) oca1502, .slice oab1504 (List.length xsb1506) ocb1505] 83]) [] 10 ?_
      have wo1532 := Hv1528.trans (Ev.drew Hv1528.heap)
      refine q_s [0,1,2] [] 7 En1530 (wo1532.pk [16]) fun ac1621 En1622 => ?_
      have En1623 := En1622.fx (t := 96) (congrArg Value.bool hb1531)
      have En1624 := En1623.fx (t := 97) (congrArg Value.bool hb1531)
      refine q_r 3 (s := Instr.loadAt 83 (pt bk1520)) (v := .agg #[.slice oaa1501 (List.length bla1503) oca1502, .slice oab1504 (List.length xsb1506) ocb1505]) En1624 (fun w hS => run_loadAgg2 (m := 2) (cs := [.slice oaa1501 (List.length bla1503) oca1502, .slice oab1504 (List.length xsb1506) ocb1505]) rfl (by kernel_rfl) (by kernel_rfl) (hS.heap.cells (k := 0) (off := 0) (m := 2) rfl rfl)) (wo1532.pk [16]) fun ac1625 En1626 => ?_
      refine q_s [6] [] 5 En1626 (wo1532.pk [16]) fun ac1627 En1628 => ?_
      refine q_r 7 (s := convert 23 9 (.slice a_b (List.length b) c_b)) (v := .string (bstr b)) En1628 (fun w hS => run_str2 (e := 5) (bs := b) rfl (by kernel_rfl) (by kernel_rfl) (by kernel_rfl) (i_b.ev hS).reads i_b.nz) (wo1532.pk [16]) fun ac1629 En1630 => ?_
      refine q_t 4 ?_
      have hsz1631 := cert_sz (l := b) (by assumption)
      rw [← gotV_0 (by assumption), ← hpu1507] at hsz1631
      dsimp only at hsz1631
      have hqahsz1631 := allB_m cr_mono (Nat.le_trans hsz1631 (show List.length b ≤ 16777216 by omega))
      refine c_0 En1630 wo1532 (pcert_go _ oaa1501 oca1502 bla1503 oab1504 ocb1505 xsb1506 (bys_in wo1532.heap (k := 0) rfl [] (by kernel_rfl) rfl (by first | omega | (simp; done) | (simp; omega))) (wo1532.heap.innS (k := 1) (f := fCer) (sz := 2) (by_ := 48) rfl (fun _ => rfl) (by decide) [] (by kernel_rfl) rfl (by first | omega | (simp; done) | (simp; omega)) (fun y hy => ⟨wo1532.heap.innB (k := 2) rfl (List.mem_flatMap.2 ⟨y, hy, List.mem_cons_self⟩) [] (by kernel_rfl) rfl (Nat.le_trans (hf1510 y hy).1 (by decide)), innL wo1532.heap (k := 2) (f := fExt) (sz := 2) (by_ := 32) rfl (List.mem_flatMap.2 ⟨y, hy, List.mem_cons_of_mem _ List.mem_cons_self⟩) (fun _ => rfl) (by decide) [] (by kernel_rfl) rfl (by have := (hf1510 y hy).2.1; omega) (fun z hz => ⟨trivial, wo1532.heap.innB (k := 2) rfl (List.mem_flatMap.2 ⟨y, hy, List.mem_cons_of_mem _ (List.mem_cons_of_mem _ (List.mem_flatMap.2 ⟨z, hz, List.mem_cons_self⟩))⟩) [] (by kernel_rfl) rfl (Nat.le_trans ((hf1510 y hy).2.2 z hz) (by decide)), trivial⟩), trivial⟩)) (by assumption)) ?_
      rintro _ wo1635 ⟨pa1632, pc1633, rfl, he1636⟩
      refine ⟨_, _, _, rfl, he1636, rfl, fun ac1638 En1639 Hv1640 => ?_⟩
      refine ⟨fun _ => Hv1640.pk [17], ?_⟩
      refine q_t 5 ?_
      refine op_str (d := some 100) (src := 23) (dst := 9) (e := 5) (ao := pa1632) (cap := pc1633) (p := List.length (certP (bla1503, List.map (fun y : RCer => (y.1.l, List.map (fun y : RExt => (y.1, y.2.1.l)) y.2.1.l)) xsb1506))) (bs := certP (bla1503, List.map (fun y : RCer => (y.1.l, List.map (fun y : RExt => (y.1, y.2.1.l)) y.2.1.l)) xsb1506)) En1639 (by kernel_rfl) rfl (by kernel_rfl) (by kernel_rfl) (by kernel_rfl) (Hv1640.heap.reads (k := 0) rfl) (bys_vnz Hv1640.heap (k := 0) rfl) ?_
      intro ac1641 En1642
      refine ⟨fun _ => Hv1640.pk [17], ?_⟩
      refine q_s [8,9] [(8, g_v (show (.bool (!(ByteArray.toList (bstr (certP (bla1503, List.map (fun y : RCer => (y.1.l, List.map (fun y : RExt => (y.1, y.2.1.l)) y.2.1.l)) xsb1506))) == ByteArray.toList (bstr b))) : Value) = .bool false by rw [Go.Dbr.bstr_eq (certP (bla1503, List.map (fun y : RCer => (y.1.l, List.map (fun y : RExt => (y.1, y.2.1.l)) y.2.1.l)) xsb1506)) b, show (!((certP (bla1503, List.map (fun y : RCer => (y.1.l, List.map (fun y : RExt => (y.1, y.2.1.l)) y.2.1.l)) xsb1506)) == b)) = false from (by rw [hpu1507, cert_rev (by assumption)]; first | exact bne_self_eq_false _ | exact nbeq_self _ | rfl)] <;> rfl))] 0 En1642 (Hv1640.pk [17]) fun ac1643 En1644 => ?_
      exact h_e ⟨En1644.sb, Hv1640.pk [1, 2, 3, 4, 5, 6, 7, 8, 9, 10, 11, 12, 13, 14, 15, 16, 17]⟩
     rintro ac1645 wo1646 ⟨En1647, Hv1648⟩
     refine then_normal ?_
     refine c_f En1647 ?_
     refine wp_skip ?_
     refine then_normal ?_
     refine wp_seq ?_
     refine region_from ?_
     refine d_k [1,3,4,6,8,9,10,16,17,18,19,105] [] 1 En1647 fun ac1649 En1650 => ?_
     refine f_o ?_
     refine m_l 13 En1650 Hv1648 fun ac1651 En1652 => ?_
     refine f_o ?_
     refine c_0 En1652 Hv1648 (ppsks_go _ a_df c_df df (i_df.go Hv1648 [] (by kernel_rfl) (fun _ h => ⟨(InB.ev h.1 Hv1648).pick [] (by kernel_rfl), h.2.1, (InB.ev h.2.2.1 Hv1648).pick [] (by kernel_rfl), h.2.2.2⟩)) (by assumption) (by assumption)) ?_
     rintro _ wo1656 ⟨pa1653, pc1654, rfl, he1657⟩
     refine ⟨_, _, _, rfl, he1657, rfl, fun ac1659 En1660 Hv1661 => ?_⟩
     refine d_e [1,3,4,6,8,9,10,16,17,18,19,20] [] En1660 fun ac1662 En1663 => ?_
     refine then_normal ?_
     refine wp_seq ?_
     refine wp_seq ?_
     have hlen19 : List.length (pskP (List.map puPsk df)) ≤ 80000000 := Nat.le_trans (doneL_len _ _) (by simp only [wput_len, List.length_nil]; omega)
     refine d_r [1,3,4,6,8,9,10,16,17,18,19,20,110] [] En1663 fun ac1664 En1665 => ?_
     refine then_normal ?_
     refine region_cut (F := fun ac wo => Env ac 138 [(1, .slice a_b (List.length b) c_b), (3, uv16 q), (4, pt bk1), (6, pt bk6), (8, .bool false), (9, .bool true), (10, .slice pa24 (List.length (cliP (ha, hb, hc, List.map (fun y : RU16 => y) hd, List.map (fun y : RExt => (y.1, y.2.1.l)) he))) pc25), (16, pt bk168), (17, .int .i64 (gotA (certM b false false))), (18, pt bk1074), (19, pt bk1520), (20, .slice pa1653 (List.length (pskP (List.map puPsk df))) pc1654)] ∧ Ev w [] wo [.vec pa1653 pc1654 1 (bys (pskP (List.map puPsk df))) 5, .vec oaa1501 oca1502 1 (bys bla1503) 5, .vec oab1504 ocb1505 2 (List.flatMap fCer xsb1506) 196, .grp (List.flatMap innCer xsb1506), .vec oac1050 occ1051 1 (bys blc1052) 5, .vec oad1053 ocd1054 1 (List.flatMap fU16 xsd1055) 37, .vec oae1056 oce1057 2 (List.flatMap fExt xse1058) 147, .grp (List.flatMap innExt xse1058), .vec oac144 occ145 1 (bys blc146) 5, .vec oad147 ocd148 1 (List.flatMap fU16 xsd149) 37, .vec oae150 oce151 2 (List.flatMap fExt xse152) 147, .grp (List.flatMap innExt xse152), .vec pa24 pc25 1 (bys (cliP (ha, hb, hc, List.map (fun y : RU16 => y) hd, List.map (fun y : RExt => (y.1, y.2.1.l)) he))) 5, .box bk1 (([uv16 ha] : List Value) ++ ((bys hb) ++ ([.slice a_hc (List.length hc) c_hc, .slice a_hd (List.length hd) c_hd, .slice a_he (List.length he) c_he] : List Value))) 75, .box bk6 [.string (bstr da), .slice a_db (List.length db) c_db, .slice a_dc (List.length dc) c_dc, .slice a_dd (List.length dd) c_dd, .slice a_de (List.length de) c_de, .slice a_df (List.length df) c_df, .slice a_dg (List.length dg) c_dg, uv16 dh] 39, .box bk168 (([uv16 xva142] : List Value) ++ ((bys alb143) ++ ([.slice oac144 (List.length blc146) occ145, .slice oad147 (List.length xsd149) ocd148, .slice oae150 (List.length xse152) oce151] : List Value))) 75, .box bk1074 (([uv16 xva1048] : List Value) ++ ((bys alb1049) ++ ([.slice oac1050 (List.length blc1052) occ1051, .slice oad1053 (List.length xsd1055) ocd1054, .slice oae1056 (List.length xse1058) oce1057] : List Value))) 75, .box bk1520 [.slice oaa1501 (List.length bla1503) oca1502, .slice oab1504 (List.length xsb1506) ocb1505] 83]) ?_ ?_
     ·
      refine c_d (((List.length (pskP (List.map puPsk df)) : Nat) : Int) > (0 : Int)) En1665 (fun hc1666 => ?_) (fun hc1666 => ?_)
      ·
       refine wp_seq ?_
       refine region_from ?_
       refine d_k [1,3,4,6,8,9,10,16,17,18,19,20,112] [] 1 En1665 fun ac1667 En1668 => ?_
       refine f_o ?_
       refine c_0 En1668 Hv1661 (getpsks_go _ pa1653 (List.length (pskP (List.map puPsk df))) pc1654 (pskP (List.map puPsk df)) (by first | rfl | (simp; done) | (simp; omega) | omega) (bys_in Hv1661.heap (k := 0) rfl [] (by kernel_rfl) rfl (by first | omega | (simp; done) | (simp; omega)))) ?_
       rintro _ wo1676 ⟨oa1669, oc1670, xs1671, rfl, he1677, hpu1672, hf1673, hf1674⟩
       refine ⟨_, _, _, rfl, he1677, rfl, fun ac1679 En1680 Hv1681 => ?_⟩
       refine d_e [1,3,4,6,8,9,10,16,17,18,19,20,21,22,23] [] En1680 fun ac1682 En1683 => ?_
       refine then_normal ?_
       refine wp_seq ?_
       refine region_from ?_
       refine d_k [1,3,4,6,8,9,10,16,17,18,19,20,22,23,117,118] [] 2 En1683 fun ac1684 En1685 => ?_
       refine f_o ?_
       refine m_l 16 En1685 Hv1681 fun ac1686 En1687 => ?_
       refine f_o ?_
       refine c_p En1687 Hv1681 (samepsk_go _ oa1669 oc1670 xs1671 (Hv1681.heap.innS (k := 0) (f := fPsk) (sz := 3) (by_ := 56) rfl (fun _ => rfl) (by decide) [] (by kernel_rfl) rfl (by first | omega | (simp; done) | (simp; omega)) (fun y hy => ⟨Hv1681.heap.innB (k := 1) rfl (List.mem_flatMap.2 ⟨y, hy, List.mem_cons_self⟩) [] (by kernel_rfl) rfl (Nat.le_trans (hf1674 y hy).1 (by decide)), trivial, Hv1681.heap.innB (k := 1) rfl (List.mem_flatMap.2 ⟨y, hy, (List.mem_cons_of_mem _ List.mem_cons_self)⟩) [] (by kernel_rfl) rfl (Nat.le_trans (hf1674 y hy).2 (by decide)), trivial⟩)) a_df c_df df (i_df.go Hv1681 [] (by kernel_rfl) (fun _ h => ⟨(InB.ev h.1 Hv1681).pick [] (by kernel_rfl), h.2.1, (InB.ev h.2.2.1 Hv1681).pick [] (by kernel_rfl), h.2.2.2⟩))) fun ac1692 wo1689 En1693 Hv1694 => ?_
       refine d_e [1,3,4,6,8,9,10,16,17,18,19,20,22,23,24] [(4, g_b (show ((List.map puPsk xs1671 == List.map puPsk df)) = true from (by rw [hpu1672, (got_back (z := _) (psk_back (by omega)).1).2]; exact beq_self_eq_true _)))] En1693 fun ac1695 En1696 => ?_
       refine then_normal ?_
       refine wp_seq ?_
       refine d_r [1,3,4,6,8,9,10,16,17,18,19,20,136] [(1, g_b (show (gotA (pskM (pskP (List.map puPsk df)) false false) != (0 : Int)) = false from (by rw [got_a (psk_back (by omega)).1]; rfl))), (8, g_b (show (decide (((gotN (pskM (pskP (List.map puPsk df)) false false) (List.length (pskO (pskP (List.map puPsk df)) false false).2.1) : Nat) : Int) < (35 : Int))) = false from (by rw [gotN_0 (got_a (psk_back (by omega)).1)]; exact decide_eq_false (by have := (psk_back (ps := List.map puPsk df) (by omega)).2.1; omega)))), (14, g_b (show (decide (((gotN (pskM (pskP (List.map puPsk df)) false false) (List.length (pskO (pskP (List.map puPsk df)) false false).2.1) : Nat) : Int) > ((List.length (pskP (List.map puPsk df)) : Nat) : Int))) = false from (by rw [gotN_0 (got_a (psk_back (by omega)).1)]; exact decide_eq_false (by have := (psk_back (ps := List.map puPsk df) (by omega)).2.2; omega))))] En1696 fun ac1697 En1698 => ?_
       refine then_normal ?_
       refine c_f En1698 ?_
       refine wp_skip ?_
       exact ⟨rfl, ⟨En1698.sb, Hv1694.pk [2, 3, 4, 5, 6, 7, 8, 9, 10, 11, 12, 13, 14, 15, 16, 17, 18, 19]⟩⟩
      ·
       refine wp_skip ?_
       exact ⟨rfl, ⟨En1665.sb, Hv1661.pk [0, 1, 2, 3, 4, 5, 6, 7, 8, 9, 10, 11, 12, 13, 14, 15, 16, 17]⟩⟩
     ·
      rintro ac1699 wo1700 ⟨En1701, Hv1702⟩
      refine then_normal ?_
      refine wp_seq ?_
      refine d_r [1,3,4,6,8,10,16,17,18,19,20] [] En1701 fun ac1703 En1704 => ?_
      refine then_normal ?_
      refine wp_ret ?_
      refine d_ret1 (t := 8) (v := .bool true) En1704 (by kernel_rfl) (by kernel_rfl) ?_
      exact ⟨rfl, Hv1702.pk []⟩
    ·
     have hb1531p : ¬ (gotA (certM b false false) = (0 : Int)) := ne_of_beq_false hb1531
     refine r_c (fun ac wo => Env ac 138 [(1, .slice a_b (List.length b) c_b), (3, uv16 q), (4, pt bk1), (6, pt bk6), (8, .bool false), (9, .bool true), (10, .slice pa24 (List.length (cliP (ha, hb, hc, List.map (fun y : RU16 => y) hd, List.map (fun y : RExt => (y.1, y.2.1.l)) he))) pc25), (16, pt bk168), (17, .int .i64 (gotA (certM b false false))), (18, pt bk1074), (19, pt bk1520), (104, .bool false)] ∧ Ev w [] wo [.vec oaa1501 oca1502 1 (bys bla1503) 5, .vec oab1504 ocb1505 2 (List.flatMap fCer xsb1506) 196, .grp (List.flatMap innCer xsb1506), .vec oac1050 occ1051 1 (bys blc1052) 5, .vec oad1053 ocd1054 1 (List.flatMap fU16 xsd1055) 37, .vec oae1056 oce1057 2 (List.flatMap fExt xse1058) 147, .grp (List.flatMap innExt xse1058), .vec oac144 occ145 1 (bys blc146) 5, .vec oad147 ocd148 1 (List.flatMap fU16 xsd149) 37, .vec oae150 oce151 2 (List.flatMap fExt xse152) 147, .grp (List.flatMap innExt xse152), .vec pa24 pc25 1 (bys (cliP (ha, hb, hc, List.map (fun y : RU16 => y) hd, List.map (fun y : RExt => (y.1, y.2.1.l)) he))) 5, .box bk1 (([uv16 ha] : List Value) ++ ((bys hb) ++ ([.slice a_hc (List.length hc) c_hc, .slice a_hd (List.length hd) c_hd, .slice a_he (List.length he) c_he] : List Value))) 75, .box bk6 [.string (bstr da), .slice a_db (List.length db) c_db, .slice a_dc (List.length dc) c_dc, .slice a_dd (List.length dd) c_dd, .slice a_de (List.length de) c_de, .slice a_df (List.length df) c_df, .slice a_dg (List.length dg) c_dg, uv16 dh] 39, .box bk168 (([uv16 xva142] : List Value) ++ ((bys alb143) ++ ([.slice oac144 (List.length blc146) occ145, .slice oad147 (List.length xsd149) ocd148, .slice oae150 (List.length xse152) oce151] : List Value))) 75, .box bk1074 (([uv16 xva1048] : List Value) ++ ((bys alb1049) ++ ([.slice oac1050 (List.length blc1052) occ1051, .slice oad1053 (List.length xsd1055) ocd1054, .slice oae1056 (List.length xse1058) oce1057] : List Value))) 75, .box bk1520 [.slice oaa1501 (List.length bla1503) oca1502, .slice oab1504 (List.length xsb1506) ocb1505] 83]) ?_ ?_
     ·
      refine draw_any (by kernel_rfl) 10 (by kernel_rfl) ?_
      have wo1705 := Hv1528.trans (Ev.drew Hv1528.heap)
      refine q_a [0,1,2] [] 7 En1530 fun ac1712 En1713 => ?_
      have En1714 := En1713.fx (t := 96) (congrArg Value.bool hb1531)
      have En1715 := En1714.fx (t := 97) (congrArg Value.bool hb1531)
      refine q_a [3,4,5,6,7,8,9] [] 0 En1715 fun ac1716 En1717 => ?_
      exact a_e ⟨En1717.sb, wo1705.pk [0, 1, 2, 3, 4, 5, 6, 7, 8, 9, 10, 11, 12, 13, 14, 15, 16]⟩
     rintro ac1718 wo1719 ⟨En1720, Hv1721⟩
     refine then_normal ?_
     refine c_f En1720 ?_
     refine wp_skip ?_
     refine then_normal ?_
     refine wp_seq ?_
     refine region_from ?_
     refine d_k [1,3,4,6,8,9,10,16,17,18,19,105] [] 1 En1720 fun ac1722 En1723 => ?_
     refine f_o ?_
     refine m_l 13 En1723 Hv1721 fun ac1724 En1725 => ?_
     refine f_o ?_
     refine c_0 En1725 Hv1721 (ppsks_go _ a_df c_df df (i_df.go Hv1721 [] (by kernel_rfl) (fun _ h => ⟨(InB.ev h.1 Hv1721).pick [] (by kernel_rfl), h.2.1, (InB.ev h.2.2.1 Hv1721).pick [] (by kernel_rfl), h.2.2.2⟩)) (by assumption) (by assumption)) ?_
     rintro _ wo1729 ⟨pa1726, pc1727, rfl, he1730⟩
     refine ⟨_, _, _, rfl, he1730, rfl, fun ac1732 En1733 Hv1734 => ?_⟩
     refine d_e [1,3,4,6,8,9,10,16,17,18,19,20] [] En1733 fun ac1735 En1736 => ?_
     refine then_normal ?_
     refine wp_seq ?_
     refine wp_seq ?_
     have hlen19 : List.length (pskP (List.map puPsk df)) ≤ 80000000 := Nat.le_trans (doneL_len _ _) (by simp only [wput_len, List.length_nil]; omega)
     refine d_r [1,3,4,6,8,9,10,16,17,18,19,20,110] [] En1736 fun ac1737 En1738 => ?_
     refine then_normal ?_
     refine region_cut (F := fun ac wo => Env ac 138 [(1, .slice a_b (List.length b) c_b), (3, uv16 q), (4, pt bk1), (6, pt bk6), (8, .bool false), (9, .bool true), (10, .slice pa24 (List.length (cliP (ha, hb, hc, List.map (fun y : RU16 => y) hd, List.map (fun y : RExt => (y.1, y.2.1.l)) he))) pc25), (16, pt bk168), (17, .int .i64 (gotA (certM b false false))), (18, pt bk1074), (19, pt bk1520), (20, .slice pa1726 (List.length (pskP (List.map puPsk df))) pc1727)] ∧ Ev w [] wo [.vec pa1726 pc1727 1 (bys (pskP (List.map puPsk df))) 5, .vec oaa1501 oca1502 1 (bys bla1503) 5, .vec oab1504 ocb1505 2 (List.flatMap fCer xsb1506) 196, .grp (List.flatMap innCer xsb1506), .vec oac1050 occ1051 1 (bys blc1052) 5, .vec oad1053 ocd1054 1 (List.flatMap fU16 xsd1055) 37, .vec oae1056 oce1057 2 (List.flatMap fExt xse1058) 147, .grp (List.flatMap innExt xse1058), .vec oac144 occ145 1 (bys blc146) 5, .vec oad147 ocd148 1 (List.flatMap fU16 xsd149) 37, .vec oae150 oce151 2 (List.flatMap fExt xse152) 147, .grp (List.flatMap innExt xse152), .vec pa24 pc25 1 (bys (cliP (ha, hb, hc, List.map (fun y : RU16 => y) hd, List.map (fun y : RExt => (y.1, y.2.1.l)) he))) 5, .box bk1 (([uv16 ha] : List Value) ++ ((bys hb) ++ ([.slice a_hc (List.length hc) c_hc, .slice a_hd (List.length hd) c_hd, .slice a_he (List.length he) c_he] : List Value))) 75, .box bk6 [.string (bstr da), .slice a_db (List.length db) c_db, .slice a_dc (List.length dc) c_dc, .slice a_dd (List.length dd) c_dd, .slice a_de (List.length de) c_de, .slice a_df (List.length df) c_df, .slice a_dg (List.length dg) c_dg, uv16 dh] 39, .box bk168 (([uv16 xva142] : List Value) ++ ((bys alb143) ++ ([.slice oac144 (List.length blc146) occ145, .slice oad147 (List.length xsd149) ocd148, .slice oae150 (List.length xse152) oce151] : List Value))) 75, .box bk1074 (([uv16 xva1048] : List Value) ++ ((bys alb1049) ++ ([.slice oac1050 (List.length blc1052) occ1051, .slice oad1053 (List.length xsd1055) ocd1054, .slice oae1056 (List.length xse1058) oce1057] : List Value))) 75, .box bk1520 [.slice oaa1501 (List.length bla1503) oca1502, .slice oab1504 (List.length xsb1506) ocb1505] 83]) ?_ ?_
     ·
      refine c_d (((List.length (pskP (List.map puPsk df)) : Nat) : Int) > (0 : Int)) En1738 (fun hc1739 => ?_) (fun hc1739 => ?_)
      ·
       refine wp_seq ?_
       refine region_from ?_
       refine d_k [1,3,4,6,8,9,10,16,17,18,19,20,112] [] 1 En1738 fun ac1740 En1741 => ?_
       refine f_o ?_
       refine c_0 En1741 Hv1734 (getpsks_go _ pa1726 (List.length (pskP (List.map puPsk df))) pc1727 (pskP (List.map puPsk df)) (by first | rfl | (simp; done) | (simp; omega) | omega) (bys_in Hv1734.heap (k := 0) rfl [] (by kernel_rfl) rfl (by first | omega | (simp; done) | (simp; omega)))) ?_
       rintro _ wo1749 ⟨oa1742, oc1743, xs1744, rfl, he1750, hpu1745, hf1746, hf1747⟩
       refine ⟨_, _, _, rfl, he1750, rfl, fun ac1752 En1753 Hv1754 => ?_⟩
       refine d_e [1,3,4,6,8,9,10,16,17,18,19,20,21,22,23] [] En1753 fun ac1755 En1756 => ?_
       refine then_normal ?_
       refine wp_seq ?_
       refine region_from ?_
       refine d_k [1,3,4,6,8,9,10,16,17,18,19,20,22,23,117,118] [] 2 En1756 fun ac1757 En1758 => ?_
       refine f_o ?_
       refine m_l 16 En1758 Hv1754 fun ac1759 En1760 => ?_
       refine f_o ?_
       refine c_p En1760 Hv1754 (samepsk_go _ oa1742 oc1743 xs1744 (Hv1754.heap.innS (k := 0) (f := fPsk) (sz := 3) (by_ := 56) rfl (fun _ => rfl) (by decide) [] (by kernel_rfl) rfl (by first | omega | (simp; done) | (simp; omega)) (fun y hy => ⟨Hv1754.heap.innB (k := 1) rfl (List.mem_flatMap.2 ⟨y, hy, List.mem_cons_self⟩) [] (by kernel_rfl) rfl (Nat.le_trans (hf1747 y hy).1 (by decide)), trivial, Hv1754.heap.innB (k := 1) rfl (List.mem_flatMap.2 ⟨y, hy, (List.mem_cons_of_mem _ List.mem_cons_self)⟩) [] (by kernel_rfl) rfl (Nat.le_trans (hf1747 y hy).2 (by decide)), trivial⟩)) a_df c_df df (i_df.go Hv1754 [] (by kernel_rfl) (fun _ h => ⟨(InB.ev h.1 Hv1754).pick [] (by kernel_rfl), h.2.1, (InB.ev h.2.2.1 Hv1754).pick [] (by kernel_rfl), h.2.2.2⟩))) fun ac1765 wo1762 En1766 Hv1767 => ?_
       refine d_e [1,3,4,6,8,9,10,16,17,18,19,20,22,23,24] [(4, g_b (show ((List.map puPsk xs1744 == List.map puPsk df)) = true from (by rw [hpu1745, (got_back (z := _) (psk_back (by omega)).1).2]; exact beq_self_eq_true _)))] En1766 fun ac1768 En1769 => ?_
       refine then_normal ?_
       refine wp_seq ?_
       refine d_r [1,3,4,6,8,9,10,16,17,18,19,20,136] [(1, g_b (show (gotA (pskM (pskP (List.map puPsk df)) false false) != (0 : Int)) = false from (by rw [got_a (psk_back (by omega)).1]; rfl))), (8, g_b (show (decide (((gotN (pskM (pskP (List.map puPsk df)) false false) (List.length (pskO (pskP (List.map puPsk df)) false false).2.1) : Nat) : Int) < (35 : Int))) = false from (by rw [gotN_0 (got_a (psk_back (by omega)).1)]; exact decide_eq_false (by have := (psk_back (ps := List.map puPsk df) (by omega)).2.1; omega)))), (14, g_b (show (decide (((gotN (pskM (pskP (List.map puPsk df)) false false) (List.length (pskO (pskP (List.map puPsk df)) false false).2.1) : Nat) : Int) > ((List.length (pskP (List.map puPsk df)) : Nat) : Int))) = false from (by rw [gotN_0 (got_a (psk_back (by omega)).1)]; exact decide_eq_false (by have := (psk_back (ps := List.map puPsk df) (by omega)).2.2; omega))))] En1769 fun ac1770 En1771 => ?_
       refine then_normal ?_
       refine c_f En1771 ?_
       refine wp_skip ?_
       exact ⟨rfl, ⟨En1771.sb, Hv1767.pk [2, 3, 4, 5, 6, 7, 8, 9, 10, 11, 12, 13, 14, 15, 16, 17, 18, 19]⟩⟩
      ·
       refine wp_skip ?_
       exact ⟨rfl, ⟨En1738.sb, Hv1734.pk [0, 1, 2, 3, 4, 5, 6, 7, 8, 9, 10, 11, 12, 13, 14, 15, 16, 17]⟩⟩
     ·
      rintro ac1772 wo1773 ⟨En1774, Hv1775⟩
      refine then_normal ?_
      refine wp_seq ?_
      refine d_r [1,3,4,6,8,10,16,17,18,19,20] [] En1774 fun ac1776 En1777 => ?_
      refine then_normal ?_
      refine wp_ret ?_
      refine d_ret1 (t := 8) (v := .bool true) En1777 (by kernel_rfl) (by kernel_rfl) ?_
      exact ⟨rfl, Hv1775.pk []⟩

end Go.Proofs.Ytofecellbfhnjaa
