/- Layer 17: WirePuts, walked. -/
import Derived.Test.YtofecellbfhnjaaW31
namespace Go.Proofs.Ytofecellbfhnjaa
open Go.Dbr
set_option maxRecDepth 100000
set_option maxHeartbeats 2000000
set_option linter.unusedVariables false
set_option linter.unusedSimpArgs false

theorem puts_walk (da : List UInt8) (a_db : Option Addr) (c_db : Nat) (db : List (UInt16)) (a_dc : Option Addr) (c_dc : Nat) (dc : List (List UInt8)) (a_dd : Option Addr) (c_dd : Nat) (dd : List UInt8) (a_de : Option Addr) (c_de : Nat) (de : List ((UInt16) × (Sl UInt8) × Unit)) (a_df : Option Addr) (c_df : Nat) (df : List ((Sl UInt8) × (UInt32) × (Sl UInt8) × Unit)) (a_dg : Option Addr) (c_dg : Nat) (dg : List ((UInt16) × (Sl UInt8) × Unit)) (dh : UInt16) (w : World) (s_da : (List.length da ≤ 140737488351232)) (i_db : InS (fun n : UInt16 => [uv16 n]) 2 (fun x : UInt16 => True) w [] a_db c_db db) (i_dc : InS (fun l : List UInt8 => [.string (bstr l)]) 16 (fun x : List UInt8 => (List.length x ≤ 140737488351232)) w [] a_dc c_dc dc) (i_dd : InB w [] a_dd c_dd dd) (i_de : InS (fun p : (UInt16) × (Sl UInt8) × Unit => (fun n : UInt16 => [uv16 n]) p.1 ++ (fun p : (Sl UInt8) × Unit => (fun s : Sl UInt8 => s.f) p.1 ++ (fun _ : Unit => []) p.2) p.2) 32 (fun x : (UInt16) × (Sl UInt8) × Unit => (True ∧ (InB w [] x.2.1.a x.2.1.c x.2.1.l ∧ (True)))) w [] a_de c_de de) (i_df : InS (fun p : (Sl UInt8) × (UInt32) × (Sl UInt8) × Unit => (fun s : Sl UInt8 => s.f) p.1 ++ (fun p : (UInt32) × (Sl UInt8) × Unit => (fun n : UInt32 => [uv32 n]) p.1 ++ (fun p : (Sl UInt8) × Unit => (fun s : Sl UInt8 => s.f) p.1 ++ (fun _ : Unit => []) p.2) p.2) p.2) 56 (fun x : (Sl UInt8) × (UInt32) × (Sl UInt8) × Unit => (InB w [] x.1.a x.1.c x.1.l ∧ (True ∧ (InB w [] x.2.2.1.a x.2.2.1.c x.2.2.1.l ∧ (True))))) w [] a_df c_df df) (i_dg : InS (fun p : (UInt16) × (Sl UInt8) × Unit => (fun n : UInt16 => [uv16 n]) p.1 ++ (fun p : (Sl UInt8) × Unit => (fun s : Sl UInt8 => s.f) p.1 ++ (fun _ : Unit => []) p.2) p.2) 32 (fun x : (UInt16) × (Sl UInt8) × Unit => (True ∧ (InB w [] x.2.1.a x.2.1.c x.2.1.l ∧ (True)))) w [] a_dg c_dg dg) (hB : (List.length da + ((List.map (fun x => 0 + 1) db).sum + ((List.map (fun x => List.length x + 1) dc).sum + (List.length dd + ((List.map (fun x => (0 + (List.length x.2.1.l + (0))) + 1) de).sum + ((List.map (fun x => (List.length x.1.l + (0 + (List.length x.2.2.1.l + (0)))) + 1) df).sum + ((List.map (fun x => (0 + (List.length x.2.1.l + (0))) + 1) dg).sum + (0 + (0))))))))) ≤ 1048576) : Calls Try.prog 4 #[.agg #[.string (bstr da), .slice a_db (List.length db) c_db, .slice a_dc (List.length dc) c_dc, .slice a_dd (List.length dd) c_dd, .slice a_de (List.length de) c_de, .slice a_df (List.length df) c_df, .slice a_dg (List.length dg) c_dg, uv16 dh]] w fun e w' => e = .returned (.bool true) ∧ Ev w [] w' [] := by
 have hz_db : (List.map (fun x => 0 + 1) db).sum ≤ 1048576 := by omega
 have hz_dc : (List.map (fun x => List.length x + 1) dc).sum ≤ 1048576 := by omega
 have hz_de : (List.map (fun x => (0 + (List.length x.2.1.l + (0))) + 1) de).sum ≤ 1048576 := by omega
 have hz_df : (List.map (fun x => (List.length x.1.l + (0 + (List.length x.2.2.1.l + (0)))) + 1) df).sum ≤ 1048576 := by omega
 have hq_u16F : allB u16F (List.map (fun y : RU16 => y) db) := allB_of (g := (fun _ => 0)) u16F_l (m := (fun x : RU16 => 0 + 1)) (fun y => (by show 0 + 1 ≤ 0 + 1; omega)) hz_db
 have hq_alF : allB alF (List.map (fun y : RStr => y) dc) := allB_of (g := (fun y => List.length y)) alF_l (m := (fun x : RStr => List.length x + 1)) (fun y => (by show List.length y + 1 ≤ List.length y + 1; omega)) hz_dc
 have hq_dalF : allB dalF (List.map (fun y : RStr => y) dc) := allB_of (g := (fun y => List.length y)) dalF_l (m := (fun x : RStr => List.length x + 1)) (fun y => (by show List.length y + 1 ≤ List.length y + 1; omega)) hz_dc
 have hq_shF : allB shF (List.map (fun y : RSha => (y.1, y.2.1.l)) de) := allB_of (g := (fun y => List.length y.2)) shF_l (m := (fun x : RSha => (0 + (List.length x.2.1.l + (0))) + 1)) (fun y => (by show List.length y.2.1.l + 1 ≤ (0 + (List.length y.2.1.l + (0))) + 1; omega)) hz_de
 have hq_dshF : allB dshF (List.map (fun y : RSha => (y.1, y.2.1.l)) de) := allB_of (g := (fun y => List.length y.2)) dshF_l (m := (fun x : RSha => (0 + (List.length x.2.1.l + (0))) + 1)) (fun y => (by show List.length y.2.1.l + 1 ≤ (0 + (List.length y.2.1.l + (0))) + 1; omega)) hz_de
 have hq_k1F : allB k1F (List.map puPsk df) := allB_of (g := (fun y => List.length y.1 + List.length y.2.2)) k1F_l (m := (fun x : RPsk => (List.length x.1.l + (0 + (List.length x.2.2.1.l + (0)))) + 1)) (fun y => (by show List.length y.1.l + List.length y.2.2.1.l + 1 ≤ (List.length y.1.l + (0 + (List.length y.2.2.1.l + (0)))) + 1; omega)) hz_df
 have hq_k2F : allB k2F (List.map puPsk df) := allB_of (g := (fun y => List.length y.1 + List.length y.2.2)) k2F_l (m := (fun x : RPsk => (List.length x.1.l + (0 + (List.length x.2.2.1.l + (0)))) + 1)) (fun y => (by show List.length y.1.l + List.length y.2.2.1.l + 1 ≤ (List.length y.1.l + (0 + (List.length y.2.2.1.l + (0)))) + 1; omega)) hz_df
 have hq_dk1F : allB dk1F (List.map puPsk df) := allB_of (g := (fun y => List.length y.1 + List.length y.2.2)) dk1F_l (m := (fun x : RPsk => (List.length x.1.l + (0 + (List.length x.2.2.1.l + (0)))) + 1)) (fun y => (by show List.length y.1.l + List.length y.2.2.1.l + 1 ≤ (List.length y.1.l + (0 + (List.length y.2.2.1.l + (0)))) + 1; omega)) hz_df
 have hq_dk2F : allB dk2F (List.map puPsk df) := allB_of (g := (fun y => List.length y.1 + List.length y.2.2)) dk2F_l (m := (fun x : RPsk => (List.length x.1.l + (0 + (List.length x.2.2.1.l + (0)))) + 1)) (fun y => (by show List.length y.1.l + List.length y.2.2.1.l + 1 ≤ (List.length y.1.l + (0 + (List.length y.2.2.1.l + (0)))) + 1; omega)) hz_df
 refine d_0 [(0, .agg #[.string (bstr da), .slice a_db (List.length db) c_db, .slice a_dc (List.length dc) c_dc, .slice a_dd (List.length dd) c_dd, .slice a_de (List.length de) c_de, .slice a_df (List.length df) c_df, .slice a_dg (List.length dg) c_dg, uv16 dh])] 172 Go.Proofs.Try.func4 Go.Proofs.Try.ntmps4 (Heap.nil _) fun act0 En0 Hv0 => ?_
 refine wp_seq ?_
 refine region_from ?_
 refine f_o ?_
 refine m_m 39 [.string (bstr da), .slice a_db (List.length db) c_db, .slice a_dc (List.length dc) c_dc, .slice a_dd (List.length dd) c_dd, .slice a_de (List.length de) c_de, .slice a_df (List.length df) c_df, .slice a_dg (List.length dg) c_dg, uv16 dh] En0 Hv0 fun ac2 wo3 bk1 En4 Hv5 => ?_
 refine d_e [1,2] [] En4 fun ac6 En7 => ?_
 refine then_normal ?_
 refine wp_seq ?_
 refine region_from ?_
 refine f_o ?_
 refine c_p En7 Hv5 (head_ok _) fun ac12 wo9 En13 Hv14 => ?_
 refine d_e [1,2,3] [] En13 fun ac15 En16 => ?_
 refine then_normal ?_
 refine wp_seq ?_
 refine r_c (fun ac wo => Env ac 172 [(1, pt bk1), (2, .bool false), (3, .bool true), (4, .bool true)] ∧ Ev w [] wo [.box bk1 [.string (bstr da), .slice a_db (List.length db) c_db, .slice a_dc (List.length dc) c_dc, .slice a_dd (List.length dd) c_dd, .slice a_de (List.length de) c_de, .slice a_df (List.length df) c_df, .slice a_dg (List.length dg) c_dg, uv16 dh] 39]) ?_ ?_
 ·
  refine h_s (fun wv => Ev w [] wv [.box bk1 [.string (bstr da), .slice a_db (List.length db) c_db, .slice a_dc (List.length dc) c_dc, .slice a_dd (List.length dd) c_dd, .slice a_de (List.length de) c_de, .slice a_df (List.length df) c_df, .slice a_dg (List.length dg) c_dg, uv16 dh] 39]) [] 32 ?_
  have wo17 := Hv14.trans (Ev.drew Hv14.heap)
  refine h_name fun G hG => ?_
  have nd639 : ∀ (ac : Act) (wo : World) (pa472 : _) (pc473 : _), Env ac 172 [(1, pt bk1), (2, .bool false), (3, .bool true), (30, .bool true), (34, .string (bstr (putP u16F 1 2 (List.map (fun y : RU16 => y) db)))), (37, .slice pa472 (List.length (dputP u16F 1 2 (List.map (fun y : RU16 => y) db))) pc473)] → Ev w [] wo [.vec pa472 pc473 1 (bys (dputP u16F 1 2 (List.map (fun y : RU16 => y) db))) 5, .box bk1 [.string (bstr da), .slice a_db (List.length db) c_db, .slice a_dc (List.length dc) c_dc, .slice a_dd (List.length dd) c_dd, .slice a_de (List.length de) c_de, .slice a_df (List.length df) c_df, .slice a_dg (List.length dg) c_dg, uv16 dh] 39] → G 4 #[true, true, true, true, true, true, true, true, true, true, true, true, true, true, true, true, true, true, true, true, true, true, true, true, true, true, true, true, false, false, false, false] ac wo := by
   intro ac640 wo641 pa472 pc473 En642 Hv643
   refine h_from hG ?_
   refine q_t 28 ?_
   refine op_str (d := some 38) (src := 23) (dst := 9) (e := 5) (ao := pa472) (cap := pc473) (p := List.length (dputP u16F 1 2 (List.map (fun y : RU16 => y) db))) (bs := dputP u16F 1 2 (List.map (fun y : RU16 => y) db)) En642 (by kernel_rfl) rfl (by kernel_rfl) (by kernel_rfl) (by kernel_rfl) (Hv643.heap.reads (k := 0) rfl) (bys_vnz Hv643.heap (k := 0) rfl) ?_
   intro ac644 En645
   refine ⟨fun _ => Hv643.pk [1], ?_⟩
   refine q_s [29,30,31] [(29, g_v (show (.bool (ByteArray.toList (bstr (putP u16F 1 2 (List.map (fun y : RU16 => y) db))) == ByteArray.toList (bstr (dputP u16F 1 2 (List.map (fun y : RU16 => y) db)))) : Value) = .bool true by rw [Go.Dbr.bstr_eq (putP u16F 1 2 (List.map (fun y : RU16 => y) db)) (dputP u16F 1 2 (List.map (fun y : RU16 => y) db)), show ((putP u16F 1 2 (List.map (fun y : RU16 => y) db)) == (dputP u16F 1 2 (List.map (fun y : RU16 => y) db))) = true from (by rw [put_eq u16_likeW]; exact beq_self_eq_true _)] <;> rfl))] 0 En645 (Hv643.pk [1]) fun ac646 En647 => ?_
   exact h_e ⟨En647.sb, Hv643.pk [1]⟩
  have nd648 : ∀ (ac : Act) (wo : World) (pa448 : _) (pc449 : _), Env ac 172 [(1, pt bk1), (2, .bool false), (3, .bool true), (30, .bool true), (33, .slice pa448 (List.length (putP u16F 1 2 (List.map (fun y : RU16 => y) db))) pc449), (38, .string (bstr (dputP u16F 1 2 (List.map (fun y : RU16 => y) db))))] → Ev w [] wo [.vec pa448 pc449 1 (bys (putP u16F 1 2 (List.map (fun y : RU16 => y) db))) 5, .box bk1 [.string (bstr da), .slice a_db (List.length db) c_db, .slice a_dc (List.length dc) c_dc, .slice a_dd (List.length dd) c_dd, .slice a_de (List.length de) c_de, .slice a_df (List.length df) c_df, .slice a_dg (List.length dg) c_dg, uv16 dh] 39] → G 4 #[true, true, true, true, true, true, true, true, true, true, true, true, true, true, true, true, true, true, true, true, true, true, true, true, false, true, true, true, true, false, false, false] ac wo := by
   intro ac649 wo650 pa448 pc449 En651 Hv652
   refine h_from hG ?_
   refine q_t 24 ?_
   refine op_str (d := some 34) (src := 23) (dst := 9) (e := 5) (ao := pa448) (cap := pc449) (p := List.length (putP u16F 1 2 (List.map (fun y : RU16 => y) db))) (bs := putP u16F 1 2 (List.map (fun y : RU16 => y) db)) En651 (by kernel_rfl) rfl (by kernel_rfl) (by kernel_rfl) (by kernel_rfl) (Hv652.heap.reads (k := 0) rfl) (bys_vnz Hv652.heap (k := 0) rfl) ?_
   intro ac653 En654
   refine ⟨fun _ => Hv652.pk [1], ?_⟩
   refine q_s [29,30,31] [(29, g_v (show (.bool (ByteArray.toList (bstr (putP u16F 1 2 (List.map (fun y : RU16 => y) db))) == ByteArray.toList (bstr (dputP u16F 1 2 (List.map (fun y : RU16 => y) db)))) : Value) = .bool true by rw [Go.Dbr.bstr_eq (putP u16F 1 2 (List.map (fun y : RU16 => y) db)) (dputP u16F 1 2 (List.map (fun y : RU16 => y) db)), show ((putP u16F 1 2 (List.map (fun y : RU16 => y) db)) == (dputP u16F 1 2 (List.map (fun y : RU16 => y) db))) = true from (by rw [put_eq u16_likeW]; exact beq_self_eq_true _)] <;> rfl))] 0 En654 (Hv652.pk [1]) fun ac655 En656 => ?_
   exact h_e ⟨En656.sb, Hv652.pk [1]⟩
  have nd657 : ∀ (ac : Act) (wo : World), Env ac 172 [(1, pt bk1), (2, .bool false), (3, .bool true), (30, .bool true), (34, .string (bstr (putP u16F 1 2 (List.map (fun y : RU16 => y) db)))), (36, .slice a_db (List.length db) c_db)] → Ev w [] wo [.box bk1 [.string (bstr da), .slice a_db (List.length db) c_db, .slice a_dc (List.length dc) c_dc, .slice a_dd (List.length dd) c_dd, .slice a_de (List.length de) c_de, .slice a_df (List.length df) c_df, .slice a_dg (List.length dg) c_dg, uv16 dh] 39] → G 5 #[true, true, true, true, true, true, true, true, true, true, true, true, true, true, true, true, true, true, true, true, true, true, true, true, true, true, true, false, false, false, false, false] ac wo := by
   intro ac658 wo659 En660 Hv661
   refine h_from hG ?_
   refine q_t 27 ?_
   refine c_0 En660 Hv661 (dputversions_go _ a_db c_db db (i_db.go Hv661 [] (by kernel_rfl) (fun _ h => h)) (by assumption)) ?_
   rintro _ wo665 ⟨pa662, pc663, rfl, he666⟩
   refine ⟨_, _, _, rfl, he666, rfl, fun ac668 En669 Hv670 => ?_⟩
   refine ⟨fun _ => Hv670.pk [1], ?_⟩
   refine q_t 28 ?_
   refine op_str (d := some 38) (src := 23) (dst := 9) (e := 5) (ao := pa662) (cap := pc663) (p := List.length (dputP u16F 1 2 (List.map (fun y : RU16 => y) db))) (bs := dputP u16F 1 2 (List.map (fun y : RU16 => y) db)) En669 (by kernel_rfl) rfl (by kernel_rfl) (by kernel_rfl) (by kernel_rfl) (Hv670.heap.reads (k := 0) rfl) (bys_vnz Hv670.heap (k := 0) rfl) ?_
   intro ac671 En672
   refine ⟨fun _ => Hv670.pk [1], ?_⟩
   refine q_s [29,30,31] [(29, g_v (show (.bool (ByteArray.toList (bstr (putP u16F 1 2 (List.map (fun y : RU16 => y) db))) == ByteArray.toList (bstr (dputP u16F 1 2 (List.map (fun y : RU16 => y) db)))) : Value) = .bool true by rw [Go.Dbr.bstr_eq (putP u16F 1 2 (List.map (fun y : RU16 => y) db)) (dputP u16F 1 2 (List.map (fun y : RU16 => y) db)), show ((putP u16F 1 2 (List.map (fun y : RU16 => y) db)) == (dputP u16F 1 2 (List.map (fun y : RU16 => y) db))) = true from (by rw [put_eq u16_likeW]; exact beq_self_eq_true _)] <;> rfl))] 0 En672 (Hv670.pk [1]) fun ac673 En674 => ?_
   exact h_e ⟨En674.sb, Hv670.pk [1]⟩
  have nd675 : ∀ (ac : Act) (wo : World) (pa448 : _) (pc449 : _) (pa472 : _) (pc473 : _), Env ac 172 [(1, pt bk1), (2, .bool false), (3, .bool true), (30, .bool true), (33, .slice pa448 (List.length (putP u16F 1 2 (List.map (fun y : RU16 => y) db))) pc449), (37, .slice pa472 (List.length (dputP u16F 1 2 (List.map (fun y : RU16 => y) db))) pc473)] → Ev w [] wo [.vec pa472 pc473 1 (bys (dputP u16F 1 2 (List.map (fun y : RU16 => y) db))) 5, .vec pa448 pc449 1 (bys (putP u16F 1 2 (List.map (fun y : RU16 => y) db))) 5, .box bk1 [.string (bstr da), .slice a_db (List.length db) c_db, .slice a_dc (List.length dc) c_dc, .slice a_dd (List.length dd) c_dd, .slice a_de (List.length de) c_de, .slice a_df (List.length df) c_df, .slice a_dg (List.length dg) c_dg, uv16 dh] 39] → G 5 #[true, true, true, true, true, true, true, true, true, true, true, true, true, true, true, true, true, true, true, true, true, true, true, true, false, true, true, true, false, false, false, false] ac wo := by
   intro ac676 wo677 pa448 pc449 pa472 pc473 En678 Hv679
   refine h_from hG ?_
   refine h_ways [24, 28] (by kernel_rfl) rfl ?_
   refine ⟨?_, ?_, trivial⟩
   ·
    rintro _ rfl
    refine op_str (d := some 34) (src := 23) (dst := 9) (e := 5) (ao := pa448) (cap := pc449) (p := List.length (putP u16F 1 2 (List.map (fun y : RU16 => y) db))) (bs := putP u16F 1 2 (List.map (fun y : RU16 => y) db)) En678 (by kernel_rfl) rfl (by kernel_rfl) (by kernel_rfl) (by kernel_rfl) (Hv679.heap.reads (k := 1) rfl) (bys_vnz Hv679.heap (k := 1) rfl) ?_
    intro ac680 En681
    refine ⟨fun _ => Hv679.pk [2], ?_⟩
    exact h_to hG (by kernel_rfl) (nd639 _ _ pa472 pc473 (En681.sb) (Hv679.pk [0, 2]))
   ·
    rintro _ rfl
    refine op_str (d := some 38) (src := 23) (dst := 9) (e := 5) (ao := pa472) (cap := pc473) (p := List.length (dputP u16F 1 2 (List.map (fun y : RU16 => y) db))) (bs := dputP u16F 1 2 (List.map (fun y : RU16 => y) db)) En678 (by kernel_rfl) rfl (by kernel_rfl) (by kernel_rfl) (by kernel_rfl) (Hv679.heap.reads (k := 0) rfl) (bys_vnz Hv679.heap (k := 0) rfl) ?_
    intro ac682 En683
    refine ⟨fun _ => Hv679.pk [2], ?_⟩
    exact h_to hG (by kernel_rfl) (nd648 _ _ pa448 pc449 (En683.sb) (Hv679.pk [1, 2]))
  have nd684 : ∀ (ac : Act) (wo : World) (pa493 : _) (pc494 : _), Env ac 172 [(1, pt bk1), (2, .bool false), (3, .bool true), (19, .bool true), (23, .string (bstr (putP u16F 2 2 (List.map (fun y : RU16 => y) db)))), (26, .slice pa493 (List.length (dputP u16F 2 2 (List.map (fun y : RU16 => y) db))) pc494)] → Ev w [] wo [.vec pa493 pc494 1 (bys (dputP u16F 2 2 (List.map (fun y : RU16 => y) db))) 5, .box bk1 [.string (bstr da), .slice a_db (List.length db) c_db, .slice a_dc (List.length dc) c_dc, .slice a_dd (List.length dd) c_dd, .slice a_de (List.length de) c_de, .slice a_df (List.length df) c_df, .slice a_dg (List.length dg) c_dg, uv16 dh] 39] → G 15 #[true, true, true, true, true, true, true, true, true, true, true, true, true, true, true, true, true, false, false, false, false, false, false, false, false, false, false, false, false, false, false, false] ac wo := by
   intro ac685 wo686 pa493 pc494 En687 Hv688
   refine h_from hG ?_
   refine q_t 17 ?_
   refine op_str (d := some 27) (src := 23) (dst := 9) (e := 5) (ao := pa493) (cap := pc494) (p := List.length (dputP u16F 2 2 (List.map (fun y : RU16 => y) db))) (bs := dputP u16F 2 2 (List.map (fun y : RU16 => y) db)) En687 (by kernel_rfl) rfl (by kernel_rfl) (by kernel_rfl) (by kernel_rfl) (Hv688.heap.reads (k := 0) rfl) (bys_vnz Hv688.heap (k := 0) rfl) ?_
   intro ac689 En690
   refine ⟨fun _ => Hv688.pk [1], ?_⟩
   refine q_s [18,19,20,21] [(18, g_v (show (.bool (ByteArray.toList (bstr (putP u16F 2 2 (List.map (fun y : RU16 => y) db))) == ByteArray.toList (bstr (dputP u16F 2 2 (List.map (fun y : RU16 => y) db)))) : Value) = .bool true by rw [Go.Dbr.bstr_eq (putP u16F 2 2 (List.map (fun y : RU16 => y) db)) (dputP u16F 2 2 (List.map (fun y : RU16 => y) db)), show ((putP u16F 2 2 (List.map (fun y : RU16 => y) db)) == (dputP u16F 2 2 (List.map (fun y : RU16 => y) db))) = true from (by rw [put_eq u16_likeW]; exact beq_self_eq_true _)] <;> rfl))] 10 En690 (Hv688.pk [1]) fun ac691 En692 => ?_
   refine q_l 0 22 En692 (Hv688.pk [1]) fun ac693 En694 => ?_
   refine q_s [25] [] 8 En694 (Hv688.pk [1]) fun ac695 En696 => ?_
   refine q_l 0 26 En696 (Hv688.pk [1]) fun ac697 En698 => ?_
   refine q_t 23 ?_
   refine c_0 En698 Hv688 (pversions_go _ a_db c_db db (i_db.go Hv688 [] (by kernel_rfl) (fun _ h => h)) (by assumption)) ?_
   rintro _ wo702 ⟨pa699, pc700, rfl, he703⟩
   refine ⟨_, _, _, rfl, he703, rfl, fun ac705 En706 Hv707 => ?_⟩
   refine ⟨fun _ => Hv707.pk [2], ?_⟩
   refine h_ways [24, 27] (by kernel_rfl) rfl ?_
   refine ⟨?_, ?_, trivial⟩
   ·
    rintro _ rfl
    refine op_str (d := some 34) (src := 23) (dst := 9) (e := 5) (ao := pa699) (cap := pc700) (p := List.length (putP u16F 1 2 (List.map (fun y : RU16 => y) db))) (bs := putP u16F 1 2 (List.map (fun y : RU16 => y) db)) En706 (by kernel_rfl) rfl (by kernel_rfl) (by kernel_rfl) (by kernel_rfl) (Hv707.heap.reads (k := 0) rfl) (bys_vnz Hv707.heap (k := 0) rfl) ?_
    intro ac708 En709
    refine ⟨fun _ => Hv707.pk [2], ?_⟩
    exact h_to hG (by kernel_rfl) (nd657 _ _ (En709.sb) (Hv707.pk [2]))
   ·
    rintro _ rfl
    refine c_0 En706 Hv707 (dputversions_go _ a_db c_db db (i_db.go Hv707 [] (by kernel_rfl) (fun _ h => h)) (by assumption)) ?_
    rintro _ wo713 ⟨pa710, pc711, rfl, he714⟩
    refine ⟨_, _, _, rfl, he714, rfl, fun ac716 En717 Hv718 => ?_⟩
    refine ⟨fun _ => Hv718.pk [3], ?_⟩
    exact h_to hG (by kernel_rfl) (nd675 _ _ pa699 pc700 pa710 pc711 (En717.sb) (Hv718.pk [0, 1, 3]))
  have nd719 : ∀ (ac : Act) (wo : World) (pa418 : _) (pc419 : _), Env ac 172 [(1, pt bk1), (2, .bool false), (3, .bool true), (19, .bool true), (22, .slice pa418 (List.length (putP u16F 2 2 (List.map (fun y : RU16 => y) db))) pc419), (27, .string (bstr (dputP u16F 2 2 (List.map (fun y : RU16 => y) db))))] → Ev w [] wo [.vec pa418 pc419 1 (bys (putP u16F 2 2 (List.map (fun y : RU16 => y) db))) 5, .box bk1 [.string (bstr da), .slice a_db (List.length db) c_db, .slice a_dc (List.length dc) c_dc, .slice a_dd (List.length dd) c_dd, .slice a_de (List.length de) c_de, .slice a_df (List.length df) c_df, .slice a_dg (List.length dg) c_dg, uv16 dh] 39] → G 15 #[true, true, true, true, true, true, true, true, true, true, true, true, true, false, true, true, true, true, false, false, false, false, false, false, false, false, false, false, false, false, false, false] ac wo := by
   intro ac720 wo721 pa418 pc419 En722 Hv723
   refine h_from hG ?_
   refine q_t 13 ?_
   refine op_str (d := some 23) (src := 23) (dst := 9) (e := 5) (ao := pa418) (cap := pc419) (p := List.length (putP u16F 2 2 (List.map (fun y : RU16 => y) db))) (bs := putP u16F 2 2 (List.map (fun y : RU16 => y) db)) En722 (by kernel_rfl) rfl (by kernel_rfl) (by kernel_rfl) (by kernel_rfl) (Hv723.heap.reads (k := 0) rfl) (bys_vnz Hv723.heap (k := 0) rfl) ?_
   intro ac724 En725
   refine ⟨fun _ => Hv723.pk [1], ?_⟩
   refine q_s [18,19,20,21] [(18, g_v (show (.bool (ByteArray.toList (bstr (putP u16F 2 2 (List.map (fun y : RU16 => y) db))) == ByteArray.toList (bstr (dputP u16F 2 2 (List.map (fun y : RU16 => y) db)))) : Value) = .bool true by rw [Go.Dbr.bstr_eq (putP u16F 2 2 (List.map (fun y : RU16 => y) db)) (dputP u16F 2 2 (List.map (fun y : RU16 => y) db)), show ((putP u16F 2 2 (List.map (fun y : RU16 => y) db)) == (dputP u16F 2 2 (List.map (fun y : RU16 => y) db))) = true from (by rw [put_eq u16_likeW]; exact beq_self_eq_true _)] <;> rfl))] 10 En725 (Hv723.pk [1]) fun ac726 En727 => ?_
   refine q_l 0 22 En727 (Hv723.pk [1]) fun ac728 En729 => ?_
   refine q_s [25] [] 8 En729 (Hv723.pk [1]) fun ac730 En731 => ?_
   refine q_l 0 26 En731 (Hv723.pk [1]) fun ac732 En733 => ?_
   refine q_t 23 ?_
   refine c_0 En733 Hv723 (pversions_go _ a_db c_db db (i_db.go Hv723 [] (by kernel_rfl) (fun _ h => h)) (by assumption)) ?_
   rintro _ wo737 ⟨pa734, pc735, rfl, he738⟩
   refine ⟨_, _, _, rfl, he738, rfl, fun ac740 En741 Hv742 => ?_⟩
   refine ⟨fun _ => Hv742.pk [2], ?_⟩
   refine h_ways [24, 27] (by kernel_rfl) rfl ?_
   refine ⟨?_, ?_, trivial⟩
   ·
    rintro _ rfl
    refine op_str (d := some 34) (src := 23) (dst := 9) (e := 5) (ao := pa734) (cap := pc735) (p := List.length (putP u16F 1 2 (List.map (fun y : RU16 => y) db))) (bs := putP u16F 1 2 (List.map (fun y : RU16 => y) db)) En741 (by kernel_rfl) rfl (by kernel_rfl) (by kernel_rfl) (by kernel_rfl) (Hv742.heap.reads (k := 0) rfl) (bys_vnz Hv742.heap (k := 0) rfl) ?_
    intro ac743 En744
    refine ⟨fun _ => Hv742.pk [2], ?_⟩
    exact h_to hG (by kernel_rfl) (nd657 _ _ (En744.sb) (Hv742.pk [2]))
   ·
    rintro _ rfl
    refine c_0 En741 Hv742 (dputversions_go _ a_db c_db db (i_db.go Hv742 [] (by kernel_rfl) (fun _ h => h)) (by assumption)) ?_
    rintro _ wo748 ⟨pa745, pc746, rfl, he749⟩
    refine ⟨_, _, _, rfl, he749, rfl, fun ac751 En752 Hv753 => ?_⟩
    refine ⟨fun _ => Hv753.pk [3], ?_⟩
    exact h_to hG (by kernel_rfl) (nd675 _ _ pa734 pc735 pa745 pc746 (En752.sb) (Hv753.pk [0, 1, 3]))
  have nd754 : ∀ (ac : Act) (wo : World), Env ac 172 [(1, pt bk1), (2, .bool false), (3, .bool true), (19, .bool true), (23, .string (bstr (putP u16F 2 2 (List.map (fun y : RU16 => y) db)))), (25, .slice a_db (List.length db) c_db)] → Ev w [] wo [.box bk1 [.string (bstr da), .slice a_db (List.length db) c_db, .slice a_dc (List.length dc) c_dc, .slice a_dd (List.length dd) c_dd, .slice a_de (List.length de) c_de, .slice a_df (List.length df) c_df, .slice a_dg (List.length dg) c_dg, uv16 dh] 39] → G 16 #[true, true, true, true, true, true, true, true, true, true, true, true, true, true, true, true, false, false, false, false, false, false, false, false, false, false, false, false, false, false, false, false] ac wo := by
   intro ac755 wo756 En757 Hv758
   refine h_from hG ?_
   refine q_t 16 ?_
   refine c_0 En757 Hv758 (dputlist_go _ a_db c_db db (i_db.go Hv758 [] (by kernel_rfl) (fun _ h => h)) (by assumption)) ?_
   rintro _ wo762 ⟨pa759, pc760, rfl, he763⟩
   refine ⟨_, _, _, rfl, he763, rfl, fun ac765 En766 Hv767 => ?_⟩
   refine ⟨fun _ => Hv767.pk [1], ?_⟩
   refine q_t 17 ?_
   refine op_str (d := some 27) (src := 23) (dst := 9) (e := 5) (ao := pa759) (cap := pc760) (p := List.length (dputP u16F 2 2 (List.map (fun y : RU16 => y) db))) (bs := dputP u16F 2 2 (List.map (fun y : RU16 => y) db)) En766 (by kernel_rfl) rfl (by kernel_rfl) (by kernel_rfl) (by kernel_rfl) (Hv767.heap.reads (k := 0) rfl) (bys_vnz Hv767.heap (k := 0) rfl) ?_
   intro ac768 En769
   refine ⟨fun _ => Hv767.pk [1], ?_⟩
   refine q_s [18,19,20,21] [(18, g_v (show (.bool (ByteArray.toList (bstr (putP u16F 2 2 (List.map (fun y : RU16 => y) db))) == ByteArray.toList (bstr (dputP u16F 2 2 (List.map (fun y : RU16 => y) db)))) : Value) = .bool true by rw [Go.Dbr.bstr_eq (putP u16F 2 2 (List.map (fun y : RU16 => y) db)) (dputP u16F 2 2 (List.map (fun y : RU16 => y) db)), show ((putP u16F 2 2 (List.map (fun y : RU16 => y) db)) == (dputP u16F 2 2 (List.map (fun y : RU16 => y) db))) = true from (by rw [put_eq u16_likeW]; exact beq_self_eq_true _)] <;> rfl))] 10 En769 (Hv767.pk [1]) fun ac770 En771 => ?_
   refine q_l 0 22 En771 (Hv767.pk [1]) fun ac772 En773 => ?_
   refine q_s [25] [] 8 En773 (Hv767.pk [1]) fun ac774 En775 => ?_
   refine q_l 0 26 En775 (Hv767.pk [1]) fun ac776 En777 => ?_
   refine q_t 23 ?_
   refine c_0 En777 Hv767 (pversions_go _ a_db c_db db (i_db.go Hv767 [] (by kernel_rfl) (fun _ h => h)) (by assumption)) ?_
   rintro _ wo781 ⟨pa778, pc779, rfl, he782⟩
   refine ⟨_, _, _, rfl, he782, rfl, fun ac784 En785 Hv786 => ?_⟩
   refine ⟨fun _ => Hv786.pk [2], ?_⟩
   refine h_ways [24, 27] (by kernel_rfl) rfl ?_
   refine ⟨?_, ?_, trivial⟩
   ·
    rintro _ rfl
    refine op_str (d := some 34) (src := 23) (dst := 9) (e := 5) (ao := pa778) (cap := pc779) (p := List.length (putP u16F 1 2 (List.map (fun y : RU16 => y) db))) (bs := putP u16F 1 2 (List.map (fun y : RU16 => y) db)) En785 (by kernel_rfl) rfl (by kernel_rfl) (by kernel_rfl) (by kernel_rfl) (Hv786.heap.reads (k := 0) rfl) (bys_vnz Hv786.heap (k := 0) rfl) ?_
    intro ac787 En788
    refine ⟨fun _ => Hv786.pk [2], ?_⟩
    exact h_to hG (by kernel_rfl) (nd657 _ _ (En788.sb) (Hv786.pk [2]))
   ·
    rintro _ rfl
    refine c_0 En785 Hv786 (dputversions_go _ a_db c_db db (i_db.go Hv786 [] (by kernel_rfl) (fun _ h => h)) (by assumption)) ?_
    rintro _ wo792 ⟨pa789, pc790, rfl, he793⟩
    refine ⟨_, _, _, rfl, he793, rfl, fun ac795 En796 Hv797 => ?_⟩
    refine ⟨fun _ => Hv797.pk [3], ?_⟩
    exact h_to hG (by kernel_rfl) (nd675 _ _ pa778 pc779 pa789 pc790 (En796.sb) (Hv797.pk [0, 1, 3]))
  have nd798 : ∀ (ac : Act) (wo : World) (pa418 : _) (pc419 : _) (pa493 : _) (pc494 : _), Env ac 172 [(1, pt bk1), (2, .bool false), (3, .bool true), (19, .bool true), (22, .slice pa418 (List.length (putP u16F 2 2 (List.map (fun y : RU16 => y) db))) pc419), (26, .slice pa493 (List.length (dputP u16F 2 2 (List.map (fun y : RU16 => y) db))) pc494)] → Ev w [] wo [.vec pa493 pc494 1 (bys (dputP u16F 2 2 (List.map (fun y : RU16 => y) db))) 5, .vec pa418 pc419 1 (bys (putP u16F 2 2 (List.map (fun y : RU16 => y) db))) 5, .box bk1 [.string (bstr da), .slice a_db (List.length db) c_db, .slice a_dc (List.length dc) c_dc, .slice a_dd (List.length dd) c_dd, .slice a_de (List.length de) c_de, .slice a_df (List.length df) c_df, .slice a_dg (List.length dg) c_dg, uv16 dh] 39] → G 16 #[true, true, true, true, true, true, true, true, true, true, true, true, true, false, true, true, true, false, false, false, false, false, false, false, false, false, false, false, false, false, false, false] ac wo := by
   intro ac799 wo800 pa418 pc419 pa493 pc494 En801 Hv802
   refine h_from hG ?_
   refine h_ways [13, 17] (by kernel_rfl) rfl ?_
   refine ⟨?_, ?_, trivial⟩
   ·
    rintro _ rfl
    refine op_str (d := some 23) (src := 23) (dst := 9) (e := 5) (ao := pa418) (cap := pc419) (p := List.length (putP u16F 2 2 (List.map (fun y : RU16 => y) db))) (bs := putP u16F 2 2 (List.map (fun y : RU16 => y) db)) En801 (by kernel_rfl) rfl (by kernel_rfl) (by kernel_rfl) (by kernel_rfl) (Hv802.heap.reads (k := 1) rfl) (bys_vnz Hv802.heap (k := 1) rfl) ?_
    intro ac803 En804
    refine ⟨fun _ => Hv802.pk [2], ?_⟩
    exact h_to hG (by kernel_rfl) (nd684 _ _ pa493 pc494 (En804.sb) (Hv802.pk [0, 2]))
   ·
    rintro _ rfl
    refine op_str (d := some 27) (src := 23) (dst := 9) (e := 5) (ao := pa493) (cap := pc494) (p := List.length (dputP u16F 2 2 (List.map (fun y : RU16 => y) db))) (bs := dputP u16F 2 2 (List.map (fun y : RU16 => y) db)) En801 (by kernel_rfl) rfl (by kernel_rfl) (by kernel_rfl) (by kernel_rfl) (Hv802.heap.reads (k := 0) rfl) (bys_vnz Hv802.heap (k := 0) rfl) ?_
    intro ac805 En806
    refine ⟨fun _ => Hv802.pk [2], ?_⟩
    exact h_to hG (by kernel_rfl) (nd719 _ _ pa418 pc419 (En806.sb) (Hv802.pk [1, 2]))
  have nd807 : ∀ (ac : Act) (wo : World) (pa566 : _) (pc567 : _), Env ac 172 [(1, pt bk1), (2, .bool false), (3, .bool true), (13, .string (bstr (nmP da))), (16, .slice pa566 (List.length (dnmP da)) pc567)] → Ev w [] wo [.vec pa566 pc567 1 (bys (dnmP da)) 5, .box bk1 [.string (bstr da), .slice a_db (List.length db) c_db, .slice a_dc (List.length dc) c_dc, .slice a_dd (List.length dd) c_dd, .slice a_de (List.length de) c_de, .slice a_df (List.length df) c_df, .slice a_dg (List.length dg) c_dg, uv16 dh] 39] → G 25 #[true, true, true, true, true, true, true, false, false, false, false, false, false, false, false, false, false, false, false, false, false, false, false, false, false, false, false, false, false, false, false, false] ac wo := by
   intro ac808 wo809 pa566 pc567 En810 Hv811
   refine h_from hG ?_
   refine q_t 7 ?_
   refine op_str (d := some 17) (src := 23) (dst := 9) (e := 5) (ao := pa566) (cap := pc567) (p := List.length (dnmP da)) (bs := dnmP da) En810 (by kernel_rfl) rfl (by kernel_rfl) (by kernel_rfl) (by kernel_rfl) (Hv811.heap.reads (k := 0) rfl) (bys_vnz Hv811.heap (k := 0) rfl) ?_
   intro ac812 En813
   refine ⟨fun _ => Hv811.pk [1], ?_⟩
   refine q_s [8,9,10] [(8, g_v (show (.bool (ByteArray.toList (bstr (nmP da)) == ByteArray.toList (bstr (dnmP da))) : Value) = .bool true by rw [Go.Dbr.bstr_eq (nmP da) (dnmP da), show ((nmP da) == (dnmP da)) = true from (by rw [name_eq]; exact beq_self_eq_true _)] <;> rfl))] 21 En813 (Hv811.pk [1]) fun ac814 En815 => ?_
   refine q_l 0 11 En815 (Hv811.pk [1]) fun ac816 En817 => ?_
   refine q_s [14] [] 19 En817 (Hv811.pk [1]) fun ac818 En819 => ?_
   refine q_l 0 15 En819 (Hv811.pk [1]) fun ac820 En821 => ?_
   refine q_t 12 ?_
   refine c_0 En821 Hv811 (plist_go _ a_db c_db db (i_db.go Hv811 [] (by kernel_rfl) (fun _ h => h)) (by assumption)) ?_
   rintro _ wo825 ⟨pa822, pc823, rfl, he826⟩
   refine ⟨_, _, _, rfl, he826, rfl, fun ac828 En829 Hv830 => ?_⟩
   refine ⟨fun _ => Hv830.pk [2], ?_⟩
   refine h_ways [13, 16] (by kernel_rfl) rfl ?_
   refine ⟨?_, ?_, trivial⟩
   ·
    rintro _ rfl
    refine op_str (d := some 23) (src := 23) (dst := 9) (e := 5) (ao := pa822) (cap := pc823) (p := List.length (putP u16F 2 2 (List.map (fun y : RU16 => y) db))) (bs := putP u16F 2 2 (List.map (fun y : RU16 => y) db)) En829 (by kernel_rfl) rfl (by kernel_rfl) (by kernel_rfl) (by kernel_rfl) (Hv830.heap.reads (k := 0) rfl) (bys_vnz Hv830.heap (k := 0) rfl) ?_
    intro ac831 En832
    refine ⟨fun _ => Hv830.pk [2], ?_⟩
    exact h_to hG (by kernel_rfl) (nd754 _ _ (En832.sb) (Hv830.pk [2]))
   ·
    rintro _ rfl
    refine c_0 En829 Hv830 (dputlist_go _ a_db c_db db (i_db.go Hv830 [] (by kernel_rfl) (fun _ h => h)) (by assumption)) ?_
    rintro _ wo836 ⟨pa833, pc834, rfl, he837⟩
    refine ⟨_, _, _, rfl, he837, rfl, fun ac839 En840 Hv841 => ?_⟩
    refine ⟨fun _ => Hv841.pk [3], ?_⟩
    exact h_to hG (by kernel_rfl) (nd798 _ _ pa822 pc823 pa833 pc834 (En840.sb) (Hv841.pk [0, 1, 3]))
  have nd842 : ∀ (ac : Act) (wo : World) (pa388 : _) (pc389 : _), Env ac 172 [(1, pt bk1), (2, .bool false), (3, .bool true), (12, .slice pa388 (List.length (nmP da)) pc389), (17, .string (bstr (dnmP da)))] → Ev w [] wo [.vec pa388 pc389 1 (bys (nmP da)) 5, .box bk1 [.string (bstr da), .slice a_db (List.length db) c_db, .slice a_dc (List.length dc) c_dc, .slice a_dd (List.length dd) c_dd, .slice a_de (List.length de) c_de, .slice a_df (List.length df) c_df, .slice a_dg (List.length dg) c_dg, uv16 dh] 39] → G 25 #[true, true, true, false, true, true, true, true, false, false, false, false, false, false, false, false, false, false, false, false, false, false, false, false, false, false, false, false, false, false, false, false] ac wo := by
   intro ac843 wo844 pa388 pc389 En845 Hv846
   refine h_from hG ?_
   refine q_t 3 ?_
   refine op_str (d := some 13) (src := 23) (dst := 9) (e := 5) (ao := pa388) (cap := pc389) (p := List.length (nmP da)) (bs := nmP da) En845 (by kernel_rfl) rfl (by kernel_rfl) (by kernel_rfl) (by kernel_rfl) (Hv846.heap.reads (k := 0) rfl) (bys_vnz Hv846.heap (k := 0) rfl) ?_
   intro ac847 En848
   refine ⟨fun _ => Hv846.pk [1], ?_⟩
   refine q_s [8,9,10] [(8, g_v (show (.bool (ByteArray.toList (bstr (nmP da)) == ByteArray.toList (bstr (dnmP da))) : Value) = .bool true by rw [Go.Dbr.bstr_eq (nmP da) (dnmP da), show ((nmP da) == (dnmP da)) = true from (by rw [name_eq]; exact beq_self_eq_true _)] <;> rfl))] 21 En848 (Hv846.pk [1]) fun ac849 En850 => ?_
   refine q_l 0 11 En850 (Hv846.pk [1]) fun ac851 En852 => ?_
   refine q_s [14] [] 19 En852 (Hv846.pk [1]) fun ac853 En854 => ?_
   refine q_l 0 15 En854 (Hv846.pk [1]) fun ac855 En856 => ?_
   refine q_t 12 ?_
   refine c_0 En856 Hv846 (plist_go _ a_db c_db db (i_db.go Hv846 [] (by kernel_rfl) (fun _ h => h)) (by assumption)) ?_
   rintro _ wo860 ⟨pa857, pc858, rfl, he861⟩
   refine ⟨_, _, _, rfl, he861, rfl, fun ac863 En864 Hv865 => ?_⟩
   refine ⟨fun _ => Hv865.pk [2], ?_⟩
   refine h_ways [13, 16] (by kernel_rfl) rfl ?_
   refine ⟨?_, ?_, trivial⟩
   ·
    rintro _ rfl
    refine op_str (d := some 23) (src := 23) (dst := 9) (e := 5) (ao := pa857) (cap := pc858) (p := List.length (putP u16F 2 2 (List.map (fun y : RU16 => y) db))) (bs := putP u16F 2 2 (List.map (fun y : RU16 => y) db)) En864 (by kernel_rfl) rfl (by kernel_rfl) (by kernel_rfl) (by kernel_rfl) (Hv865.heap.reads (k := 0) rfl) (bys_vnz Hv865.heap (k := 0) rfl) ?_
    intro ac866 En867
    refine ⟨fun _ => Hv865.pk [2], ?_⟩
    exact h_to hG (by kernel_rfl) (nd754 _ _ (En867.sb) (Hv865.pk [2]))
   ·
    rintro _ rfl
    refine c_0 En864 Hv865 (dputlist_go _ a_db c_db db (i_db.go Hv865 [] (by kernel_rfl) (fun _ h => h)) (by assumption)) ?_
    rintro _ wo871 ⟨pa868, pc869, rfl, he872⟩
    refine ⟨_, _, _, rfl, he872, rfl, fun ac874 En875 Hv876 => ?_⟩
    refine ⟨fun _ => Hv876.pk [3], ?_⟩
    exact h_to hG (by kernel_rfl) (nd798 _ _ pa857 pc858 pa868 pc869 (En875.sb) (Hv876.pk [0, 1, 3]))
  have nd877 : ∀ (ac : Act) (wo : World), Env ac 172 [(1, pt bk1), (2, .bool false), (3, .bool true), (13, .string (bstr (nmP da))), (15, .string (bstr da))] → Ev w [] wo [.box bk1 [.string (bstr da), .slice a_db (List.length db) c_db, .slice a_dc (List.length dc) c_dc, .slice a_dd (List.length dd) c_dd, .slice a_de (List.length de) c_de, .slice a_df (List.length df) c_df, .slice a_dg (List.length dg) c_dg, uv16 dh] 39] → G 26 #[true, true, true, true, true, true, false, false, false, false, false, false, false, false, false, false, false, false, false, false, false, false, false, false, false, false, false, false, false, false, false, false] ac wo := by
   intro ac878 wo879 En880 Hv881
   refine h_from hG ?_
   refine q_t 6 ?_
   refine c_0 En880 Hv881 (dpname_go _ da (by first | assumption | omega)) ?_
   rintro _ wo885 ⟨pa882, pc883, rfl, he886⟩
   refine ⟨_, _, _, rfl, he886, rfl, fun ac888 En889 Hv890 => ?_⟩
   refine ⟨fun _ => Hv890.pk [1], ?_⟩
   refine q_t 7 ?_
   refine op_str (d := some 17) (src := 23) (dst := 9) (e := 5) (ao := pa882) (cap := pc883) (p := List.length (dnmP da)) (bs := dnmP da) En889 (by kernel_rfl) rfl (by kernel_rfl) (by kernel_rfl) (by kernel_rfl) (Hv890.heap.reads (k := 0) rfl) (bys_vnz Hv890.heap (k := 0) rfl) ?_
   intro ac891 En892
   refine ⟨fun _ => Hv890.pk [1], ?_⟩
   refine q_s [8,9,10] [(8, g_v (show (.bool (ByteArray.toList (bstr (nmP da)) == ByteArray.toList (bstr (dnmP da))) : Value) = .bool true by rw [Go.Dbr.bstr_eq (nmP da) (dnmP da), show ((nmP da) == (dnmP da)) = true from (by rw [name_eq]; exact beq_self_eq_true _)] <;> rfl))] 21 En892 (Hv890.pk [1]) fun ac893 En894 => ?_
   refine q_l 0 11 En894 (Hv890.pk [1]) fun ac895 En896 => ?_
   refine q_s [14] [] 19 En896 (Hv890.pk [1]) fun ac897 En898 => ?_
   refine q_l 0 15 En898 (Hv890.pk [1]) fun ac899 En900 => ?_
   refine q_t 12 ?_
   refine c_0 En900 Hv890 (plist_go _ a_db c_db db (i_db.go Hv890 [] (by kernel_rfl) (fun _ h => h)) (by assumption)) ?_
   rintro _ wo904 ⟨pa901, pc902, rfl, he905⟩
   refine ⟨_, _, _, rfl, he905, rfl, fun ac907 En908 Hv909 => ?_⟩
   refine ⟨fun _ => Hv909.pk [2], ?_⟩
   refine h_ways [13, 16] (by kernel_rfl) rfl ?_
   refine ⟨?_, ?_, trivial⟩
   ·
    rintro _ rfl
    refine op_str (d := some 23) (src := 23) (dst := 9) (e := 5) (ao := pa901) (cap := pc902) (p := List.length (putP u16F 2 2 (List.map (fun y : RU16 => y) db))) (bs := putP u16F 2 2 (List.map (fun y : RU16 => y) db)) En908 (by kernel_rfl) rfl (by kernel_rfl) (by kernel_rfl) (by kernel_rfl) (Hv909.heap.reads (k := 0) rfl) (bys_vnz Hv909.heap (k := 0) rfl) ?_
    intro ac910 En911
    refine ⟨fun _ => Hv909.pk [2], ?_⟩
    exact h_to hG (by kernel_rfl) (nd754 _ _ (En911.sb) (Hv909.pk [2]))
   ·
    rintro _ rfl
    refine c_0 En908 Hv909 (dputlist_go _ a_db c_db db (i_db.go Hv909 [] (by kernel_rfl) (fun _ h => h)) (by assumption)) ?_
    rintro _ wo915 ⟨pa912, pc913, rfl, he916⟩
    refine ⟨_, _, _, rfl, he916, rfl, fun ac918 En919 Hv920 => ?_⟩
    refine ⟨fun _ => Hv920.pk [3], ?_⟩
    exact h_to hG (by kernel_rfl) (nd798 _ _ pa901 pc902 pa912 pc913 (En919.sb) (Hv920.pk [0, 1, 3]))
  have nd921 : ∀ (ac : Act) (wo : World) (pa388 : _) (pc389 : _) (pa566 : _) (pc567 : _), Env ac 172 [(1, pt bk1), (2, .bool false), (3, .bool true), (12, .slice pa388 (List.length (nmP da)) pc389), (16, .slice pa566 (List.length (dnmP da)) pc567)] → Ev w [] wo [.vec pa566 pc567 1 (bys (dnmP da)) 5, .vec pa388 pc389 1 (bys (nmP da)) 5, .box bk1 [.string (bstr da), .slice a_db (List.length db) c_db, .slice a_dc (List.length dc) c_dc, .slice a_dd (List.length dd) c_dd, .slice a_de (List.length de) c_de, .slice a_df (List.length df) c_df, .slice a_dg (List.length dg) c_dg, uv16 dh] 39] → G 26 #[true, true, true, false, true, true, true, false, false, false, false, false, false, false, false, false, false, false, false, false, false, false, false, false, false, false, false, false, false, false, false, false] ac wo := by
   intro ac922 wo923 pa388 pc389 pa566 pc567 En924 Hv925
   refine h_from hG ?_
   refine h_ways [3, 7] (by kernel_rfl) rfl ?_
   refine ⟨?_, ?_, trivial⟩
   ·
    rintro _ rfl
    refine op_str (d := some 13) (src := 23) (dst := 9) (e := 5) (ao := pa388) (cap := pc389) (p := List.length (nmP da)) (bs := nmP da) En924 (by kernel_rfl) rfl (by kernel_rfl) (by kernel_rfl) (by kernel_rfl) (Hv925.heap.reads (k := 1) rfl) (bys_vnz Hv925.heap (k := 1) rfl) ?_
    intro ac926 En927
    refine ⟨fun _ => Hv925.pk [2], ?_⟩
    exact h_to hG (by kernel_rfl) (nd807 _ _ pa566 pc567 (En927.sb) (Hv925.pk [0, 2]))
   ·
    rintro _ rfl
    refine op_str (d := some 17) (src := 23) (dst := 9) (e := 5) (ao := pa566) (cap := pc567) (p := List.length (dnmP da)) (bs := dnmP da) En924 (by kernel_rfl) rfl (by kernel_rfl) (by kernel_rfl) (by kernel_rfl) (Hv925.heap.reads (k := 0) rfl) (bys_vnz Hv925.heap (k := 0) rfl) ?_
    intro ac928 En929
    refine ⟨fun _ => Hv925.pk [2], ?_⟩
    exact h_to hG (by kernel_rfl) (nd842 _ _ pa388 pc389 (En929.sb) (Hv925.pk [1, 2]))
  refine h_from hG ?_
  refine q_s [0] [] 31 En16 (wo17.pk [0]) fun ac930 En931 => ?_
  refine q_l 0 1 En931 (wo17.pk [0]) fun ac932 En933 => ?_
  refine q_s [4] [] 29 En933 (wo17.pk [0]) fun ac934 En935 => ?_
  refine q_l 0 5 En935 (wo17.pk [0]) fun ac936 En937 => ?_
  refine q_t 2 ?_
  refine c_0 En937 wo17 (putname_go _ da (by first | assumption | decide | omega)) ?_
  rintro _ wo941 ⟨pa938, pc939, rfl, he942⟩
  refine ⟨_, _, _, rfl, he942, rfl, fun ac944 En945 Hv946 => ?_⟩
  refine ⟨fun _ => Hv946.pk [1], ?_⟩
  refine h_ways [3, 6] (by kernel_rfl) rfl ?_
  refine ⟨?_, ?_, trivial⟩
  ·
   rintro _ rfl
   refine op_str (d := some 13) (src := 23) (dst := 9) (e := 5) (ao := pa938) (cap := pc939) (p := List.length (nmP da)) (bs := nmP da) En945 (by kernel_rfl) rfl (by kernel_rfl) (by kernel_rfl) (by kernel_rfl) (Hv946.heap.reads (k := 0) rfl) (bys_vnz Hv946.heap (k := 0) rfl) ?_
   intro ac947 En948
   refine ⟨fun _ => Hv946.pk [1], ?_⟩
   exact h_to hG (by kernel_rfl) (nd877 _ _ (En948.sb) (Hv946.pk [1]))
  ·
   rintro _ rfl
   refine c_0 En945 Hv946 (dpname_go _ da (by first | assumption | omega)) ?_
   rintro _ wo952 ⟨pa949, pc950, rfl, he953⟩
   refine ⟨_, _, _, rfl, he953, rfl, fun ac955 En956 Hv957 => ?_⟩
   refine ⟨fun _ => Hv957.pk [2], ?_⟩
   exact h_to hG (by kernel_rfl) (nd921 _ _ pa938 pc939 pa949 pc950 (En956.sb) (Hv957.pk [0, 1, 2]))
 rintro ac958 wo959 ⟨En960, Hv961⟩
 refine then_normal ?_
 refine wp_seq ?_
 refine r_c (fun ac wo => Env ac 172 [(1, pt bk1), (2, .bool false), (3, .bool true), (4, .bool true)] ∧ Ev w [] wo [.box bk1 [.string (bstr da), .slice a_db (List.length db) c_db, .slice a_dc (List.length dc) c_dc, .slice a_dd (List.length dd) c_dd, .slice a_de (List.length de) c_de, .slice a_df (List.length df) c_df, .slice a_dg (List.length dg) c_dg, uv16 dh] 39]) ?_ ?_
 ·
  refine h_s (fun wv => Ev w [] wv [.box bk1 [.string (bstr da), .slice a_db (List.length db) c_db, .slice a_dc (List.length dc) c_dc, .slice a_dd (List.length dd) c_dd, .slice a_de (List.length de) c_de, .slice a_df (List.length df) c_df, .slice a_dg (List.length dg) c_dg, uv16 dh] 39]) [] 35 ?_
  have wo962 := Hv961.trans (Ev.drew Hv961.heap)
  refine h_name fun G hG => ?_
  have nd1584 : ∀ (ac : Act) (wo : World) (pa1417 : _) (pc1418 : _), Env ac 172 [(1, pt bk1), (2, .bool false), (3, .bool true), (4, .bool true), (64, .bool true), (68, .string (bstr (putP shF 2 0 (List.map (fun y : RSha => (y.1, y.2.1.l)) de)))), (71, .slice pa1417 (List.length (dputP dshF 2 0 (List.map (fun y : RSha => (y.1, y.2.1.l)) de))) pc1418)] → Ev w [] wo [.vec pa1417 pc1418 1 (bys (dputP dshF 2 0 (List.map (fun y : RSha => (y.1, y.2.1.l)) de))) 5, .box bk1 [.string (bstr da), .slice a_db (List.length db) c_db, .slice a_dc (List.length dc) c_dc, .slice a_dd (List.length dd) c_dd, .slice a_de (List.length de) c_de, .slice a_df (List.length df) c_df, .slice a_dg (List.length dg) c_dg, uv16 dh] 39] → G 4 #[true, true, true, true, true, true, true, true, true, true, true, true, true, true, true, true, true, true, true, true, true, true, true, true, true, true, true, true, true, true, true, false, false, false, false] ac wo := by
   intro ac1585 wo1586 pa1417 pc1418 En1587 Hv1588
   refine h_from hG ?_
   refine q_t 31 ?_
   refine op_str (d := some 72) (src := 23) (dst := 9) (e := 5) (ao := pa1417) (cap := pc1418) (p := List.length (dputP dshF 2 0 (List.map (fun y : RSha => (y.1, y.2.1.l)) de))) (bs := dputP dshF 2 0 (List.map (fun y : RSha => (y.1, y.2.1.l)) de)) En1587 (by kernel_rfl) rfl (by kernel_rfl) (by kernel_rfl) (by kernel_rfl) (Hv1588.heap.reads (k := 0) rfl) (bys_vnz Hv1588.heap (k := 0) rfl) ?_
   intro ac1589 En1590
   refine ⟨fun _ => Hv1588.pk [1], ?_⟩
   refine q_s [32,33,34] [(32, g_v (show (.bool (ByteArray.toList (bstr (putP shF 2 0 (List.map (fun y : RSha => (y.1, y.2.1.l)) de))) == ByteArray.toList (bstr (dputP dshF 2 0 (List.map (fun y : RSha => (y.1, y.2.1.l)) de)))) : Value) = .bool true by rw [Go.Dbr.bstr_eq (putP shF 2 0 (List.map (fun y : RSha => (y.1, y.2.1.l)) de)) (dputP dshF 2 0 (List.map (fun y : RSha => (y.1, y.2.1.l)) de)), show ((putP shF 2 0 (List.map (fun y : RSha => (y.1, y.2.1.l)) de)) == (dputP dshF 2 0 (List.map (fun y : RSha => (y.1, y.2.1.l)) de))) = true from (by rw [put_eq sh_like]; exact beq_self_eq_true _)] <;> rfl))] 0 En1590 (Hv1588.pk [1]) fun ac1591 En1592 => ?_
   exact h_e ⟨En1592.sb, Hv1588.pk [1]⟩
  have nd1593 : ∀ (ac : Act) (wo : World) (pa1393 : _) (pc1394 : _), Env ac 172 [(1, pt bk1), (2, .bool false), (3, .bool true), (4, .bool true), (64, .bool true), (67, .slice pa1393 (List.length (putP shF 2 0 (List.map (fun y : RSha => (y.1, y.2.1.l)) de))) pc1394), (72, .string (bstr (dputP dshF 2 0 (List.map (fun y : RSha => (y.1, y.2.1.l)) de))))] → Ev w [] wo [.vec pa1393 pc1394 1 (bys (putP shF 2 0 (List.map (fun y : RSha => (y.1, y.2.1.l)) de))) 5, .box bk1 [.string (bstr da), .slice a_db (List.length db) c_db, .slice a_dc (List.length dc) c_dc, .slice a_dd (List.length dd) c_dd, .slice a_de (List.length de) c_de, .slice a_df (List.length df) c_df, .slice a_dg (List.length dg) c_dg, uv16 dh] 39] → G 4 #[true, true, true, true, true, true, true, true, true, true, true, true, true, true, true, true, true, true, true, true, true, true, true, true, true, true, true, false, true, true, true, true, false, false, false] ac wo := by
   intro ac1594 wo1595 pa1393 pc1394 En1596 Hv1597
   refine h_from hG ?_
   refine q_t 27 ?_
   refine op_str (d := some 68) (src := 23) (dst := 9) (e := 5) (ao := pa1393) (cap := pc1394) (p := List.length (putP shF 2 0 (List.map (fun y : RSha => (y.1, y.2.1.l)) de))) (bs := putP shF 2 0 (List.map (fun y : RSha => (y.1, y.2.1.l)) de)) En1596 (by kernel_rfl) rfl (by kernel_rfl) (by kernel_rfl) (by kernel_rfl) (Hv1597.heap.reads (k := 0) rfl) (bys_vnz Hv1597.heap (k := 0) rfl) ?_
   intro ac1598 En1599
   refine ⟨fun _ => Hv1597.pk [1], ?_⟩
   refine q_s [32,33,34] [(32, g_v (show (.bool (ByteArray.toList (bstr (putP shF 2 0 (List.map (fun y : RSha => (y.1, y.2.1.l)) de))) == ByteArray.toList (bstr (dputP dshF 2 0 (List.map (fun y : RSha => (y.1, y.2.1.l)) de)))) : Value) = .bool true by rw [Go.Dbr.bstr_eq (putP shF 2 0 (List.map (fun y : RSha => (y.1, y.2.1.l)) de)) (dputP dshF 2 0 (List.map (fun y : RSha => (y.1, y.2.1.l)) de)), show ((putP shF 2 0 (List.map (fun y : RSha => (y.1, y.2.1.l)) de)) == (dputP dshF 2 0 (List.map (fun y : RSha => (y.1, y.2.1.l)) de))) = true from (by rw [put_eq sh_like]; exact beq_self_eq_true _)] <;> rfl))] 0 En1599 (Hv1597.pk [1]) fun ac1600 En1601 => ?_
   exact h_e ⟨En1601.sb, Hv1597.pk [1]⟩
  have nd1602 : ∀ (ac : Act) (wo : World), Env ac 172 [(1, pt bk1), (2, .bool false), (3, .bool true), (4, .bool true), (64, .bool true), (68, .string (bstr (putP shF 2 0 (List.map (fun y : RSha => (y.1, y.2.1.l)) de)))), (70, .slice a_de (List.length de) c_de)] → Ev w [] wo [.box bk1 [.string (bstr da), .slice a_db (List.length db) c_db, .slice a_dc (List.length dc) c_dc, .slice a_dd (List.length dd) c_dd, .slice a_de (List.length de) c_de, .slice a_df (List.length df) c_df, .slice a_dg (List.length dg) c_dg, uv16 dh] 39] → G 5 #[true, true, true, true, true, true, true, true, true, true, true, true, true, true, true, true, true, true, true, true, true, true, true, true, true, true, true, true, true, true, false, false, false, false, false] ac wo := by
   intro ac1603 wo1604 En1605 Hv1606
   refine h_from hG ?_
   refine q_t 30 ?_
   refine c_0 En1605 Hv1606 (dpshares_go _ a_de c_de de (i_de.go Hv1606 [] (by kernel_rfl) (fun _ h => ⟨h.1, (InB.ev h.2.1 Hv1606).pick [] (by kernel_rfl), h.2.2⟩)) (by assumption)) ?_
   rintro _ wo1610 ⟨pa1607, pc1608, rfl, he1611⟩
   refine ⟨_, _, _, rfl, he1611, rfl, fun ac1613 En1614 Hv1615 => ?_⟩
   refine ⟨fun _ => Hv1615.pk [1], ?_⟩
   refine q_t 31 ?_
   refine op_str (d := some 72) (src := 23) (dst := 9) (e := 5) (ao := pa1607) (cap := pc1608) (p := List.length (dputP dshF 2 0 (List.map (fun y : RSha => (y.1, y.2.1.l)) de))) (bs := dputP dshF 2 0 (List.map (fun y : RSha => (y.1, y.2.1.l)) de)) En1614 (by kernel_rfl) rfl (by kernel_rfl) (by kernel_rfl) (by kernel_rfl) (Hv1615.heap.reads (k := 0) rfl) (bys_vnz Hv1615.heap (k := 0) rfl) ?_
   intro ac1616 En1617
   refine ⟨fun _ => Hv1615.pk [1], ?_⟩
   refine q_s [32,33,34] [(32, g_v (show (.bool (ByteArray.toList (bstr (putP shF 2 0 (List.map (fun y : RSha => (y.1, y.2.1.l)) de))) == ByteArray.toList (bstr (dputP dshF 2 0 (List.map (fun y : RSha => (y.1, y.2.1.l)) de)))) : Value) = .bool true by rw [Go.Dbr.bstr_eq (putP shF 2 0 (List.map (fun y : RSha => (y.1, y.2.1.l)) de)) (dputP dshF 2 0 (List.map (fun y : RSha => (y.1, y.2.1.l)) de)), show ((putP shF 2 0 (List.map (fun y : RSha => (y.1, y.2.1.l)) de)) == (dputP dshF 2 0 (List.map (fun y : RSha => (y.1, y.2.1.l)) de))) = true from (by rw [put_eq sh_like]; exact beq_self_eq_true _)] <;> rfl))] 0 En1617 (Hv1615.pk [1]) fun ac1618 En1619 => ?_
   exact h_e ⟨En1619.sb, Hv1615.pk [1]⟩
  have nd1620 : ∀ (ac : Act) (wo : World) (pa1393 : _) (pc1394 : _) (pa1417 : _) (pc1418 : _), Env ac 172 [(1, pt bk1), (2, .bool false), (3, .bool true), (4, .bool true), (64, .bool true), (67, .slice pa1393 (List.length (putP shF 2 0 (List.map (fun y : RSha => (y.1, y.2.1.l)) de))) pc1394), (71, .slice pa1417 (List.length (dputP dshF 2 0 (List.map (fun y : RSha => (y.1, y.2.1.l)) de))) pc1418)] → Ev w [] wo [.vec pa1417 pc1418 1 (bys (dputP dshF 2 0 (List.map (fun y : RSha => (y.1, y.2.1.l)) de))) 5, .vec pa1393 pc1394 1 (bys (putP shF 2 0 (List.map (fun y : RSha => (y.1, y.2.1.l)) de))) 5, .box bk1 [.string (bstr da), .slice a_db (List.length db) c_db, .slice a_dc (List.length dc) c_dc, .slice a_dd (List.length dd) c_dd, .slice a_de (List.length de) c_de, .slice a_df (List.length df) c_df, .slice a_dg (List.length dg) c_dg, uv16 dh] 39] → G 5 #[true, true, true, true, true, true, true, true, true, true, true, true, true, true, true, true, true, true, true, true, true, true, true, true, true, true, true, false, true, true, true, false, false, false, false] ac wo := by
   intro ac1621 wo1622 pa1393 pc1394 pa1417 pc1418 En1623 Hv1624
   refine h_from hG ?_
   refine h_ways [27, 31] (by kernel_rfl) rfl ?_
   refine ⟨?_, ?_, trivial⟩
   ·
    rintro _ rfl
    refine op_str (d := some 68) (src := 23) (dst := 9) (e := 5) (ao := pa1393) (cap := pc1394) (p := List.length (putP shF 2 0 (List.map (fun y : RSha => (y.1, y.2.1.l)) de))) (bs := putP shF 2 0 (List.map (fun y : RSha => (y.1, y.2.1.l)) de)) En1623 (by kernel_rfl) rfl (by kernel_rfl) (by kernel_rfl) (by kernel_rfl) (Hv1624.heap.reads (k := 1) rfl) (bys_vnz Hv1624.heap (k := 1) rfl) ?_
    intro ac1625 En1626
    refine ⟨fun _ => Hv1624.pk [2], ?_⟩
    exact h_to hG (by kernel_rfl) (nd1584 _ _ pa1417 pc1418 (En1626.sb) (Hv1624.pk [0, 2]))
   ·
    rintro _ rfl
    refine op_str (d := some 72) (src := 23) (dst := 9) (e := 5) (ao := pa1417) (cap := pc1418) (p := List.length (dputP dshF 2 0 (List.map (fun y : RSha => (y.1, y.2.1.l)) de))) (bs := dputP dshF 2 0 (List.map (fun y : RSha => (y.1, y.2.1.l)) de)) En1623 (by kernel_rfl) rfl (by kernel_rfl) (by kernel_rfl) (by kernel_rfl) (Hv1624.heap.reads (k := 0) rfl) (bys_vnz Hv1624.heap (k := 0) rfl) ?_
    intro ac1627 En1628
    refine ⟨fun _ => Hv1624.pk [2], ?_⟩
    exact h_to hG (by kernel_rfl) (nd1593 _ _ pa1393 pc1394 (En1628.sb) (Hv1624.pk [1, 2]))
  have nd1629 : ∀ (ac : Act) (wo : World) (pa1438 : _) (pc1439 : _), Env ac 172 [(1, pt bk1), (2, .bool false), (3, .bool true), (4, .bool true), (53, .bool true), (57, .string (bstr (bytP 1 255 [] dd))), (60, .slice pa1438 (List.length (dbytP 1 255 [] dd)) pc1439)] → Ev w [] wo [.vec pa1438 pc1439 1 (bys (dbytP 1 255 [] dd)) 5, .box bk1 [.string (bstr da), .slice a_db (List.length db) c_db, .slice a_dc (List.length dc) c_dc, .slice a_dd (List.length dd) c_dd, .slice a_de (List.length de) c_de, .slice a_df (List.length df) c_df, .slice a_dg (List.length dg) c_dg, uv16 dh] 39] → G 15 #[true, true, true, true, true, true, true, true, true, true, true, true, true, true, true, true, true, true, true, true, false, false, false, false, false, false, false, false, false, false, false, false, false, false, false] ac wo := by
   intro ac1630 wo1631 pa1438 pc1439 En1632 Hv1633
   refine h_from hG ?_
   refine q_t 20 ?_
   refine op_str (d := some 61) (src := 23) (dst := 9) (e := 5) (ao := pa1438) (cap := pc1439) (p := List.length (dbytP 1 255 [] dd)) (bs := dbytP 1 255 [] dd) En1632 (by kernel_rfl) rfl (by kernel_rfl) (by kernel_rfl) (by kernel_rfl) (Hv1633.heap.reads (k := 0) rfl) (bys_vnz Hv1633.heap (k := 0) rfl) ?_
   intro ac1634 En1635
   refine ⟨fun _ => Hv1633.pk [1], ?_⟩
   refine q_s [21,22,23,24] [(21, g_v (show (.bool (ByteArray.toList (bstr (bytP 1 255 [] dd)) == ByteArray.toList (bstr (dbytP 1 255 [] dd))) : Value) = .bool true by rw [Go.Dbr.bstr_eq (bytP 1 255 [] dd) (dbytP 1 255 [] dd), show ((bytP 1 255 [] dd) == (dbytP 1 255 [] dd)) = true from (by rw [byt_eq]; exact beq_self_eq_true _)] <;> rfl))] 10 En1635 (Hv1633.pk [1]) fun ac1636 En1637 => ?_
   refine q_l 0 25 En1637 (Hv1633.pk [1]) fun ac1638 En1639 => ?_
   refine q_s [28] [] 8 En1639 (Hv1633.pk [1]) fun ac1640 En1641 => ?_
   refine q_l 0 29 En1641 (Hv1633.pk [1]) fun ac1642 En1643 => ?_
   refine q_t 26 ?_
   refine c_0 En1643 Hv1633 (pshares_go _ a_de c_de de (i_de.go Hv1633 [] (by kernel_rfl) (fun _ h => ⟨h.1, (InB.ev h.2.1 Hv1633).pick [] (by kernel_rfl), h.2.2⟩)) (by assumption)) ?_
   rintro _ wo1647 ⟨pa1644, pc1645, rfl, he1648⟩
   refine ⟨_, _, _, rfl, he1648, rfl, fun ac1650 En1651 Hv1652 => ?_⟩
   refine ⟨fun _ => Hv1652.pk [2], ?_⟩
   refine h_ways [27, 30] (by kernel_rfl) rfl ?_
   refine ⟨?_, ?_, trivial⟩
   ·
    rintro _ rfl
    refine op_str (d := some 68) (src := 23) (dst := 9) (e := 5) (ao := pa1644) (cap := pc1645) (p := List.length (putP shF 2 0 (List.map (fun y : RSha => (y.1, y.2.1.l)) de))) (bs := putP shF 2 0 (List.map (fun y : RSha => (y.1, y.2.1.l)) de)) En1651 (by kernel_rfl) rfl (by kernel_rfl) (by kernel_rfl) (by kernel_rfl) (Hv1652.heap.reads (k := 0) rfl) (bys_vnz Hv1652.heap (k := 0) rfl) ?_
    intro ac1653 En1654
    refine ⟨fun _ => Hv1652.pk [2], ?_⟩
    exact h_to hG (by kernel_rfl) (nd1602 _ _ (En1654.sb) (Hv1652.pk [2]))
   ·
    rintro _ rfl
    refine c_0 En1651 Hv1652 (dpshares_go _ a_de c_de de (i_de.go Hv1652 [] (by kernel_rfl) (fun _ h => ⟨h.1, (InB.ev h.2.1 Hv1652).pick [] (by kernel_rfl), h.2.2⟩)) (by assumption)) ?_
    rintro _ wo1658 ⟨pa1655, pc1656, rfl, he1659⟩
    refine ⟨_, _, _, rfl, he1659, rfl, fun ac1661 En1662 Hv1663 => ?_⟩
    refine ⟨fun _ => Hv1663.pk [3], ?_⟩
    exact h_to hG (by kernel_rfl) (nd1620 _ _ pa1644 pc1645 pa1655 pc1656 (En1662.sb) (Hv1663.pk [0, 1, 3]))
  have nd1664 : ∀ (ac : Act) (wo : World) (pa1363 : _) (pc1364 : _), Env ac 172 [(1, pt bk1), (2, .bool false), (3, .bool true), (4, .bool true), (53, .bool true), (56, .slice pa1363 (List.length (bytP 1 255 [] dd)) pc1364), (61, .string (bstr (dbytP 1 255 [] dd)))] → Ev w [] wo [.vec pa1363 pc1364 1 (bys (bytP 1 255 [] dd)) 5, .box bk1 [.string (bstr da), .slice a_db (List.length db) c_db, .slice a_dc (List.length dc) c_dc, .slice a_dd (List.length dd) c_dd, .slice a_de (List.length de) c_de, .slice a_df (List.length df) c_df, .slice a_dg (List.length dg) c_dg, uv16 dh] 39] → G 15 #[true, true, true, true, true, true, true, true, true, true, true, true, true, true, true, true, false, true, true, true, true, false, false, false, false, false, false, false, false, false, false, false, false, false, false] ac wo := by
   intro ac1665 wo1666 pa1363 pc1364 En1667 Hv1668
   refine h_from hG ?_
   refine q_t 16 ?_
   refine op_str (d := some 57) (src := 23) (dst := 9) (e := 5) (ao := pa1363) (cap := pc1364) (p := List.length (bytP 1 255 [] dd)) (bs := bytP 1 255 [] dd) En1667 (by kernel_rfl) rfl (by kernel_rfl) (by kernel_rfl) (by kernel_rfl) (Hv1668.heap.reads (k := 0) rfl) (bys_vnz Hv1668.heap (k := 0) rfl) ?_
   intro ac1669 En1670
   refine ⟨fun _ => Hv1668.pk [1], ?_⟩
   refine q_s [21,22,23,24] [(21, g_v (show (.bool (ByteArray.toList (bstr (bytP 1 255 [] dd)) == ByteArray.toList (bstr (dbytP 1 255 [] dd))) : Value) = .bool true by rw [Go.Dbr.bstr_eq (bytP 1 255 [] dd) (dbytP 1 255 [] dd), show ((bytP 1 255 [] dd) == (dbytP 1 255 [] dd)) = true from (by rw [byt_eq]; exact beq_self_eq_true _)] <;> rfl))] 10 En1670 (Hv1668.pk [1]) fun ac1671 En1672 => ?_
   refine q_l 0 25 En1672 (Hv1668.pk [1]) fun ac1673 En1674 => ?_
   refine q_s [28] [] 8 En1674 (Hv1668.pk [1]) fun ac1675 En1676 => ?_
   refine q_l 0 29 En1676 (Hv1668.pk [1]) fun ac1677 En1678 => ?_
   refine q_t 26 ?_
   refine c_0 En1678 Hv1668 (pshares_go _ a_de c_de de (i_de.go Hv1668 [] (by kernel_rfl) (fun _ h => ⟨h.1, (InB.ev h.2.1 Hv1668).pick [] (by kernel_rfl), h.2.2⟩)) (by assumption)) ?_
   rintro _ wo1682 ⟨pa1679, pc1680, rfl, he1683⟩
   refine ⟨_, _, _, rfl, he1683, rfl, fun ac1685 En1686 Hv1687 => ?_⟩
   refine ⟨fun _ => Hv1687.pk [2], ?_⟩
   refine h_ways [27, 30] (by kernel_rfl) rfl ?_
   refine ⟨?_, ?_, trivial⟩
   ·
    rintro _ rfl
    refine op_str (d := some 68) (src := 23) (dst := 9) (e := 5) (ao := pa1679) (cap := pc1680) (p := List.length (putP shF 2 0 (List.map (fun y : RSha => (y.1, y.2.1.l)) de))) (bs := putP shF 2 0 (List.map (fun y : RSha => (y.1, y.2.1.l)) de)) En1686 (by kernel_rfl) rfl (by kernel_rfl) (by kernel_rfl) (by kernel_rfl) (Hv1687.heap.reads (k := 0) rfl) (bys_vnz Hv1687.heap (k := 0) rfl) ?_
    intro ac1688 En1689
    refine ⟨fun _ => Hv1687.pk [2], ?_⟩
    exact h_to hG (by kernel_rfl) (nd1602 _ _ (En1689.sb) (Hv1687.pk [2]))
   ·
    rintro _ rfl
    refine c_0 En1686 Hv1687 (dpshares_go _ a_de c_de de (i_de.go Hv1687 [] (by kernel_rfl) (fun _ h => ⟨h.1, (InB.ev h.2.1 Hv1687).pick [] (by kernel_rfl), h.2.2⟩)) (by assumption)) ?_
    rintro _ wo1693 ⟨pa1690, pc1691, rfl, he1694⟩
    refine ⟨_, _, _, rfl, he1694, rfl, fun ac1696 En1697 Hv1698 => ?_⟩
    refine ⟨fun _ => Hv1698.pk [3], ?_⟩
    exact h_to hG (by kernel_rfl) (nd1620 _ _ pa1679 pc1680 pa1690 pc1691 (En1697.sb) (Hv1698.pk [0, 1, 3]))
  have nd1699 : ∀ (ac : Act) (wo : World), Env ac 172 [(1, pt bk1), (2, .bool false), (3, .bool true), (4, .bool true), (53, .bool true), (57, .string (bstr (bytP 1 255 [] dd))), (59, .slice a_dd (List.length dd) c_dd)] → Ev w [] wo [.box bk1 [.string (bstr da), .slice a_db (List.length db) c_db, .slice a_dc (List.length dc) c_dc, .slice a_dd (List.length dd) c_dd, .slice a_de (List.length de) c_de, .slice a_df (List.length df) c_df, .slice a_dg (List.length dg) c_dg, uv16 dh] 39] → G 16 #[true, true, true, true, true, true, true, true, true, true, true, true, true, true, true, true, true, true, true, false, false, false, false, false, false, false, false, false, false, false, false, false, false, false, false] ac wo := by
   intro ac1700 wo1701 En1702 Hv1703
   refine h_from hG ?_
   refine q_t 19 ?_
   refine c_0 En1702 Hv1703 (dpmodes_go _ a_dd c_dd dd ((i_dd.ev Hv1703).pick [] (by kernel_rfl))) ?_
   rintro _ wo1707 ⟨pa1704, pc1705, rfl, he1708⟩
   refine ⟨_, _, _, rfl, he1708, rfl, fun ac1710 En1711 Hv1712 => ?_⟩
   refine ⟨fun _ => Hv1712.pk [1], ?_⟩
   refine q_t 20 ?_
   refine op_str (d := some 61) (src := 23) (dst := 9) (e := 5) (ao := pa1704) (cap := pc1705) (p := List.length (dbytP 1 255 [] dd)) (bs := dbytP 1 255 [] dd) En1711 (by kernel_rfl) rfl (by kernel_rfl) (by kernel_rfl) (by kernel_rfl) (Hv1712.heap.reads (k := 0) rfl) (bys_vnz Hv1712.heap (k := 0) rfl) ?_
   intro ac1713 En1714
   refine ⟨fun _ => Hv1712.pk [1], ?_⟩
   refine q_s [21,22,23,24] [(21, g_v (show (.bool (ByteArray.toList (bstr (bytP 1 255 [] dd)) == ByteArray.toList (bstr (dbytP 1 255 [] dd))) : Value) = .bool true by rw [Go.Dbr.bstr_eq (bytP 1 255 [] dd) (dbytP 1 255 [] dd), show ((bytP 1 255 [] dd) == (dbytP 1 255 [] dd)) = true from (by rw [byt_eq]; exact beq_self_eq_true _)] <;> rfl))] 10 En1714 (Hv1712.pk [1]) fun ac1715 En1716 => ?_
   refine q_l 0 25 En1716 (Hv1712.pk [1]) fun ac1717 En1718 => ?_
   refine q_s [28] [] 8 En1718 (Hv1712.pk [1]) fun ac1719 En1720 => ?_
   refine q_l 0 29 En1720 (Hv1712.pk [1]) fun ac1721 En1722 => ?_
   refine q_t 26 ?_
   refine c_0 En1722 Hv1712 (pshares_go _ a_de c_de de (i_de.go Hv1712 [] (by kernel_rfl) (fun _ h => ⟨h.1, (InB.ev h.2.1 Hv1712).pick [] (by kernel_rfl), h.2.2⟩)) (by assumption)) ?_
   rintro _ wo1726 ⟨pa1723, pc1724, rfl, he1727⟩
   refine ⟨_, _, _, rfl, he1727, rfl, fun ac1729 En1730 Hv1731 => ?_⟩
   refine ⟨fun _ => Hv1731.pk [2], ?_⟩
   refine h_ways [27, 30] (by kernel_rfl) rfl ?_
   refine ⟨?_, ?_, trivial⟩
   ·
    rintro _ rfl
    refine op_str (d := some 68) (src := 23) (dst := 9) (e := 5) (ao := pa1723) (cap := pc1724) (p := List.length (putP shF 2 0 (List.map (fun y : RSha => (y.1, y.2.1.l)) de))) (bs := putP shF 2 0 (List.map (fun y : RSha => (y.1, y.2.1.l)) de)) En1730 (by kernel_rfl) rfl (by kernel_rfl) (by kernel_rfl) (by kernel_rfl) (Hv1731.heap.reads (k := 0) rfl) (bys_vnz Hv1731.heap (k := 0) rfl) ?_
    intro ac1732 En1733
    refine ⟨fun _ => Hv1731.pk [2], ?_⟩
    exact h_to hG (by kernel_rfl) (nd1602 _ _ (En1733.sb) (Hv1731.pk [2]))
   ·
    rintro _ rfl
    refine c_0 En1730 Hv1731 (dpshares_go _ a_de c_de de (i_de.go Hv1731 [] (by kernel_rfl) (fun _ h => ⟨h.1, (InB.ev h.2.1 Hv1731).pick [] (by kernel_rfl), h.2.2⟩)) (by assumption)) ?_
    rintro _ wo1737 ⟨pa1734, pc1735, rfl, he1738⟩
    refine ⟨_, _, _, rfl, he1738, rfl, fun ac1740 En1741 Hv1742 => ?_⟩
    refine ⟨fun _ => Hv1742.pk [3], ?_⟩
    exact h_to hG (by kernel_rfl) (nd1620 _ _ pa1723 pc1724 pa1734 pc1735 (En1741.sb) (Hv1742.pk [0, 1, 3]))
  have nd1743 : ∀ (ac : Act) (wo : World) (pa1363 : _) (pc1364 : _) (pa1438 : _) (pc1439 : _), Env ac 172 [(1, pt bk1), (2, .bool false), (3, .bool true), (4, .bool true), (53, .bool true), (56, .slice pa1363 (List.length (bytP 1 255 [] dd)) pc1364), (60, .slice pa1438 (List.length (dbytP 1 255 [] dd)) pc1439)] → Ev w [] wo [.vec pa1438 pc1439 1 (bys (dbytP 1 255 [] dd)) 5, .vec pa1363 pc1364 1 (bys (bytP 1 255 [] dd)) 5, .box bk1 [.string (bstr da), .slice a_db (List.length db) c_db, .slice a_dc (List.length dc) c_dc, .slice a_dd (List.length dd) c_dd, .slice a_de (List.length de) c_de, .slice a_df (List.length df) c_df, .slice a_dg (List.length dg) c_dg, uv16 dh] 39] → G 16 #[true, true, true, true, true, true, true, true, true, true, true, true, true, true, true, true, false, true, true, true, false, false, false, false, false, false, false, false, false, false, false, false, false, false, false] ac wo := by
   intro ac1744 wo1745 pa1363 pc1364 pa1438 pc1439 En1746 Hv1747
   refine h_from hG ?_
   refine h_ways [16, 20] (by kernel_rfl) rfl ?_
   refine ⟨?_, ?_, trivial⟩
   ·
    rintro _ rfl
    refine op_str (d := some 57) (src := 23) (dst := 9) (e := 5) (ao := pa1363) (cap := pc1364) (p := List.length (bytP 1 255 [] dd)) (bs := bytP 1 255 [] dd) En1746 (by kernel_rfl) rfl (by kernel_rfl) (by kernel_rfl) (by kernel_rfl) (Hv1747.heap.reads (k := 1) rfl) (bys_vnz Hv1747.heap (k := 1) rfl) ?_
    intro ac1748 En1749
    refine ⟨fun _ => Hv1747.pk [2], ?_⟩
    exact h_to hG (by kernel_rfl) (nd1629 _ _ pa1438 pc1439 (En1749.sb) (Hv1747.pk [0, 2]))
   ·
    rintro _ rfl
    refine op_str (d := some 61) (src := 23) (dst := 9) (e := 5) (ao := pa1438) (cap := pc1439) (p := List.length (dbytP 1 255 [] dd)) (bs := dbytP 1 255 [] dd) En1746 (by kernel_rfl) rfl (by kernel_rfl) (by kernel_rfl) (by kernel_rfl) (Hv1747.heap.reads (k := 0) rfl) (bys_vnz Hv1747.heap (k := 0) rfl) ?_
    intro ac1750 En1751
    refine ⟨fun _ => Hv1747.pk [2], ?_⟩
    exact h_to hG (by kernel_rfl) (nd1664 _ _ pa1363 pc1364 (En1751.sb) (Hv1747.pk [1, 2]))
  have nd1752 : ∀ (ac : Act) (wo : World) (pa1511 : _) (pc1512 : _), Env ac 172 [(1, pt bk1), (2, .bool false), (3, .bool true), (4, .bool true), (42, .bool true), (46, .string (bstr (putP alF 2 1 (List.map (fun y : RStr => y) dc)))), (49, .slice pa1511 (List.length (dputP dalF 2 1 (List.map (fun y : RStr => y) dc))) pc1512)] → Ev w [] wo [.vec pa1511 pc1512 1 (bys (dputP dalF 2 1 (List.map (fun y : RStr => y) dc))) 5, .box bk1 [.string (bstr da), .slice a_db (List.length db) c_db, .slice a_dc (List.length dc) c_dc, .slice a_dd (List.length dd) c_dd, .slice a_de (List.length de) c_de, .slice a_df (List.length df) c_df, .slice a_dg (List.length dg) c_dg, uv16 dh] 39] → G 26 #[true, true, true, true, true, true, true, true, true, false, false, false, false, false, false, false, false, false, false, false, false, false, false, false, false, false, false, false, false, false, false, false, false, false, false] ac wo := by
   intro ac1753 wo1754 pa1511 pc1512 En1755 Hv1756
   refine h_from hG ?_
   refine q_t 9 ?_
   refine op_str (d := some 50) (src := 23) (dst := 9) (e := 5) (ao := pa1511) (cap := pc1512) (p := List.length (dputP dalF 2 1 (List.map (fun y : RStr => y) dc))) (bs := dputP dalF 2 1 (List.map (fun y : RStr => y) dc)) En1755 (by kernel_rfl) rfl (by kernel_rfl) (by kernel_rfl) (by kernel_rfl) (Hv1756.heap.reads (k := 0) rfl) (bys_vnz Hv1756.heap (k := 0) rfl) ?_
   intro ac1757 En1758
   refine ⟨fun _ => Hv1756.pk [1], ?_⟩
   refine q_s [10,11,12,13] [(10, g_v (show (.bool (ByteArray.toList (bstr (putP alF 2 1 (List.map (fun y : RStr => y) dc))) == ByteArray.toList (bstr (dputP dalF 2 1 (List.map (fun y : RStr => y) dc)))) : Value) = .bool true by rw [Go.Dbr.bstr_eq (putP alF 2 1 (List.map (fun y : RStr => y) dc)) (dputP dalF 2 1 (List.map (fun y : RStr => y) dc)), show ((putP alF 2 1 (List.map (fun y : RStr => y) dc)) == (dputP dalF 2 1 (List.map (fun y : RStr => y) dc))) = true from (by rw [put_eq al_like]; exact beq_self_eq_true _)] <;> rfl))] 21 En1758 (Hv1756.pk [1]) fun ac1759 En1760 => ?_
   refine q_l 0 14 En1760 (Hv1756.pk [1]) fun ac1761 En1762 => ?_
   refine q_s [17] [] 19 En1762 (Hv1756.pk [1]) fun ac1763 En1764 => ?_
   refine q_l 0 18 En1764 (Hv1756.pk [1]) fun ac1765 En1766 => ?_
   refine q_t 15 ?_
   refine c_0 En1766 Hv1756 (pmodes_go _ a_dd c_dd dd ((i_dd.ev Hv1756).pick [] (by kernel_rfl))) ?_
   rintro _ wo1770 ⟨pa1767, pc1768, rfl, he1771⟩
   refine ⟨_, _, _, rfl, he1771, rfl, fun ac1773 En1774 Hv1775 => ?_⟩
   refine ⟨fun _ => Hv1775.pk [2], ?_⟩
   refine h_ways [16, 19] (by kernel_rfl) rfl ?_
   refine ⟨?_, ?_, trivial⟩
   ·
    rintro _ rfl
    refine op_str (d := some 57) (src := 23) (dst := 9) (e := 5) (ao := pa1767) (cap := pc1768) (p := List.length (bytP 1 255 [] dd)) (bs := bytP 1 255 [] dd) En1774 (by kernel_rfl) rfl (by kernel_rfl) (by kernel_rfl) (by kernel_rfl) (Hv1775.heap.reads (k := 0) rfl) (bys_vnz Hv1775.heap (k := 0) rfl) ?_
    intro ac1776 En1777
    refine ⟨fun _ => Hv1775.pk [2], ?_⟩
    exact h_to hG (by kernel_rfl) (nd1699 _ _ (En1777.sb) (Hv1775.pk [2]))
   ·
    rintro _ rfl
    refine c_0 En1774 Hv1775 (dpmodes_go _ a_dd c_dd dd ((i_dd.ev Hv1775).pick [] (by kernel_rfl))) ?_
    rintro _ wo1781 ⟨pa1778, pc1779, rfl, he1782⟩
    refine ⟨_, _, _, rfl, he1782, rfl, fun ac1784 En1785 Hv1786 => ?_⟩
    refine ⟨fun _ => Hv1786.pk [3], ?_⟩
    exact h_to hG (by kernel_rfl) (nd1743 _ _ pa1767 pc1768 pa1778 pc1779 (En1785.sb) (Hv1786.pk [0, 1, 3]))
  have nd1787 : ∀ (ac : Act) (wo : World) (pa1333 : _) (pc1334 : _), Env ac 172 [(1, pt bk1), (2, .bool false), (3, .bool true), (4, .bool true), (42, .bool true), (45, .slice pa1333 (List.length (putP alF 2 1 (List.map (fun y : RStr => y) dc))) pc1334), (50, .string (bstr (dputP dalF 2 1 (List.map (fun y : RStr => y) dc))))] → Ev w [] wo [.vec pa1333 pc1334 1 (bys (putP alF 2 1 (List.map (fun y : RStr => y) dc))) 5, .box bk1 [.string (bstr da), .slice a_db (List.length db) c_db, .slice a_dc (List.length dc) c_dc, .slice a_dd (List.length dd) c_dd, .slice a_de (List.length de) c_de, .slice a_df (List.length df) c_df, .slice a_dg (List.length dg) c_dg, uv16 dh] 39] → G 26 #[true, true, true, true, true, false, true, true, true, true, false, false, false, false, false, false, false, false, false, false, false, false, false, false, false, false, false, false, false, false, false, false, false, false, false] ac wo := by
   intro ac1788 wo1789 pa1333 pc1334 En1790 Hv1791
   refine h_from hG ?_
   refine q_t 5 ?_
   refine op_str (d := some 46) (src := 23) (dst := 9) (e := 5) (ao := pa1333) (cap := pc1334) (p := List.length (putP alF 2 1 (List.map (fun y : RStr => y) dc))) (bs := putP alF 2 1 (List.map (fun y : RStr => y) dc)) En1790 (by kernel_rfl) rfl (by kernel_rfl) (by kernel_rfl) (by kernel_rfl) (Hv1791.heap.reads (k := 0) rfl) (bys_vnz Hv1791.heap (k := 0) rfl) ?_
   intro ac1792 En1793
   refine ⟨fun _ => Hv1791.pk [1], ?_⟩
   refine q_s [10,11,12,13] [(10, g_v (show (.bool (ByteArray.toList (bstr (putP alF 2 1 (List.map (fun y : RStr => y) dc))) == ByteArray.toList (bstr (dputP dalF 2 1 (List.map (fun y : RStr => y) dc)))) : Value) = .bool true by rw [Go.Dbr.bstr_eq (putP alF 2 1 (List.map (fun y : RStr => y) dc)) (dputP dalF 2 1 (List.map (fun y : RStr => y) dc)), show ((putP alF 2 1 (List.map (fun y : RStr => y) dc)) == (dputP dalF 2 1 (List.map (fun y : RStr => y) dc))) = true from (by rw [put_eq al_like]; exact beq_self_eq_true _)] <;> rfl))] 21 En1793 (Hv1791.pk [1]) fun ac1794 En1795 => ?_
   refine q_l 0 14 En1795 (Hv1791.pk [1]) fun ac1796 En1797 => ?_
   refine q_s [17] [] 19 En1797 (Hv1791.pk [1]) fun ac1798 En1799 => ?_
   refine q_l 0 18 En1799 (Hv1791.pk [1]) fun ac1800 En1801 => ?_
   refine q_t 15 ?_
   refine c_0 En1801 Hv1791 (pmodes_go _ a_dd c_dd dd ((i_dd.ev Hv1791).pick [] (by kernel_rfl))) ?_
   rintro _ wo1805 ⟨pa1802, pc1803, rfl, he1806⟩
   refine ⟨_, _, _, rfl, he1806, rfl, fun ac1808 En1809 Hv1810 => ?_⟩
   refine ⟨fun _ => Hv1810.pk [2], ?_⟩
   refine h_ways [16, 19] (by kernel_rfl) rfl ?_
   refine ⟨?_, ?_, trivial⟩
   ·
    rintro _ rfl
    refine op_str (d := some 57) (src := 23) (dst := 9) (e := 5) (ao := pa1802) (cap := pc1803) (p := List.length (bytP 1 255 [] dd)) (bs := bytP 1 255 [] dd) En1809 (by kernel_rfl) rfl (by kernel_rfl) (by kernel_rfl) (by kernel_rfl) (Hv1810.heap.reads (k := 0) rfl) (bys_vnz Hv1810.heap (k := 0) rfl) ?_
    intro ac1811 En1812
    refine ⟨fun _ => Hv1810.pk [2], ?_⟩
    exact h_to hG (by kernel_rfl) (nd1699 _ _ (En1812.sb) (Hv1810.pk [2]))
   ·
    rintro _ rfl
    refine c_0 En1809 Hv1810 (dpmodes_go _ a_dd c_dd dd ((i_dd.ev Hv1810).pick [] (by kernel_rfl))) ?_
    rintro _ wo1816 ⟨pa1813, pc1814, rfl, he1817⟩
    refine ⟨_, _, _, rfl, he1817, rfl, fun ac1819 En1820 Hv1821 => ?_⟩
    refine ⟨fun _ => Hv1821.pk [3], ?_⟩
    exact h_to hG (by kernel_rfl) (nd1743 _ _ pa1802 pc1803 pa1813 pc1814 (En1820.sb) (Hv1821.pk [0, 1, 3]))
  have nd1822 : ∀ (ac : Act) (wo : World), Env ac 172 [(1, pt bk1), (2, .bool false), (3, .bool true), (4, .bool true), (42, .bool true), (46, .string (bstr (putP alF 2 1 (List.map (fun y : RStr => y) dc)))), (48, .slice a_dc (List.length dc) c_dc)] → Ev w [] wo [.box bk1 [.string (bstr da), .slice a_db (List.length db) c_db, .slice a_dc (List.length dc) c_dc, .slice a_dd (List.length dd) c_dd, .slice a_de (List.length de) c_de, .slice a_df (List.length df) c_df, .slice a_dg (List.length dg) c_dg, uv16 dh] 39] → G 27 #[true, true, true, true, true, true, true, true, false, false, false, false, false, false, false, false, false, false, false, false, false, false, false, false, false, false, false, false, false, false, false, false, false, false, false] ac wo := by
   intro ac1823 wo1824 En1825 Hv1826
   refine h_from hG ?_
   refine q_t 8 ?_
   refine c_0 En1825 Hv1826 (dpalpn_go _ a_dc c_dc dc (i_dc.go Hv1826 [] (by kernel_rfl) (fun _ h => h)) (by assumption)) ?_
   rintro _ wo1830 ⟨pa1827, pc1828, rfl, he1831⟩
   refine ⟨_, _, _, rfl, he1831, rfl, fun ac1833 En1834 Hv1835 => ?_⟩
   refine ⟨fun _ => Hv1835.pk [1], ?_⟩
   refine q_t 9 ?_
   refine op_str (d := some 50) (src := 23) (dst := 9) (e := 5) (ao := pa1827) (cap := pc1828) (p := List.length (dputP dalF 2 1 (List.map (fun y : RStr => y) dc))) (bs := dputP dalF 2 1 (List.map (fun y : RStr => y) dc)) En1834 (by kernel_rfl) rfl (by kernel_rfl) (by kernel_rfl) (by kernel_rfl) (Hv1835.heap.reads (k := 0) rfl) (bys_vnz Hv1835.heap (k := 0) rfl) ?_
   intro ac1836 En1837
   refine ⟨fun _ => Hv1835.pk [1], ?_⟩
   refine q_s [10,11,12,13] [(10, g_v (show (.bool (ByteArray.toList (bstr (putP alF 2 1 (List.map (fun y : RStr => y) dc))) == ByteArray.toList (bstr (dputP dalF 2 1 (List.map (fun y : RStr => y) dc)))) : Value) = .bool true by rw [Go.Dbr.bstr_eq (putP alF 2 1 (List.map (fun y : RStr => y) dc)) (dputP dalF 2 1 (List.map (fun y : RStr => y) dc)), show ((putP alF 2 1 (List.map (fun y : RStr => y) dc)) == (dputP dalF 2 1 (List.map (fun y : RStr => y) dc))) = true from (by rw [put_eq al_like]; exact beq_self_eq_true _)] <;> rfl))] 21 En1837 (Hv1835.pk [1]) fun ac1838 En1839 => ?_
   refine q_l 0 14 En1839 (Hv1835.pk [1]) fun ac1840 En1841 => ?_
   refine q_s [17] [] 19 En1841 (Hv1835.pk [1]) fun ac1842 En1843 => ?_
   refine q_l 0 18 En1843 (Hv1835.pk [1]) fun ac1844 En1845 => ?_
   refine q_t 15 ?_
   refine c_0 En1845 Hv1835 (pmodes_go _ a_dd c_dd dd ((i_dd.ev Hv1835).pick [] (by kernel_rfl))) ?_
   rintro _ wo1849 ⟨pa1846, pc1847, rfl, he1850⟩
   refine ⟨_, _, _, rfl, he1850, rfl, fun ac1852 En1853 Hv1854 => ?_⟩
   refine ⟨fun _ => Hv1854.pk [2], ?_⟩
   refine h_ways [16, 19] (by kernel_rfl) rfl ?_
   refine ⟨?_, ?_, trivial⟩
   ·
    rintro _ rfl
    refine op_str (d := some 57) (src := 23) (dst := 9) (e := 5) (ao := pa1846) (cap := pc1847) (p := List.length (bytP 1 255 [] dd)) (bs := bytP 1 255 [] dd) En1853 (by kernel_rfl) rfl (by kernel_rfl) (by kernel_rfl) (by kernel_rfl) (Hv1854.heap.reads (k := 0) rfl) (bys_vnz Hv1854.heap (k := 0) rfl) ?_
    intro ac1855 En1856
    refine ⟨fun _ => Hv1854.pk [2], ?_⟩
    exact h_to hG (by kernel_rfl) (nd1699 _ _ (En1856.sb) (Hv1854.pk [2]))
   ·
    rintro _ rfl
    refine c_0 En1853 Hv1854 (dpmodes_go _ a_dd c_dd dd ((i_dd.ev Hv1854).pick [] (by kernel_rfl))) ?_
    rintro _ wo1860 ⟨pa1857, pc1858, rfl, he1861⟩
    refine ⟨_, _, _, rfl, he1861, rfl, fun ac1863 En1864 Hv1865 => ?_⟩
    refine ⟨fun _ => Hv1865.pk [3], ?_⟩
    exact h_to hG (by kernel_rfl) (nd1743 _ _ pa1846 pc1847 pa1857 pc1858 (En1864.sb) (Hv1865.pk [0, 1, 3]))
  have nd1866 : ∀ (ac : Act) (wo : World) (pa1333 : _) (pc1334 : _) (pa1511 : _) (pc1512 : _), Env ac 172 [(1, pt bk1), (2, .bool false), (3, .bool true), (4, .bool true), (42, .bool true), (45, .slice pa1333 (List.length (putP alF 2 1 (List.map (fun y : RStr => y) dc))) pc1334), (49, .slice pa1511 (List.length (dputP dalF 2 1 (List.map (fun y : RStr => y) dc))) pc1512)] → Ev w [] wo [.vec pa1511 pc1512 1 (bys (dputP dalF 2 1 (List.map (fun y : RStr => y) dc))) 5, .vec pa1333 pc1334 1 (bys (putP alF 2 1 (List.map (fun y : RStr => y) dc))) 5, .box bk1 [.string (bstr da), .slice a_db (List.length db) c_db, .slice a_dc (List.length dc) c_dc, .slice a_dd (List.length dd) c_dd, .slice a_de (List.length de) c_de, .slice a_df (List.length df) c_df, .slice a_dg (List.length dg) c_dg, uv16 dh] 39] → G 27 #[true, true, true, true, true, false, true, true, true, false, false, false, false, false, false, false, false, false, false, false, false, false, false, false, false, false, false, false, false, false, false, false, false, false, false] ac wo := by
   intro ac1867 wo1868 pa1333 pc1334 pa1511 pc1512 En1869 Hv1870
   refine h_from hG ?_
   refine h_ways [5, 9] (by kernel_rfl) rfl ?_
   refine ⟨?_, ?_, trivial⟩
   ·
    rintro _ rfl
    refine op_str (d := some 46) (src := 23) (dst := 9) (e := 5) (ao := pa1333) (cap := pc1334) (p := List.length (putP alF 2 1 (List.map (fun y : RStr => y) dc))) (bs := putP alF 2 1 (List.map (fun y : RStr => y) dc)) En1869 (by kernel_rfl) rfl (by kernel_rfl) (by kernel_rfl) (by kernel_rfl) (Hv1870.heap.reads (k := 1) rfl) (bys_vnz Hv1870.heap (k := 1) rfl) ?_
    intro ac1871 En1872
    refine ⟨fun _ => Hv1870.pk [2], ?_⟩
    exact h_to hG (by kernel_rfl) (nd1752 _ _ pa1511 pc1512 (En1872.sb) (Hv1870.pk [0, 2]))
   ·
    rintro _ rfl
    refine op_str (d := some 50) (src := 23) (dst := 9) (e := 5) (ao := pa1511) (cap := pc1512) (p := List.length (dputP dalF 2 1 (List.map (fun y : RStr => y) dc))) (bs := dputP dalF 2 1 (List.map (fun y : RStr => y) dc)) En1869 (by kernel_rfl) rfl (by kernel_rfl) (by kernel_rfl) (by kernel_rfl) (Hv1870.heap.reads (k := 0) rfl) (bys_vnz Hv1870.heap (k := 0) rfl) ?_
    intro ac1873 En1874
    refine ⟨fun _ => Hv1870.pk [2], ?_⟩
    exact h_to hG (by kernel_rfl) (nd1787 _ _ pa1333 pc1334 (En1874.sb) (Hv1870.pk [1, 2]))
  refine h_from hG ?_
  refine q_s [0,1,2] [] 32 En960 (wo962.pk [0]) fun ac1875 En1876 => ?_
  refine q_l 0 3 En1876 (wo962.pk [0]) fun ac1877 En1878 => ?_
  refine q_s [6] [] 30 En1878 (wo962.pk [0]) fun ac1879 En1880 => ?_
  refine q_l 0 7 En1880 (wo962.pk [0]) fun ac1881 En1882 => ?_
  refine q_t 4 ?_
  refine c_0 En1882 wo962 (palpn_go _ a_dc c_dc dc (i_dc.go wo962 [] (by kernel_rfl) (fun _ h => h)) (by assumption)) ?_
  rintro _ wo1886 ⟨pa1883, pc1884, rfl, he1887⟩
  refine ⟨_, _, _, rfl, he1887, rfl, fun ac1889 En1890 Hv1891 => ?_⟩
  refine ⟨fun _ => Hv1891.pk [1], ?_⟩
  refine h_ways [5, 8] (by kernel_rfl) rfl ?_
  refine ⟨?_, ?_, trivial⟩
  ·
   rintro _ rfl
   refine op_str (d := some 46) (src := 23) (dst := 9) (e := 5) (ao := pa1883) (cap := pc1884) (p := List.length (putP alF 2 1 (List.map (fun y : RStr => y) dc))) (bs := putP alF 2 1 (List.map (fun y : RStr => y) dc)) En1890 (by kernel_rfl) rfl (by kernel_rfl) (by kernel_rfl) (by kernel_rfl) (Hv1891.heap.reads (k := 0) rfl) (bys_vnz Hv1891.heap (k := 0) rfl) ?_
   intro ac1892 En1893
   refine ⟨fun _ => Hv1891.pk [1], ?_⟩
   exact h_to hG (by kernel_rfl) (nd1822 _ _ (En1893.sb) (Hv1891.pk [1]))
  ·
   rintro _ rfl
   refine c_0 En1890 Hv1891 (dpalpn_go _ a_dc c_dc dc (i_dc.go Hv1891 [] (by kernel_rfl) (fun _ h => h)) (by assumption)) ?_
   rintro _ wo1897 ⟨pa1894, pc1895, rfl, he1898⟩
   refine ⟨_, _, _, rfl, he1898, rfl, fun ac1900 En1901 Hv1902 => ?_⟩
   refine ⟨fun _ => Hv1902.pk [2], ?_⟩
   exact h_to hG (by kernel_rfl) (nd1866 _ _ pa1883 pc1884 pa1894 pc1895 (En1901.sb) (Hv1902.pk [0, 1, 2]))
 rintro ac1903 wo1904 ⟨En1905, Hv1906⟩
 refine then_normal ?_
 refine wp_seq ?_
 refine r_c (fun ac wo => Env ac 172 [(1, pt bk1), (2, .bool false), (3, .bool true), (4, .bool true)] ∧ Ev w [] wo [.box bk1 [.string (bstr da), .slice a_db (List.length db) c_db, .slice a_dc (List.length dc) c_dc, .slice a_dd (List.length dd) c_dd, .slice a_de (List.length de) c_de, .slice a_df (List.length df) c_df, .slice a_dg (List.length dg) c_dg, uv16 dh] 39]) ?_ ?_
 ·
  refine h_s (fun wv => Ev w [] wv [.box bk1 [.string (bstr da), .slice a_db (List.length db) c_db, .slice a_dc (List.length dc) c_dc, .slice a_dd (List.length dd) c_dd, .slice a_de (List.length de) c_de, .slice a_df (List.length df) c_df, .slice a_dg (List.length dg) c_dg, uv16 dh] 39]) [] 46 ?_
  have wo1907 := Hv1906.trans (Ev.drew Hv1906.heap)
  refine h_name fun G hG => ?_
  have nd2756 : ∀ (ac : Act) (wo : World) (pa2516 : _) (pc2517 : _), Env ac 172 [(1, pt bk1), (2, .bool false), (3, .bool true), (4, .bool true), (109, .bool true), (113, .string (bstr (numP dh))), (116, .slice pa2516 (List.length (beN 2 (UInt16.toNat dh))) pc2517)] → Ev w [] wo [.vec pa2516 pc2517 1 (bys (beN 2 (UInt16.toNat dh))) 5, .box bk1 [.string (bstr da), .slice a_db (List.length db) c_db, .slice a_dc (List.length dc) c_dc, .slice a_dd (List.length dd) c_dd, .slice a_de (List.length de) c_de, .slice a_df (List.length df) c_df, .slice a_dg (List.length dg) c_dg, uv16 dh] 39] → G 4 #[true, true, true, true, true, true, true, true, true, true, true, true, true, true, true, true, true, true, true, true, true, true, true, true, true, true, true, true, true, true, true, true, true, true, true, true, true, true, true, true, true, true, false, false, false, false] ac wo := by
   intro ac2757 wo2758 pa2516 pc2517 En2759 Hv2760
   refine h_from hG ?_
   refine q_t 42 ?_
   refine op_str (d := some 117) (src := 23) (dst := 9) (e := 5) (ao := pa2516) (cap := pc2517) (p := List.length (beN 2 (UInt16.toNat dh))) (bs := beN 2 (UInt16.toNat dh)) En2759 (by kernel_rfl) rfl (by kernel_rfl) (by kernel_rfl) (by kernel_rfl) (Hv2760.heap.reads (k := 0) rfl) (bys_vnz Hv2760.heap (k := 0) rfl) ?_
   intro ac2761 En2762
   refine ⟨fun _ => Hv2760.pk [1], ?_⟩
   refine q_s [43,44,45] [(43, g_v (show (.bool (ByteArray.toList (bstr (numP dh)) == ByteArray.toList (bstr (beN 2 (UInt16.toNat dh)))) : Value) = .bool true by rw [Go.Dbr.bstr_eq (numP dh) (beN 2 (UInt16.toNat dh)), show ((numP dh) == (beN 2 (UInt16.toNat dh))) = true from (by rw [num_eq]; exact beq_self_eq_true _)] <;> rfl))] 0 En2762 (Hv2760.pk [1]) fun ac2763 En2764 => ?_
   exact h_e ⟨En2764.sb, Hv2760.pk [1]⟩
  have nd2765 : ∀ (ac : Act) (wo : World) (pa2492 : _) (pc2493 : _), Env ac 172 [(1, pt bk1), (2, .bool false), (3, .bool true), (4, .bool true), (109, .bool true), (112, .slice pa2492 (List.length (numP dh)) pc2493), (117, .string (bstr (beN 2 (UInt16.toNat dh))))] → Ev w [] wo [.vec pa2492 pc2493 1 (bys (numP dh)) 5, .box bk1 [.string (bstr da), .slice a_db (List.length db) c_db, .slice a_dc (List.length dc) c_dc, .slice a_dd (List.length dd) c_dd, .slice a_de (List.length de) c_de, .slice a_df (List.length df) c_df, .slice a_dg (List.length dg) c_dg, uv16 dh] 39] → G 4 #[true, true, true, true, true, true, true, true, true, true, true, true, true, true, true, true, true, true, true, true, true, true, true, true, true, true, true, true, true, true, true, true, true, true, true, true, true, true, false, true, true, true, true, false, false, false] ac wo := by
   intro ac2766 wo2767 pa2492 pc2493 En2768 Hv2769
   refine h_from hG ?_
   refine q_t 38 ?_
   refine op_str (d := some 113) (src := 23) (dst := 9) (e := 5) (ao := pa2492) (cap := pc2493) (p := List.length (numP dh)) (bs := numP dh) En2768 (by kernel_rfl) rfl (by kernel_rfl) (by kernel_rfl) (by kernel_rfl) (Hv2769.heap.reads (k := 0) rfl) (bys_vnz Hv2769.heap (k := 0) rfl) ?_
   intro ac2770 En2771
   refine ⟨fun _ => Hv2769.pk [1], ?_⟩
   refine q_s [43,44,45] [(43, g_v (show (.bool (ByteArray.toList (bstr (numP dh)) == ByteArray.toList (bstr (beN 2 (UInt16.toNat dh)))) : Value) = .bool true by rw [Go.Dbr.bstr_eq (numP dh) (beN 2 (UInt16.toNat dh)), show ((numP dh) == (beN 2 (UInt16.toNat dh))) = true from (by rw [num_eq]; exact beq_self_eq_true _)] <;> rfl))] 0 En2771 (Hv2769.pk [1]) fun ac2772 En2773 => ?_
   exact h_e ⟨En2773.sb, Hv2769.pk [1]⟩
  have nd2774 : ∀ (ac : Act) (wo : World), Env ac 172 [(1, pt bk1), (2, .bool false), (3, .bool true), (4, .bool true), (109, .bool true), (113, .string (bstr (numP dh))), (115, uv16 dh)] → Ev w [] wo [.box bk1 [.string (bstr da), .slice a_db (List.length db) c_db, .slice a_dc (List.length dc) c_dc, .slice a_dd (List.length dd) c_dd, .slice a_de (List.length de) c_de, .slice a_df (List.length df) c_df, .slice a_dg (List.length dg) c_dg, uv16 dh] 39] → G 5 #[true, true, true, true, true, true, true, true, true, true, true, true, true, true, true, true, true, true, true, true, true, true, true, true, true, true, true, true, true, true, true, true, true, true, true, true, true, true, true, true, true, false, false, false, false, false] ac wo := by
   intro ac2775 wo2776 En2777 Hv2778
   refine h_from hG ?_
   refine q_t 41 ?_
   refine c_0 En2777 Hv2778 (dpnumber_go _ dh) ?_
   rintro _ wo2782 ⟨pa2779, pc2780, rfl, he2783⟩
   refine ⟨_, _, _, rfl, he2783, rfl, fun ac2785 En2786 Hv2787 => ?_⟩
   refine ⟨fun _ => Hv2787.pk [1], ?_⟩
   refine q_t 42 ?_
   refine op_str (d := some 117) (src := 23) (dst := 9) (e := 5) (ao := pa2779) (cap := pc2780) (p := List.length (beN 2 (UInt16.toNat dh))) (bs := beN 2 (UInt16.toNat dh)) En2786 (by kernel_rfl) rfl (by kernel_rfl) (by kernel_rfl) (by kernel_rfl) (Hv2787.heap.reads (k := 0) rfl) (bys_vnz Hv2787.heap (k := 0) rfl) ?_
   intro ac2788 En2789
   refine ⟨fun _ => Hv2787.pk [1], ?_⟩
   refine q_s [43,44,45] [(43, g_v (show (.bool (ByteArray.toList (bstr (numP dh)) == ByteArray.toList (bstr (beN 2 (UInt16.toNat dh)))) : Value) = .bool true by rw [Go.Dbr.bstr_eq (numP dh) (beN 2 (UInt16.toNat dh)), show ((numP dh) == (beN 2 (UInt16.toNat dh))) = true from (by rw [num_eq]; exact beq_self_eq_true _)] <;> rfl))] 0 En2789 (Hv2787.pk [1]) fun ac2790 En2791 => ?_
   exact h_e ⟨En2791.sb, Hv2787.pk [1]⟩
  have nd2792 : ∀ (ac : Act) (wo : World) (pa2492 : _) (pc2493 : _) (pa2516 : _) (pc2517 : _), Env ac 172 [(1, pt bk1), (2, .bool false), (3, .bool true), (4, .bool true), (109, .bool true), (112, .slice pa2492 (List.length (numP dh)) pc2493), (116, .slice pa2516 (List.length (beN 2 (UInt16.toNat dh))) pc2517)] → Ev w [] wo [.vec pa2516 pc2517 1 (bys (beN 2 (UInt16.toNat dh))) 5, .vec pa2492 pc2493 1 (bys (numP dh)) 5, .box bk1 [.string (bstr da), .slice a_db (List.length db) c_db, .slice a_dc (List.length dc) c_dc, .slice a_dd (List.length dd) c_dd, .slice a_de (List.length de) c_de, .slice a_df (List.length df) c_df, .slice a_dg (List.length dg) c_dg, uv16 dh] 39] → G 5 #[true, true, true, true, true, true, true, true, true, true, true, true, true, true, true, true, true, true, true, true, true, true, true, true, true, true, true, true, true, true, true, true, true, true, true, true, true, true, false, true, true, true, false, false, false, false] ac wo := by
   intro ac2793 wo2794 pa2492 pc2493 pa2516 pc2517 En2795 Hv2796
   refine h_from hG ?_
   refine h_ways [38, 42] (by kernel_rfl) rfl ?_
   refine ⟨?_, ?_, trivial⟩
   ·
    rintro _ rfl
    refine op_str (d := some 113) (src := 23) (dst := 9) (e := 5) (ao := pa2492) (cap := pc2493) (p := List.length (numP dh)) (bs := numP dh) En2795 (by kernel_rfl) rfl (by kernel_rfl) (by kernel_rfl) (by kernel_rfl) (Hv2796.heap.reads (k := 1) rfl) (bys_vnz Hv2796.heap (k := 1) rfl) ?_
    intro ac2797 En2798
    refine ⟨fun _ => Hv2796.pk [2], ?_⟩
    exact h_to hG (by kernel_rfl) (nd2756 _ _ pa2516 pc2517 (En2798.sb) (Hv2796.pk [0, 2]))
   ·
    rintro _ rfl
    refine op_str (d := some 117) (src := 23) (dst := 9) (e := 5) (ao := pa2516) (cap := pc2517) (p := List.length (beN 2 (UInt16.toNat dh))) (bs := beN 2 (UInt16.toNat dh)) En2795 (by kernel_rfl) rfl (by kernel_rfl) (by kernel_rfl) (by kernel_rfl) (Hv2796.heap.reads (k := 0) rfl) (bys_vnz Hv2796.heap (k := 0) rfl) ?_
    intro ac2799 En2800
    refine ⟨fun _ => Hv2796.pk [2], ?_⟩
    exact h_to hG (by kernel_rfl) (nd2765 _ _ pa2492 pc2493 (En2800.sb) (Hv2796.pk [1, 2]))
  have nd2801 : ∀ (ac : Act) (wo : World) (pa2537 : _) (pc2538 : _), Env ac 172 [(1, pt bk1), (2, .bool false), (3, .bool true), (4, .bool true), (98, .bool true), (102, .string (bstr (bytP 3 16777215 [1] dd))), (105, .slice pa2537 (List.length (dbytP 3 16777215 [1] dd)) pc2538)] → Ev w [] wo [.vec pa2537 pc2538 1 (bys (dbytP 3 16777215 [1] dd)) 5, .box bk1 [.string (bstr da), .slice a_db (List.length db) c_db, .slice a_dc (List.length dc) c_dc, .slice a_dd (List.length dd) c_dd, .slice a_de (List.length de) c_de, .slice a_df (List.length df) c_df, .slice a_dg (List.length dg) c_dg, uv16 dh] 39] → G 15 #[true, true, true, true, true, true, true, true, true, true, true, true, true, true, true, true, true, true, true, true, true, true, true, true, true, true, true, true, true, true, true, false, false, false, false, false, false, false, false, false, false, false, false, false, false, false] ac wo := by
   intro ac2802 wo2803 pa2537 pc2538 En2804 Hv2805
   refine h_from hG ?_
   refine q_t 31 ?_
   refine op_str (d := some 106) (src := 23) (dst := 9) (e := 5) (ao := pa2537) (cap := pc2538) (p := List.length (dbytP 3 16777215 [1] dd)) (bs := dbytP 3 16777215 [1] dd) En2804 (by kernel_rfl) rfl (by kernel_rfl) (by kernel_rfl) (by kernel_rfl) (Hv2805.heap.reads (k := 0) rfl) (bys_vnz Hv2805.heap (k := 0) rfl) ?_
   intro ac2806 En2807
   refine ⟨fun _ => Hv2805.pk [1], ?_⟩
   refine q_s [32,33,34,35] [(32, g_v (show (.bool (ByteArray.toList (bstr (bytP 3 16777215 [1] dd)) == ByteArray.toList (bstr (dbytP 3 16777215 [1] dd))) : Value) = .bool true by rw [Go.Dbr.bstr_eq (bytP 3 16777215 [1] dd) (dbytP 3 16777215 [1] dd), show ((bytP 3 16777215 [1] dd) == (dbytP 3 16777215 [1] dd)) = true from (by rw [byt_eq]; exact beq_self_eq_true _)] <;> rfl))] 10 En2807 (Hv2805.pk [1]) fun ac2808 En2809 => ?_
   refine q_l 0 36 En2809 (Hv2805.pk [1]) fun ac2810 En2811 => ?_
   refine q_s [39] [] 8 En2811 (Hv2805.pk [1]) fun ac2812 En2813 => ?_
   refine q_l 0 40 En2813 (Hv2805.pk [1]) fun ac2814 En2815 => ?_
   refine q_t 37 ?_
   refine c_0 En2815 Hv2805 (pnumber_go _ dh) ?_
   rintro _ wo2819 ⟨pa2816, pc2817, rfl, he2820⟩
   refine ⟨_, _, _, rfl, he2820, rfl, fun ac2822 En2823 Hv2824 => ?_⟩
   refine ⟨fun _ => Hv2824.pk [2], ?_⟩
   refine h_ways [38, 41] (by kernel_rfl) rfl ?_
   refine ⟨?_, ?_, trivial⟩
   ·
    rintro _ rfl
    refine op_str (d := some 113) (src := 23) (dst := 9) (e := 5) (ao := pa2816) (cap := pc2817) (p := List.length (numP dh)) (bs := numP dh) En2823 (by kernel_rfl) rfl (by kernel_rfl) (by kernel_rfl) (by kernel_rfl) (Hv2824.heap.reads (k := 0) rfl) (bys_vnz Hv2824.heap (k := 0) rfl) ?_
    intro ac2825 En2826
    refine ⟨fun _ => Hv2824.pk [2], ?_⟩
    exact h_to hG (by kernel_rfl) (nd2774 _ _ (En2826.sb) (Hv2824.pk [2]))
   ·
    rintro _ rfl
    refine c_0 En2823 Hv2824 (dpnumber_go _ dh) ?_
    rintro _ wo2830 ⟨pa2827, pc2828, rfl, he2831⟩
    refine ⟨_, _, _, rfl, he2831, rfl, fun ac2833 En2834 Hv2835 => ?_⟩
    refine ⟨fun _ => Hv2835.pk [3], ?_⟩
    exact h_to hG (by kernel_rfl) (nd2792 _ _ pa2816 pc2817 pa2827 pc2828 (En2834.sb) (Hv2835.pk [0, 1, 3]))
  have nd2836 : ∀ (ac : Act) (wo : World) (pa2462 : _) (pc2463 : _), Env ac 172 [(1, pt bk1), (2, .bool false), (3, .bool true), (4, .bool true), (98, .bool true), (101, .slice pa2462 (List.length (bytP 3 16777215 [1] dd)) pc2463), (106, .string (bstr (dbytP 3 16777215 [1] dd)))] → Ev w [] wo [.vec pa2462 pc2463 1 (bys (bytP 3 16777215 [1] dd)) 5, .box bk1 [.string (bstr da), .slice a_db (List.length db) c_db, .slice a_dc (List.length dc) c_dc, .slice a_dd (List.length dd) c_dd, .slice a_de (List.length de) c_de, .slice a_df (List.length df) c_df, .slice a_dg (List.length dg) c_dg, uv16 dh] 39] → G 15 #[true, true, true, true, true, true, true, true, true, true, true, true, true, true, true, true, true, true, true, true, true, true, true, true, true, true, true, false, true, true, true, true, false, false, false, false, false, false, false, false, false, false, false, false, false, false] ac wo := by
   intro ac2837 wo2838 pa2462 pc2463 En2839 Hv2840
   refine h_from hG ?_
   refine q_t 27 ?_
   refine op_str (d := some 102) (src := 23) (dst := 9) (e := 5) (ao := pa2462) (cap := pc2463) (p := List.length (bytP 3 16777215 [1] dd)) (bs := bytP 3 16777215 [1] dd) En2839 (by kernel_rfl) rfl (by kernel_rfl) (by kernel_rfl) (by kernel_rfl) (Hv2840.heap.reads (k := 0) rfl) (bys_vnz Hv2840.heap (k := 0) rfl) ?_
   intro ac2841 En2842
   refine ⟨fun _ => Hv2840.pk [1], ?_⟩
   refine q_s [32,33,34,35] [(32, g_v (show (.bool (ByteArray.toList (bstr (bytP 3 16777215 [1] dd)) == ByteArray.toList (bstr (dbytP 3 16777215 [1] dd))) : Value) = .bool true by rw [Go.Dbr.bstr_eq (bytP 3 16777215 [1] dd) (dbytP 3 16777215 [1] dd), show ((bytP 3 16777215 [1] dd) == (dbytP 3 16777215 [1] dd)) = true from (by rw [byt_eq]; exact beq_self_eq_true _)] <;> rfl))] 10 En2842 (Hv2840.pk [1]) fun ac2843 En2844 => ?_
   refine q_l 0 36 En2844 (Hv2840.pk [1]) fun ac2845 En2846 => ?_
   refine q_s [39] [] 8 En2846 (Hv2840.pk [1]) fun ac2847 En2848 => ?_
   refine q_l 0 40 En2848 (Hv2840.pk [1]) fun ac2849 En2850 => ?_
   refine q_t 37 ?_
   refine c_0 En2850 Hv2840 (pnumber_go _ dh) ?_
   rintro _ wo2854 ⟨pa2851, pc2852, rfl, he2855⟩
   refine ⟨_, _, _, rfl, he2855, rfl, fun ac2857 En2858 Hv2859 => ?_⟩
   refine ⟨fun _ => Hv2859.pk [2], ?_⟩
   refine h_ways [38, 41] (by kernel_rfl) rfl ?_
   refine ⟨?_, ?_, trivial⟩
   ·
    rintro _ rfl
    refine op_str (d := some 113) (src := 23) (dst := 9) (e := 5) (ao := pa2851) (cap := pc2852) (p := List.length (numP dh)) (bs := numP dh) En2858 (by kernel_rfl) rfl (by kernel_rfl) (by kernel_rfl) (by kernel_rfl) (Hv2859.heap.reads (k := 0) rfl) (bys_vnz Hv2859.heap (k := 0) rfl) ?_
    intro ac2860 En2861
    refine ⟨fun _ => Hv2859.pk [2], ?_⟩
    exact h_to hG (by kernel_rfl) (nd2774 _ _ (En2861.sb) (Hv2859.pk [2]))
   ·
    rintro _ rfl
    refine c_0 En2858 Hv2859 (dpnumber_go _ dh) ?_
    rintro _ wo2865 ⟨pa2862, pc2863, rfl, he2866⟩
    refine ⟨_, _, _, rfl, he2866, rfl, fun ac2868 En2869 Hv2870 => ?_⟩
    refine ⟨fun _ => Hv2870.pk [3], ?_⟩
    exact h_to hG (by kernel_rfl) (nd2792 _ _ pa2851 pc2852 pa2862 pc2863 (En2869.sb) (Hv2870.pk [0, 1, 3]))
  have nd2871 : ∀ (ac : Act) (wo : World), Env ac 172 [(1, pt bk1), (2, .bool false), (3, .bool true), (4, .bool true), (98, .bool true), (102, .string (bstr (bytP 3 16777215 [1] dd))), (104, .slice a_dd (List.length dd) c_dd)] → Ev w [] wo [.box bk1 [.string (bstr da), .slice a_db (List.length db) c_db, .slice a_dc (List.length dc) c_dc, .slice a_dd (List.length dd) c_dd, .slice a_de (List.length de) c_de, .slice a_df (List.length df) c_df, .slice a_dg (List.length dg) c_dg, uv16 dh] 39] → G 16 #[true, true, true, true, true, true, true, true, true, true, true, true, true, true, true, true, true, true, true, true, true, true, true, true, true, true, true, true, true, true, false, false, false, false, false, false, false, false, false, false, false, false, false, false, false, false] ac wo := by
   intro ac2872 wo2873 En2874 Hv2875
   refine h_from hG ?_
   refine q_t 30 ?_
   refine c_0 En2874 Hv2875 (dpstatus_go _ a_dd c_dd dd ((i_dd.ev Hv2875).pick [] (by kernel_rfl))) ?_
   rintro _ wo2879 ⟨pa2876, pc2877, rfl, he2880⟩
   refine ⟨_, _, _, rfl, he2880, rfl, fun ac2882 En2883 Hv2884 => ?_⟩
   refine ⟨fun _ => Hv2884.pk [1], ?_⟩
   refine q_t 31 ?_
   refine op_str (d := some 106) (src := 23) (dst := 9) (e := 5) (ao := pa2876) (cap := pc2877) (p := List.length (dbytP 3 16777215 [1] dd)) (bs := dbytP 3 16777215 [1] dd) En2883 (by kernel_rfl) rfl (by kernel_rfl) (by kernel_rfl) (by kernel_rfl) (Hv2884.heap.reads (k := 0) rfl) (bys_vnz Hv2884.heap (k := 0) rfl) ?_
   intro ac2885 En2886
   refine ⟨fun _ => Hv2884.pk [1], ?_⟩
   refine q_s [32,33,34,35] [(32, g_v (show (.bool (ByteArray.toList (bstr (bytP 3 16777215 [1] dd)) == ByteArray.toList (bstr (dbytP 3 16777215 [1] dd))) : Value) = .bool true by rw [Go.Dbr.bstr_eq (bytP 3 16777215 [1] dd) (dbytP 3 16777215 [1] dd), show ((bytP 3 16777215 [1] dd) == (dbytP 3 16777215 [1] dd)) = true from (by rw [byt_eq]; exact beq_self_eq_true _)] <;> rfl))] 10 En2886 (Hv2884.pk [1]) fun ac2887 En2888 => ?_
   refine q_l 0 36 En2888 (Hv2884.pk [1]) fun ac2889 En2890 => ?_
   refine q_s [39] [] 8 En2890 (Hv2884.pk [1]) fun ac2891 En2892 => ?_
   refine q_l 0 40 En2892 (Hv2884.pk [1]) fun ac2893 En2894 => ?_
   refine q_t 37 ?_
   refine c_0 En2894 Hv2884 (pnumber_go _ dh) ?_
   rintro _ wo2898 ⟨pa2895, pc2896, rfl, he2899⟩
   refine ⟨_, _, _, rfl, he2899, rfl, fun ac2901 En2902 Hv2903 => ?_⟩
   refine ⟨fun _ => Hv2903.pk [2], ?_⟩
   refine h_ways [38, 41] (by kernel_rfl) rfl ?_
   refine ⟨?_, ?_, trivial⟩
   ·
    rintro _ rfl
    refine op_str (d := some 113) (src := 23) (dst := 9) (e := 5) (ao := pa2895) (cap := pc2896) (p := List.length (numP dh)) (bs := numP dh) En2902 (by kernel_rfl) rfl (by kernel_rfl) (by kernel_rfl) (by kernel_rfl) (Hv2903.heap.reads (k := 0) rfl) (bys_vnz Hv2903.heap (k := 0) rfl) ?_
    intro ac2904 En2905
    refine ⟨fun _ => Hv2903.pk [2], ?_⟩
    exact h_to hG (by kernel_rfl) (nd2774 _ _ (En2905.sb) (Hv2903.pk [2]))
   ·
    rintro _ rfl
    refine c_0 En2902 Hv2903 (dpnumber_go _ dh) ?_
    rintro _ wo2909 ⟨pa2906, pc2907, rfl, he2910⟩
    refine ⟨_, _, _, rfl, he2910, rfl, fun ac2912 En2913 Hv2914 => ?_⟩
    refine ⟨fun _ => Hv2914.pk [3], ?_⟩
    exact h_to hG (by kernel_rfl) (nd2792 _ _ pa2895 pc2896 pa2906 pc2907 (En2913.sb) (Hv2914.pk [0, 1, 3]))
  have nd2915 : ∀ (ac : Act) (wo : World) (pa2462 : _) (pc2463 : _) (pa2537 : _) (pc2538 : _), Env ac 172 [(1, pt bk1), (2, .bool false), (3, .bool true), (4, .bool true), (98, .bool true), (101, .slice pa2462 (List.length (bytP 3 16777215 [1] dd)) pc2463), (105, .slice pa2537 (List.length (dbytP 3 16777215 [1] dd)) pc2538)] → Ev w [] wo [.vec pa2537 pc2538 1 (bys (dbytP 3 16777215 [1] dd)) 5, .vec pa2462 pc2463 1 (bys (bytP 3 16777215 [1] dd)) 5, .box bk1 [.string (bstr da), .slice a_db (List.length db) c_db, .slice a_dc (List.length dc) c_dc, .slice a_dd (List.length dd) c_dd, .slice a_de (List.length de) c_de, .slice a_df (List.length df) c_df, .slice a_dg (List.length dg) c_dg, uv16 dh] 39] → G 16 #[true, true, true, true, true, true, true, true, true, true, true, true, true, true, true, true, true, true, true, true, true, true, true, true, true, true, true, false, true, true, true, false, false, false, false, false, false, false, false, false, false, false, false, false, false, false] ac wo := by
   intro ac2916 wo2917 pa2462 pc2463 pa2537 pc2538 En2918 Hv2919
   refine h_from hG ?_
   refine h_ways [27, 31] (by kernel_rfl) rfl ?_
   refine ⟨?_, ?_, trivial⟩
   ·
    rintro _ rfl
    refine op_str (d := some 102) (src := 23) (dst := 9) (e := 5) (ao := pa2462) (cap := pc2463) (p := List.length (bytP 3 16777215 [1] dd)) (bs := bytP 3 16777215 [1] dd) En2918 (by kernel_rfl) rfl (by kernel_rfl) (by kernel_rfl) (by kernel_rfl) (Hv2919.heap.reads (k := 1) rfl) (bys_vnz Hv2919.heap (k := 1) rfl) ?_
    intro ac2920 En2921
    refine ⟨fun _ => Hv2919.pk [2], ?_⟩
    exact h_to hG (by kernel_rfl) (nd2801 _ _ pa2537 pc2538 (En2921.sb) (Hv2919.pk [0, 2]))
   ·
    rintro _ rfl
    refine op_str (d := some 106) (src := 23) (dst := 9) (e := 5) (ao := pa2537) (cap := pc2538) (p := List.length (dbytP 3 16777215 [1] dd)) (bs := dbytP 3 16777215 [1] dd) En2918 (by kernel_rfl) rfl (by kernel_rfl) (by kernel_rfl) (by kernel_rfl) (Hv2919.heap.reads (k := 0) rfl) (bys_vnz Hv2919.heap (k := 0) rfl) ?_
    intro ac2922 En2923
    refine ⟨fun _ => Hv2919.pk [2], ?_⟩
    exact h_to hG (by kernel_rfl) (nd2836 _ _ pa2462 pc2463 (En2923.sb) (Hv2919.pk [1, 2]))
  have nd2924 : ∀ (ac : Act) (wo : World) (pa2610 : _) (pc2611 : _), Env ac 172 [(1, pt bk1), (2, .bool false), (3, .bool true), (4, .bool true), (87, .bool true), (91, .string (bstr (bytP 2 65535 [] dd))), (94, .slice pa2610 (List.length (dbytP 2 65535 [] dd)) pc2611)] → Ev w [] wo [.vec pa2610 pc2611 1 (bys (dbytP 2 65535 [] dd)) 5, .box bk1 [.string (bstr da), .slice a_db (List.length db) c_db, .slice a_dc (List.length dc) c_dc, .slice a_dd (List.length dd) c_dd, .slice a_de (List.length de) c_de, .slice a_df (List.length df) c_df, .slice a_dg (List.length dg) c_dg, uv16 dh] 39] → G 26 #[true, true, true, true, true, true, true, true, true, true, true, true, true, true, true, true, true, true, true, true, false, false, false, false, false, false, false, false, false, false, false, false, false, false, false, false, false, false, false, false, false, false, false, false, false, false] ac wo := by
   intro ac2925 wo2926 pa2610 pc2611 En2927 Hv2928
   refine h_from hG ?_
   refine q_t 20 ?_
   refine op_str (d := some 95) (src := 23) (dst := 9) (e := 5) (ao := pa2610) (cap := pc2611) (p := List.length (dbytP 2 65535 [] dd)) (bs := dbytP 2 65535 [] dd) En2927 (by kernel_rfl) rfl (by kernel_rfl) (by kernel_rfl) (by kernel_rfl) (Hv2928.heap.reads (k := 0) rfl) (bys_vnz Hv2928.heap (k := 0) rfl) ?_
   intro ac2929 En2930
   refine ⟨fun _ => Hv2928.pk [1], ?_⟩
   refine q_s [21,22,23,24] [(21, g_v (show (.bool (ByteArray.toList (bstr (bytP 2 65535 [] dd)) == ByteArray.toList (bstr (dbytP 2 65535 [] dd))) : Value) = .bool true by rw [Go.Dbr.bstr_eq (bytP 2 65535 [] dd) (dbytP 2 65535 [] dd), show ((bytP 2 65535 [] dd) == (dbytP 2 65535 [] dd)) = true from (by rw [byt_eq]; exact beq_self_eq_true _)] <;> rfl))] 21 En2930 (Hv2928.pk [1]) fun ac2931 En2932 => ?_
   refine q_l 0 25 En2932 (Hv2928.pk [1]) fun ac2933 En2934 => ?_
   refine q_s [28] [] 19 En2934 (Hv2928.pk [1]) fun ac2935 En2936 => ?_
   refine q_l 0 29 En2936 (Hv2928.pk [1]) fun ac2937 En2938 => ?_
   refine q_t 26 ?_
   refine c_0 En2938 Hv2928 (pstatus_go _ a_dd c_dd dd ((i_dd.ev Hv2928).pick [] (by kernel_rfl))) ?_
   rintro _ wo2942 ⟨pa2939, pc2940, rfl, he2943⟩
   refine ⟨_, _, _, rfl, he2943, rfl, fun ac2945 En2946 Hv2947 => ?_⟩
   refine ⟨fun _ => Hv2947.pk [2], ?_⟩
   refine h_ways [27, 30] (by kernel_rfl) rfl ?_
   refine ⟨?_, ?_, trivial⟩
   ·
    rintro _ rfl
    refine op_str (d := some 102) (src := 23) (dst := 9) (e := 5) (ao := pa2939) (cap := pc2940) (p := List.length (bytP 3 16777215 [1] dd)) (bs := bytP 3 16777215 [1] dd) En2946 (by kernel_rfl) rfl (by kernel_rfl) (by kernel_rfl) (by kernel_rfl) (Hv2947.heap.reads (k := 0) rfl) (bys_vnz Hv2947.heap (k := 0) rfl) ?_
    intro ac2948 En2949
    refine ⟨fun _ => Hv2947.pk [2], ?_⟩
    exact h_to hG (by kernel_rfl) (nd2871 _ _ (En2949.sb) (Hv2947.pk [2]))
   ·
    rintro _ rfl
    refine c_0 En2946 Hv2947 (dpstatus_go _ a_dd c_dd dd ((i_dd.ev Hv2947).pick [] (by kernel_rfl))) ?_
    rintro _ wo2953 ⟨pa2950, pc2951, rfl, he2954⟩
    refine ⟨_, _, _, rfl, he2954, rfl, fun ac2956 En2957 Hv2958 => ?_⟩
    refine ⟨fun _ => Hv2958.pk [3], ?_⟩
    exact h_to hG (by kernel_rfl) (nd2915 _ _ pa2939 pc2940 pa2950 pc2951 (En2957.sb) (Hv2958.pk [0, 1, 3]))
  have nd2959 : ∀ (ac : Act) (wo : World) (pa2432 : _) (pc2433 : _), Env ac 172 [(1, pt bk1), (2, .bool false), (3, .bool true), (4, .bool true), (87, .bool true), (90, .slice pa2432 (List.length (bytP 2 65535 [] dd)) pc2433), (95, .string (bstr (dbytP 2 65535 [] dd)))] → Ev w [] wo [.vec pa2432 pc2433 1 (bys (bytP 2 65535 [] dd)) 5, .box bk1 [.string (bstr da), .slice a_db (List.length db) c_db, .slice a_dc (List.length dc) c_dc, .slice a_dd (List.length dd) c_dd, .slice a_de (List.length de) c_de, .slice a_df (List.length df) c_df, .slice a_dg (List.length dg) c_dg, uv16 dh] 39] → G 26 #[true, true, true, true, true, true, true, true, true, true, true, true, true, true, true, true, false, true, true, true, true, false, false, false, false, false, false, false, false, false, false, false, false, false, false, false, false, false, false, false, false, false, false, false, false, false] ac wo := by
   intro ac2960 wo2961 pa2432 pc2433 En2962 Hv2963
   refine h_from hG ?_
   refine q_t 16 ?_
   refine op_str (d := some 91) (src := 23) (dst := 9) (e := 5) (ao := pa2432) (cap := pc2433) (p := List.length (bytP 2 65535 [] dd)) (bs := bytP 2 65535 [] dd) En2962 (by kernel_rfl) rfl (by kernel_rfl) (by kernel_rfl) (by kernel_rfl) (Hv2963.heap.reads (k := 0) rfl) (bys_vnz Hv2963.heap (k := 0) rfl) ?_
   intro ac2964 En2965
   refine ⟨fun _ => Hv2963.pk [1], ?_⟩
   refine q_s [21,22,23,24] [(21, g_v (show (.bool (ByteArray.toList (bstr (bytP 2 65535 [] dd)) == ByteArray.toList (bstr (dbytP 2 65535 [] dd))) : Value) = .bool true by rw [Go.Dbr.bstr_eq (bytP 2 65535 [] dd) (dbytP 2 65535 [] dd), show ((bytP 2 65535 [] dd) == (dbytP 2 65535 [] dd)) = true from (by rw [byt_eq]; exact beq_self_eq_true _)] <;> rfl))] 21 En2965 (Hv2963.pk [1]) fun ac2966 En2967 => ?_
   refine q_l 0 25 En2967 (Hv2963.pk [1]) fun ac2968 En2969 => ?_
   refine q_s [28] [] 19 En2969 (Hv2963.pk [1]) fun ac2970 En2971 => ?_
   refine q_l 0 29 En2971 (Hv2963.pk [1]) fun ac2972 En2973 => ?_
   refine q_t 26 ?_
   refine c_0 En2973 Hv2963 (pstatus_go _ a_dd c_dd dd ((i_dd.ev Hv2963).pick [] (by kernel_rfl))) ?_
   rintro _ wo2977 ⟨pa2974, pc2975, rfl, he2978⟩
   refine ⟨_, _, _, rfl, he2978, rfl, fun ac2980 En2981 Hv2982 => ?_⟩
   refine ⟨fun _ => Hv2982.pk [2], ?_⟩
   refine h_ways [27, 30] (by kernel_rfl) rfl ?_
   refine ⟨?_, ?_, trivial⟩
   ·
    rintro _ rfl
    refine op_str (d := some 102) (src := 23) (dst := 9) (e := 5) (ao := pa2974) (cap := pc2975) (p := List.length (bytP 3 16777215 [1] dd)) (bs := bytP 3 16777215 [1] dd) En2981 (by kernel_rfl) rfl (by kernel_rfl) (by kernel_rfl) (by kernel_rfl) (Hv2982.heap.reads (k := 0) rfl) (bys_vnz Hv2982.heap (k := 0) rfl) ?_
    intro ac2983 En2984
    refine ⟨fun _ => Hv2982.pk [2], ?_⟩
    exact h_to hG (by kernel_rfl) (nd2871 _ _ (En2984.sb) (Hv2982.pk [2]))
   ·
    rintro _ rfl
    refine c_0 En2981 Hv2982 (dpstatus_go _ a_dd c_dd dd ((i_dd.ev Hv2982).pick [] (by kernel_rfl))) ?_
    rintro _ wo2988 ⟨pa2985, pc2986, rfl, he2989⟩
    refine ⟨_, _, _, rfl, he2989, rfl, fun ac2991 En2992 Hv2993 => ?_⟩
    refine ⟨fun _ => Hv2993.pk [3], ?_⟩
    exact h_to hG (by kernel_rfl) (nd2915 _ _ pa2974 pc2975 pa2985 pc2986 (En2992.sb) (Hv2993.pk [0, 1, 3]))
  have nd2994 : ∀ (ac : Act) (wo : World), Env ac 172 [(1, pt bk1), (2, .bool false), (3, .bool true), (4, .bool true), (87, .bool true), (91, .string (bstr (bytP 2 65535 [] dd))), (93, .slice a_dd (List.length dd) c_dd)] → Ev w [] wo [.box bk1 [.string (bstr da), .slice a_db (List.length db) c_db, .slice a_dc (List.length dc) c_dc, .slice a_dd (List.length dd) c_dd, .slice a_de (List.length de) c_de, .slice a_df (List.length df) c_df, .slice a_dg (List.length dg) c_dg, uv16 dh] 39] → G 27 #[true, true, true, true, true, true, true, true, true, true, true, true, true, true, true, true, true, true, true, false, false, false, false, false, false, false, false, false, false, false, false, false, false, false, false, false, false, false, false, false, false, false, false, false, false, false] ac wo := by
   intro ac2995 wo2996 En2997 Hv2998
   refine h_from hG ?_
   refine q_t 19 ?_
   refine c_0 En2997 Hv2998 (dpcookie_go _ a_dd c_dd dd ((i_dd.ev Hv2998).pick [] (by kernel_rfl))) ?_
   rintro _ wo3002 ⟨pa2999, pc3000, rfl, he3003⟩
   refine ⟨_, _, _, rfl, he3003, rfl, fun ac3005 En3006 Hv3007 => ?_⟩
   refine ⟨fun _ => Hv3007.pk [1], ?_⟩
   refine q_t 20 ?_
   refine op_str (d := some 95) (src := 23) (dst := 9) (e := 5) (ao := pa2999) (cap := pc3000) (p := List.length (dbytP 2 65535 [] dd)) (bs := dbytP 2 65535 [] dd) En3006 (by kernel_rfl) rfl (by kernel_rfl) (by kernel_rfl) (by kernel_rfl) (Hv3007.heap.reads (k := 0) rfl) (bys_vnz Hv3007.heap (k := 0) rfl) ?_
   intro ac3008 En3009
   refine ⟨fun _ => Hv3007.pk [1], ?_⟩
   refine q_s [21,22,23,24] [(21, g_v (show (.bool (ByteArray.toList (bstr (bytP 2 65535 [] dd)) == ByteArray.toList (bstr (dbytP 2 65535 [] dd))) : Value) = .bool true by rw [Go.Dbr.bstr_eq (bytP 2 65535 [] dd) (dbytP 2 65535 [] dd), show ((bytP 2 65535 [] dd) == (dbytP 2 65535 [] dd)) = true from (by rw [byt_eq]; exact beq_self_eq_true _)] <;> rfl))] 21 En3009 (Hv3007.pk [1]) fun ac3010 En3011 => ?_
   refine q_l 0 25 En3011 (Hv3007.pk [1]) fun ac3012 En3013 => ?_
   refine q_s [28] [] 19 En3013 (Hv3007.pk [1]) fun ac3014 En3015 => ?_
   refine q_l 0 29 En3015 (Hv3007.pk [1]) fun ac3016 En3017 => ?_
   refine q_t 26 ?_
   refine c_0 En3017 Hv3007 (pstatus_go _ a_dd c_dd dd ((i_dd.ev Hv3007).pick [] (by kernel_rfl))) ?_
   rintro _ wo3021 ⟨pa3018, pc3019, rfl, he3022⟩
   refine ⟨_, _, _, rfl, he3022, rfl, fun ac3024 En3025 Hv3026 => ?_⟩
   refine ⟨fun _ => Hv3026.pk [2], ?_⟩
   refine h_ways [27, 30] (by kernel_rfl) rfl ?_
   refine ⟨?_, ?_, trivial⟩
   ·
    rintro _ rfl
    refine op_str (d := some 102) (src := 23) (dst := 9) (e := 5) (ao := pa3018) (cap := pc3019) (p := List.length (bytP 3 16777215 [1] dd)) (bs := bytP 3 16777215 [1] dd) En3025 (by kernel_rfl) rfl (by kernel_rfl) (by kernel_rfl) (by kernel_rfl) (Hv3026.heap.reads (k := 0) rfl) (bys_vnz Hv3026.heap (k := 0) rfl) ?_
    intro ac3027 En3028
    refine ⟨fun _ => Hv3026.pk [2], ?_⟩
    exact h_to hG (by kernel_rfl) (nd2871 _ _ (En3028.sb) (Hv3026.pk [2]))
   ·
    rintro _ rfl
    refine c_0 En3025 Hv3026 (dpstatus_go _ a_dd c_dd dd ((i_dd.ev Hv3026).pick [] (by kernel_rfl))) ?_
    rintro _ wo3032 ⟨pa3029, pc3030, rfl, he3033⟩
    refine ⟨_, _, _, rfl, he3033, rfl, fun ac3035 En3036 Hv3037 => ?_⟩
    refine ⟨fun _ => Hv3037.pk [3], ?_⟩
    exact h_to hG (by kernel_rfl) (nd2915 _ _ pa3018 pc3019 pa3029 pc3030 (En3036.sb) (Hv3037.pk [0, 1, 3]))
  have nd3038 : ∀ (ac : Act) (wo : World) (pa2432 : _) (pc2433 : _) (pa2610 : _) (pc2611 : _), Env ac 172 [(1, pt bk1), (2, .bool false), (3, .bool true), (4, .bool true), (87, .bool true), (90, .slice pa2432 (List.length (bytP 2 65535 [] dd)) pc2433), (94, .slice pa2610 (List.length (dbytP 2 65535 [] dd)) pc2611)] → Ev w [] wo [.vec pa2610 pc2611 1 (bys (dbytP 2 65535 [] dd)) 5, .vec pa2432 pc2433 1 (bys (bytP 2 65535 [] dd)) 5, .box bk1 [.string (bstr da), .slice a_db (List.length db) c_db, .slice a_dc (List.length dc) c_dc, .slice a_dd (List.length dd) c_dd, .slice a_de (List.length de) c_de, .slice a_df (List.length df) c_df, .slice a_dg (List.length dg) c_dg, uv16 dh] 39] → G 27 #[true, true, true, true, true, true, true, true, true, true, true, true, true, true, true, true, false, true, true, true, false, false, false, false, false, false, false, false, false, false, false, false, false, false, false, false, false, false, false, false, false, false, false, false, false, false] ac wo := by
   intro ac3039 wo3040 pa2432 pc2433 pa2610 pc2611 En3041 Hv3042
   refine h_from hG ?_
   refine h_ways [16, 20] (by kernel_rfl) rfl ?_
   refine ⟨?_, ?_, trivial⟩
   ·
    rintro _ rfl
    refine op_str (d := some 91) (src := 23) (dst := 9) (e := 5) (ao := pa2432) (cap := pc2433) (p := List.length (bytP 2 65535 [] dd)) (bs := bytP 2 65535 [] dd) En3041 (by kernel_rfl) rfl (by kernel_rfl) (by kernel_rfl) (by kernel_rfl) (Hv3042.heap.reads (k := 1) rfl) (bys_vnz Hv3042.heap (k := 1) rfl) ?_
    intro ac3043 En3044
    refine ⟨fun _ => Hv3042.pk [2], ?_⟩
    exact h_to hG (by kernel_rfl) (nd2924 _ _ pa2610 pc2611 (En3044.sb) (Hv3042.pk [0, 2]))
   ·
    rintro _ rfl
    refine op_str (d := some 95) (src := 23) (dst := 9) (e := 5) (ao := pa2610) (cap := pc2611) (p := List.length (dbytP 2 65535 [] dd)) (bs := dbytP 2 65535 [] dd) En3041 (by kernel_rfl) rfl (by kernel_rfl) (by kernel_rfl) (by kernel_rfl) (Hv3042.heap.reads (k := 0) rfl) (bys_vnz Hv3042.heap (k := 0) rfl) ?_
    intro ac3045 En3046
    refine ⟨fun _ => Hv3042.pk [2], ?_⟩
    exact h_to hG (by kernel_rfl) (nd2959 _ _ pa2432 pc2433 (En3046.sb) (Hv3042.pk [1, 2]))
  have nd3047 : ∀ (ac : Act) (wo : World) (pa2683 : _) (pc2684 : _), Env ac 172 [(1, pt bk1), (2, .bool false), (3, .bool true), (4, .bool true), (76, .bool true), (80, .string (bstr (pskP (List.map puPsk df)))), (83, .slice pa2683 (List.length (dpskP (List.map puPsk df))) pc2684)] → Ev w [] wo [.vec pa2683 pc2684 1 (bys (dpskP (List.map puPsk df))) 5, .box bk1 [.string (bstr da), .slice a_db (List.length db) c_db, .slice a_dc (List.length dc) c_dc, .slice a_dd (List.length dd) c_dd, .slice a_de (List.length de) c_de, .slice a_df (List.length df) c_df, .slice a_dg (List.length dg) c_dg, uv16 dh] 39] → G 37 #[true, true, true, true, true, true, true, true, true, false, false, false, false, false, false, false, false, false, false, false, false, false, false, false, false, false, false, false, false, false, false, false, false, false, false, false, false, false, false, false, false, false, false, false, false, false] ac wo := by
   intro ac3048 wo3049 pa2683 pc2684 En3050 Hv3051
   refine h_from hG ?_
   refine q_t 9 ?_
   refine op_str (d := some 84) (src := 23) (dst := 9) (e := 5) (ao := pa2683) (cap := pc2684) (p := List.length (dpskP (List.map puPsk df))) (bs := dpskP (List.map puPsk df)) En3050 (by kernel_rfl) rfl (by kernel_rfl) (by kernel_rfl) (by kernel_rfl) (Hv3051.heap.reads (k := 0) rfl) (bys_vnz Hv3051.heap (k := 0) rfl) ?_
   intro ac3052 En3053
   refine ⟨fun _ => Hv3051.pk [1], ?_⟩
   refine q_s [10,11,12,13] [(10, g_v (show (.bool (ByteArray.toList (bstr (pskP (List.map puPsk df))) == ByteArray.toList (bstr (dpskP (List.map puPsk df)))) : Value) = .bool true by rw [Go.Dbr.bstr_eq (pskP (List.map puPsk df)) (dpskP (List.map puPsk df)), show ((pskP (List.map puPsk df)) == (dpskP (List.map puPsk df))) = true from (by rw [psk_eq]; exact beq_self_eq_true _)] <;> rfl))] 32 En3053 (Hv3051.pk [1]) fun ac3054 En3055 => ?_
   refine q_l 0 14 En3055 (Hv3051.pk [1]) fun ac3056 En3057 => ?_
   refine q_s [17] [] 30 En3057 (Hv3051.pk [1]) fun ac3058 En3059 => ?_
   refine q_l 0 18 En3059 (Hv3051.pk [1]) fun ac3060 En3061 => ?_
   refine q_t 15 ?_
   refine c_0 En3061 Hv3051 (pcookie_go _ a_dd c_dd dd ((i_dd.ev Hv3051).pick [] (by kernel_rfl))) ?_
   rintro _ wo3065 ⟨pa3062, pc3063, rfl, he3066⟩
   refine ⟨_, _, _, rfl, he3066, rfl, fun ac3068 En3069 Hv3070 => ?_⟩
   refine ⟨fun _ => Hv3070.pk [2], ?_⟩
   refine h_ways [16, 19] (by kernel_rfl) rfl ?_
   refine ⟨?_, ?_, trivial⟩
   ·
    rintro _ rfl
    refine op_str (d := some 91) (src := 23) (dst := 9) (e := 5) (ao := pa3062) (cap := pc3063) (p := List.length (bytP 2 65535 [] dd)) (bs := bytP 2 65535 [] dd) En3069 (by kernel_rfl) rfl (by kernel_rfl) (by kernel_rfl) (by kernel_rfl) (Hv3070.heap.reads (k := 0) rfl) (bys_vnz Hv3070.heap (k := 0) rfl) ?_
    intro ac3071 En3072
    refine ⟨fun _ => Hv3070.pk [2], ?_⟩
    exact h_to hG (by kernel_rfl) (nd2994 _ _ (En3072.sb) (Hv3070.pk [2]))
   ·
    rintro _ rfl
    refine c_0 En3069 Hv3070 (dpcookie_go _ a_dd c_dd dd ((i_dd.ev Hv3070).pick [] (by kernel_rfl))) ?_
    rintro _ wo3076 ⟨pa3073, pc3074, rfl, he3077⟩
    refine ⟨_, _, _, rfl, he3077, rfl, fun ac3079 En3080 Hv3081 => ?_⟩
    refine ⟨fun _ => Hv3081.pk [3], ?_⟩
    exact h_to hG (by kernel_rfl) (nd3038 _ _ pa3062 pc3063 pa3073 pc3074 (En3080.sb) (Hv3081.pk [0, 1, 3]))
  have nd3082 : ∀ (ac : Act) (wo : World) (pa2402 : _) (pc2403 : _), Env ac 172 [(1, pt bk1), (2, .bool false), (3, .bool true), (4, .bool true), (76, .bool true), (79, .slice pa2402 (List.length (pskP (List.map puPsk df))) pc2403), (84, .string (bstr (dpskP (List.map puPsk df))))] → Ev w [] wo [.vec pa2402 pc2403 1 (bys (pskP (List.map puPsk df))) 5, .box bk1 [.string (bstr da), .slice a_db (List.length db) c_db, .slice a_dc (List.length dc) c_dc, .slice a_dd (List.length dd) c_dd, .slice a_de (List.length de) c_de, .slice a_df (List.length df) c_df, .slice a_dg (List.length dg) c_dg, uv16 dh] 39] → G 37 #[true, true, true, true, true, false, true, true, true, true, false, false, false, false, false, false, false, false, false, false, false, false, false, false, false, false, false, false, false, false, false, false, false, false, false, false, false, false, false, false, false, false, false, false, false, false] ac wo := by
   intro ac3083 wo3084 pa2402 pc2403 En3085 Hv3086
   refine h_from hG ?_
   refine q_t 5 ?_
   refine op_str (d := some 80) (src := 23) (dst := 9) (e := 5) (ao := pa2402) (cap := pc2403) (p := List.length (pskP (List.map puPsk df))) (bs := pskP (List.map puPsk df)) En3085 (by kernel_rfl) rfl (by kernel_rfl) (by kernel_rfl) (by kernel_rfl) (Hv3086.heap.reads (k := 0) rfl) (bys_vnz Hv3086.heap (k := 0) rfl) ?_
   intro ac3087 En3088
   refine ⟨fun _ => Hv3086.pk [1], ?_⟩
   refine q_s [10,11,12,13] [(10, g_v (show (.bool (ByteArray.toList (bstr (pskP (List.map puPsk df))) == ByteArray.toList (bstr (dpskP (List.map puPsk df)))) : Value) = .bool true by rw [Go.Dbr.bstr_eq (pskP (List.map puPsk df)) (dpskP (List.map puPsk df)), show ((pskP (List.map puPsk df)) == (dpskP (List.map puPsk df))) = true from (by rw [psk_eq]; exact beq_self_eq_true _)] <;> rfl))] 32 En3088 (Hv3086.pk [1]) fun ac3089 En3090 => ?_
   refine q_l 0 14 En3090 (Hv3086.pk [1]) fun ac3091 En3092 => ?_
   refine q_s [17] [] 30 En3092 (Hv3086.pk [1]) fun ac3093 En3094 => ?_
   refine q_l 0 18 En3094 (Hv3086.pk [1]) fun ac3095 En3096 => ?_
   refine q_t 15 ?_
   refine c_0 En3096 Hv3086 (pcookie_go _ a_dd c_dd dd ((i_dd.ev Hv3086).pick [] (by kernel_rfl))) ?_
   rintro _ wo3100 ⟨pa3097, pc3098, rfl, he3101⟩
   refine ⟨_, _, _, rfl, he3101, rfl, fun ac3103 En3104 Hv3105 => ?_⟩
   refine ⟨fun _ => Hv3105.pk [2], ?_⟩
   refine h_ways [16, 19] (by kernel_rfl) rfl ?_
   refine ⟨?_, ?_, trivial⟩
   ·
    rintro _ rfl
    refine op_str (d := some 91) (src := 23) (dst := 9) (e := 5) (ao := pa3097) (cap := pc3098) (p := List.length (bytP 2 65535 [] dd)) (bs := bytP 2 65535 [] dd) En3104 (by kernel_rfl) rfl (by kernel_rfl) (by kernel_rfl) (by kernel_rfl) (Hv3105.heap.reads (k := 0) rfl) (bys_vnz Hv3105.heap (k := 0) rfl) ?_
    intro ac3106 En3107
    refine ⟨fun _ => Hv3105.pk [2], ?_⟩
    exact h_to hG (by kernel_rfl) (nd2994 _ _ (En3107.sb) (Hv3105.pk [2]))
   ·
    rintro _ rfl
    refine c_0 En3104 Hv3105 (dpcookie_go _ a_dd c_dd dd ((i_dd.ev Hv3105).pick [] (by kernel_rfl))) ?_
    rintro _ wo3111 ⟨pa3108, pc3109, rfl, he3112⟩
    refine ⟨_, _, _, rfl, he3112, rfl, fun ac3114 En3115 Hv3116 => ?_⟩
    refine ⟨fun _ => Hv3116.pk [3], ?_⟩
    exact h_to hG (by kernel_rfl) (nd3038 _ _ pa3097 pc3098 pa3108 pc3109 (En3115.sb) (Hv3116.pk [0, 1, 3]))
  have nd3117 : ∀ (ac : Act) (wo : World), Env ac 172 [(1, pt bk1), (2, .bool false), (3, .bool true), (4, .bool true), (76, .bool true), (80, .string (bstr (pskP (List.map puPsk df)))), (82, .slice a_df (List.length df) c_df)] → Ev w [] wo [.box bk1 [.string (bstr da), .slice a_db (List.length db) c_db, .slice a_dc (List.length dc) c_dc, .slice a_dd (List.length dd) c_dd, .slice a_de (List.length de) c_de, .slice a_df (List.length df) c_df, .slice a_dg (List.length dg) c_dg, uv16 dh] 39] → G 38 #[true, true, true, true, true, true, true, true, false, false, false, false, false, false, false, false, false, false, false, false, false, false, false, false, false, false, false, false, false, false, false, false, false, false, false, false, false, false, false, false, false, false, false, false, false, false] ac wo := by
   intro ac3118 wo3119 En3120 Hv3121
   refine h_from hG ?_
   refine q_t 8 ?_
   refine c_0 En3120 Hv3121 (dppsks_go _ a_df c_df df (i_df.go Hv3121 [] (by kernel_rfl) (fun _ h => ⟨(InB.ev h.1 Hv3121).pick [] (by kernel_rfl), h.2.1, (InB.ev h.2.2.1 Hv3121).pick [] (by kernel_rfl), h.2.2.2⟩)) (by assumption) (by assumption)) ?_
   rintro _ wo3125 ⟨pa3122, pc3123, rfl, he3126⟩
   refine ⟨_, _, _, rfl, he3126, rfl, fun ac3128 En3129 Hv3130 => ?_⟩
   refine ⟨fun _ => Hv3130.pk [1], ?_⟩
   refine q_t 9 ?_
   refine op_str (d := some 84) (src := 23) (dst := 9) (e := 5) (ao := pa3122) (cap := pc3123) (p := List.length (dpskP (List.map puPsk df))) (bs := dpskP (List.map puPsk df)) En3129 (by kernel_rfl) rfl (by kernel_rfl) (by kernel_rfl) (by kernel_rfl) (Hv3130.heap.reads (k := 0) rfl) (bys_vnz Hv3130.heap (k := 0) rfl) ?_
   intro ac3131 En3132
   refine ⟨fun _ => Hv3130.pk [1], ?_⟩
   refine q_s [10,11,12,13] [(10, g_v (show (.bool (ByteArray.toList (bstr (pskP (List.map puPsk df))) == ByteArray.toList (bstr (dpskP (List.map puPsk df)))) : Value) = .bool true by rw [Go.Dbr.bstr_eq (pskP (List.map puPsk df)) (dpskP (List.map puPsk df)), show ((pskP (List.map puPsk df)) == (dpskP (List.map puPsk df))) = true from (by rw [psk_eq]; exact beq_self_eq_true _)] <;> rfl))] 32 En3132 (Hv3130.pk [1]) fun ac3133 En3134 => ?_
   refine q_l 0 14 En3134 (Hv3130.pk [1]) fun ac3135 En3136 => ?_
   refine q_s [17] [] 30 En3136 (Hv3130.pk [1]) fun ac3137 En3138 => ?_
   refine q_l 0 18 En3138 (Hv3130.pk [1]) fun ac3139 En3140 => ?_
   refine q_t 15 ?_
   refine c_0 En3140 Hv3130 (pcookie_go _ a_dd c_dd dd ((i_dd.ev Hv3130).pick [] (by kernel_rfl))) ?_
   rintro _ wo3144 ⟨pa3141, pc3142, rfl, he3145⟩
   refine ⟨_, _, _, rfl, he3145, rfl, fun ac3147 En3148 Hv3149 => ?_⟩
   refine ⟨fun _ => Hv3149.pk [2], ?_⟩
   refine h_ways [16, 19] (by kernel_rfl) rfl ?_
   refine ⟨?_, ?_, trivial⟩
   ·
    rintro _ rfl
    refine op_str (d := some 91) (src := 23) (dst := 9) (e := 5) (ao := pa3141) (cap := pc3142) (p := List.length (bytP 2 65535 [] dd)) (bs := bytP 2 65535 [] dd) En3148 (by kernel_rfl) rfl (by kernel_rfl) (by kernel_rfl) (by kernel_rfl) (Hv3149.heap.reads (k := 0) rfl) (bys_vnz Hv3149.heap (k := 0) rfl) ?_
    intro ac3150 En3151
    refine ⟨fun _ => Hv3149.pk [2], ?_⟩
    exact h_to hG (by kernel_rfl) (nd2994 _ _ (En3151.sb) (Hv3149.pk [2]))
   ·
    rintro _ rfl
    refine c_0 En3148 Hv3149 (dpcookie_go _ a_dd c_dd dd ((i_dd.ev Hv3149).pick [] (by kernel_rfl))) ?_
    rintro _ wo3155 ⟨pa3152, pc3153, rfl, he3156⟩
    refine ⟨_, _, _, rfl, he3156, rfl, fun ac3158 En3159 Hv3160 => ?_⟩
    refine ⟨fun _ => Hv3160.pk [3], ?_⟩
    exact h_to hG (by kernel_rfl) (nd3038 _ _ pa3141 pc3142 pa3152 pc3153 (En3159.sb) (Hv3160.pk [0, 1, 3]))
  have nd3161 : ∀ (ac : Act) (wo : World) (pa2402 : _) (pc2403 : _) (pa2683 : _) (pc2684 : _), Env ac 172 [(1, pt bk1), (2, .bool false), (3, .bool true), (4, .bool true), (76, .bool true), (79, .slice pa2402 (List.length (pskP (List.map puPsk df))) pc2403), (83, .slice pa2683 (List.length (dpskP (List.map puPsk df))) pc2684)] → Ev w [] wo [.vec pa2683 pc2684 1 (bys (dpskP (List.map puPsk df))) 5, .vec pa2402 pc2403 1 (bys (pskP (List.map puPsk df))) 5, .box bk1 [.string (bstr da), .slice a_db (List.length db) c_db, .slice a_dc (List.length dc) c_dc, .slice a_dd (List.length dd) c_dd, .slice a_de (List.length de) c_de, .slice a_df (List.length df) c_df, .slice a_dg (List.length dg) c_dg, uv16 dh] 39] → G 38 #[true, true, true, true, true, false, true, true, true, false, false, false, false, false, false, false, false, false, false, false, false, false, false, false, false, false, false, false, false, false, false, false, false, false, false, false, false, false, false, false, false, false, false, false, false, false] ac wo := by
   intro ac3162 wo3163 pa2402 pc2403 pa2683 pc2684 En3164 Hv3165
   refine h_from hG ?_
   refine h_ways [5, 9] (by kernel_rfl) rfl ?_
   refine ⟨?_, ?_, trivial⟩
   ·
    rintro _ rfl
    refine op_str (d := some 80) (src := 23) (dst := 9) (e := 5) (ao := pa2402) (cap := pc2403) (p := List.length (pskP (List.map puPsk df))) (bs := pskP (List.map puPsk df)) En3164 (by kernel_rfl) rfl (by kernel_rfl) (by kernel_rfl) (by kernel_rfl) (Hv3165.heap.reads (k := 1) rfl) (bys_vnz Hv3165.heap (k := 1) rfl) ?_
    intro ac3166 En3167
    refine ⟨fun _ => Hv3165.pk [2], ?_⟩
    exact h_to hG (by kernel_rfl) (nd3047 _ _ pa2683 pc2684 (En3167.sb) (Hv3165.pk [0, 2]))
   ·
    rintro _ rfl
    refine op_str (d := some 84) (src := 23) (dst := 9) (e := 5) (ao := pa2683) (cap := pc2684) (p := List.length (dpskP (List.map puPsk df))) (bs := dpskP (List.map puPsk df)) En3164 (by kernel_rfl) rfl (by kernel_rfl) (by kernel_rfl) (by kernel_rfl) (Hv3165.heap.reads (k := 0) rfl) (bys_vnz Hv3165.heap (k := 0) rfl) ?_
    intro ac3168 En3169
    refine ⟨fun _ => Hv3165.pk [2], ?_⟩
    exact h_to hG (by kernel_rfl) (nd3082 _ _ pa2402 pc2403 (En3169.sb) (Hv3165.pk [1, 2]))
  refine h_from hG ?_
  refine q_s [0,1,2] [] 43 En1905 (wo1907.pk [0]) fun ac3170 En3171 => ?_
  refine q_l 0 3 En3171 (wo1907.pk [0]) fun ac3172 En3173 => ?_
  refine q_s [6] [] 41 En3173 (wo1907.pk [0]) fun ac3174 En3175 => ?_
  refine q_l 0 7 En3175 (wo1907.pk [0]) fun ac3176 En3177 => ?_
  refine q_t 4 ?_
  refine c_0 En3177 wo1907 (ppsks_go _ a_df c_df df (i_df.go wo1907 [] (by kernel_rfl) (fun _ h => ⟨(InB.ev h.1 wo1907).pick [] (by kernel_rfl), h.2.1, (InB.ev h.2.2.1 wo1907).pick [] (by kernel_rfl), h.2.2.2⟩)) (by assumption) (by assumption)) ?_
  rintro _ wo3181 ⟨pa3178, pc3179, rfl, he3182⟩
  refine ⟨_, _, _, rfl, he3182, rfl, fun ac3184 En3185 Hv3186 => ?_⟩
  refine ⟨fun _ => Hv3186.pk [1], ?_⟩
  refine h_ways [5, 8] (by kernel_rfl) rfl ?_
  refine ⟨?_, ?_, trivial⟩
  ·
   rintro _ rfl
   refine op_str (d := some 80) (src := 23) (dst := 9) (e := 5) (ao := pa3178) (cap := pc3179) (p := List.length (pskP (List.map puPsk df))) (bs := pskP (List.map puPsk df)) En3185 (by kernel_rfl) rfl (by kernel_rfl) (by kernel_rfl) (by kernel_rfl) (Hv3186.heap.reads (k := 0) rfl) (bys_vnz Hv3186.heap (k := 0) rfl) ?_
   intro ac3187 En3188
   refine ⟨fun _ => Hv3186.pk [1], ?_⟩
   exact h_to hG (by kernel_rfl) (nd3117 _ _ (En3188.sb) (Hv3186.pk [1]))
  ·
   rintro _ rfl
   refine c_0 En3185 Hv3186 (dppsks_go _ a_df c_df df (i_df.go Hv3186 [] (by kernel_rfl) (fun _ h => ⟨(InB.ev h.1 Hv3186).pick [] (by kernel_rfl), h.2.1, (InB.ev h.2.2.1 Hv3186).pick [] (by kernel_rfl), h.2.2.2⟩)) (by assumption) (by assumption)) ?_
   rintro _ wo3192 ⟨pa3189, pc3190, rfl, he3193⟩
   refine ⟨_, _, _, rfl, he3193, rfl, fun ac3195 En3196 Hv3197 => ?_⟩
   refine ⟨fun _ => Hv3197.pk [2], ?_⟩
   exact h_to hG (by kernel_rfl) (nd3161 _ _ pa3178 pc3179 pa3189 pc3190 (En3196.sb) (Hv3197.pk [0, 1, 2]))
 rintro ac3198 wo3199 ⟨En3200, Hv3201⟩
 refine then_normal ?_
 refine wp_seq ?_
 refine wp_seq ?_
 refine region_from ?_
 refine d_k [1,2,3,4,120] [] 1 En3200 fun ac3202 En3203 => ?_
 refine f_o ?_
 refine m_l 0 En3203 Hv3201 fun ac3204 En3205 => ?_
 refine d_e [1,2,3,4,123] [] En3205 fun ac3206 En3207 => ?_
 refine then_normal ?_
 refine c_d (((List.length de : Nat) : Int) > (0 : Int)) En3207 (fun hc3208 => ?_) (fun hc3208 => ?_)
 ·
  have hze := i_de.small
  have hb3209 : 0 < List.length de := by omega
  obtain ⟨⟨x3211a, ⟨a_x3211b, c_x3211b, x3211b⟩, _⟩, hx3210⟩ : ∃ x, (de)[0]? = some x := ⟨_, List.getElem?_eq_getElem hb3209⟩
  obtain ⟨_, i_x3211b, _⟩ := i_de.each _ (List.mem_of_getElem? hx3210)
  replace i_x3211b : InB w [] a_x3211b c_x3211b x3211b := i_x3211b
  obtain ⟨ade, hade⟩ := some_of i_de.nz (show 0 < List.length de by omega)
  refine r_c (fun ac wo => Env ac 172 [(1, pt bk1), (2, .bool false), (3, .bool true), (4, .bool true)] ∧ Ev w [] wo [.box bk1 [.string (bstr da), .slice a_db (List.length db) c_db, .slice a_dc (List.length dc) c_dc, .slice a_dd (List.length dd) c_dd, .slice a_de (List.length de) c_de, .slice a_df (List.length df) c_df, .slice a_dg (List.length dg) c_dg, uv16 dh] 39]) ?_ ?_
  ·
   refine h_s (fun wv => Ev w [] wv [.box bk1 [.string (bstr da), .slice a_db (List.length db) c_db, .slice a_dc (List.length dc) c_dc, .slice a_dd (List.length dd) c_dd, .slice a_de (List.length de) c_de, .slice a_df (List.length df) c_df, .slice a_dg (List.length dg) c_dg, uv16 dh] 39]) [] 17 ?_
   have wo3212 := Hv3201.trans (Ev.drew Hv3201.heap)
   refine h_name fun G hG => ?_
   have nd3521 : ∀ (ac : Act) (wo : World) (pa3500 : _) (pc3501 : _), Env ac 172 [(1, pt bk1), (2, .bool false), (3, .bool true), (4, .bool true), (125, .bool true), (131, .string (bstr (shP (x3211a, x3211b)))), (136, .slice pa3500 (List.length (dshP (x3211a, x3211b))) pc3501)] → Ev w [] wo [.vec pa3500 pc3501 1 (bys (dshP (x3211a, x3211b))) 5, .box bk1 [.string (bstr da), .slice a_db (List.length db) c_db, .slice a_dc (List.length dc) c_dc, .slice a_dd (List.length dd) c_dd, .slice a_de (List.length de) c_de, .slice a_df (List.length df) c_df, .slice a_dg (List.length dg) c_dg, uv16 dh] 39] → G 4 #[true, true, true, true, true, true, true, true, true, true, true, true, true, false, false, false, false] ac wo := by
    intro ac3522 wo3523 pa3500 pc3501 En3524 Hv3525
    refine h_from hG ?_
    refine q_t 13 ?_
    refine op_str (d := some 137) (src := 23) (dst := 9) (e := 5) (ao := pa3500) (cap := pc3501) (p := List.length (dshP (x3211a, x3211b))) (bs := dshP (x3211a, x3211b)) En3524 (by kernel_rfl) rfl (by kernel_rfl) (by kernel_rfl) (by kernel_rfl) (Hv3525.heap.reads (k := 0) rfl) (bys_vnz Hv3525.heap (k := 0) rfl) ?_
    intro ac3526 En3527
    refine ⟨fun _ => Hv3525.pk [1], ?_⟩
    refine q_s [14,15,16] [(14, g_v (show (.bool (ByteArray.toList (bstr (shP (x3211a, x3211b))) == ByteArray.toList (bstr (dshP (x3211a, x3211b)))) : Value) = .bool true by rw [Go.Dbr.bstr_eq (shP (x3211a, x3211b)) (dshP (x3211a, x3211b)), show ((shP (x3211a, x3211b)) == (dshP (x3211a, x3211b))) = true from (by rw [share_eq]; exact beq_self_eq_true _)] <;> rfl))] 0 En3527 (Hv3525.pk [1]) fun ac3528 En3529 => ?_
    exact h_e ⟨En3529.sb, Hv3525.pk [1]⟩
   have nd3530 : ∀ (ac : Act) (wo : World) (pa3476 : _) (pc3477 : _), Env ac 172 [(1, pt bk1), (2, .bool false), (3, .bool true), (4, .bool true), (125, .bool true), (130, .slice pa3476 (List.length (shP (x3211a, x3211b))) pc3477), (137, .string (bstr (dshP (x3211a, x3211b))))] → Ev w [] wo [.vec pa3476 pc3477 1 (bys (shP (x3211a, x3211b))) 5, .box bk1 [.string (bstr da), .slice a_db (List.length db) c_db, .slice a_dc (List.length dc) c_dc, .slice a_dd (List.length dd) c_dd, .slice a_de (List.length de) c_de, .slice a_df (List.length df) c_df, .slice a_dg (List.length dg) c_dg, uv16 dh] 39] → G 4 #[true, true, true, true, true, true, true, false, true, true, true, true, true, true, false, false, false] ac wo := by
    intro ac3531 wo3532 pa3476 pc3477 En3533 Hv3534
    refine h_from hG ?_
    refine q_t 7 ?_
    refine op_str (d := some 131) (src := 23) (dst := 9) (e := 5) (ao := pa3476) (cap := pc3477) (p := List.length (shP (x3211a, x3211b))) (bs := shP (x3211a, x3211b)) En3533 (by kernel_rfl) rfl (by kernel_rfl) (by kernel_rfl) (by kernel_rfl) (Hv3534.heap.reads (k := 0) rfl) (bys_vnz Hv3534.heap (k := 0) rfl) ?_
    intro ac3535 En3536
    refine ⟨fun _ => Hv3534.pk [1], ?_⟩
    refine q_s [14,15,16] [(14, g_v (show (.bool (ByteArray.toList (bstr (shP (x3211a, x3211b))) == ByteArray.toList (bstr (dshP (x3211a, x3211b)))) : Value) = .bool true by rw [Go.Dbr.bstr_eq (shP (x3211a, x3211b)) (dshP (x3211a, x3211b)), show ((shP (x3211a, x3211b)) == (dshP (x3211a, x3211b))) = true from (by rw [share_eq]; exact beq_self_eq_true _)] <;> rfl))] 0 En3536 (Hv3534.pk [1]) fun ac3537 En3538 => ?_
    exact h_e ⟨En3538.sb, Hv3534.pk [1]⟩
   have nd3539 : ∀ (ac : Act) (wo : World), Env ac 172 [(1, pt bk1), (2, .bool false), (3, .bool true), (4, .bool true), (125, .bool true), (131, .string (bstr (shP (x3211a, x3211b)))), (135, .agg #[uv16 x3211a, .slice a_x3211b (List.length x3211b) c_x3211b])] → Ev w [] wo [.box bk1 [.string (bstr da), .slice a_db (List.length db) c_db, .slice a_dc (List.length dc) c_dc, .slice a_dd (List.length dd) c_dd, .slice a_de (List.length de) c_de, .slice a_df (List.length df) c_df, .slice a_dg (List.length dg) c_dg, uv16 dh] 39] → G 5 #[true, true, true, true, true, true, true, true, true, true, true, true, false, false, false, false, false] ac wo := by
    intro ac3540 wo3541 En3542 Hv3543
    refine h_from hG ?_
    refine q_t 12 ?_
    refine c_0 En3542 Hv3543 (dpshare_go _ x3211a a_x3211b c_x3211b x3211b ((i_x3211b.ev Hv3543).pick [] (by kernel_rfl))) ?_
    rintro _ wo3547 ⟨pa3544, pc3545, rfl, he3548⟩
    refine ⟨_, _, _, rfl, he3548, rfl, fun ac3550 En3551 Hv3552 => ?_⟩
    refine ⟨fun _ => Hv3552.pk [1], ?_⟩
    refine q_t 13 ?_
    refine op_str (d := some 137) (src := 23) (dst := 9) (e := 5) (ao := pa3544) (cap := pc3545) (p := List.length (dshP (x3211a, x3211b))) (bs := dshP (x3211a, x3211b)) En3551 (by kernel_rfl) rfl (by kernel_rfl) (by kernel_rfl) (by kernel_rfl) (Hv3552.heap.reads (k := 0) rfl) (bys_vnz Hv3552.heap (k := 0) rfl) ?_
    intro ac3553 En3554
    refine ⟨fun _ => Hv3552.pk [1], ?_⟩
    refine q_s [14,15,16] [(14, g_v (show (.bool (ByteArray.toList (bstr (shP (x3211a, x3211b))) == ByteArray.toList (bstr (dshP (x3211a, x3211b)))) : Value) = .bool true by rw [Go.Dbr.bstr_eq (shP (x3211a, x3211b)) (dshP (x3211a, x3211b)), show ((shP (x3211a, x3211b)) == (dshP (x3211a, x3211b))) = true from (by rw [share_eq]; exact beq_self_eq_true _)] <;> rfl))] 0 En3554 (Hv3552.pk [1]) fun ac3555 En3556 => ?_
    exact h_e ⟨En3556.sb, Hv3552.pk [1]⟩
   have nd3557 : ∀ (ac : Act) (wo : World) (pa3476 : _) (pc3477 : _) (pa3500 : _) (pc3501 : _), Env ac 172 [(1, pt bk1), (2, .bool false), (3, .bool true), (4, .bool true), (125, .bool true), (130, .slice pa3476 (List.length (shP (x3211a, x3211b))) pc3477), (136, .slice pa3500 (List.length (dshP (x3211a, x3211b))) pc3501)] → Ev w [] wo [.vec pa3500 pc3501 1 (bys (dshP (x3211a, x3211b))) 5, .vec pa3476 pc3477 1 (bys (shP (x3211a, x3211b))) 5, .box bk1 [.string (bstr da), .slice a_db (List.length db) c_db, .slice a_dc (List.length dc) c_dc, .slice a_dd (List.length dd) c_dd, .slice a_de (List.length de) c_de, .slice a_df (List.length df) c_df, .slice a_dg (List.length dg) c_dg, uv16 dh] 39] → G 5 #[true, true, true, true, true, true, true, false, true, true, true, true, true, false, false, false, false] ac wo := by
    intro ac3558 wo3559 pa3476 pc3477 pa3500 pc3501 En3560 Hv3561
    refine h_from hG ?_
    refine h_ways [7, 13] (by kernel_rfl) rfl ?_
    refine ⟨?_, ?_, trivial⟩
    ·
     rintro _ rfl
     refine op_str (d := some 131) (src := 23) (dst := 9) (e := 5) (ao := pa3476) (cap := pc3477) (p := List.length (shP (x3211a, x3211b))) (bs := shP (x3211a, x3211b)) En3560 (by kernel_rfl) rfl (by kernel_rfl) (by kernel_rfl) (by kernel_rfl) (Hv3561.heap.reads (k := 1) rfl) (bys_vnz Hv3561.heap (k := 1) rfl) ?_
     intro ac3562 En3563
     refine ⟨fun _ => Hv3561.pk [2], ?_⟩
     exact h_to hG (by kernel_rfl) (nd3521 _ _ pa3500 pc3501 (En3563.sb) (Hv3561.pk [0, 2]))
    ·
     rintro _ rfl
     refine op_str (d := some 137) (src := 23) (dst := 9) (e := 5) (ao := pa3500) (cap := pc3501) (p := List.length (dshP (x3211a, x3211b))) (bs := dshP (x3211a, x3211b)) En3560 (by kernel_rfl) rfl (by kernel_rfl) (by kernel_rfl) (by kernel_rfl) (Hv3561.heap.reads (k := 0) rfl) (bys_vnz Hv3561.heap (k := 0) rfl) ?_
     intro ac3564 En3565
     refine ⟨fun _ => Hv3561.pk [2], ?_⟩
     exact h_to hG (by kernel_rfl) (nd3530 _ _ pa3476 pc3477 (En3565.sb) (Hv3561.pk [1, 2]))
   refine h_from hG ?_
   refine q_s [0,1,2] [] 14 En3207 (wo3212.pk [0]) fun ac3566 En3567 => ?_
   refine q_l 0 3 En3567 (wo3212.pk [0]) fun ac3568 En3569 => ?_
   have hb3572 : 0 < List.length de := (by omega)
   refine q_f 4 (s := Instr.indexAt 34 (.slice a_de (List.length de) c_de) (.int .i64 0)) (v := .pointer (some (Addr.add ade (0 * 2)))) En3569 (fun _ => Go.Dbr.run_indexsl (e := 49) (sz := 2) (j := 0) (jo := 0 * 2) hade (by kernel_rfl) (by kernel_rfl) (by omega) hb3572 rfl _) (fun _ => wo3212.pk [0]) fun ac3573 En3574 => ?_
   refine q_r 5 (s := Instr.loadAt 49 (.pointer (some (Addr.add ade (0 * 2))))) (v := .agg #[uv16 x3211a, .slice a_x3211b (List.length x3211b) c_x3211b]) En3574 (fun w hS => run_loadaggat (ad := ade) (o := 0 * 2) (m := 2) (xs := [uv16 x3211a, .slice a_x3211b (List.length x3211b) c_x3211b]) rfl (i_de.ro.ev hS).reads hade (fun j hj => flat_sub (sz := 2) (off := 0) (m := 2) (fun _ _ => rfl) hx3210 (by decide) rfl j hj) rfl (by kernel_rfl) (by kernel_rfl)) (wo3212.pk [0]) fun ac3575 En3576 => ?_
   refine q_s [8] [] 10 En3576 (wo3212.pk [0]) fun ac3577 En3578 => ?_
   refine q_l 0 9 En3578 (wo3212.pk [0]) fun ac3579 En3580 => ?_
   have hb3583 : 0 < List.length de := (by omega)
   refine q_f 10 (s := Instr.indexAt 34 (.slice a_de (List.length de) c_de) (.int .i64 0)) (v := .pointer (some (Addr.add ade (0 * 2)))) En3580 (fun _ => Go.Dbr.run_indexsl (e := 49) (sz := 2) (j := 0) (jo := 0 * 2) hade (by kernel_rfl) (by kernel_rfl) (by omega) hb3583 rfl _) (fun _ => wo3212.pk [0]) fun ac3584 En3585 => ?_
   refine q_r 11 (s := Instr.loadAt 49 (.pointer (some (Addr.add ade (0 * 2))))) (v := .agg #[uv16 x3211a, .slice a_x3211b (List.length x3211b) c_x3211b]) En3585 (fun w hS => run_loadaggat (ad := ade) (o := 0 * 2) (m := 2) (xs := [uv16 x3211a, .slice a_x3211b (List.length x3211b) c_x3211b]) rfl (i_de.ro.ev hS).reads hade (fun j hj => flat_sub (sz := 2) (off := 0) (m := 2) (fun _ _ => rfl) hx3210 (by decide) rfl j hj) rfl (by kernel_rfl) (by kernel_rfl)) (wo3212.pk [0]) fun ac3586 En3587 => ?_
   refine q_t 6 ?_
   refine c_0 En3587 wo3212 (pshare_go _ x3211a a_x3211b c_x3211b x3211b ((i_x3211b.ev wo3212).pick [] (by kernel_rfl))) ?_
   rintro _ wo3591 ⟨pa3588, pc3589, rfl, he3592⟩
   refine ⟨_, _, _, rfl, he3592, rfl, fun ac3594 En3595 Hv3596 => ?_⟩
   refine ⟨fun _ => Hv3596.pk [1], ?_⟩
   refine h_ways [7, 12] (by kernel_rfl) rfl ?_
   refine ⟨?_, ?_, trivial⟩
   ·
    rintro _ rfl
    refine op_str (d := some 131) (src := 23) (dst := 9) (e := 5) (ao := pa3588) (cap := pc3589) (p := List.length (shP (x3211a, x3211b))) (bs := shP (x3211a, x3211b)) En3595 (by kernel_rfl) rfl (by kernel_rfl) (by kernel_rfl) (by kernel_rfl) (Hv3596.heap.reads (k := 0) rfl) (bys_vnz Hv3596.heap (k := 0) rfl) ?_
    intro ac3597 En3598
    refine ⟨fun _ => Hv3596.pk [1], ?_⟩
    exact h_to hG (by kernel_rfl) (nd3539 _ _ (En3598.sb) (Hv3596.pk [1]))
   ·
    rintro _ rfl
    refine c_0 En3595 Hv3596 (dpshare_go _ x3211a a_x3211b c_x3211b x3211b ((i_x3211b.ev Hv3596).pick [] (by kernel_rfl))) ?_
    rintro _ wo3602 ⟨pa3599, pc3600, rfl, he3603⟩
    refine ⟨_, _, _, rfl, he3603, rfl, fun ac3605 En3606 Hv3607 => ?_⟩
    refine ⟨fun _ => Hv3607.pk [2], ?_⟩
    exact h_to hG (by kernel_rfl) (nd3557 _ _ pa3588 pc3589 pa3599 pc3600 (En3606.sb) (Hv3607.pk [0, 1, 2]))
  rintro ac3608 wo3609 ⟨En3610, Hv3611⟩
  refine then_normal ?_
  refine wp_seq ?_
  refine region_from ?_
  refine d_k [1,2,3,4,141] [] 1 En3610 fun ac3612 En3613 => ?_
  refine f_o ?_
  refine m_l 0 En3613 Hv3611 fun ac3614 En3615 => ?_
  refine d_k [1,2,3,4,142,143] [] 3 En3615 fun ac3616 En3617 => ?_
  refine f_o ?_
  refine m_l 0 En3617 Hv3611 fun ac3618 En3619 => ?_
  refine f_o ?_
  refine c_0 En3619 Hv3611 (find_go _ a_dg c_dg dg (i_dg.go Hv3611 [] (by kernel_rfl) (fun _ h => ⟨h.1, (InB.ev h.2.1 Hv3611).pick [] (by kernel_rfl), h.2.2⟩)) dh) ?_
  rintro _ wo3623 ⟨pa3620, pc3621, rfl, he3624⟩
  refine ⟨_, _, _, rfl, he3624, rfl, fun ac3626 En3627 Hv3628 => ?_⟩
  refine d_e [1,2,3,4,5,6] [] En3627 fun ac3629 En3630 => ?_
  refine then_normal ?_
  refine wp_seq ?_
  refine region_from ?_
  refine d_k [1,2,3,4,5,6,149] [] 1 En3630 fun ac3631 En3632 => ?_
  refine f_o ?_
  refine m_l 1 En3632 Hv3628 fun ac3633 En3634 => ?_
  refine d_k [1,2,3,4,5,6,150,151] [] 3 En3634 fun ac3635 En3636 => ?_
  refine f_o ?_
  refine m_l 1 En3636 Hv3628 fun ac3637 En3638 => ?_
  refine f_o ?_
  refine c_0 En3638 Hv3628 (dfind_go _ a_dg c_dg dg (i_dg.go Hv3628 [] (by kernel_rfl) (fun _ h => ⟨h.1, (InB.ev h.2.1 Hv3628).pick [] (by kernel_rfl), h.2.2⟩)) dh) ?_
  rintro _ wo3642 ⟨pa3639, pc3640, rfl, he3643⟩
  refine ⟨_, _, _, rfl, he3643, rfl, fun ac3645 En3646 Hv3647 => ?_⟩
  refine d_e [1,2,3,4,5,6,7,8] [] En3646 fun ac3648 En3649 => ?_
  refine then_normal ?_
  refine wp_seq ?_
  refine region_from ?_
  refine d_k [1,2,4,6,7,8,160,161] [] 6 En3649 fun ac3650 En3651 => ?_
  refine f_o ?_
  refine op_str (d := some 162) (src := 23) (dst := 9) (e := 5) (ao := pa3620) (cap := pc3621) (p := List.length (fdP dh (List.map (fun y : RExt => (y.1, y.2.1.l)) dg)).1) (bs := (fdP dh (List.map (fun y : RExt => (y.1, y.2.1.l)) dg)).1) En3651 (by kernel_rfl) (by first | (simp; done) | (simp; omega) | omega) (by kernel_rfl) (by kernel_rfl) (by kernel_rfl) (Hv3647.heap.reads (k := 1) rfl) (fun e => by have h := (bys_vnz Hv3647.heap (k := 1) rfl) e; first | omega | (rw [List.length_take] at h; omega) | (simp at h; omega)) ?_
  intro ac3652 En3653
  refine d_k [1,2,4,6,8,160,162,163] [] 8 En3653 fun ac3654 En3655 => ?_
  refine f_o ?_
  refine op_str (d := some 164) (src := 23) (dst := 9) (e := 5) (ao := pa3639) (cap := pc3640) (p := List.length (fdP dh (List.map (fun y : RExt => (y.1, y.2.1.l)) dg)).1) (bs := (fdP dh (List.map (fun y : RExt => (y.1, y.2.1.l)) dg)).1) En3655 (by kernel_rfl) (by first | (simp; done) | (simp; omega) | omega) (by kernel_rfl) (by kernel_rfl) (by kernel_rfl) (Hv3647.heap.reads (k := 0) rfl) (fun e => by have h := (bys_vnz Hv3647.heap (k := 0) rfl) e; first | omega | (rw [List.length_take] at h; omega) | (simp at h; omega)) ?_
  intro ac3656 En3657
  refine d_e [1,2,4] [(9, g_v (show (.bool (ByteArray.toList (bstr ((fdP dh (List.map (fun y : RExt => (y.1, y.2.1.l)) dg)).1)) == ByteArray.toList (bstr ((fdP dh (List.map (fun y : RExt => (y.1, y.2.1.l)) dg)).1))) : Value) = .bool true by rw [Go.Dbr.bstr_eq ((fdP dh (List.map (fun y : RExt => (y.1, y.2.1.l)) dg)).1) ((fdP dh (List.map (fun y : RExt => (y.1, y.2.1.l)) dg)).1), show (((fdP dh (List.map (fun y : RExt => (y.1, y.2.1.l)) dg)).1) == ((fdP dh (List.map (fun y : RExt => (y.1, y.2.1.l)) dg)).1)) = true from (beq_self_eq_true _)] <;> rfl)), (14, g_b (show (((fdP dh (List.map (fun y : RExt => (y.1, y.2.1.l)) dg)).2) == ((fdP dh (List.map (fun y : RExt => (y.1, y.2.1.l)) dg)).2)) = true from (beq_self_eq_true _)))] En3657 fun ac3658 En3659 => ?_
  refine then_normal ?_
  refine wp_ret ?_
  refine d_ret1 (t := 2) (v := .bool true) En3659 (by kernel_rfl) (by kernel_rfl) ?_
  exact ⟨rfl, Hv3647.pk []⟩
 ·
  refine wp_skip ?_
  refine then_normal ?_
  refine wp_seq ?_
  refine region_from ?_
  refine d_k [1,2,3,4,141] [] 1 En3207 fun ac3660 En3661 => ?_
  refine f_o ?_
  refine m_l 0 En3661 Hv3201 fun ac3662 En3663 => ?_
  refine d_k [1,2,3,4,142,143] [] 3 En3663 fun ac3664 En3665 => ?_
  refine f_o ?_
  refine m_l 0 En3665 Hv3201 fun ac3666 En3667 => ?_
  refine f_o ?_
  refine c_0 En3667 Hv3201 (find_go _ a_dg c_dg dg (i_dg.go Hv3201 [] (by kernel_rfl) (fun _ h => ⟨h.1, (InB.ev h.2.1 Hv3201).pick [] (by kernel_rfl), h.2.2⟩)) dh) ?_
  rintro _ wo3671 ⟨pa3668, pc3669, rfl, he3672⟩
  refine ⟨_, _, _, rfl, he3672, rfl, fun ac3674 En3675 Hv3676 => ?_⟩
  refine d_e [1,2,3,4,5,6] [] En3675 fun ac3677 En3678 => ?_
  refine then_normal ?_
  refine wp_seq ?_
  refine region_from ?_
  refine d_k [1,2,3,4,5,6,149] [] 1 En3678 fun ac3679 En3680 => ?_
  refine f_o ?_
  refine m_l 1 En3680 Hv3676 fun ac3681 En3682 => ?_
  refine d_k [1,2,3,4,5,6,150,151] [] 3 En3682 fun ac3683 En3684 => ?_
  refine f_o ?_
  refine m_l 1 En3684 Hv3676 fun ac3685 En3686 => ?_
  refine f_o ?_
  refine c_0 En3686 Hv3676 (dfind_go _ a_dg c_dg dg (i_dg.go Hv3676 [] (by kernel_rfl) (fun _ h => ⟨h.1, (InB.ev h.2.1 Hv3676).pick [] (by kernel_rfl), h.2.2⟩)) dh) ?_
  rintro _ wo3690 ⟨pa3687, pc3688, rfl, he3691⟩
  refine ⟨_, _, _, rfl, he3691, rfl, fun ac3693 En3694 Hv3695 => ?_⟩
  refine d_e [1,2,3,4,5,6,7,8] [] En3694 fun ac3696 En3697 => ?_
  refine then_normal ?_
  refine wp_seq ?_
  refine region_from ?_
  refine d_k [1,2,4,6,7,8,160,161] [] 6 En3697 fun ac3698 En3699 => ?_
  refine f_o ?_
  refine op_str (d := some 162) (src := 23) (dst := 9) (e := 5) (ao := pa3668) (cap := pc3669) (p := List.length (fdP dh (List.map (fun y : RExt => (y.1, y.2.1.l)) dg)).1) (bs := (fdP dh (List.map (fun y : RExt => (y.1, y.2.1.l)) dg)).1) En3699 (by kernel_rfl) (by first | (simp; done) | (simp; omega) | omega) (by kernel_rfl) (by kernel_rfl) (by kernel_rfl) (Hv3695.heap.reads (k := 1) rfl) (fun e => by have h := (bys_vnz Hv3695.heap (k := 1) rfl) e; first | omega | (rw [List.length_take] at h; omega) | (simp at h; omega)) ?_
  intro ac3700 En3701
  refine d_k [1,2,4,6,8,160,162,163] [] 8 En3701 fun ac3702 En3703 => ?_
  refine f_o ?_
  refine op_str (d := some 164) (src := 23) (dst := 9) (e := 5) (ao := pa3687) (cap := pc3688) (p := List.length (fdP dh (List.map (fun y : RExt => (y.1, y.2.1.l)) dg)).1) (bs := (fdP dh (List.map (fun y : RExt => (y.1, y.2.1.l)) dg)).1) En3703 (by kernel_rfl) (by first | (simp; done) | (simp; omega) | omega) (by kernel_rfl) (by kernel_rfl) (by kernel_rfl) (Hv3695.heap.reads (k := 0) rfl) (fun e => by have h := (bys_vnz Hv3695.heap (k := 0) rfl) e; first | omega | (rw [List.length_take] at h; omega) | (simp at h; omega)) ?_
  intro ac3704 En3705
  refine d_e [1,2,4] [(9, g_v (show (.bool (ByteArray.toList (bstr ((fdP dh (List.map (fun y : RExt => (y.1, y.2.1.l)) dg)).1)) == ByteArray.toList (bstr ((fdP dh (List.map (fun y : RExt => (y.1, y.2.1.l)) dg)).1))) : Value) = .bool true by rw [Go.Dbr.bstr_eq ((fdP dh (List.map (fun y : RExt => (y.1, y.2.1.l)) dg)).1) ((fdP dh (List.map (fun y : RExt => (y.1, y.2.1.l)) dg)).1), show (((fdP dh (List.map (fun y : RExt => (y.1, y.2.1.l)) dg)).1) == ((fdP dh (List.map (fun y : RExt => (y.1, y.2.1.l)) dg)).1)) = true from (beq_self_eq_true _)] <;> rfl)), (14, g_b (show (((fdP dh (List.map (fun y : RExt => (y.1, y.2.1.l)) dg)).2) == ((fdP dh (List.map (fun y : RExt => (y.1, y.2.1.l)) dg)).2)) = true from (beq_self_eq_true _)))] En3705 fun ac3706 En3707 => ?_
  refine then_normal ?_
  refine wp_ret ?_
  refine d_ret1 (t := 2) (v := .bool true) En3707 (by kernel_rfl) (by kernel_rfl) ?_
  exact ⟨rfl, Hv3695.pk []⟩

end Go.Proofs.Ytofecellbfhnjaa
