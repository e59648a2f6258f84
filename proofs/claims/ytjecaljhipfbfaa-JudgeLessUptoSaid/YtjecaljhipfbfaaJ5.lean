/- JudgeLess: its walk. -/
import Derived.Test.YtjecaljhipfbfaaJ4
namespace Go.Proofs.Ytjecaljhipfbfaa
open Go.Dbr
set_option maxRecDepth 100000
set_option maxHeartbeats 2000000
set_option linter.unusedVariables false

theorem begins_take {a b : List UInt8} (n : Nat) (h : begins a b = true) : begins (a.take n) b = true := by
  unfold begins at h ⊢
  simp only [Bool.and_eq_true, decide_eq_true_eq, beq_iff_eq] at h ⊢
  refine ⟨by rw [List.length_take]; omega, ?_⟩
  rw [List.length_take]
  conv => lhs; rw [h.2]
  rw [List.take_take]
theorem begins_more (l : List UInt8) (x : UInt8) : begins (l ++ [x]) l = false := by
  unfold begins
  rw [decide_eq_false (by simp)]
  rfl
theorem relay_zero {h fw fr : List UInt8} {fc fe : Bool} {bw br : List UInt8} {bc be : Bool} (e : relayF h fw fr fc fe bw br bc be = 0) : begins br (h ++ fw) = true ∧ begins fr bw = true := by
  unfold relayF at e
  split at e
  · omega
  · split at e
    · omega
    · rename_i h1 h2
      exact ⟨by simpa using h1, by simpa using h2⟩
theorem less_zero {h fw fr : List UInt8} {fc fe : Bool} {bw br : List UInt8} {bc be : Bool} (e : relayF h fw fr fc fe bw br bc be = 0) (n m : Nat) : relayF h fw (fr.take m) fc false bw (br.take n) bc false = 0 := by
  obtain ⟨h1, h2⟩ := relay_zero e
  unfold relayF
  rw [begins_take n h1, begins_take m h2]
  simp
theorem more_one (h fw fr : List UInt8) (fc fe : Bool) (bw : List UInt8) (bc be : Bool) (x : UInt8) : relayF h fw fr fc fe bw ((h ++ fw) ++ [x]) bc be = 1 := by
  unfold relayF
  rw [begins_more]
  rfl
theorem more_two {h fw fr : List UInt8} {fc fe : Bool} {bw br : List UInt8} {bc be : Bool} (e : relayF h fw fr fc fe bw br bc be = 0) (x : UInt8) : relayF h fw (bw ++ [x]) fc fe bw br bc be = 2 := by
  obtain ⟨h1, _⟩ := relay_zero e
  unfold relayF
  rw [h1, begins_more]
  rfl

theorem less_walk (a_sa : Option Addr) (c_sa : Nat) (sa : List UInt8) (a_sba : Option Addr) (c_sba : Nat) (sba : List UInt8) (a_sbb : Option Addr) (c_sbb : Nat) (sbb : List UInt8) (sbc : Bool) (sbd : Bool) (a_sca : Option Addr) (c_sca : Nat) (sca : List UInt8) (a_scb : Option Addr) (c_scb : Nat) (scb : List UInt8) (scc : Bool) (scd : Bool) (a : UInt8) (b : UInt8) (w : World) (i_sa : InB w [] a_sa c_sa sa) (i_sba : InB w [] a_sba c_sba sba) (i_sbb : InB w [] a_sbb c_sbb sbb) (i_sca : InB w [] a_sca c_sca sca) (i_scb : InB w [] a_scb c_scb scb) (hB : (List.length sa + ((List.length sba + (List.length sbb + (0 + (0 + (0))))) + ((List.length sca + (List.length scb + (0 + (0 + (0))))) + (0)))) ≤ 1048576) : Calls Try.prog 4 #[.agg #[.slice a_sa (List.length sa) c_sa, .slice a_sba (List.length sba) c_sba, .slice a_sbb (List.length sbb) c_sbb, .bool sbc, .bool sbd, .slice a_sca (List.length sca) c_sca, .slice a_scb (List.length scb) c_scb, .bool scc, .bool scd], .int .u8 ((UInt8.toNat a : Nat) : Int), .int .u8 ((UInt8.toNat b : Nat) : Int)] w fun e w' => e = .returned (.bool true) ∧ Ev w [] w' [] := by
  refine d_start [(0, .agg #[.slice a_sa (List.length sa) c_sa, .slice a_sba (List.length sba) c_sba, .slice a_sbb (List.length sbb) c_sbb, .bool sbc, .bool sbd, .slice a_sca (List.length sca) c_sca, .slice a_scb (List.length scb) c_scb, .bool scc, .bool scd]), (1, .int .u8 ((UInt8.toNat a : Nat) : Int)), (2, .int .u8 ((UInt8.toNat b : Nat) : Int))] 100 Go.Proofs.Try.func4 Go.Proofs.Try.ntmps4 rfl (by kernel_rfl) (by kernel_rfl) ?_
  intro act0 En0
  have Hv0 : Ev w [] w [] := Ev.refl (Heap.nil _)
  refine wp_seq ?_
  refine region_from ?_  -- region 0
  refine from_op (by kernel_rfl) ?_
  refine op_newbox (d := some 3) (T := 26) (v := .agg #[.slice a_sa (List.length sa) c_sa, .slice a_sba (List.length sba) c_sba, .slice a_sbb (List.length sbb) c_sbb, .bool sbc, .bool sbd, .slice a_sca (List.length sca) c_sca, .slice a_scb (List.length scb) c_scb, .bool scc, .bool scd]) (cs := [.slice a_sa (List.length sa) c_sa, .slice a_sba (List.length sba) c_sba, .slice a_sbb (List.length sbb) c_sbb, .bool sbc, .bool sbd, .slice a_sca (List.length sca) c_sca, .slice a_scb (List.length scb) c_scb, .bool scc, .bool scd]) En0 (by kernel_rfl) rfl Hv0 ?_
  intro ac2 wo3 bk1 En4 Hv5
  refine d_pures [(1, .int .u8 ((UInt8.toNat a : Nat) : Int)), (2, .int .u8 ((UInt8.toNat b : Nat) : Int)), (3, .pointer (some ⟨bk1, 0, none⟩)), (6, .bool false)] [.bool false] 2 En4 (by kernel_rfl) (by kernel_rfl) rfl ?_
  intro ac6 En7
  refine from_end (by kernel_rfl) ?_
  refine then_normal ?_
  refine wp_seq ?_
  refine region_from ?_  -- region 1
  refine from_op (by kernel_rfl) ?_
  have hM8 : Heap wo3 [] := Hv5.heap.pick [] (by kernel_rfl) (by decide)
  refine op_call (d := some 11) (f := 8) (args := #[]) En7 (by kernel_rfl) ((head_ok _).mono ?_)
  rintro _ wo10 ⟨rfl, he13⟩
  refine ⟨_, rfl, ?_⟩
  intro ac9 En11
  have Hv12 : Ev w [] wo10 [.box bk1 [.slice a_sa (List.length sa) c_sa, .slice a_sba (List.length sba) c_sba, .slice a_sbb (List.length sbb) c_sbb, .bool sbc, .bool sbd, .slice a_sca (List.length sca) c_sca, .slice a_scb (List.length scb) c_scb, .bool scc, .bool scd] 26] := Hv5.trans (Ev.call (R := [.box bk1 [.slice a_sa (List.length sa) c_sa, .slice a_sba (List.length sba) c_sba, .slice a_sbb (List.length sbb) c_sbb, .bool sbc, .bool sbd, .slice a_sca (List.length sca) c_sca, .slice a_scb (List.length scb) c_scb, .bool scc, .bool scd] 26]) Hv5.heap [0] (by kernel_rfl) (by decide) he13)
  clear hM8 he13
  refine d_pures [(1, .int .u8 ((UInt8.toNat a : Nat) : Int)), (2, .int .u8 ((UInt8.toNat b : Nat) : Int)), (3, .pointer (some ⟨bk1, 0, none⟩)), (6, .bool false), (7, .bool true)] [.bool true] 2 En11 (by kernel_rfl) (by kernel_rfl) rfl ?_
  intro ac14 En15
  refine from_end (by kernel_rfl) ?_
  refine then_normal ?_
  refine wp_seq ?_
  refine wp_seq ?_
  refine region_from ?_  -- region 2
  refine from_op (by kernel_rfl) ?_
  refine op_loadaggbox (d := some 12) (t := 26) (b := bk1) (off := 0) (k := 0) (m := 9) (xs := [.slice a_sa (List.length sa) c_sa, .slice a_sba (List.length sba) c_sba, .slice a_sbb (List.length sbb) c_sbb, .bool sbc, .bool sbd, .slice a_sca (List.length sca) c_sca, .slice a_scb (List.length scb) c_scb, .bool scc, .bool scd]) En15 (by kernel_rfl) Hv12 rfl rfl rfl (by kernel_rfl) (by kernel_rfl) ?_
  intro ac16 En17
  refine from_op (by kernel_rfl) ?_
  have hM18 : Heap wo10 [] := Hv12.heap.pick [] (by kernel_rfl) (by decide)
  refine op_call (d := some 13) (f := 9) (args := #[.agg #[.slice a_sa (List.length sa) c_sa, .slice a_sba (List.length sba) c_sba, .slice a_sbb (List.length sbb) c_sbb, .bool sbc, .bool sbd, .slice a_sca (List.length sca) c_sca, .slice a_scb (List.length scb) c_scb, .bool scc, .bool scd]]) En17 (by kernel_rfl) ((relay_go _ a_sa (List.length sa) c_sa sa (by first | rfl | (simp; done) | (simp; omega) | omega) ((i_sa.ev Hv12).pick [] (by kernel_rfl)) a_sba (List.length sba) c_sba sba (by first | rfl | (simp; done) | (simp; omega) | omega) ((i_sba.ev Hv12).pick [] (by kernel_rfl)) a_sbb (List.length sbb) c_sbb sbb (by first | rfl | (simp; done) | (simp; omega) | omega) ((i_sbb.ev Hv12).pick [] (by kernel_rfl)) sbc sbd a_sca (List.length sca) c_sca sca (by first | rfl | (simp; done) | (simp; omega) | omega) ((i_sca.ev Hv12).pick [] (by kernel_rfl)) a_scb (List.length scb) c_scb scb (by first | rfl | (simp; done) | (simp; omega) | omega) ((i_scb.ev Hv12).pick [] (by kernel_rfl)) scc scd (by first | omega | (simp; done) | (simp; omega))).mono ?_)
  rintro _ wo20 ⟨rfl, he23⟩
  refine ⟨_, rfl, ?_⟩
  intro ac19 En21
  have Hv22 : Ev w [] wo20 [.box bk1 [.slice a_sa (List.length sa) c_sa, .slice a_sba (List.length sba) c_sba, .slice a_sbb (List.length sbb) c_sbb, .bool sbc, .bool sbd, .slice a_sca (List.length sca) c_sca, .slice a_scb (List.length scb) c_scb, .bool scc, .bool scd] 26] := Hv12.trans (Ev.call (R := [.box bk1 [.slice a_sa (List.length sa) c_sa, .slice a_sba (List.length sba) c_sba, .slice a_sbb (List.length sbb) c_sbb, .bool sbc, .bool sbd, .slice a_sca (List.length sca) c_sca, .slice a_scb (List.length scb) c_scb, .bool scc, .bool scd] 26]) Hv12.heap [0] (by kernel_rfl) (by decide) he23)
  clear hM18 he23
  refine d_pures [(1, .int .u8 ((UInt8.toNat a : Nat) : Int)), (2, .int .u8 ((UInt8.toNat b : Nat) : Int)), (3, .pointer (some ⟨bk1, 0, none⟩)), (6, .bool false), (7, .bool true), (14, .bool (relayF sa sba sbb sbc sbd sca scb scc scd != (0 : Int)))] [.bool (relayF sa sba sbb sbc sbd sca scb scc scd != (0 : Int))] 3 En21 (by kernel_rfl) (by kernel_rfl) rfl ?_
  intro ac24 En25
  refine from_end (by kernel_rfl) ?_
  refine then_normal ?_
  refine cond_at En25 (t := relayF sa sba sbb sbc sbd sca scb scc scd != (0 : Int)) (by kernel_rfl) (fun hc26 => ?_) (fun hc26 => ?_)
  ·
    replace hc26 : ¬ (relayF sa sba sbb sbc sbd sca scb scc scd = (0 : Int)) := by simpa using hc26
    refine wp_seq ?_
    refine region_from ?_  -- region 3
    refine d_pures [(1, .int .u8 ((UInt8.toNat a : Nat) : Int)), (2, .int .u8 ((UInt8.toNat b : Nat) : Int)), (3, .pointer (some ⟨bk1, 0, none⟩)), (6, .bool true), (7, .bool true)] [.bool true, .bool true] 2 En25 (by kernel_rfl) (by kernel_rfl) rfl ?_
    intro ac27 En28
    refine from_end (by kernel_rfl) ?_
    refine then_normal ?_
    refine wp_ret ?_
    refine then_ret ?_
    refine d_ret1 (t := 6) (v := .bool true) En28 (by kernel_rfl) (by kernel_rfl) ?_
    exact ⟨rfl, Hv22.pick [] (by kernel_rfl) (by decide)⟩
  ·
    replace hc26 : relayF sa sba sbb sbc sbd sca scb scc scd = (0 : Int) := by simpa using hc26
    refine wp_skip ?_
    refine then_normal ?_
    refine wp_seq ?_
    refine region_from ?_  -- region 4
    refine from_op (by kernel_rfl) ?_
    refine op_loadaggbox (d := some 16) (t := 26) (b := bk1) (off := 0) (k := 0) (m := 9) (xs := [.slice a_sa (List.length sa) c_sa, .slice a_sba (List.length sba) c_sba, .slice a_sbb (List.length sbb) c_sbb, .bool sbc, .bool sbd, .slice a_sca (List.length sca) c_sca, .slice a_scb (List.length scb) c_scb, .bool scc, .bool scd]) En25 (by kernel_rfl) Hv22 rfl rfl rfl (by kernel_rfl) (by kernel_rfl) ?_
    intro ac29 En30
    refine from_op (by kernel_rfl) ?_
    refine op_alloc (d := some 8) (T := 26) (x := .tuple #[]) (z := .agg #[.slice none 0 0, .slice none 0 0, .slice none 0 0, .bool false, .bool false, .slice none 0 0, .slice none 0 0, .bool false, .bool false]) (cs := [.slice none 0 0, .slice none 0 0, .slice none 0 0, .bool false, .bool false, .slice none 0 0, .slice none 0 0, .bool false, .bool false]) En30 (by kernel_rfl) (by kernel_rfl) (by kernel_rfl) Hv22 ?_
    intro ac32 wo33 bk31 En34 Hv35
    refine from_op (by kernel_rfl) ?_
    refine op_storeaggbox (d := none) (t := 26) (b := bk31) (off := 0) (k := 1) (m := 9) (xs := [.slice a_sa (List.length sa) c_sa, .slice a_sba (List.length sba) c_sba, .slice a_sbb (List.length sbb) c_sbb, .bool sbc, .bool sbd, .slice a_sca (List.length sca) c_sca, .slice a_scb (List.length scb) c_scb, .bool scc, .bool scd]) (v := .agg #[.slice a_sa (List.length sa) c_sa, .slice a_sba (List.length sba) c_sba, .slice a_sbb (List.length sbb) c_sbb, .bool sbc, .bool sbd, .slice a_sca (List.length sca) c_sca, .slice a_scb (List.length scb) c_scb, .bool scc, .bool scd]) (cs' := [.slice a_sa (List.length sa) c_sa, .slice a_sba (List.length sba) c_sba, .slice a_sbb (List.length sbb) c_sbb, .bool sbc, .bool sbd, .slice a_sca (List.length sca) c_sca, .slice a_scb (List.length scb) c_scb, .bool scc, .bool scd]) En34 (by kernel_rfl) Hv35 rfl rfl rfl (by simp) (by kernel_rfl) (one_all (by kernel_rfl)) rfl (L' := [.box bk1 [.slice a_sa (List.length sa) c_sa, .slice a_sba (List.length sba) c_sba, .slice a_sbb (List.length sbb) c_sbb, .bool sbc, .bool sbd, .slice a_sca (List.length sca) c_sca, .slice a_scb (List.length scb) c_scb, .bool scc, .bool scd] 26, .box bk31 [.slice a_sa (List.length sa) c_sa, .slice a_sba (List.length sba) c_sba, .slice a_sbb (List.length sbb) c_sbb, .bool sbc, .bool sbd, .slice a_sca (List.length sca) c_sca, .slice a_scb (List.length scb) c_scb, .bool scc, .bool scd] 26]) rfl ?_
    intro ac36 wo37  En38 Hv39
    refine from_end (by kernel_rfl) ?_
    refine then_normal ?_
    refine wp_seq ?_
    refine region_cut (F := fun ac wo => Env ac 100 [(1, .int .u8 ((UInt8.toNat a : Nat) : Int)), (2, .int .u8 ((UInt8.toNat b : Nat) : Int)), (3, .pointer (some ⟨bk1, 0, none⟩)), (6, .bool false), (7, .bool true), (8, .pointer (some ⟨bk31, 0, none⟩))] ∧ Ev w [] wo [.box bk1 [.slice a_sa (List.length sa) c_sa, .slice a_sba (List.length sba) c_sba, .slice a_sbb (List.length sbb) c_sbb, .bool sbc, .bool sbd, .slice a_sca (List.length sca) c_sca, .slice a_scb (List.length scb) c_scb, .bool scc, .bool scd] 26, .box bk31 [.slice a_sa (List.length sa) c_sa, .slice a_sba (List.length sba) c_sba, .slice a_sbb (List.length sbb) c_sbb, .bool sbc, .bool sbd, .slice a_sca (List.length sca) c_sca, .slice a_scb (List.length scb - UInt8.toNat a % (List.length scb + 1)) c_scb, .bool scc, .bool scd] 26]) ?_ ?_
    ·
      refine draw_any (by kernel_rfl) 20 (by kernel_rfl) ?_  -- region 5
      have wo40 := Hv39.trans (Ev.drew Hv39.heap)
      refine any_pureR (d := some 17) En38 (v := .pointer (some ⟨bk1, 5, none⟩)) 0 (by kernel_rfl) (by kernel_rfl) rfl ?_
      intro ac41 En42
      refine any_pureR (d := some 18) En42 (v := .pointer (some ⟨bk1, 6, none⟩)) 1 (by kernel_rfl) (by kernel_rfl) rfl ?_
      intro ac43 En44
      refine any_pureR (d := some 20) En44 (v := .pointer (some ⟨bk1, 5, none⟩)) 3 (by kernel_rfl) (by kernel_rfl) rfl ?_
      intro ac45 En46
      refine any_pureR (d := some 21) En46 (v := .pointer (some ⟨bk1, 6, none⟩)) 4 (by kernel_rfl) (by kernel_rfl) rfl ?_
      intro ac47 En48
      refine any_pureR (d := some 24) En48 (v := .int .u8 ((UInt8.toNat a : Nat) : Int)) 7 (by kernel_rfl) (by kernel_rfl) rfl ?_
      intro ac49 En50
      refine any_pureR (d := some 25) En50 (v := .int .i64 (IntKind.wrap .i64 ((UInt8.toNat a : Nat) : Int))) 8 (by kernel_rfl) (by kernel_rfl) rfl ?_
      intro ac51 En52
      rw [Go.Dbr.u8_to_i64 (a := ((UInt8.toNat a : Nat) : Int)) (x := a) rfl] at En52
      refine any_pureR (d := some 26) En52 (v := .pointer (some ⟨bk1, 5, none⟩)) 9 (by kernel_rfl) (by kernel_rfl) rfl ?_
      intro ac53 En54
      refine any_pureR (d := some 27) En54 (v := .pointer (some ⟨bk1, 6, none⟩)) 10 (by kernel_rfl) (by kernel_rfl) rfl ?_
      intro ac55 En56
      refine any_ways [2, 5, 11] (by kernel_rfl) rfl ?_
      refine ⟨?_, ?_, ?_, trivial⟩
      · rintro _ rfl
        refine op_loadbox (d := some 19) (t := 22) (b := bk1) (off := 6) (k := 0) (v := .slice a_scb (List.length scb) c_scb) En56 (by kernel_rfl) wo40 rfl rfl (by kernel_rfl) ?_
        intro ac57 En58
        refine any_two 5 11 (by kernel_rfl) ?_ ?_
        · rintro _ rfl
          refine op_loadbox (d := some 22) (t := 22) (b := bk1) (off := 6) (k := 0) (v := .slice a_scb (List.length scb) c_scb) En58 (by kernel_rfl) wo40 rfl rfl (by kernel_rfl) ?_
          intro ac59 En60
          refine any_pureR (d := some 23) En60 (v := .int .i64 ((List.length scb : Nat) : Int)) 6 (by kernel_rfl) (by kernel_rfl) rfl ?_
          intro ac61 En62
          refine any_at 11 (by kernel_rfl) rfl ?_
          refine op_loadbox (d := some 28) (t := 22) (b := bk1) (off := 6) (k := 0) (v := .slice a_scb (List.length scb) c_scb) En62 (by kernel_rfl) wo40 rfl rfl (by kernel_rfl) ?_
          intro ac63 En64
          refine any_pureR (d := some 29) En64 (v := .int .i64 ((List.length scb : Nat) : Int)) 12 (by kernel_rfl) (by kernel_rfl) rfl ?_
          intro ac65 En66
          refine any_pureR (d := some 30) En66 (v := .int .i64 (IntKind.wrap .i64 (((List.length scb : Nat) : Int) + (1 : Int)))) 13 (by kernel_rfl) (by kernel_rfl) rfl ?_
          intro ac67 En68
          rw [Go.Dbr.wr64 (e := ((List.length scb : Nat) : Int) + (1 : Int)) (x := (((List.length scb) + 1 : Nat) : Int)) (by omega) (by omega) (by omega)] at En68
          refine any_pure (d := some 31) (s := nv (Op.intDiv .rem .i64 ((UInt8.toNat a : Nat) : Int) (((List.length scb) + 1 : Nat) : Int))) En68 (v := .int .i64 (((UInt8.toNat a) % ((List.length scb) + 1) : Nat) : Int)) 14 (by kernel_rfl) (funext fun _ => run_nv (Go.Dbr.run_rem_nat (UInt8.toNat a) ((List.length scb) + 1) (by omega) _)) (by kernel_rfl) rfl ?_
          intro ac69 En70
          have hm := Nat.mod_lt (UInt8.toNat a) (Nat.succ_pos (List.length scb))
          simp only [Nat.succ_eq_add_one] at hm
          refine any_pureR (d := some 32) En70 (v := .int .i64 (IntKind.wrap .i64 (((List.length scb : Nat) : Int) - (((UInt8.toNat a) % ((List.length scb) + 1) : Nat) : Int)))) 15 (by kernel_rfl) (by kernel_rfl) rfl ?_
          intro ac71 En72
          rw [Go.Dbr.wr64 (e := ((List.length scb : Nat) : Int) - ((UInt8.toNat a % (List.length scb + 1) : Nat) : Int)) (x := ((List.length scb - UInt8.toNat a % (List.length scb + 1) : Nat) : Int)) (by omega) (by omega) (by omega)] at En72
          refine any_at 16 (by kernel_rfl) rfl ?_
          have hcap73 := i_scb.cap
          refine op_slice0 (d := some 33) (t := 22) (e := 5) (sz := 1) (len := List.length scb) (cap := c_scb) (hi := List.length scb - UInt8.toNat a % (List.length scb + 1)) (ao := a_scb) (lov := none) (hiv := (some (.int .i64 ((List.length scb - UInt8.toNat a % (List.length scb + 1) : Nat) : Int)))) En72 (by kernel_rfl) (by kernel_rfl) (by kernel_rfl) (by omega) (.inl ⟨rfl, rfl⟩) (.inr ⟨.i64, rfl⟩) ?_
          intro ac74 En75
          refine any_pureR (d := some 34) En75 (v := .pointer (some ⟨bk31, 5, none⟩)) 17 (by kernel_rfl) (by kernel_rfl) rfl ?_
          intro ac76 En77
          refine any_pureR (d := some 35) En77 (v := .pointer (some ⟨bk31, 6, none⟩)) 18 (by kernel_rfl) (by kernel_rfl) rfl ?_
          intro ac78 En79
          refine any_at 19 (by kernel_rfl) rfl ?_
          refine op_storebox2 (d := none) (t := 22) (b := bk31) (off := 6) (k := 1) (v := .slice a_scb (List.length scb - UInt8.toNat a % (List.length scb + 1)) c_scb) En79 (by kernel_rfl) wo40 rfl rfl (by kernel_rfl) rfl rfl rfl ?_
          intro ac80 wo81  En82 Hv83
          exact any_end (by kernel_rfl) ⟨En82.sub (by kernel_rfl), Hv83.pick [0, 1] (by kernel_rfl) (by decide)⟩
        · rintro _ rfl
          refine op_loadbox (d := some 28) (t := 22) (b := bk1) (off := 6) (k := 0) (v := .slice a_scb (List.length scb) c_scb) En58 (by kernel_rfl) wo40 rfl rfl (by kernel_rfl) ?_
          intro ac84 En85
          refine any_pureR (d := some 29) En85 (v := .int .i64 ((List.length scb : Nat) : Int)) 12 (by kernel_rfl) (by kernel_rfl) rfl ?_
          intro ac86 En87
          refine any_pureR (d := some 30) En87 (v := .int .i64 (IntKind.wrap .i64 (((List.length scb : Nat) : Int) + (1 : Int)))) 13 (by kernel_rfl) (by kernel_rfl) rfl ?_
          intro ac88 En89
          rw [Go.Dbr.wr64 (e := ((List.length scb : Nat) : Int) + (1 : Int)) (x := (((List.length scb) + 1 : Nat) : Int)) (by omega) (by omega) (by omega)] at En89
          refine any_pure (d := some 31) (s := nv (Op.intDiv .rem .i64 ((UInt8.toNat a : Nat) : Int) (((List.length scb) + 1 : Nat) : Int))) En89 (v := .int .i64 (((UInt8.toNat a) % ((List.length scb) + 1) : Nat) : Int)) 14 (by kernel_rfl) (funext fun _ => run_nv (Go.Dbr.run_rem_nat (UInt8.toNat a) ((List.length scb) + 1) (by omega) _)) (by kernel_rfl) rfl ?_
          intro ac90 En91
          refine any_at 5 (by kernel_rfl) rfl ?_
          refine op_loadbox (d := some 22) (t := 22) (b := bk1) (off := 6) (k := 0) (v := .slice a_scb (List.length scb) c_scb) En91 (by kernel_rfl) wo40 rfl rfl (by kernel_rfl) ?_
          intro ac92 En93
          refine any_pureR (d := some 23) En93 (v := .int .i64 ((List.length scb : Nat) : Int)) 6 (by kernel_rfl) (by kernel_rfl) rfl ?_
          intro ac94 En95
          have hm := Nat.mod_lt (UInt8.toNat a) (Nat.succ_pos (List.length scb))
          simp only [Nat.succ_eq_add_one] at hm
          refine any_pureR (d := some 32) En95 (v := .int .i64 (IntKind.wrap .i64 (((List.length scb : Nat) : Int) - (((UInt8.toNat a) % ((List.length scb) + 1) : Nat) : Int)))) 15 (by kernel_rfl) (by kernel_rfl) rfl ?_
          intro ac96 En97
          rw [Go.Dbr.wr64 (e := ((List.length scb : Nat) : Int) - ((UInt8.toNat a % (List.length scb + 1) : Nat) : Int)) (x := ((List.length scb - UInt8.toNat a % (List.length scb + 1) : Nat) : Int)) (by omega) (by omega) (by omega)] at En97
          refine any_at 16 (by kernel_rfl) rfl ?_
          have hcap98 := i_scb.cap
          refine op_slice0 (d := some 33) (t := 22) (e := 5) (sz := 1) (len := List.length scb) (cap := c_scb) (hi := List.length scb - UInt8.toNat a % (List.length scb + 1)) (ao := a_scb) (lov := none) (hiv := (some (.int .i64 ((List.length scb - UInt8.toNat a % (List.length scb + 1) : Nat) : Int)))) En97 (by kernel_rfl) (by kernel_rfl) (by kernel_rfl) (by omega) (.inl ⟨rfl, rfl⟩) (.inr ⟨.i64, rfl⟩) ?_
          intro ac99 En100
          refine any_pureR (d := some 34) En100 (v := .pointer (some ⟨bk31, 5, none⟩)) 17 (by kernel_rfl) (by kernel_rfl) rfl ?_
          intro ac101 En102
          refine any_pureR (d := some 35) En102 (v := .pointer (some ⟨bk31, 6, none⟩)) 18 (by kernel_rfl) (by kernel_rfl) rfl ?_
          intro ac103 En104
          refine any_at 19 (by kernel_rfl) rfl ?_
          refine op_storebox2 (d := none) (t := 22) (b := bk31) (off := 6) (k := 1) (v := .slice a_scb (List.length scb - UInt8.toNat a % (List.length scb + 1)) c_scb) En104 (by kernel_rfl) wo40 rfl rfl (by kernel_rfl) rfl rfl rfl ?_
          intro ac105 wo106  En107 Hv108
          exact any_end (by kernel_rfl) ⟨En107.sub (by kernel_rfl), Hv108.pick [0, 1] (by kernel_rfl) (by decide)⟩
      · rintro _ rfl
        refine op_loadbox (d := some 22) (t := 22) (b := bk1) (off := 6) (k := 0) (v := .slice a_scb (List.length scb) c_scb) En56 (by kernel_rfl) wo40 rfl rfl (by kernel_rfl) ?_
        intro ac109 En110
        refine any_pureR (d := some 23) En110 (v := .int .i64 ((List.length scb : Nat) : Int)) 6 (by kernel_rfl) (by kernel_rfl) rfl ?_
        intro ac111 En112
        refine any_two 2 11 (by kernel_rfl) ?_ ?_
        · rintro _ rfl
          refine op_loadbox (d := some 19) (t := 22) (b := bk1) (off := 6) (k := 0) (v := .slice a_scb (List.length scb) c_scb) En112 (by kernel_rfl) wo40 rfl rfl (by kernel_rfl) ?_
          intro ac113 En114
          refine any_at 11 (by kernel_rfl) rfl ?_
          refine op_loadbox (d := some 28) (t := 22) (b := bk1) (off := 6) (k := 0) (v := .slice a_scb (List.length scb) c_scb) En114 (by kernel_rfl) wo40 rfl rfl (by kernel_rfl) ?_
          intro ac115 En116
          refine any_pureR (d := some 29) En116 (v := .int .i64 ((List.length scb : Nat) : Int)) 12 (by kernel_rfl) (by kernel_rfl) rfl ?_
          intro ac117 En118
          refine any_pureR (d := some 30) En118 (v := .int .i64 (IntKind.wrap .i64 (((List.length scb : Nat) : Int) + (1 : Int)))) 13 (by kernel_rfl) (by kernel_rfl) rfl ?_
          intro ac119 En120
          rw [Go.Dbr.wr64 (e := ((List.length scb : Nat) : Int) + (1 : Int)) (x := (((List.length scb) + 1 : Nat) : Int)) (by omega) (by omega) (by omega)] at En120
          refine any_pure (d := some 31) (s := nv (Op.intDiv .rem .i64 ((UInt8.toNat a : Nat) : Int) (((List.length scb) + 1 : Nat) : Int))) En120 (v := .int .i64 (((UInt8.toNat a) % ((List.length scb) + 1) : Nat) : Int)) 14 (by kernel_rfl) (funext fun _ => run_nv (Go.Dbr.run_rem_nat (UInt8.toNat a) ((List.length scb) + 1) (by omega) _)) (by kernel_rfl) rfl ?_
          intro ac121 En122
          have hm := Nat.mod_lt (UInt8.toNat a) (Nat.succ_pos (List.length scb))
          simp only [Nat.succ_eq_add_one] at hm
          refine any_pureR (d := some 32) En122 (v := .int .i64 (IntKind.wrap .i64 (((List.length scb : Nat) : Int) - (((UInt8.toNat a) % ((List.length scb) + 1) : Nat) : Int)))) 15 (by kernel_rfl) (by kernel_rfl) rfl ?_
          intro ac123 En124
          rw [Go.Dbr.wr64 (e := ((List.length scb : Nat) : Int) - ((UInt8.toNat a % (List.length scb + 1) : Nat) : Int)) (x := ((List.length scb - UInt8.toNat a % (List.length scb + 1) : Nat) : Int)) (by omega) (by omega) (by omega)] at En124
          refine any_at 16 (by kernel_rfl) rfl ?_
          have hcap125 := i_scb.cap
          refine op_slice0 (d := some 33) (t := 22) (e := 5) (sz := 1) (len := List.length scb) (cap := c_scb) (hi := List.length scb - UInt8.toNat a % (List.length scb + 1)) (ao := a_scb) (lov := none) (hiv := (some (.int .i64 ((List.length scb - UInt8.toNat a % (List.length scb + 1) : Nat) : Int)))) En124 (by kernel_rfl) (by kernel_rfl) (by kernel_rfl) (by omega) (.inl ⟨rfl, rfl⟩) (.inr ⟨.i64, rfl⟩) ?_
          intro ac126 En127
          refine any_pureR (d := some 34) En127 (v := .pointer (some ⟨bk31, 5, none⟩)) 17 (by kernel_rfl) (by kernel_rfl) rfl ?_
          intro ac128 En129
          refine any_pureR (d := some 35) En129 (v := .pointer (some ⟨bk31, 6, none⟩)) 18 (by kernel_rfl) (by kernel_rfl) rfl ?_
          intro ac130 En131
          refine any_at 19 (by kernel_rfl) rfl ?_
          refine op_storebox2 (d := none) (t := 22) (b := bk31) (off := 6) (k := 1) (v := .slice a_scb (List.length scb - UInt8.toNat a % (List.length scb + 1)) c_scb) En131 (by kernel_rfl) wo40 rfl rfl (by kernel_rfl) rfl rfl rfl ?_
          intro ac132 wo133  En134 Hv135
          exact any_end (by kernel_rfl) ⟨En134.sub (by kernel_rfl), Hv135.pick [0, 1] (by kernel_rfl) (by decide)⟩
        · rintro _ rfl
          refine op_loadbox (d := some 28) (t := 22) (b := bk1) (off := 6) (k := 0) (v := .slice a_scb (List.length scb) c_scb) En112 (by kernel_rfl) wo40 rfl rfl (by kernel_rfl) ?_
          intro ac136 En137
          refine any_pureR (d := some 29) En137 (v := .int .i64 ((List.length scb : Nat) : Int)) 12 (by kernel_rfl) (by kernel_rfl) rfl ?_
          intro ac138 En139
          refine any_pureR (d := some 30) En139 (v := .int .i64 (IntKind.wrap .i64 (((List.length scb : Nat) : Int) + (1 : Int)))) 13 (by kernel_rfl) (by kernel_rfl) rfl ?_
          intro ac140 En141
          rw [Go.Dbr.wr64 (e := ((List.length scb : Nat) : Int) + (1 : Int)) (x := (((List.length scb) + 1 : Nat) : Int)) (by omega) (by omega) (by omega)] at En141
          refine any_pure (d := some 31) (s := nv (Op.intDiv .rem .i64 ((UInt8.toNat a : Nat) : Int) (((List.length scb) + 1 : Nat) : Int))) En141 (v := .int .i64 (((UInt8.toNat a) % ((List.length scb) + 1) : Nat) : Int)) 14 (by kernel_rfl) (funext fun _ => run_nv (Go.Dbr.run_rem_nat (UInt8.toNat a) ((List.length scb) + 1) (by omega) _)) (by kernel_rfl) rfl ?_
          intro ac142 En143
          have hm := Nat.mod_lt (UInt8.toNat a) (Nat.succ_pos (List.length scb))
          simp only [Nat.succ_eq_add_one] at hm
          refine any_pureR (d := some 32) En143 (v := .int .i64 (IntKind.wrap .i64 (((List.length scb : Nat) : Int) - (((UInt8.toNat a) % ((List.length scb) + 1) : Nat) : Int)))) 15 (by kernel_rfl) (by kernel_rfl) rfl ?_
          intro ac144 En145
          rw [Go.Dbr.wr64 (e := ((List.length scb : Nat) : Int) - ((UInt8.toNat a % (List.length scb + 1) : Nat) : Int)) (x := ((List.length scb - UInt8.toNat a % (List.length scb + 1) : Nat) : Int)) (by omega) (by omega) (by omega)] at En145
          refine any_at 2 (by kernel_rfl) rfl ?_
          refine op_loadbox (d := some 19) (t := 22) (b := bk1) (off := 6) (k := 0) (v := .slice a_scb (List.length scb) c_scb) En145 (by kernel_rfl) wo40 rfl rfl (by kernel_rfl) ?_
          intro ac146 En147
          refine any_at 16 (by kernel_rfl) rfl ?_
          have hcap148 := i_scb.cap
          refine op_slice0 (d := some 33) (t := 22) (e := 5) (sz := 1) (len := List.length scb) (cap := c_scb) (hi := List.length scb - UInt8.toNat a % (List.length scb + 1)) (ao := a_scb) (lov := none) (hiv := (some (.int .i64 ((List.length scb - UInt8.toNat a % (List.length scb + 1) : Nat) : Int)))) En147 (by kernel_rfl) (by kernel_rfl) (by kernel_rfl) (by omega) (.inl ⟨rfl, rfl⟩) (.inr ⟨.i64, rfl⟩) ?_
          intro ac149 En150
          refine any_pureR (d := some 34) En150 (v := .pointer (some ⟨bk31, 5, none⟩)) 17 (by kernel_rfl) (by kernel_rfl) rfl ?_
          intro ac151 En152
          refine any_pureR (d := some 35) En152 (v := .pointer (some ⟨bk31, 6, none⟩)) 18 (by kernel_rfl) (by kernel_rfl) rfl ?_
          intro ac153 En154
          refine any_at 19 (by kernel_rfl) rfl ?_
          refine op_storebox2 (d := none) (t := 22) (b := bk31) (off := 6) (k := 1) (v := .slice a_scb (List.length scb - UInt8.toNat a % (List.length scb + 1)) c_scb) En154 (by kernel_rfl) wo40 rfl rfl (by kernel_rfl) rfl rfl rfl ?_
          intro ac155 wo156  En157 Hv158
          exact any_end (by kernel_rfl) ⟨En157.sub (by kernel_rfl), Hv158.pick [0, 1] (by kernel_rfl) (by decide)⟩
      · rintro _ rfl
        refine op_loadbox (d := some 28) (t := 22) (b := bk1) (off := 6) (k := 0) (v := .slice a_scb (List.length scb) c_scb) En56 (by kernel_rfl) wo40 rfl rfl (by kernel_rfl) ?_
        intro ac159 En160
        refine any_pureR (d := some 29) En160 (v := .int .i64 ((List.length scb : Nat) : Int)) 12 (by kernel_rfl) (by kernel_rfl) rfl ?_
        intro ac161 En162
        refine any_pureR (d := some 30) En162 (v := .int .i64 (IntKind.wrap .i64 (((List.length scb : Nat) : Int) + (1 : Int)))) 13 (by kernel_rfl) (by kernel_rfl) rfl ?_
        intro ac163 En164
        rw [Go.Dbr.wr64 (e := ((List.length scb : Nat) : Int) + (1 : Int)) (x := (((List.length scb) + 1 : Nat) : Int)) (by omega) (by omega) (by omega)] at En164
        refine any_pure (d := some 31) (s := nv (Op.intDiv .rem .i64 ((UInt8.toNat a : Nat) : Int) (((List.length scb) + 1 : Nat) : Int))) En164 (v := .int .i64 (((UInt8.toNat a) % ((List.length scb) + 1) : Nat) : Int)) 14 (by kernel_rfl) (funext fun _ => run_nv (Go.Dbr.run_rem_nat (UInt8.toNat a) ((List.length scb) + 1) (by omega) _)) (by kernel_rfl) rfl ?_
        intro ac165 En166
        refine any_two 2 5 (by kernel_rfl) ?_ ?_
        · rintro _ rfl
          refine op_loadbox (d := some 19) (t := 22) (b := bk1) (off := 6) (k := 0) (v := .slice a_scb (List.length scb) c_scb) En166 (by kernel_rfl) wo40 rfl rfl (by kernel_rfl) ?_
          intro ac167 En168
          refine any_at 5 (by kernel_rfl) rfl ?_
          refine op_loadbox (d := some 22) (t := 22) (b := bk1) (off := 6) (k := 0) (v := .slice a_scb (List.length scb) c_scb) En168 (by kernel_rfl) wo40 rfl rfl (by kernel_rfl) ?_
          intro ac169 En170
          refine any_pureR (d := some 23) En170 (v := .int .i64 ((List.length scb : Nat) : Int)) 6 (by kernel_rfl) (by kernel_rfl) rfl ?_
          intro ac171 En172
          have hm := Nat.mod_lt (UInt8.toNat a) (Nat.succ_pos (List.length scb))
          simp only [Nat.succ_eq_add_one] at hm
          refine any_pureR (d := some 32) En172 (v := .int .i64 (IntKind.wrap .i64 (((List.length scb : Nat) : Int) - (((UInt8.toNat a) % ((List.length scb) + 1) : Nat) : Int)))) 15 (by kernel_rfl) (by kernel_rfl) rfl ?_
          intro ac173 En174
          rw [Go.Dbr.wr64 (e := ((List.length scb : Nat) : Int) - ((UInt8.toNat a % (List.length scb + 1) : Nat) : Int)) (x := ((List.length scb - UInt8.toNat a % (List.length scb + 1) : Nat) : Int)) (by omega) (by omega) (by omega)] at En174
          refine any_at 16 (by kernel_rfl) rfl ?_
          have hcap175 := i_scb.cap
          refine op_slice0 (d := some 33) (t := 22) (e := 5) (sz := 1) (len := List.length scb) (cap := c_scb) (hi := List.length scb - UInt8.toNat a % (List.length scb + 1)) (ao := a_scb) (lov := none) (hiv := (some (.int .i64 ((List.length scb - UInt8.toNat a % (List.length scb + 1) : Nat) : Int)))) En174 (by kernel_rfl) (by kernel_rfl) (by kernel_rfl) (by omega) (.inl ⟨rfl, rfl⟩) (.inr ⟨.i64, rfl⟩) ?_
          intro ac176 En177
          refine any_pureR (d := some 34) En177 (v := .pointer (some ⟨bk31, 5, none⟩)) 17 (by kernel_rfl) (by kernel_rfl) rfl ?_
          intro ac178 En179
          refine any_pureR (d := some 35) En179 (v := .pointer (some ⟨bk31, 6, none⟩)) 18 (by kernel_rfl) (by kernel_rfl) rfl ?_
          intro ac180 En181
          refine any_at 19 (by kernel_rfl) rfl ?_
          refine op_storebox2 (d := none) (t := 22) (b := bk31) (off := 6) (k := 1) (v := .slice a_scb (List.length scb - UInt8.toNat a % (List.length scb + 1)) c_scb) En181 (by kernel_rfl) wo40 rfl rfl (by kernel_rfl) rfl rfl rfl ?_
          intro ac182 wo183  En184 Hv185
          exact any_end (by kernel_rfl) ⟨En184.sub (by kernel_rfl), Hv185.pick [0, 1] (by kernel_rfl) (by decide)⟩
        · rintro _ rfl
          refine op_loadbox (d := some 22) (t := 22) (b := bk1) (off := 6) (k := 0) (v := .slice a_scb (List.length scb) c_scb) En166 (by kernel_rfl) wo40 rfl rfl (by kernel_rfl) ?_
          intro ac186 En187
          refine any_pureR (d := some 23) En187 (v := .int .i64 ((List.length scb : Nat) : Int)) 6 (by kernel_rfl) (by kernel_rfl) rfl ?_
          intro ac188 En189
          have hm := Nat.mod_lt (UInt8.toNat a) (Nat.succ_pos (List.length scb))
          simp only [Nat.succ_eq_add_one] at hm
          refine any_pureR (d := some 32) En189 (v := .int .i64 (IntKind.wrap .i64 (((List.length scb : Nat) : Int) - (((UInt8.toNat a) % ((List.length scb) + 1) : Nat) : Int)))) 15 (by kernel_rfl) (by kernel_rfl) rfl ?_
          intro ac190 En191
          rw [Go.Dbr.wr64 (e := ((List.length scb : Nat) : Int) - ((UInt8.toNat a % (List.length scb + 1) : Nat) : Int)) (x := ((List.length scb - UInt8.toNat a % (List.length scb + 1) : Nat) : Int)) (by omega) (by omega) (by omega)] at En191
          refine any_at 2 (by kernel_rfl) rfl ?_
          refine op_loadbox (d := some 19) (t := 22) (b := bk1) (off := 6) (k := 0) (v := .slice a_scb (List.length scb) c_scb) En191 (by kernel_rfl) wo40 rfl rfl (by kernel_rfl) ?_
          intro ac192 En193
          refine any_at 16 (by kernel_rfl) rfl ?_
          have hcap194 := i_scb.cap
          refine op_slice0 (d := some 33) (t := 22) (e := 5) (sz := 1) (len := List.length scb) (cap := c_scb) (hi := List.length scb - UInt8.toNat a % (List.length scb + 1)) (ao := a_scb) (lov := none) (hiv := (some (.int .i64 ((List.length scb - UInt8.toNat a % (List.length scb + 1) : Nat) : Int)))) En193 (by kernel_rfl) (by kernel_rfl) (by kernel_rfl) (by omega) (.inl ⟨rfl, rfl⟩) (.inr ⟨.i64, rfl⟩) ?_
          intro ac195 En196
          refine any_pureR (d := some 34) En196 (v := .pointer (some ⟨bk31, 5, none⟩)) 17 (by kernel_rfl) (by kernel_rfl) rfl ?_
          intro ac197 En198
          refine any_pureR (d := some 35) En198 (v := .pointer (some ⟨bk31, 6, none⟩)) 18 (by kernel_rfl) (by kernel_rfl) rfl ?_
          intro ac199 En200
          refine any_at 19 (by kernel_rfl) rfl ?_
          refine op_storebox2 (d := none) (t := 22) (b := bk31) (off := 6) (k := 1) (v := .slice a_scb (List.length scb - UInt8.toNat a % (List.length scb + 1)) c_scb) En200 (by kernel_rfl) wo40 rfl rfl (by kernel_rfl) rfl rfl rfl ?_
          intro ac201 wo202  En203 Hv204
          exact any_end (by kernel_rfl) ⟨En203.sub (by kernel_rfl), Hv204.pick [0, 1] (by kernel_rfl) (by decide)⟩
    rintro ac205 wo206 ⟨En207, Hv208⟩
    refine then_normal ?_
    refine wp_seq ?_
    refine region_cut (F := fun ac wo => Env ac 100 [(1, .int .u8 ((UInt8.toNat a : Nat) : Int)), (2, .int .u8 ((UInt8.toNat b : Nat) : Int)), (3, .pointer (some ⟨bk1, 0, none⟩)), (6, .bool false), (7, .bool true), (8, .pointer (some ⟨bk31, 0, none⟩))] ∧ Ev w [] wo [.box bk1 [.slice a_sa (List.length sa) c_sa, .slice a_sba (List.length sba) c_sba, .slice a_sbb (List.length sbb) c_sbb, .bool sbc, .bool sbd, .slice a_sca (List.length sca) c_sca, .slice a_scb (List.length scb) c_scb, .bool scc, .bool scd] 26, .box bk31 [.slice a_sa (List.length sa) c_sa, .slice a_sba (List.length sba) c_sba, .slice a_sbb (List.length sbb - UInt8.toNat b % (List.length sbb + 1)) c_sbb, .bool sbc, .bool sbd, .slice a_sca (List.length sca) c_sca, .slice a_scb (List.length scb - UInt8.toNat a % (List.length scb + 1)) c_scb, .bool scc, .bool scd] 26]) ?_ ?_
    ·
      refine draw_any (by kernel_rfl) 20 (by kernel_rfl) ?_  -- region 6
      have wo209 := Hv208.trans (Ev.drew Hv208.heap)
      refine any_pureR (d := some 36) En207 (v := .pointer (some ⟨bk1, 1, none⟩)) 0 (by kernel_rfl) (by kernel_rfl) rfl ?_
      intro ac210 En211
      refine any_pureR (d := some 37) En211 (v := .pointer (some ⟨bk1, 2, none⟩)) 1 (by kernel_rfl) (by kernel_rfl) rfl ?_
      intro ac212 En213
      refine any_pureR (d := some 39) En213 (v := .pointer (some ⟨bk1, 1, none⟩)) 3 (by kernel_rfl) (by kernel_rfl) rfl ?_
      intro ac214 En215
      refine any_pureR (d := some 40) En215 (v := .pointer (some ⟨bk1, 2, none⟩)) 4 (by kernel_rfl) (by kernel_rfl) rfl ?_
      intro ac216 En217
      refine any_pureR (d := some 43) En217 (v := .int .u8 ((UInt8.toNat b : Nat) : Int)) 7 (by kernel_rfl) (by kernel_rfl) rfl ?_
      intro ac218 En219
      refine any_pureR (d := some 44) En219 (v := .int .i64 (IntKind.wrap .i64 ((UInt8.toNat b : Nat) : Int))) 8 (by kernel_rfl) (by kernel_rfl) rfl ?_
      intro ac220 En221
      rw [Go.Dbr.u8_to_i64 (a := ((UInt8.toNat b : Nat) : Int)) (x := b) rfl] at En221
      refine any_pureR (d := some 45) En221 (v := .pointer (some ⟨bk1, 1, none⟩)) 9 (by kernel_rfl) (by kernel_rfl) rfl ?_
      intro ac222 En223
      refine any_pureR (d := some 46) En223 (v := .pointer (some ⟨bk1, 2, none⟩)) 10 (by kernel_rfl) (by kernel_rfl) rfl ?_
      intro ac224 En225
      refine any_ways [2, 5, 11] (by kernel_rfl) rfl ?_
      refine ⟨?_, ?_, ?_, trivial⟩
      · rintro _ rfl
        refine op_loadbox (d := some 38) (t := 22) (b := bk1) (off := 2) (k := 0) (v := .slice a_sbb (List.length sbb) c_sbb) En225 (by kernel_rfl) wo209 rfl rfl (by kernel_rfl) ?_
        intro ac226 En227
        refine any_two 5 11 (by kernel_rfl) ?_ ?_
        · rintro _ rfl
          refine op_loadbox (d := some 41) (t := 22) (b := bk1) (off := 2) (k := 0) (v := .slice a_sbb (List.length sbb) c_sbb) En227 (by kernel_rfl) wo209 rfl rfl (by kernel_rfl) ?_
          intro ac228 En229
          refine any_pureR (d := some 42) En229 (v := .int .i64 ((List.length sbb : Nat) : Int)) 6 (by kernel_rfl) (by kernel_rfl) rfl ?_
          intro ac230 En231
          refine any_at 11 (by kernel_rfl) rfl ?_
          refine op_loadbox (d := some 47) (t := 22) (b := bk1) (off := 2) (k := 0) (v := .slice a_sbb (List.length sbb) c_sbb) En231 (by kernel_rfl) wo209 rfl rfl (by kernel_rfl) ?_
          intro ac232 En233
          refine any_pureR (d := some 48) En233 (v := .int .i64 ((List.length sbb : Nat) : Int)) 12 (by kernel_rfl) (by kernel_rfl) rfl ?_
          intro ac234 En235
          refine any_pureR (d := some 49) En235 (v := .int .i64 (IntKind.wrap .i64 (((List.length sbb : Nat) : Int) + (1 : Int)))) 13 (by kernel_rfl) (by kernel_rfl) rfl ?_
          intro ac236 En237
          rw [Go.Dbr.wr64 (e := ((List.length sbb : Nat) : Int) + (1 : Int)) (x := (((List.length sbb) + 1 : Nat) : Int)) (by omega) (by omega) (by omega)] at En237
          refine any_pure (d := some 50) (s := nv (Op.intDiv .rem .i64 ((UInt8.toNat b : Nat) : Int) (((List.length sbb) + 1 : Nat) : Int))) En237 (v := .int .i64 (((UInt8.toNat b) % ((List.length sbb) + 1) : Nat) : Int)) 14 (by kernel_rfl) (funext fun _ => run_nv (Go.Dbr.run_rem_nat (UInt8.toNat b) ((List.length sbb) + 1) (by omega) _)) (by kernel_rfl) rfl ?_
          intro ac238 En239
          have hm := Nat.mod_lt (UInt8.toNat b) (Nat.succ_pos (List.length sbb))
          simp only [Nat.succ_eq_add_one] at hm
          refine any_pureR (d := some 51) En239 (v := .int .i64 (IntKind.wrap .i64 (((List.length sbb : Nat) : Int) - (((UInt8.toNat b) % ((List.length sbb) + 1) : Nat) : Int)))) 15 (by kernel_rfl) (by kernel_rfl) rfl ?_
          intro ac240 En241
          rw [Go.Dbr.wr64 (e := ((List.length sbb : Nat) : Int) - ((UInt8.toNat b % (List.length sbb + 1) : Nat) : Int)) (x := ((List.length sbb - UInt8.toNat b % (List.length sbb + 1) : Nat) : Int)) (by omega) (by omega) (by omega)] at En241
          refine any_at 16 (by kernel_rfl) rfl ?_
          have hcap242 := i_sbb.cap
          refine op_slice0 (d := some 52) (t := 22) (e := 5) (sz := 1) (len := List.length sbb) (cap := c_sbb) (hi := List.length sbb - UInt8.toNat b % (List.length sbb + 1)) (ao := a_sbb) (lov := none) (hiv := (some (.int .i64 ((List.length sbb - UInt8.toNat b % (List.length sbb + 1) : Nat) : Int)))) En241 (by kernel_rfl) (by kernel_rfl) (by kernel_rfl) (by omega) (.inl ⟨rfl, rfl⟩) (.inr ⟨.i64, rfl⟩) ?_
          intro ac243 En244
          refine any_pureR (d := some 53) En244 (v := .pointer (some ⟨bk31, 1, none⟩)) 17 (by kernel_rfl) (by kernel_rfl) rfl ?_
          intro ac245 En246
          refine any_pureR (d := some 54) En246 (v := .pointer (some ⟨bk31, 2, none⟩)) 18 (by kernel_rfl) (by kernel_rfl) rfl ?_
          intro ac247 En248
          refine any_at 19 (by kernel_rfl) rfl ?_
          refine op_storebox2 (d := none) (t := 22) (b := bk31) (off := 2) (k := 1) (v := .slice a_sbb (List.length sbb - UInt8.toNat b % (List.length sbb + 1)) c_sbb) En248 (by kernel_rfl) wo209 rfl rfl (by kernel_rfl) rfl rfl rfl ?_
          intro ac249 wo250  En251 Hv252
          exact any_end (by kernel_rfl) ⟨En251.sub (by kernel_rfl), Hv252.pick [0, 1] (by kernel_rfl) (by decide)⟩
        · rintro _ rfl
          refine op_loadbox (d := some 47) (t := 22) (b := bk1) (off := 2) (k := 0) (v := .slice a_sbb (List.length sbb) c_sbb) En227 (by kernel_rfl) wo209 rfl rfl (by kernel_rfl) ?_
          intro ac253 En254
          refine any_pureR (d := some 48) En254 (v := .int .i64 ((List.length sbb : Nat) : Int)) 12 (by kernel_rfl) (by kernel_rfl) rfl ?_
          intro ac255 En256
          refine any_pureR (d := some 49) En256 (v := .int .i64 (IntKind.wrap .i64 (((List.length sbb : Nat) : Int) + (1 : Int)))) 13 (by kernel_rfl) (by kernel_rfl) rfl ?_
          intro ac257 En258
          rw [Go.Dbr.wr64 (e := ((List.length sbb : Nat) : Int) + (1 : Int)) (x := (((List.length sbb) + 1 : Nat) : Int)) (by omega) (by omega) (by omega)] at En258
          refine any_pure (d := some 50) (s := nv (Op.intDiv .rem .i64 ((UInt8.toNat b : Nat) : Int) (((List.length sbb) + 1 : Nat) : Int))) En258 (v := .int .i64 (((UInt8.toNat b) % ((List.length sbb) + 1) : Nat) : Int)) 14 (by kernel_rfl) (funext fun _ => run_nv (Go.Dbr.run_rem_nat (UInt8.toNat b) ((List.length sbb) + 1) (by omega) _)) (by kernel_rfl) rfl ?_
          intro ac259 En260
          refine any_at 5 (by kernel_rfl) rfl ?_
          refine op_loadbox (d := some 41) (t := 22) (b := bk1) (off := 2) (k := 0) (v := .slice a_sbb (List.length sbb) c_sbb) En260 (by kernel_rfl) wo209 rfl rfl (by kernel_rfl) ?_
          intro ac261 En262
          refine any_pureR (d := some 42) En262 (v := .int .i64 ((List.length sbb : Nat) : Int)) 6 (by kernel_rfl) (by kernel_rfl) rfl ?_
          intro ac263 En264
          have hm := Nat.mod_lt (UInt8.toNat b) (Nat.succ_pos (List.length sbb))
          simp only [Nat.succ_eq_add_one] at hm
          refine any_pureR (d := some 51) En264 (v := .int .i64 (IntKind.wrap .i64 (((List.length sbb : Nat) : Int) - (((UInt8.toNat b) % ((List.length sbb) + 1) : Nat) : Int)))) 15 (by kernel_rfl) (by kernel_rfl) rfl ?_
          intro ac265 En266
          rw [Go.Dbr.wr64 (e := ((List.length sbb : Nat) : Int) - ((UInt8.toNat b % (List.length sbb + 1) : Nat) : Int)) (x := ((List.length sbb - UInt8.toNat b % (List.length sbb + 1) : Nat) : Int)) (by omega) (by omega) (by omega)] at En266
          refine any_at 16 (by kernel_rfl) rfl ?_
          have hcap267 := i_sbb.cap
          refine op_slice0 (d := some 52) (t := 22) (e := 5) (sz := 1) (len := List.length sbb) (cap := c_sbb) (hi := List.length sbb - UInt8.toNat b % (List.length sbb + 1)) (ao := a_sbb) (lov := none) (hiv := (some (.int .i64 ((List.length sbb - UInt8.toNat b % (List.length sbb + 1) : Nat) : Int)))) En266 (by kernel_rfl) (by kernel_rfl) (by kernel_rfl) (by omega) (.inl ⟨rfl, rfl⟩) (.inr ⟨.i64, rfl⟩) ?_
          intro ac268 En269
          refine any_pureR (d := some 53) En269 (v := .pointer (some ⟨bk31, 1, none⟩)) 17 (by kernel_rfl) (by kernel_rfl) rfl ?_
          intro ac270 En271
          refine any_pureR (d := some 54) En271 (v := .pointer (some ⟨bk31, 2, none⟩)) 18 (by kernel_rfl) (by kernel_rfl) rfl ?_
          intro ac272 En273
          refine any_at 19 (by kernel_rfl) rfl ?_
          refine op_storebox2 (d := none) (t := 22) (b := bk31) (off := 2) (k := 1) (v := .slice a_sbb (List.length sbb - UInt8.toNat b % (List.length sbb + 1)) c_sbb) En273 (by kernel_rfl) wo209 rfl rfl (by kernel_rfl) rfl rfl rfl ?_
          intro ac274 wo275  En276 Hv277
          exact any_end (by kernel_rfl) ⟨En276.sub (by kernel_rfl), Hv277.pick [0, 1] (by kernel_rfl) (by decide)⟩
      · rintro _ rfl
        refine op_loadbox (d := some 41) (t := 22) (b := bk1) (off := 2) (k := 0) (v := .slice a_sbb (List.length sbb) c_sbb) En225 (by kernel_rfl) wo209 rfl rfl (by kernel_rfl) ?_
        intro ac278 En279
        refine any_pureR (d := some 42) En279 (v := .int .i64 ((List.length sbb : Nat) : Int)) 6 (by kernel_rfl) (by kernel_rfl) rfl ?_
        intro ac280 En281
        refine any_two 2 11 (by kernel_rfl) ?_ ?_
        · rintro _ rfl
          refine op_loadbox (d := some 38) (t := 22) (b := bk1) (off := 2) (k := 0) (v := .slice a_sbb (List.length sbb) c_sbb) En281 (by kernel_rfl) wo209 rfl rfl (by kernel_rfl) ?_
          intro ac282 En283
          refine any_at 11 (by kernel_rfl) rfl ?_
          refine op_loadbox (d := some 47) (t := 22) (b := bk1) (off := 2) (k := 0) (v := .slice a_sbb (List.length sbb) c_sbb) En283 (by kernel_rfl) wo209 rfl rfl (by kernel_rfl) ?_
          intro ac284 En285
          refine any_pureR (d := some 48) En285 (v := .int .i64 ((List.length sbb : Nat) : Int)) 12 (by kernel_rfl) (by kernel_rfl) rfl ?_
          intro ac286 En287
          refine any_pureR (d := some 49) En287 (v := .int .i64 (IntKind.wrap .i64 (((List.length sbb : Nat) : Int) + (1 : Int)))) 13 (by kernel_rfl) (by kernel_rfl) rfl ?_
          intro ac288 En289
          rw [Go.Dbr.wr64 (e := ((List.length sbb : Nat) : Int) + (1 : Int)) (x := (((List.length sbb) + 1 : Nat) : Int)) (by omega) (by omega) (by omega)] at En289
          refine any_pure (d := some 50) (s := nv (Op.intDiv .rem .i64 ((UInt8.toNat b : Nat) : Int) (((List.length sbb) + 1 : Nat) : Int))) En289 (v := .int .i64 (((UInt8.toNat b) % ((List.length sbb) + 1) : Nat) : Int)) 14 (by kernel_rfl) (funext fun _ => run_nv (Go.Dbr.run_rem_nat (UInt8.toNat b) ((List.length sbb) + 1) (by omega) _)) (by kernel_rfl) rfl ?_
          intro ac290 En291
          have hm := Nat.mod_lt (UInt8.toNat b) (Nat.succ_pos (List.length sbb))
          simp only [Nat.succ_eq_add_one] at hm
          refine any_pureR (d := some 51) En291 (v := .int .i64 (IntKind.wrap .i64 (((List.length sbb : Nat) : Int) - (((UInt8.toNat b) % ((List.length sbb) + 1) : Nat) : Int)))) 15 (by kernel_rfl) (by kernel_rfl) rfl ?_
          intro ac292 En293
          rw [Go.Dbr.wr64 (e := ((List.length sbb : Nat) : Int) - ((UInt8.toNat b % (List.length sbb + 1) : Nat) : Int)) (x := ((List.length sbb - UInt8.toNat b % (List.length sbb + 1) : Nat) : Int)) (by omega) (by omega) (by omega)] at En293
          refine any_at 16 (by kernel_rfl) rfl ?_
          have hcap294 := i_sbb.cap
          refine op_slice0 (d := some 52) (t := 22) (e := 5) (sz := 1) (len := List.length sbb) (cap := c_sbb) (hi := List.length sbb - UInt8.toNat b % (List.length sbb + 1)) (ao := a_sbb) (lov := none) (hiv := (some (.int .i64 ((List.length sbb - UInt8.toNat b % (List.length sbb + 1) : Nat) : Int)))) En293 (by kernel_rfl) (by kernel_rfl) (by kernel_rfl) (by omega) (.inl ⟨rfl, rfl⟩) (.inr ⟨.i64, rfl⟩) ?_
          intro ac295 En296
          refine any_pureR (d := some 53) En296 (v := .pointer (some ⟨bk31, 1, none⟩)) 17 (by kernel_rfl) (by kernel_rfl) rfl ?_
          intro ac297 En298
          refine any_pureR (d := some 54) En298 (v := .pointer (some ⟨bk31, 2, none⟩)) 18 (by kernel_rfl) (by kernel_rfl) rfl ?_
          intro ac299 En300
          refine any_at 19 (by kernel_rfl) rfl ?_
          refine op_storebox2 (d := none) (t := 22) (b := bk31) (off := 2) (k := 1) (v := .slice a_sbb (List.length sbb - UInt8.toNat b % (List.length sbb + 1)) c_sbb) En300 (by kernel_rfl) wo209 rfl rfl (by kernel_rfl) rfl rfl rfl ?_
          intro ac301 wo302  En303 Hv304
          exact any_end (by kernel_rfl) ⟨En303.sub (by kernel_rfl), Hv304.pick [0, 1] (by kernel_rfl) (by decide)⟩
        · rintro _ rfl
          refine op_loadbox (d := some 47) (t := 22) (b := bk1) (off := 2) (k := 0) (v := .slice a_sbb (List.length sbb) c_sbb) En281 (by kernel_rfl) wo209 rfl rfl (by kernel_rfl) ?_
          intro ac305 En306
          refine any_pureR (d := some 48) En306 (v := .int .i64 ((List.length sbb : Nat) : Int)) 12 (by kernel_rfl) (by kernel_rfl) rfl ?_
          intro ac307 En308
          refine any_pureR (d := some 49) En308 (v := .int .i64 (IntKind.wrap .i64 (((List.length sbb : Nat) : Int) + (1 : Int)))) 13 (by kernel_rfl) (by kernel_rfl) rfl ?_
          intro ac309 En310
          rw [Go.Dbr.wr64 (e := ((List.length sbb : Nat) : Int) + (1 : Int)) (x := (((List.length sbb) + 1 : Nat) : Int)) (by omega) (by omega) (by omega)] at En310
          refine any_pure (d := some 50) (s := nv (Op.intDiv .rem .i64 ((UInt8.toNat b : Nat) : Int) (((List.length sbb) + 1 : Nat) : Int))) En310 (v := .int .i64 (((UInt8.toNat b) % ((List.length sbb) + 1) : Nat) : Int)) 14 (by kernel_rfl) (funext fun _ => run_nv (Go.Dbr.run_rem_nat (UInt8.toNat b) ((List.length sbb) + 1) (by omega) _)) (by kernel_rfl) rfl ?_
          intro ac311 En312
          have hm := Nat.mod_lt (UInt8.toNat b) (Nat.succ_pos (List.length sbb))
          simp only [Nat.succ_eq_add_one] at hm
          refine any_pureR (d := some 51) En312 (v := .int .i64 (IntKind.wrap .i64 (((List.length sbb : Nat) : Int) - (((UInt8.toNat b) % ((List.length sbb) + 1) : Nat) : Int)))) 15 (by kernel_rfl) (by kernel_rfl) rfl ?_
          intro ac313 En314
          rw [Go.Dbr.wr64 (e := ((List.length sbb : Nat) : Int) - ((UInt8.toNat b % (List.length sbb + 1) : Nat) : Int)) (x := ((List.length sbb - UInt8.toNat b % (List.length sbb + 1) : Nat) : Int)) (by omega) (by omega) (by omega)] at En314
          refine any_at 2 (by kernel_rfl) rfl ?_
          refine op_loadbox (d := some 38) (t := 22) (b := bk1) (off := 2) (k := 0) (v := .slice a_sbb (List.length sbb) c_sbb) En314 (by kernel_rfl) wo209 rfl rfl (by kernel_rfl) ?_
          intro ac315 En316
          refine any_at 16 (by kernel_rfl) rfl ?_
          have hcap317 := i_sbb.cap
          refine op_slice0 (d := some 52) (t := 22) (e := 5) (sz := 1) (len := List.length sbb) (cap := c_sbb) (hi := List.length sbb - UInt8.toNat b % (List.length sbb + 1)) (ao := a_sbb) (lov := none) (hiv := (some (.int .i64 ((List.length sbb - UInt8.toNat b % (List.length sbb + 1) : Nat) : Int)))) En316 (by kernel_rfl) (by kernel_rfl) (by kernel_rfl) (by omega) (.inl ⟨rfl, rfl⟩) (.inr ⟨.i64, rfl⟩) ?_
          intro ac318 En319
          refine any_pureR (d := some 53) En319 (v := .pointer (some ⟨bk31, 1, none⟩)) 17 (by kernel_rfl) (by kernel_rfl) rfl ?_
          intro ac320 En321
          refine any_pureR (d := some 54) En321 (v := .pointer (some ⟨bk31, 2, none⟩)) 18 (by kernel_rfl) (by kernel_rfl) rfl ?_
          intro ac322 En323
          refine any_at 19 (by kernel_rfl) rfl ?_
          refine op_storebox2 (d := none) (t := 22) (b := bk31) (off := 2) (k := 1) (v := .slice a_sbb (List.length sbb - UInt8.toNat b % (List.length sbb + 1)) c_sbb) En323 (by kernel_rfl) wo209 rfl rfl (by kernel_rfl) rfl rfl rfl ?_
          intro ac324 wo325  En326 Hv327
          exact any_end (by kernel_rfl) ⟨En326.sub (by kernel_rfl), Hv327.pick [0, 1] (by kernel_rfl) (by decide)⟩
      · rintro _ rfl
        refine op_loadbox (d := some 47) (t := 22) (b := bk1) (off := 2) (k := 0) (v := .slice a_sbb (List.length sbb) c_sbb) En225 (by kernel_rfl) wo209 rfl rfl (by kernel_rfl) ?_
        intro ac328 En329
        refine any_pureR (d := some 48) En329 (v := .int .i64 ((List.length sbb : Nat) : Int)) 12 (by kernel_rfl) (by kernel_rfl) rfl ?_
        intro ac330 En331
        refine any_pureR (d := some 49) En331 (v := .int .i64 (IntKind.wrap .i64 (((List.length sbb : Nat) : Int) + (1 : Int)))) 13 (by kernel_rfl) (by kernel_rfl) rfl ?_
        intro ac332 En333
        rw [Go.Dbr.wr64 (e := ((List.length sbb : Nat) : Int) + (1 : Int)) (x := (((List.length sbb) + 1 : Nat) : Int)) (by omega) (by omega) (by omega)] at En333
        refine any_pure (d := some 50) (s := nv (Op.intDiv .rem .i64 ((UInt8.toNat b : Nat) : Int) (((List.length sbb) + 1 : Nat) : Int))) En333 (v := .int .i64 (((UInt8.toNat b) % ((List.length sbb) + 1) : Nat) : Int)) 14 (by kernel_rfl) (funext fun _ => run_nv (Go.Dbr.run_rem_nat (UInt8.toNat b) ((List.length sbb) + 1) (by omega) _)) (by kernel_rfl) rfl ?_
        intro ac334 En335
        refine any_two 2 5 (by kernel_rfl) ?_ ?_
        · rintro _ rfl
          refine op_loadbox (d := some 38) (t := 22) (b := bk1) (off := 2) (k := 0) (v := .slice a_sbb (List.length sbb) c_sbb) En335 (by kernel_rfl) wo209 rfl rfl (by kernel_rfl) ?_
          intro ac336 En337
          refine any_at 5 (by kernel_rfl) rfl ?_
          refine op_loadbox (d := some 41) (t := 22) (b := bk1) (off := 2) (k := 0) (v := .slice a_sbb (List.length sbb) c_sbb) En337 (by kernel_rfl) wo209 rfl rfl (by kernel_rfl) ?_
          intro ac338 En339
          refine any_pureR (d := some 42) En339 (v := .int .i64 ((List.length sbb : Nat) : Int)) 6 (by kernel_rfl) (by kernel_rfl) rfl ?_
          intro ac340 En341
          have hm := Nat.mod_lt (UInt8.toNat b) (Nat.succ_pos (List.length sbb))
          simp only [Nat.succ_eq_add_one] at hm
          refine any_pureR (d := some 51) En341 (v := .int .i64 (IntKind.wrap .i64 (((List.length sbb : Nat) : Int) - (((UInt8.toNat b) % ((List.length sbb) + 1) : Nat) : Int)))) 15 (by kernel_rfl) (by kernel_rfl) rfl ?_
          intro ac342 En343
          rw [Go.Dbr.wr64 (e := ((List.length sbb : Nat) : Int) - ((UInt8.toNat b % (List.length sbb + 1) : Nat) : Int)) (x := ((List.length sbb - UInt8.toNat b % (List.length sbb + 1) : Nat) : Int)) (by omega) (by omega) (by omega)] at En343
          refine any_at 16 (by kernel_rfl) rfl ?_
          have hcap344 := i_sbb.cap
          refine op_slice0 (d := some 52) (t := 22) (e := 5) (sz := 1) (len := List.length sbb) (cap := c_sbb) (hi := List.length sbb - UInt8.toNat b % (List.length sbb + 1)) (ao := a_sbb) (lov := none) (hiv := (some (.int .i64 ((List.length sbb - UInt8.toNat b % (List.length sbb + 1) : Nat) : Int)))) En343 (by kernel_rfl) (by kernel_rfl) (by kernel_rfl) (by omega) (.inl ⟨rfl, rfl⟩) (.inr ⟨.i64, rfl⟩) ?_
          intro ac345 En346
          refine any_pureR (d := some 53) En346 (v := .pointer (some ⟨bk31, 1, none⟩)) 17 (by kernel_rfl) (by kernel_rfl) rfl ?_
          intro ac347 En348
          refine any_pureR (d := some 54) En348 (v := .pointer (some ⟨bk31, 2, none⟩)) 18 (by kernel_rfl) (by kernel_rfl) rfl ?_
          intro ac349 En350
          refine any_at 19 (by kernel_rfl) rfl ?_
          refine op_storebox2 (d := none) (t := 22) (b := bk31) (off := 2) (k := 1) (v := .slice a_sbb (List.length sbb - UInt8.toNat b % (List.length sbb + 1)) c_sbb) En350 (by kernel_rfl) wo209 rfl rfl (by kernel_rfl) rfl rfl rfl ?_
          intro ac351 wo352  En353 Hv354
          exact any_end (by kernel_rfl) ⟨En353.sub (by kernel_rfl), Hv354.pick [0, 1] (by kernel_rfl) (by decide)⟩
        · rintro _ rfl
          refine op_loadbox (d := some 41) (t := 22) (b := bk1) (off := 2) (k := 0) (v := .slice a_sbb (List.length sbb) c_sbb) En335 (by kernel_rfl) wo209 rfl rfl (by kernel_rfl) ?_
          intro ac355 En356
          refine any_pureR (d := some 42) En356 (v := .int .i64 ((List.length sbb : Nat) : Int)) 6 (by kernel_rfl) (by kernel_rfl) rfl ?_
          intro ac357 En358
          have hm := Nat.mod_lt (UInt8.toNat b) (Nat.succ_pos (List.length sbb))
          simp only [Nat.succ_eq_add_one] at hm
          refine any_pureR (d := some 51) En358 (v := .int .i64 (IntKind.wrap .i64 (((List.length sbb : Nat) : Int) - (((UInt8.toNat b) % ((List.length sbb) + 1) : Nat) : Int)))) 15 (by kernel_rfl) (by kernel_rfl) rfl ?_
          intro ac359 En360
          rw [Go.Dbr.wr64 (e := ((List.length sbb : Nat) : Int) - ((UInt8.toNat b % (List.length sbb + 1) : Nat) : Int)) (x := ((List.length sbb - UInt8.toNat b % (List.length sbb + 1) : Nat) : Int)) (by omega) (by omega) (by omega)] at En360
          refine any_at 2 (by kernel_rfl) rfl ?_
          refine op_loadbox (d := some 38) (t := 22) (b := bk1) (off := 2) (k := 0) (v := .slice a_sbb (List.length sbb) c_sbb) En360 (by kernel_rfl) wo209 rfl rfl (by kernel_rfl) ?_
          intro ac361 En362
          refine any_at 16 (by kernel_rfl) rfl ?_
          have hcap363 := i_sbb.cap
          refine op_slice0 (d := some 52) (t := 22) (e := 5) (sz := 1) (len := List.length sbb) (cap := c_sbb) (hi := List.length sbb - UInt8.toNat b % (List.length sbb + 1)) (ao := a_sbb) (lov := none) (hiv := (some (.int .i64 ((List.length sbb - UInt8.toNat b % (List.length sbb + 1) : Nat) : Int)))) En362 (by kernel_rfl) (by kernel_rfl) (by kernel_rfl) (by omega) (.inl ⟨rfl, rfl⟩) (.inr ⟨.i64, rfl⟩) ?_
          intro ac364 En365
          refine any_pureR (d := some 53) En365 (v := .pointer (some ⟨bk31, 1, none⟩)) 17 (by kernel_rfl) (by kernel_rfl) rfl ?_
          intro ac366 En367
          refine any_pureR (d := some 54) En367 (v := .pointer (some ⟨bk31, 2, none⟩)) 18 (by kernel_rfl) (by kernel_rfl) rfl ?_
          intro ac368 En369
          refine any_at 19 (by kernel_rfl) rfl ?_
          refine op_storebox2 (d := none) (t := 22) (b := bk31) (off := 2) (k := 1) (v := .slice a_sbb (List.length sbb - UInt8.toNat b % (List.length sbb + 1)) c_sbb) En369 (by kernel_rfl) wo209 rfl rfl (by kernel_rfl) rfl rfl rfl ?_
          intro ac370 wo371  En372 Hv373
          exact any_end (by kernel_rfl) ⟨En372.sub (by kernel_rfl), Hv373.pick [0, 1] (by kernel_rfl) (by decide)⟩
    rintro ac374 wo375 ⟨En376, Hv377⟩
    refine then_normal ?_
    refine wp_seq ?_
    refine region_from ?_  -- region 7
    refine d_pures [(1, .int .u8 ((UInt8.toNat a : Nat) : Int)), (2, .int .u8 ((UInt8.toNat b : Nat) : Int)), (3, .pointer (some ⟨bk1, 0, none⟩)), (6, .bool false), (7, .bool true), (8, .pointer (some ⟨bk31, 0, none⟩)), (56, .pointer (some ⟨bk31, 8, none⟩))] [.pointer (some ⟨bk31, 5, none⟩), .pointer (some ⟨bk31, 8, none⟩)] 2 En376 (by kernel_rfl) (by kernel_rfl) rfl ?_
    intro ac378 En379
    refine from_op (by kernel_rfl) ?_
    refine op_storebox2 (d := none) (t := 4) (b := bk31) (off := 8) (k := 1) (v := .bool false) En379 (by kernel_rfl) Hv377 rfl rfl (by kernel_rfl) rfl rfl (L' := [.box bk1 [.slice a_sa (List.length sa) c_sa, .slice a_sba (List.length sba) c_sba, .slice a_sbb (List.length sbb) c_sbb, .bool sbc, .bool sbd, .slice a_sca (List.length sca) c_sca, .slice a_scb (List.length scb) c_scb, .bool scc, .bool scd] 26, .box bk31 [.slice a_sa (List.length sa) c_sa, .slice a_sba (List.length sba) c_sba, .slice a_sbb (List.length sbb - UInt8.toNat b % (List.length sbb + 1)) c_sbb, .bool sbc, .bool sbd, .slice a_sca (List.length sca) c_sca, .slice a_scb (List.length scb - UInt8.toNat a % (List.length scb + 1)) c_scb, .bool scc, .bool false] 26]) rfl ?_
    intro ac380 wo381  En382 Hv383
    refine from_end (by kernel_rfl) ?_
    refine then_normal ?_
    refine wp_seq ?_
    refine region_from ?_  -- region 8
    refine d_pures [(1, .int .u8 ((UInt8.toNat a : Nat) : Int)), (2, .int .u8 ((UInt8.toNat b : Nat) : Int)), (3, .pointer (some ⟨bk1, 0, none⟩)), (6, .bool false), (7, .bool true), (8, .pointer (some ⟨bk31, 0, none⟩)), (58, .pointer (some ⟨bk31, 4, none⟩))] [.pointer (some ⟨bk31, 1, none⟩), .pointer (some ⟨bk31, 4, none⟩)] 2 En382 (by kernel_rfl) (by kernel_rfl) rfl ?_
    intro ac384 En385
    refine from_op (by kernel_rfl) ?_
    refine op_storebox2 (d := none) (t := 4) (b := bk31) (off := 4) (k := 1) (v := .bool false) En385 (by kernel_rfl) Hv383 rfl rfl (by kernel_rfl) rfl rfl (L' := [.box bk1 [.slice a_sa (List.length sa) c_sa, .slice a_sba (List.length sba) c_sba, .slice a_sbb (List.length sbb) c_sbb, .bool sbc, .bool sbd, .slice a_sca (List.length sca) c_sca, .slice a_scb (List.length scb) c_scb, .bool scc, .bool scd] 26, .box bk31 [.slice a_sa (List.length sa) c_sa, .slice a_sba (List.length sba) c_sba, .slice a_sbb (List.length sbb - UInt8.toNat b % (List.length sbb + 1)) c_sbb, .bool sbc, .bool false, .slice a_sca (List.length sca) c_sca, .slice a_scb (List.length scb - UInt8.toNat a % (List.length scb + 1)) c_scb, .bool scc, .bool false] 26]) rfl ?_
    intro ac386 wo387  En388 Hv389
    refine from_end (by kernel_rfl) ?_
    refine then_normal ?_
    refine wp_seq ?_
    refine region_from ?_  -- region 9
    refine from_op (by kernel_rfl) ?_
    refine op_loadaggbox (d := some 59) (t := 26) (b := bk1) (off := 0) (k := 0) (m := 9) (xs := [.slice a_sa (List.length sa) c_sa, .slice a_sba (List.length sba) c_sba, .slice a_sbb (List.length sbb) c_sbb, .bool sbc, .bool sbd, .slice a_sca (List.length sca) c_sca, .slice a_scb (List.length scb) c_scb, .bool scc, .bool scd]) En388 (by kernel_rfl) Hv389 rfl rfl rfl (by kernel_rfl) (by kernel_rfl) ?_
    intro ac390 En391
    refine from_op (by kernel_rfl) ?_
    refine op_alloc (d := some 9) (T := 26) (x := .tuple #[]) (z := .agg #[.slice none 0 0, .slice none 0 0, .slice none 0 0, .bool false, .bool false, .slice none 0 0, .slice none 0 0, .bool false, .bool false]) (cs := [.slice none 0 0, .slice none 0 0, .slice none 0 0, .bool false, .bool false, .slice none 0 0, .slice none 0 0, .bool false, .bool false]) En391 (by kernel_rfl) (by kernel_rfl) (by kernel_rfl) Hv389 ?_
    intro ac393 wo394 bk392 En395 Hv396
    refine from_op (by kernel_rfl) ?_
    refine op_storeaggbox (d := none) (t := 26) (b := bk392) (off := 0) (k := 2) (m := 9) (xs := [.slice a_sa (List.length sa) c_sa, .slice a_sba (List.length sba) c_sba, .slice a_sbb (List.length sbb) c_sbb, .bool sbc, .bool sbd, .slice a_sca (List.length sca) c_sca, .slice a_scb (List.length scb) c_scb, .bool scc, .bool scd]) (v := .agg #[.slice a_sa (List.length sa) c_sa, .slice a_sba (List.length sba) c_sba, .slice a_sbb (List.length sbb) c_sbb, .bool sbc, .bool sbd, .slice a_sca (List.length sca) c_sca, .slice a_scb (List.length scb) c_scb, .bool scc, .bool scd]) (cs' := [.slice a_sa (List.length sa) c_sa, .slice a_sba (List.length sba) c_sba, .slice a_sbb (List.length sbb) c_sbb, .bool sbc, .bool sbd, .slice a_sca (List.length sca) c_sca, .slice a_scb (List.length scb) c_scb, .bool scc, .bool scd]) En395 (by kernel_rfl) Hv396 rfl rfl rfl (by simp) (by kernel_rfl) (one_all (by kernel_rfl)) rfl (L' := [.box bk1 [.slice a_sa (List.length sa) c_sa, .slice a_sba (List.length sba) c_sba, .slice a_sbb (List.length sbb) c_sbb, .bool sbc, .bool sbd, .slice a_sca (List.length sca) c_sca, .slice a_scb (List.length scb) c_scb, .bool scc, .bool scd] 26, .box bk31 [.slice a_sa (List.length sa) c_sa, .slice a_sba (List.length sba) c_sba, .slice a_sbb (List.length sbb - UInt8.toNat b % (List.length sbb + 1)) c_sbb, .bool sbc, .bool false, .slice a_sca (List.length sca) c_sca, .slice a_scb (List.length scb - UInt8.toNat a % (List.length scb + 1)) c_scb, .bool scc, .bool false] 26, .box bk392 [.slice a_sa (List.length sa) c_sa, .slice a_sba (List.length sba) c_sba, .slice a_sbb (List.length sbb) c_sbb, .bool sbc, .bool sbd, .slice a_sca (List.length sca) c_sca, .slice a_scb (List.length scb) c_scb, .bool scc, .bool scd] 26]) rfl ?_
    intro ac397 wo398  En399 Hv400
    refine from_end (by kernel_rfl) ?_
    refine then_normal ?_
    refine wp_seq ?_
    refine region_cut (F := fun ac wo => ∃ (ao440 : Option Addr) (cp441 : Nat), Env ac 100 [(1, .int .u8 ((UInt8.toNat a : Nat) : Int)), (2, .int .u8 ((UInt8.toNat b : Nat) : Int)), (3, .pointer (some ⟨bk1, 0, none⟩)), (6, .bool false), (7, .bool true), (8, .pointer (some ⟨bk31, 0, none⟩)), (9, .pointer (some ⟨bk392, 0, none⟩))] ∧ Ev w [] wo [.box bk1 [.slice a_sa (List.length sa) c_sa, .slice a_sba (List.length sba) c_sba, .slice a_sbb (List.length sbb) c_sbb, .bool sbc, .bool sbd, .slice a_sca (List.length sca) c_sca, .slice a_scb (List.length scb) c_scb, .bool scc, .bool scd] 26, .box bk31 [.slice a_sa (List.length sa) c_sa, .slice a_sba (List.length sba) c_sba, .slice a_sbb (List.length sbb - UInt8.toNat b % (List.length sbb + 1)) c_sbb, .bool sbc, .bool false, .slice a_sca (List.length sca) c_sca, .slice a_scb (List.length scb - UInt8.toNat a % (List.length scb + 1)) c_scb, .bool scc, .bool false] 26, .box bk392 [.slice a_sa (List.length sa) c_sa, .slice a_sba (List.length sba) c_sba, .slice a_sbb (List.length sbb) c_sbb, .bool sbc, .bool sbd, .slice a_sca (List.length sca) c_sca, .slice ao440 (List.length ((sa ++ sba) ++ [a])) cp441, .bool scc, .bool scd] 26, .vec ao440 cp441 1 (bys ((sa ++ sba) ++ [a])) 5]) ?_ ?_
    ·
      refine draw_any (by kernel_rfl) 14 (by kernel_rfl) ?_  -- region 10
      have wo401 := Hv400.trans (Ev.drew Hv400.heap)
      refine any_pureR (d := some 61) En399 (v := .pointer (some ⟨bk1, 0, none⟩)) 1 (by kernel_rfl) (by kernel_rfl) rfl ?_
      intro ac402 En403
      refine any_pureR (d := some 64) En403 (v := .pointer (some ⟨bk1, 1, none⟩)) 4 (by kernel_rfl) (by kernel_rfl) rfl ?_
      intro ac404 En405
      refine any_pureR (d := some 65) En405 (v := .pointer (some ⟨bk1, 1, none⟩)) 5 (by kernel_rfl) (by kernel_rfl) rfl ?_
      intro ac406 En407
      refine any_pureR (d := some 68) En407 (v := .int .u8 ((UInt8.toNat a : Nat) : Int)) 8 (by kernel_rfl) (by kernel_rfl) rfl ?_
      intro ac408 En409
      refine any_ways [0, 2, 6, 9] (by kernel_rfl) rfl ?_
      refine ⟨?_, ?_, ?_, ?_, trivial⟩
      · rintro _ rfl
        refine op_lit (d := some 60) (t := 22) (T := 5) (m := 0) (parts := #[]) (xs := bys []) (sz := 1) En409 (by kernel_rfl) (by kernel_rfl) rfl (by decide) wo401 ?_
        intro ac411 wo412 bk410 En413 Hv414
        refine any_ways [2, 6, 9] (by kernel_rfl) rfl ?_
        refine ⟨?_, ?_, ?_, trivial⟩
        · rintro _ rfl
          refine op_loadbox (d := some 62) (t := 22) (b := bk1) (off := 0) (k := 0) (v := .slice a_sa (List.length sa) c_sa) En413 (by kernel_rfl) Hv414 rfl rfl (by kernel_rfl) ?_
          intro ac415 En416
          refine any_ways [3, 6, 9] (by kernel_rfl) rfl ?_
          refine ⟨?_, ?_, ?_, trivial⟩
          · rintro _ rfl
            refine op_append (d := some 63) (t := 22) (tx := 22) (ty := 22) (k := 3) (p := 0) (m := List.length sa) (x := .slice a_sa (List.length sa) c_sa) (bytes := 1) En416 (by kernel_rfl) Hv414 rfl rfl (Reads.src (size := 1) (tx := 22) (e' := 5) (by kernel_rfl) (i_sa.ev Hv414).reads (bys_len _) i_sa.nz (bys_one _)) (by kernel_rfl) (z := .int .u8 0) (by kernel_rfl) rfl (by decide) (by omega) (by unfold maxLen; omega) ?_
            intro ac421 wo422 ao417 cp418 En423 Hv424 _ _
            rw [bys_nil_append] at Hv424
            have ehz419 : 0 + List.length sa = List.length sa := (by first | (simp; done) | (simp; omega) | omega)
            rw [ehz419] at En423
            refine any_two 6 9 (by kernel_rfl) ?_ ?_
            · rintro _ rfl
              refine op_loadbox (d := some 66) (t := 22) (b := bk1) (off := 1) (k := 0) (v := .slice a_sba (List.length sba) c_sba) En423 (by kernel_rfl) Hv424 rfl rfl (by kernel_rfl) ?_
              intro ac425 En426
              refine any_two 7 9 (by kernel_rfl) ?_ ?_
              · rintro _ rfl
                refine op_append (d := some 67) (t := 22) (tx := 22) (ty := 22) (k := 3) (p := List.length sa) (m := List.length sba) (x := .slice a_sba (List.length sba) c_sba) (bytes := 1) En426 (by kernel_rfl) Hv424 rfl (bys_len _) (Reads.src (size := 1) (tx := 22) (e' := 5) (by kernel_rfl) (i_sba.ev Hv424).reads (bys_len _) i_sba.nz (bys_one _)) (by kernel_rfl) (z := .int .u8 0) (by kernel_rfl) rfl (by decide) (by omega) (by unfold maxLen; omega) ?_
                intro ac431 wo432 ao427 cp428 En433 Hv434 _ _
                rw [← bys_append] at Hv434
                have ehz429 : (List.length sa) + List.length sba = List.length (sa ++ sba) := (by first | (simp; done) | (simp; omega) | omega)
                rw [ehz429] at En433
                refine any_at 9 (by kernel_rfl) rfl ?_
                refine op_lit (d := some 69) (t := 22) (T := 5) (m := 1) (parts := #[(0, .int .u8 ((UInt8.toNat a : Nat) : Int))]) (xs := bys [a]) (sz := 1) En433 (by kernel_rfl) (by kernel_rfl) rfl (by decide) Hv434 ?_
                intro ac436 wo437 bk435 En438 Hv439
                refine any_at 10 (by kernel_rfl) rfl ?_
                refine op_append (d := some 70) (t := 22) (tx := 22) (ty := 22) (k := 3) (p := List.length (sa ++ sba)) (m := 1) (x := .slice (some ⟨bk435, 0, none⟩) 1 1) (bytes := 1) En438 (by kernel_rfl) Hv439 rfl (bys_len _) (Reads.src (size := 1) (tx := 22) (e' := 5) (by kernel_rfl) (Hv439.heap.reads (k := 4) rfl) rfl (fun e => by cases e) (bys_one _)) (by kernel_rfl) (z := .int .u8 0) (by kernel_rfl) rfl (by decide) (by omega) (by unfold maxLen; omega) ?_
                intro ac444 wo445 ao440 cp441 En446 Hv447 _ _
                rw [← bys_append] at Hv447
                have ehz442 : (List.length (sa ++ sba)) + 1 = List.length ((sa ++ sba) ++ [a]) := (by first | (simp; done) | (simp; omega) | omega)
                rw [ehz442] at En446
                refine any_pureR (d := some 71) En446 (v := .pointer (some ⟨bk392, 5, none⟩)) 11 (by kernel_rfl) (by kernel_rfl) rfl ?_
                intro ac448 En449
                refine any_pureR (d := some 72) En449 (v := .pointer (some ⟨bk392, 6, none⟩)) 12 (by kernel_rfl) (by kernel_rfl) rfl ?_
                intro ac450 En451
                refine any_at 13 (by kernel_rfl) rfl ?_
                refine op_storebox2 (d := none) (t := 22) (b := bk392) (off := 6) (k := 2) (v := .slice ao440 (List.length ((sa ++ sba) ++ [a])) cp441) En451 (by kernel_rfl) Hv447 rfl rfl (by kernel_rfl) rfl rfl rfl ?_
                intro ac452 wo453  En454 Hv455
                exact any_end (by kernel_rfl) ⟨ao440, cp441, En454.sub (by kernel_rfl), Hv455.pick [0, 1, 2, 3] (by kernel_rfl) (by decide)⟩
              · rintro _ rfl
                refine op_lit (d := some 69) (t := 22) (T := 5) (m := 1) (parts := #[(0, .int .u8 ((UInt8.toNat a : Nat) : Int))]) (xs := bys [a]) (sz := 1) En426 (by kernel_rfl) (by kernel_rfl) rfl (by decide) Hv424 ?_
                intro ac457 wo458 bk456 En459 Hv460
                refine any_at 7 (by kernel_rfl) rfl ?_
                refine op_append (d := some 67) (t := 22) (tx := 22) (ty := 22) (k := 3) (p := List.length sa) (m := List.length sba) (x := .slice a_sba (List.length sba) c_sba) (bytes := 1) En459 (by kernel_rfl) Hv460 rfl (bys_len _) (Reads.src (size := 1) (tx := 22) (e' := 5) (by kernel_rfl) (i_sba.ev Hv460).reads (bys_len _) i_sba.nz (bys_one _)) (by kernel_rfl) (z := .int .u8 0) (by kernel_rfl) rfl (by decide) (by omega) (by unfold maxLen; omega) ?_
                intro ac465 wo466 ao461 cp462 En467 Hv468 _ _
                rw [← bys_append] at Hv468
                have ehz463 : (List.length sa) + List.length sba = List.length (sa ++ sba) := (by first | (simp; done) | (simp; omega) | omega)
                rw [ehz463] at En467
                refine any_at 10 (by kernel_rfl) rfl ?_
                refine op_append (d := some 70) (t := 22) (tx := 22) (ty := 22) (k := 3) (p := List.length (sa ++ sba)) (m := 1) (x := .slice (some ⟨bk456, 0, none⟩) 1 1) (bytes := 1) En467 (by kernel_rfl) Hv468 rfl (bys_len _) (Reads.src (size := 1) (tx := 22) (e' := 5) (by kernel_rfl) (Hv468.heap.reads (k := 4) rfl) rfl (fun e => by cases e) (bys_one _)) (by kernel_rfl) (z := .int .u8 0) (by kernel_rfl) rfl (by decide) (by omega) (by unfold maxLen; omega) ?_
                intro ac473 wo474 ao469 cp470 En475 Hv476 _ _
                rw [← bys_append] at Hv476
                have ehz471 : (List.length (sa ++ sba)) + 1 = List.length ((sa ++ sba) ++ [a]) := (by first | (simp; done) | (simp; omega) | omega)
                rw [ehz471] at En475
                refine any_pureR (d := some 71) En475 (v := .pointer (some ⟨bk392, 5, none⟩)) 11 (by kernel_rfl) (by kernel_rfl) rfl ?_
                intro ac477 En478
                refine any_pureR (d := some 72) En478 (v := .pointer (some ⟨bk392, 6, none⟩)) 12 (by kernel_rfl) (by kernel_rfl) rfl ?_
                intro ac479 En480
                refine any_at 13 (by kernel_rfl) rfl ?_
                refine op_storebox2 (d := none) (t := 22) (b := bk392) (off := 6) (k := 2) (v := .slice ao469 (List.length ((sa ++ sba) ++ [a])) cp470) En480 (by kernel_rfl) Hv476 rfl rfl (by kernel_rfl) rfl rfl rfl ?_
                intro ac481 wo482  En483 Hv484
                exact any_end (by kernel_rfl) ⟨ao469, cp470, En483.sub (by kernel_rfl), Hv484.pick [0, 1, 2, 3] (by kernel_rfl) (by decide)⟩
            · rintro _ rfl
              refine op_lit (d := some 69) (t := 22) (T := 5) (m := 1) (parts := #[(0, .int .u8 ((UInt8.toNat a : Nat) : Int))]) (xs := bys [a]) (sz := 1) En423 (by kernel_rfl) (by kernel_rfl) rfl (by decide) Hv424 ?_
              intro ac486 wo487 bk485 En488 Hv489
              refine any_at 6 (by kernel_rfl) rfl ?_
              refine op_loadbox (d := some 66) (t := 22) (b := bk1) (off := 1) (k := 0) (v := .slice a_sba (List.length sba) c_sba) En488 (by kernel_rfl) Hv489 rfl rfl (by kernel_rfl) ?_
              intro ac490 En491
              refine any_at 7 (by kernel_rfl) rfl ?_
              refine op_append (d := some 67) (t := 22) (tx := 22) (ty := 22) (k := 3) (p := List.length sa) (m := List.length sba) (x := .slice a_sba (List.length sba) c_sba) (bytes := 1) En491 (by kernel_rfl) Hv489 rfl (bys_len _) (Reads.src (size := 1) (tx := 22) (e' := 5) (by kernel_rfl) (i_sba.ev Hv489).reads (bys_len _) i_sba.nz (bys_one _)) (by kernel_rfl) (z := .int .u8 0) (by kernel_rfl) rfl (by decide) (by omega) (by unfold maxLen; omega) ?_
              intro ac496 wo497 ao492 cp493 En498 Hv499 _ _
              rw [← bys_append] at Hv499
              have ehz494 : (List.length sa) + List.length sba = List.length (sa ++ sba) := (by first | (simp; done) | (simp; omega) | omega)
              rw [ehz494] at En498
              refine any_at 10 (by kernel_rfl) rfl ?_
              refine op_append (d := some 70) (t := 22) (tx := 22) (ty := 22) (k := 3) (p := List.length (sa ++ sba)) (m := 1) (x := .slice (some ⟨bk485, 0, none⟩) 1 1) (bytes := 1) En498 (by kernel_rfl) Hv499 rfl (bys_len _) (Reads.src (size := 1) (tx := 22) (e' := 5) (by kernel_rfl) (Hv499.heap.reads (k := 4) rfl) rfl (fun e => by cases e) (bys_one _)) (by kernel_rfl) (z := .int .u8 0) (by kernel_rfl) rfl (by decide) (by omega) (by unfold maxLen; omega) ?_
              intro ac504 wo505 ao500 cp501 En506 Hv507 _ _
              rw [← bys_append] at Hv507
              have ehz502 : (List.length (sa ++ sba)) + 1 = List.length ((sa ++ sba) ++ [a]) := (by first | (simp; done) | (simp; omega) | omega)
              rw [ehz502] at En506
              refine any_pureR (d := some 71) En506 (v := .pointer (some ⟨bk392, 5, none⟩)) 11 (by kernel_rfl) (by kernel_rfl) rfl ?_
              intro ac508 En509
              refine any_pureR (d := some 72) En509 (v := .pointer (some ⟨bk392, 6, none⟩)) 12 (by kernel_rfl) (by kernel_rfl) rfl ?_
              intro ac510 En511
              refine any_at 13 (by kernel_rfl) rfl ?_
              refine op_storebox2 (d := none) (t := 22) (b := bk392) (off := 6) (k := 2) (v := .slice ao500 (List.length ((sa ++ sba) ++ [a])) cp501) En511 (by kernel_rfl) Hv507 rfl rfl (by kernel_rfl) rfl rfl rfl ?_
              intro ac512 wo513  En514 Hv515
              exact any_end (by kernel_rfl) ⟨ao500, cp501, En514.sub (by kernel_rfl), Hv515.pick [0, 1, 2, 3] (by kernel_rfl) (by decide)⟩
          · rintro _ rfl
            refine op_loadbox (d := some 66) (t := 22) (b := bk1) (off := 1) (k := 0) (v := .slice a_sba (List.length sba) c_sba) En416 (by kernel_rfl) Hv414 rfl rfl (by kernel_rfl) ?_
            intro ac516 En517
            refine any_two 3 9 (by kernel_rfl) ?_ ?_
            · rintro _ rfl
              refine op_append (d := some 63) (t := 22) (tx := 22) (ty := 22) (k := 3) (p := 0) (m := List.length sa) (x := .slice a_sa (List.length sa) c_sa) (bytes := 1) En517 (by kernel_rfl) Hv414 rfl rfl (Reads.src (size := 1) (tx := 22) (e' := 5) (by kernel_rfl) (i_sa.ev Hv414).reads (bys_len _) i_sa.nz (bys_one _)) (by kernel_rfl) (z := .int .u8 0) (by kernel_rfl) rfl (by decide) (by omega) (by unfold maxLen; omega) ?_
              intro ac522 wo523 ao518 cp519 En524 Hv525 _ _
              rw [bys_nil_append] at Hv525
              have ehz520 : 0 + List.length sa = List.length sa := (by first | (simp; done) | (simp; omega) | omega)
              rw [ehz520] at En524
              refine any_two 7 9 (by kernel_rfl) ?_ ?_
              · rintro _ rfl
                refine op_append (d := some 67) (t := 22) (tx := 22) (ty := 22) (k := 3) (p := List.length sa) (m := List.length sba) (x := .slice a_sba (List.length sba) c_sba) (bytes := 1) En524 (by kernel_rfl) Hv525 rfl (bys_len _) (Reads.src (size := 1) (tx := 22) (e' := 5) (by kernel_rfl) (i_sba.ev Hv525).reads (bys_len _) i_sba.nz (bys_one _)) (by kernel_rfl) (z := .int .u8 0) (by kernel_rfl) rfl (by decide) (by omega) (by unfold maxLen; omega) ?_
                intro ac530 wo531 ao526 cp527 En532 Hv533 _ _
                rw [← bys_append] at Hv533
                have ehz528 : (List.length sa) + List.length sba = List.length (sa ++ sba) := (by first | (simp; done) | (simp; omega) | omega)
                rw [ehz528] at En532
                refine any_at 9 (by kernel_rfl) rfl ?_
                refine op_lit (d := some 69) (t := 22) (T := 5) (m := 1) (parts := #[(0, .int .u8 ((UInt8.toNat a : Nat) : Int))]) (xs := bys [a]) (sz := 1) En532 (by kernel_rfl) (by kernel_rfl) rfl (by decide) Hv533 ?_
                intro ac535 wo536 bk534 En537 Hv538
                refine any_at 10 (by kernel_rfl) rfl ?_
                refine op_append (d := some 70) (t := 22) (tx := 22) (ty := 22) (k := 3) (p := List.length (sa ++ sba)) (m := 1) (x := .slice (some ⟨bk534, 0, none⟩) 1 1) (bytes := 1) En537 (by kernel_rfl) Hv538 rfl (bys_len _) (Reads.src (size := 1) (tx := 22) (e' := 5) (by kernel_rfl) (Hv538.heap.reads (k := 4) rfl) rfl (fun e => by cases e) (bys_one _)) (by kernel_rfl) (z := .int .u8 0) (by kernel_rfl) rfl (by decide) (by omega) (by unfold maxLen; omega) ?_
                intro ac543 wo544 ao539 cp540 En545 Hv546 _ _
                rw [← bys_append] at Hv546
                have ehz541 : (List.length (sa ++ sba)) + 1 = List.length ((sa ++ sba) ++ [a]) := (by first | (simp; done) | (simp; omega) | omega)
                rw [ehz541] at En545
                refine any_pureR (d := some 71) En545 (v := .pointer (some ⟨bk392, 5, none⟩)) 11 (by kernel_rfl) (by kernel_rfl) rfl ?_
                intro ac547 En548
                refine any_pureR (d := some 72) En548 (v := .pointer (some ⟨bk392, 6, none⟩)) 12 (by kernel_rfl) (by kernel_rfl) rfl ?_
                intro ac549 En550
                refine any_at 13 (by kernel_rfl) rfl ?_
                refine op_storebox2 (d := none) (t := 22) (b := bk392) (off := 6) (k := 2) (v := .slice ao539 (List.length ((sa ++ sba) ++ [a])) cp540) En550 (by kernel_rfl) Hv546 rfl rfl (by kernel_rfl) rfl rfl rfl ?_
                intro ac551 wo552  En553 Hv554
                exact any_end (by kernel_rfl) ⟨ao539, cp540, En553.sub (by kernel_rfl), Hv554.pick [0, 1, 2, 3] (by kernel_rfl) (by decide)⟩
              · rintro _ rfl
                refine op_lit (d := some 69) (t := 22) (T := 5) (m := 1) (parts := #[(0, .int .u8 ((UInt8.toNat a : Nat) : Int))]) (xs := bys [a]) (sz := 1) En524 (by kernel_rfl) (by kernel_rfl) rfl (by decide) Hv525 ?_
                intro ac556 wo557 bk555 En558 Hv559
                refine any_at 7 (by kernel_rfl) rfl ?_
                refine op_append (d := some 67) (t := 22) (tx := 22) (ty := 22) (k := 3) (p := List.length sa) (m := List.length sba) (x := .slice a_sba (List.length sba) c_sba) (bytes := 1) En558 (by kernel_rfl) Hv559 rfl (bys_len _) (Reads.src (size := 1) (tx := 22) (e' := 5) (by kernel_rfl) (i_sba.ev Hv559).reads (bys_len _) i_sba.nz (bys_one _)) (by kernel_rfl) (z := .int .u8 0) (by kernel_rfl) rfl (by decide) (by omega) (by unfold maxLen; omega) ?_
                intro ac564 wo565 ao560 cp561 En566 Hv567 _ _
                rw [← bys_append] at Hv567
                have ehz562 : (List.length sa) + List.length sba = List.length (sa ++ sba) := (by first | (simp; done) | (simp; omega) | omega)
                rw [ehz562] at En566
                refine any_at 10 (by kernel_rfl) rfl ?_
                refine op_append (d := some 70) (t := 22) (tx := 22) (ty := 22) (k := 3) (p := List.length (sa ++ sba)) (m := 1) (x := .slice (some ⟨bk555, 0, none⟩) 1 1) (bytes := 1) En566 (by kernel_rfl) Hv567 rfl (bys_len _) (Reads.src (size := 1) (tx := 22) (e' := 5) (by kernel_rfl) (Hv567.heap.reads (k := 4) rfl) rfl (fun e => by cases e) (bys_one _)) (by kernel_rfl) (z := .int .u8 0) (by kernel_rfl) rfl (by decide) (by omega) (by unfold maxLen; omega) ?_
                intro ac572 wo573 ao568 cp569 En574 Hv575 _ _
                rw [← bys_append] at Hv575
                have ehz570 : (List.length (sa ++ sba)) + 1 = List.length ((sa ++ sba) ++ [a]) := (by first | (simp; done) | (simp; omega) | omega)
                rw [ehz570] at En574
                refine any_pureR (d := some 71) En574 (v := .pointer (some ⟨bk392, 5, none⟩)) 11 (by kernel_rfl) (by kernel_rfl) rfl ?_
                intro ac576 En577
                refine any_pureR (d := some 72) En577 (v := .pointer (some ⟨bk392, 6, none⟩)) 12 (by kernel_rfl) (by kernel_rfl) rfl ?_
                intro ac578 En579
                refine any_at 13 (by kernel_rfl) rfl ?_
                refine op_storebox2 (d := none) (t := 22) (b := bk392) (off := 6) (k := 2) (v := .slice ao568 (List.length ((sa ++ sba) ++ [a])) cp569) En579 (by kernel_rfl) Hv575 rfl rfl (by kernel_rfl) rfl rfl rfl ?_
                intro ac580 wo581  En582 Hv583
                exact any_end (by kernel_rfl) ⟨ao568, cp569, En582.sub (by kernel_rfl), Hv583.pick [0, 1, 2, 3] (by kernel_rfl) (by decide)⟩
            · rintro _ rfl
              refine op_lit (d := some 69) (t := 22) (T := 5) (m := 1) (parts := #[(0, .int .u8 ((UInt8.toNat a : Nat) : Int))]) (xs := bys [a]) (sz := 1) En517 (by kernel_rfl) (by kernel_rfl) rfl (by decide) Hv414 ?_
              intro ac585 wo586 bk584 En587 Hv588
              refine any_at 3 (by kernel_rfl) rfl ?_
              refine op_append (d := some 63) (t := 22) (tx := 22) (ty := 22) (k := 3) (p := 0) (m := List.length sa) (x := .slice a_sa (List.length sa) c_sa) (bytes := 1) En587 (by kernel_rfl) Hv588 rfl rfl (Reads.src (size := 1) (tx := 22) (e' := 5) (by kernel_rfl) (i_sa.ev Hv588).reads (bys_len _) i_sa.nz (bys_one _)) (by kernel_rfl) (z := .int .u8 0) (by kernel_rfl) rfl (by decide) (by omega) (by unfold maxLen; omega) ?_
              intro ac593 wo594 ao589 cp590 En595 Hv596 _ _
              rw [bys_nil_append] at Hv596
              have ehz591 : 0 + List.length sa = List.length sa := (by first | (simp; done) | (simp; omega) | omega)
              rw [ehz591] at En595
              refine any_at 7 (by kernel_rfl) rfl ?_
              refine op_append (d := some 67) (t := 22) (tx := 22) (ty := 22) (k := 3) (p := List.length sa) (m := List.length sba) (x := .slice a_sba (List.length sba) c_sba) (bytes := 1) En595 (by kernel_rfl) Hv596 rfl (bys_len _) (Reads.src (size := 1) (tx := 22) (e' := 5) (by kernel_rfl) (i_sba.ev Hv596).reads (bys_len _) i_sba.nz (bys_one _)) (by kernel_rfl) (z := .int .u8 0) (by kernel_rfl) rfl (by decide) (by omega) (by unfold maxLen; omega) ?_
              intro ac601 wo602 ao597 cp598 En603 Hv604 _ _
              rw [← bys_append] at Hv604
              have ehz599 : (List.length sa) + List.length sba = List.length (sa ++ sba) := (by first | (simp; done) | (simp; omega) | omega)
              rw [ehz599] at En603
              refine any_at 10 (by kernel_rfl) rfl ?_
              refine op_append (d := some 70) (t := 22) (tx := 22) (ty := 22) (k := 3) (p := List.length (sa ++ sba)) (m := 1) (x := .slice (some ⟨bk584, 0, none⟩) 1 1) (bytes := 1) En603 (by kernel_rfl) Hv604 rfl (bys_len _) (Reads.src (size := 1) (tx := 22) (e' := 5) (by kernel_rfl) (Hv604.heap.reads (k := 4) rfl) rfl (fun e => by cases e) (bys_one _)) (by kernel_rfl) (z := .int .u8 0) (by kernel_rfl) rfl (by decide) (by omega) (by unfold maxLen; omega) ?_
              intro ac609 wo610 ao605 cp606 En611 Hv612 _ _
              rw [← bys_append] at Hv612
              have ehz607 : (List.length (sa ++ sba)) + 1 = List.length ((sa ++ sba) ++ [a]) := (by first | (simp; done) | (simp; omega) | omega)
              rw [ehz607] at En611
              refine any_pureR (d := some 71) En611 (v := .pointer (some ⟨bk392, 5, none⟩)) 11 (by kernel_rfl) (by kernel_rfl) rfl ?_
              intro ac613 En614
              refine any_pureR (d := some 72) En614 (v := .pointer (some ⟨bk392, 6, none⟩)) 12 (by kernel_rfl) (by kernel_rfl) rfl ?_
              intro ac615 En616
              refine any_at 13 (by kernel_rfl) rfl ?_
              refine op_storebox2 (d := none) (t := 22) (b := bk392) (off := 6) (k := 2) (v := .slice ao605 (List.length ((sa ++ sba) ++ [a])) cp606) En616 (by kernel_rfl) Hv612 rfl rfl (by kernel_rfl) rfl rfl rfl ?_
              intro ac617 wo618  En619 Hv620
              exact any_end (by kernel_rfl) ⟨ao605, cp606, En619.sub (by kernel_rfl), Hv620.pick [0, 1, 2, 3] (by kernel_rfl) (by decide)⟩
          · rintro _ rfl
            refine op_lit (d := some 69) (t := 22) (T := 5) (m := 1) (parts := #[(0, .int .u8 ((UInt8.toNat a : Nat) : Int))]) (xs := bys [a]) (sz := 1) En416 (by kernel_rfl) (by kernel_rfl) rfl (by decide) Hv414 ?_
            intro ac622 wo623 bk621 En624 Hv625
            refine any_two 3 6 (by kernel_rfl) ?_ ?_
            · rintro _ rfl
              refine op_append (d := some 63) (t := 22) (tx := 22) (ty := 22) (k := 3) (p := 0) (m := List.length sa) (x := .slice a_sa (List.length sa) c_sa) (bytes := 1) En624 (by kernel_rfl) Hv625 rfl rfl (Reads.src (size := 1) (tx := 22) (e' := 5) (by kernel_rfl) (i_sa.ev Hv625).reads (bys_len _) i_sa.nz (bys_one _)) (by kernel_rfl) (z := .int .u8 0) (by kernel_rfl) rfl (by decide) (by omega) (by unfold maxLen; omega) ?_
              intro ac630 wo631 ao626 cp627 En632 Hv633 _ _
              rw [bys_nil_append] at Hv633
              have ehz628 : 0 + List.length sa = List.length sa := (by first | (simp; done) | (simp; omega) | omega)
              rw [ehz628] at En632
              refine any_at 6 (by kernel_rfl) rfl ?_
              refine op_loadbox (d := some 66) (t := 22) (b := bk1) (off := 1) (k := 0) (v := .slice a_sba (List.length sba) c_sba) En632 (by kernel_rfl) Hv633 rfl rfl (by kernel_rfl) ?_
              intro ac634 En635
              refine any_at 7 (by kernel_rfl) rfl ?_
              refine op_append (d := some 67) (t := 22) (tx := 22) (ty := 22) (k := 3) (p := List.length sa) (m := List.length sba) (x := .slice a_sba (List.length sba) c_sba) (bytes := 1) En635 (by kernel_rfl) Hv633 rfl (bys_len _) (Reads.src (size := 1) (tx := 22) (e' := 5) (by kernel_rfl) (i_sba.ev Hv633).reads (bys_len _) i_sba.nz (bys_one _)) (by kernel_rfl) (z := .int .u8 0) (by kernel_rfl) rfl (by decide) (by omega) (by unfold maxLen; omega) ?_
              intro ac640 wo641 ao636 cp637 En642 Hv643 _ _
              rw [← bys_append] at Hv643
              have ehz638 : (List.length sa) + List.length sba = List.length (sa ++ sba) := (by first | (simp; done) | (simp; omega) | omega)
              rw [ehz638] at En642
              refine any_at 10 (by kernel_rfl) rfl ?_
              refine op_append (d := some 70) (t := 22) (tx := 22) (ty := 22) (k := 3) (p := List.length (sa ++ sba)) (m := 1) (x := .slice (some ⟨bk621, 0, none⟩) 1 1) (bytes := 1) En642 (by kernel_rfl) Hv643 rfl (bys_len _) (Reads.src (size := 1) (tx := 22) (e' := 5) (by kernel_rfl) (Hv643.heap.reads (k := 4) rfl) rfl (fun e => by cases e) (bys_one _)) (by kernel_rfl) (z := .int .u8 0) (by kernel_rfl) rfl (by decide) (by omega) (by unfold maxLen; omega) ?_
              intro ac648 wo649 ao644 cp645 En650 Hv651 _ _
              rw [← bys_append] at Hv651
              have ehz646 : (List.length (sa ++ sba)) + 1 = List.length ((sa ++ sba) ++ [a]) := (by first | (simp; done) | (simp; omega) | omega)
              rw [ehz646] at En650
              refine any_pureR (d := some 71) En650 (v := .pointer (some ⟨bk392, 5, none⟩)) 11 (by kernel_rfl) (by kernel_rfl) rfl ?_
              intro ac652 En653
              refine any_pureR (d := some 72) En653 (v := .pointer (some ⟨bk392, 6, none⟩)) 12 (by kernel_rfl) (by kernel_rfl) rfl ?_
              intro ac654 En655
              refine any_at 13 (by kernel_rfl) rfl ?_
              refine op_storebox2 (d := none) (t := 22) (b := bk392) (off := 6) (k := 2) (v := .slice ao644 (List.length ((sa ++ sba) ++ [a])) cp645) En655 (by kernel_rfl) Hv651 rfl rfl (by kernel_rfl) rfl rfl rfl ?_
              intro ac656 wo657  En658 Hv659
              exact any_end (by kernel_rfl) ⟨ao644, cp645, En658.sub (by kernel_rfl), Hv659.pick [0, 1, 2, 3] (by kernel_rfl) (by decide)⟩
            · rintro _ rfl
              refine op_loadbox (d := some 66) (t := 22) (b := bk1) (off := 1) (k := 0) (v := .slice a_sba (List.length sba) c_sba) En624 (by kernel_rfl) Hv625 rfl rfl (by kernel_rfl) ?_
              intro ac660 En661
              refine any_at 3 (by kernel_rfl) rfl ?_
              refine op_append (d := some 63) (t := 22) (tx := 22) (ty := 22) (k := 3) (p := 0) (m := List.length sa) (x := .slice a_sa (List.length sa) c_sa) (bytes := 1) En661 (by kernel_rfl) Hv625 rfl rfl (Reads.src (size := 1) (tx := 22) (e' := 5) (by kernel_rfl) (i_sa.ev Hv625).reads (bys_len _) i_sa.nz (bys_one _)) (by kernel_rfl) (z := .int .u8 0) (by kernel_rfl) rfl (by decide) (by omega) (by unfold maxLen; omega) ?_
              intro ac666 wo667 ao662 cp663 En668 Hv669 _ _
              rw [bys_nil_append] at Hv669
              have ehz664 : 0 + List.length sa = List.length sa := (by first | (simp; done) | (simp; omega) | omega)
              rw [ehz664] at En668
              refine any_at 7 (by kernel_rfl) rfl ?_
              refine op_append (d := some 67) (t := 22) (tx := 22) (ty := 22) (k := 3) (p := List.length sa) (m := List.length sba) (x := .slice a_sba (List.length sba) c_sba) (bytes := 1) En668 (by kernel_rfl) Hv669 rfl (bys_len _) (Reads.src (size := 1) (tx := 22) (e' := 5) (by kernel_rfl) (i_sba.ev Hv669).reads (bys_len _) i_sba.nz (bys_one _)) (by kernel_rfl) (z := .int .u8 0) (by kernel_rfl) rfl (by decide) (by omega) (by unfold maxLen; omega) ?_
              intro ac674 wo675 ao670 cp671 En676 Hv677 _ _
              rw [← bys_append] at Hv677
              have ehz672 : (List.length sa) + List.length sba = List.length (sa ++ sba) := (by first | (simp; done) | (simp; omega) | omega)
              rw [ehz672] at En676
              refine any_at 10 (by kernel_rfl) rfl ?_
              refine op_append (d := some 70) (t := 22) (tx := 22) (ty := 22) (k := 3) (p := List.length (sa ++ sba)) (m := 1) (x := .slice (some ⟨bk621, 0, none⟩) 1 1) (bytes := 1) En676 (by kernel_rfl) Hv677 rfl (bys_len _) (Reads.src (size := 1) (tx := 22) (e' := 5) (by kernel_rfl) (Hv677.heap.reads (k := 4) rfl) rfl (fun e => by cases e) (bys_one _)) (by kernel_rfl) (z := .int .u8 0) (by kernel_rfl) rfl (by decide) (by omega) (by unfold maxLen; omega) ?_
              intro ac682 wo683 ao678 cp679 En684 Hv685 _ _
              rw [← bys_append] at Hv685
              have ehz680 : (List.length (sa ++ sba)) + 1 = List.length ((sa ++ sba) ++ [a]) := (by first | (simp; done) | (simp; omega) | omega)
              rw [ehz680] at En684
              refine any_pureR (d := some 71) En684 (v := .pointer (some ⟨bk392, 5, none⟩)) 11 (by kernel_rfl) (by kernel_rfl) rfl ?_
              intro ac686 En687
              refine any_pureR (d := some 72) En687 (v := .pointer (some ⟨bk392, 6, none⟩)) 12 (by kernel_rfl) (by kernel_rfl) rfl ?_
              intro ac688 En689
              refine any_at 13 (by kernel_rfl) rfl ?_
              refine op_storebox2 (d := none) (t := 22) (b := bk392) (off := 6) (k := 2) (v := .slice ao678 (List.length ((sa ++ sba) ++ [a])) cp679) En689 (by kernel_rfl) Hv685 rfl rfl (by kernel_rfl) rfl rfl rfl ?_
              intro ac690 wo691  En692 Hv693
              exact any_end (by kernel_rfl) ⟨ao678, cp679, En692.sub (by kernel_rfl), Hv693.pick [0, 1, 2, 3] (by kernel_rfl) (by decide)⟩
        · rintro _ rfl
          refine op_loadbox (d := some 66) (t := 22) (b := bk1) (off := 1) (k := 0) (v := .slice a_sba (List.length sba) c_sba) En413 (by kernel_rfl) Hv414 rfl rfl (by kernel_rfl) ?_
          intro ac694 En695
          refine any_two 2 9 (by kernel_rfl) ?_ ?_
          · rintro _ rfl
            refine op_loadbox (d := some 62) (t := 22) (b := bk1) (off := 0) (k := 0) (v := .slice a_sa (List.length sa) c_sa) En695 (by kernel_rfl) Hv414 rfl rfl (by kernel_rfl) ?_
            intro ac696 En697
            refine any_two 3 9 (by kernel_rfl) ?_ ?_
            · rintro _ rfl
              refine op_append (d := some 63) (t := 22) (tx := 22) (ty := 22) (k := 3) (p := 0) (m := List.length sa) (x := .slice a_sa (List.length sa) c_sa) (bytes := 1) En697 (by kernel_rfl) Hv414 rfl rfl (Reads.src (size := 1) (tx := 22) (e' := 5) (by kernel_rfl) (i_sa.ev Hv414).reads (bys_len _) i_sa.nz (bys_one _)) (by kernel_rfl) (z := .int .u8 0) (by kernel_rfl) rfl (by decide) (by omega) (by unfold maxLen; omega) ?_
              intro ac702 wo703 ao698 cp699 En704 Hv705 _ _
              rw [bys_nil_append] at Hv705
              have ehz700 : 0 + List.length sa = List.length sa := (by first | (simp; done) | (simp; omega) | omega)
              rw [ehz700] at En704
              refine any_two 7 9 (by kernel_rfl) ?_ ?_
              · rintro _ rfl
                refine op_append (d := some 67) (t := 22) (tx := 22) (ty := 22) (k := 3) (p := List.length sa) (m := List.length sba) (x := .slice a_sba (List.length sba) c_sba) (bytes := 1) En704 (by kernel_rfl) Hv705 rfl (bys_len _) (Reads.src (size := 1) (tx := 22) (e' := 5) (by kernel_rfl) (i_sba.ev Hv705).reads (bys_len _) i_sba.nz (bys_one _)) (by kernel_rfl) (z := .int .u8 0) (by kernel_rfl) rfl (by decide) (by omega) (by unfold maxLen; omega) ?_
                intro ac710 wo711 ao706 cp707 En712 Hv713 _ _
                rw [← bys_append] at Hv713
                have ehz708 : (List.length sa) + List.length sba = List.length (sa ++ sba) := (by first | (simp; done) | (simp; omega) | omega)
                rw [ehz708] at En712
                refine any_at 9 (by kernel_rfl) rfl ?_
                refine op_lit (d := some 69) (t := 22) (T := 5) (m := 1) (parts := #[(0, .int .u8 ((UInt8.toNat a : Nat) : Int))]) (xs := bys [a]) (sz := 1) En712 (by kernel_rfl) (by kernel_rfl) rfl (by decide) Hv713 ?_
                intro ac715 wo716 bk714 En717 Hv718
                refine any_at 10 (by kernel_rfl) rfl ?_
                refine op_append (d := some 70) (t := 22) (tx := 22) (ty := 22) (k := 3) (p := List.length (sa ++ sba)) (m := 1) (x := .slice (some ⟨bk714, 0, none⟩) 1 1) (bytes := 1) En717 (by kernel_rfl) Hv718 rfl (bys_len _) (Reads.src (size := 1) (tx := 22) (e' := 5) (by kernel_rfl) (Hv718.heap.reads (k := 4) rfl) rfl (fun e => by cases e) (bys_one _)) (by kernel_rfl) (z := .int .u8 0) (by kernel_rfl) rfl (by decide) (by omega) (by unfold maxLen; omega) ?_
                intro ac723 wo724 ao719 cp720 En725 Hv726 _ _
                rw [← bys_append] at Hv726
                have ehz721 : (List.length (sa ++ sba)) + 1 = List.length ((sa ++ sba) ++ [a]) := (by first | (simp; done) | (simp; omega) | omega)
                rw [ehz721] at En725
                refine any_pureR (d := some 71) En725 (v := .pointer (some ⟨bk392, 5, none⟩)) 11 (by kernel_rfl) (by kernel_rfl) rfl ?_
                intro ac727 En728
                refine any_pureR (d := some 72) En728 (v := .pointer (some ⟨bk392, 6, none⟩)) 12 (by kernel_rfl) (by kernel_rfl) rfl ?_
                intro ac729 En730
                refine any_at 13 (by kernel_rfl) rfl ?_
                refine op_storebox2 (d := none) (t := 22) (b := bk392) (off := 6) (k := 2) (v := .slice ao719 (List.length ((sa ++ sba) ++ [a])) cp720) En730 (by kernel_rfl) Hv726 rfl rfl (by kernel_rfl) rfl rfl rfl ?_
                intro ac731 wo732  En733 Hv734
                exact any_end (by kernel_rfl) ⟨ao719, cp720, En733.sub (by kernel_rfl), Hv734.pick [0, 1, 2, 3] (by kernel_rfl) (by decide)⟩
              · rintro _ rfl
                refine op_lit (d := some 69) (t := 22) (T := 5) (m := 1) (parts := #[(0, .int .u8 ((UInt8.toNat a : Nat) : Int))]) (xs := bys [a]) (sz := 1) En704 (by kernel_rfl) (by kernel_rfl) rfl (by decide) Hv705 ?_
                intro ac736 wo737 bk735 En738 Hv739
                refine any_at 7 (by kernel_rfl) rfl ?_
                refine op_append (d := some 67) (t := 22) (tx := 22) (ty := 22) (k := 3) (p := List.length sa) (m := List.length sba) (x := .slice a_sba (List.length sba) c_sba) (bytes := 1) En738 (by kernel_rfl) Hv739 rfl (bys_len _) (Reads.src (size := 1) (tx := 22) (e' := 5) (by kernel_rfl) (i_sba.ev Hv739).reads (bys_len _) i_sba.nz (bys_one _)) (by kernel_rfl) (z := .int .u8 0) (by kernel_rfl) rfl (by decide) (by omega) (by unfold maxLen; omega) ?_
                intro ac744 wo745 ao740 cp741 En746 Hv747 _ _
                rw [← bys_append] at Hv747
                have ehz742 : (List.length sa) + List.length sba = List.length (sa ++ sba) := (by first | (simp; done) | (simp; omega) | omega)
                rw [ehz742] at En746
                refine any_at 10 (by kernel_rfl) rfl ?_
                refine op_append (d := some 70) (t := 22) (tx := 22) (ty := 22) (k := 3) (p := List.length (sa ++ sba)) (m := 1) (x := .slice (some ⟨bk735, 0, none⟩) 1 1) (bytes := 1) En746 (by kernel_rfl) Hv747 rfl (bys_len _) (Reads.src (size := 1) (tx := 22) (e' := 5) (by kernel_rfl) (Hv747.heap.reads (k := 4) rfl) rfl (fun e => by cases e) (bys_one _)) (by kernel_rfl) (z := .int .u8 0) (by kernel_rfl) rfl (by decide) (by omega) (by unfold maxLen; omega) ?_
                intro ac752 wo753 ao748 cp749 En754 Hv755 _ _
                rw [← bys_append] at Hv755
                have ehz750 : (List.length (sa ++ sba)) + 1 = List.length ((sa ++ sba) ++ [a]) := (by first | (simp; done) | (simp; omega) | omega)
                rw [ehz750] at En754
                refine any_pureR (d := some 71) En754 (v := .pointer (some ⟨bk392, 5, none⟩)) 11 (by kernel_rfl) (by kernel_rfl) rfl ?_
                intro ac756 En757
                refine any_pureR (d := some 72) En757 (v := .pointer (some ⟨bk392, 6, none⟩)) 12 (by kernel_rfl) (by kernel_rfl) rfl ?_
                intro ac758 En759
                refine any_at 13 (by kernel_rfl) rfl ?_
                refine op_storebox2 (d := none) (t := 22) (b := bk392) (off := 6) (k := 2) (v := .slice ao748 (List.length ((sa ++ sba) ++ [a])) cp749) En759 (by kernel_rfl) Hv755 rfl rfl (by kernel_rfl) rfl rfl rfl ?_
                intro ac760 wo761  En762 Hv763
                exact any_end (by kernel_rfl) ⟨ao748, cp749, En762.sub (by kernel_rfl), Hv763.pick [0, 1, 2, 3] (by kernel_rfl) (by decide)⟩
            · rintro _ rfl
              refine op_lit (d := some 69) (t := 22) (T := 5) (m := 1) (parts := #[(0, .int .u8 ((UInt8.toNat a : Nat) : Int))]) (xs := bys [a]) (sz := 1) En697 (by kernel_rfl) (by kernel_rfl) rfl (by decide) Hv414 ?_
              intro ac765 wo766 bk764 En767 Hv768
              refine any_at 3 (by kernel_rfl) rfl ?_
              refine op_append (d := some 63) (t := 22) (tx := 22) (ty := 22) (k := 3) (p := 0) (m := List.length sa) (x := .slice a_sa (List.length sa) c_sa) (bytes := 1) En767 (by kernel_rfl) Hv768 rfl rfl (Reads.src (size := 1) (tx := 22) (e' := 5) (by kernel_rfl) (i_sa.ev Hv768).reads (bys_len _) i_sa.nz (bys_one _)) (by kernel_rfl) (z := .int .u8 0) (by kernel_rfl) rfl (by decide) (by omega) (by unfold maxLen; omega) ?_
              intro ac773 wo774 ao769 cp770 En775 Hv776 _ _
              rw [bys_nil_append] at Hv776
              have ehz771 : 0 + List.length sa = List.length sa := (by first | (simp; done) | (simp; omega) | omega)
              rw [ehz771] at En775
              refine any_at 7 (by kernel_rfl) rfl ?_
              refine op_append (d := some 67) (t := 22) (tx := 22) (ty := 22) (k := 3) (p := List.length sa) (m := List.length sba) (x := .slice a_sba (List.length sba) c_sba) (bytes := 1) En775 (by kernel_rfl) Hv776 rfl (bys_len _) (Reads.src (size := 1) (tx := 22) (e' := 5) (by kernel_rfl) (i_sba.ev Hv776).reads (bys_len _) i_sba.nz (bys_one _)) (by kernel_rfl) (z := .int .u8 0) (by kernel_rfl) rfl (by decide) (by omega) (by unfold maxLen; omega) ?_
              intro ac781 wo782 ao777 cp778 En783 Hv784 _ _
              rw [← bys_append] at Hv784
              have ehz779 : (List.length sa) + List.length sba = List.length (sa ++ sba) := (by first | (simp; done) | (simp; omega) | omega)
              rw [ehz779] at En783
              refine any_at 10 (by kernel_rfl) rfl ?_
              refine op_append (d := some 70) (t := 22) (tx := 22) (ty := 22) (k := 3) (p := List.length (sa ++ sba)) (m := 1) (x := .slice (some ⟨bk764, 0, none⟩) 1 1) (bytes := 1) En783 (by kernel_rfl) Hv784 rfl (bys_len _) (Reads.src (size := 1) (tx := 22) (e' := 5) (by kernel_rfl) (Hv784.heap.reads (k := 4) rfl) rfl (fun e => by cases e) (bys_one _)) (by kernel_rfl) (z := .int .u8 0) (by kernel_rfl) rfl (by decide) (by omega) (by unfold maxLen; omega) ?_
              intro ac789 wo790 ao785 cp786 En791 Hv792 _ _
              rw [← bys_append] at Hv792
              have ehz787 : (List.length (sa ++ sba)) + 1 = List.length ((sa ++ sba) ++ [a]) := (by first | (simp; done) | (simp; omega) | omega)
              rw [ehz787] at En791
              refine any_pureR (d := some 71) En791 (v := .pointer (some ⟨bk392, 5, none⟩)) 11 (by kernel_rfl) (by kernel_rfl) rfl ?_
              intro ac793 En794
              refine any_pureR (d := some 72) En794 (v := .pointer (some ⟨bk392, 6, none⟩)) 12 (by kernel_rfl) (by kernel_rfl) rfl ?_
              intro ac795 En796
              refine any_at 13 (by kernel_rfl) rfl ?_
              refine op_storebox2 (d := none) (t := 22) (b := bk392) (off := 6) (k := 2) (v := .slice ao785 (List.length ((sa ++ sba) ++ [a])) cp786) En796 (by kernel_rfl) Hv792 rfl rfl (by kernel_rfl) rfl rfl rfl ?_
              intro ac797 wo798  En799 Hv800
              exact any_end (by kernel_rfl) ⟨ao785, cp786, En799.sub (by kernel_rfl), Hv800.pick [0, 1, 2, 3] (by kernel_rfl) (by decide)⟩
          · rintro _ rfl
            refine op_lit (d := some 69) (t := 22) (T := 5) (m := 1) (parts := #[(0, .int .u8 ((UInt8.toNat a : Nat) : Int))]) (xs := bys [a]) (sz := 1) En695 (by kernel_rfl) (by kernel_rfl) rfl (by decide) Hv414 ?_
            intro ac802 wo803 bk801 En804 Hv805
            refine any_at 2 (by kernel_rfl) rfl ?_
            refine op_loadbox (d := some 62) (t := 22) (b := bk1) (off := 0) (k := 0) (v := .slice a_sa (List.length sa) c_sa) En804 (by kernel_rfl) Hv805 rfl rfl (by kernel_rfl) ?_
            intro ac806 En807
            refine any_at 3 (by kernel_rfl) rfl ?_
            refine op_append (d := some 63) (t := 22) (tx := 22) (ty := 22) (k := 3) (p := 0) (m := List.length sa) (x := .slice a_sa (List.length sa) c_sa) (bytes := 1) En807 (by kernel_rfl) Hv805 rfl rfl (Reads.src (size := 1) (tx := 22) (e' := 5) (by kernel_rfl) (i_sa.ev Hv805).reads (bys_len _) i_sa.nz (bys_one _)) (by kernel_rfl) (z := .int .u8 0) (by kernel_rfl) rfl (by decide) (by omega) (by unfold maxLen; omega) ?_
            intro ac812 wo813 ao808 cp809 En814 Hv815 _ _
            rw [bys_nil_append] at Hv815
            have ehz810 : 0 + List.length sa = List.length sa := (by first | (simp; done) | (simp; omega) | omega)
            rw [ehz810] at En814
            refine any_at 7 (by kernel_rfl) rfl ?_
            refine op_append (d := some 67) (t := 22) (tx := 22) (ty := 22) (k := 3) (p := List.length sa) (m := List.length sba) (x := .slice a_sba (List.length sba) c_sba) (bytes := 1) En814 (by kernel_rfl) Hv815 rfl (bys_len _) (Reads.src (size := 1) (tx := 22) (e' := 5) (by kernel_rfl) (i_sba.ev Hv815).reads (bys_len _) i_sba.nz (bys_one _)) (by kernel_rfl) (z := .int .u8 0) (by kernel_rfl) rfl (by decide) (by omega) (by unfold maxLen; omega) ?_
            intro ac820 wo821 ao816 cp817 En822 Hv823 _ _
            rw [← bys_append] at Hv823
            have ehz818 : (List.length sa) + List.length sba = List.length (sa ++ sba) := (by first | (simp; done) | (simp; omega) | omega)
            rw [ehz818] at En822
            refine any_at 10 (by kernel_rfl) rfl ?_
            refine op_append (d := some 70) (t := 22) (tx := 22) (ty := 22) (k := 3) (p := List.length (sa ++ sba)) (m := 1) (x := .slice (some ⟨bk801, 0, none⟩) 1 1) (bytes := 1) En822 (by kernel_rfl) Hv823 rfl (bys_len _) (Reads.src (size := 1) (tx := 22) (e' := 5) (by kernel_rfl) (Hv823.heap.reads (k := 4) rfl) rfl (fun e => by cases e) (bys_one _)) (by kernel_rfl) (z := .int .u8 0) (by kernel_rfl) rfl (by decide) (by omega) (by unfold maxLen; omega) ?_
            intro ac828 wo829 ao824 cp825 En830 Hv831 _ _
            rw [← bys_append] at Hv831
            have ehz826 : (List.length (sa ++ sba)) + 1 = List.length ((sa ++ sba) ++ [a]) := (by first | (simp; done) | (simp; omega) | omega)
            rw [ehz826] at En830
            refine any_pureR (d := some 71) En830 (v := .pointer (some ⟨bk392, 5, none⟩)) 11 (by kernel_rfl) (by kernel_rfl) rfl ?_
            intro ac832 En833
            refine any_pureR (d := some 72) En833 (v := .pointer (some ⟨bk392, 6, none⟩)) 12 (by kernel_rfl) (by kernel_rfl) rfl ?_
            intro ac834 En835
            refine any_at 13 (by kernel_rfl) rfl ?_
            refine op_storebox2 (d := none) (t := 22) (b := bk392) (off := 6) (k := 2) (v := .slice ao824 (List.length ((sa ++ sba) ++ [a])) cp825) En835 (by kernel_rfl) Hv831 rfl rfl (by kernel_rfl) rfl rfl rfl ?_
            intro ac836 wo837  En838 Hv839
            exact any_end (by kernel_rfl) ⟨ao824, cp825, En838.sub (by kernel_rfl), Hv839.pick [0, 1, 2, 3] (by kernel_rfl) (by decide)⟩
        · rintro _ rfl
          refine op_lit (d := some 69) (t := 22) (T := 5) (m := 1) (parts := #[(0, .int .u8 ((UInt8.toNat a : Nat) : Int))]) (xs := bys [a]) (sz := 1) En413 (by kernel_rfl) (by kernel_rfl) rfl (by decide) Hv414 ?_
          intro ac841 wo842 bk840 En843 Hv844
          refine any_two 2 6 (by kernel_rfl) ?_ ?_
          · rintro _ rfl
            refine op_loadbox (d := some 62) (t := 22) (b := bk1) (off := 0) (k := 0) (v := .slice a_sa (List.length sa) c_sa) En843 (by kernel_rfl) Hv844 rfl rfl (by kernel_rfl) ?_
            intro ac845 En846
            refine any_two 3 6 (by kernel_rfl) ?_ ?_
            · rintro _ rfl
              refine op_append (d := some 63) (t := 22) (tx := 22) (ty := 22) (k := 3) (p := 0) (m := List.length sa) (x := .slice a_sa (List.length sa) c_sa) (bytes := 1) En846 (by kernel_rfl) Hv844 rfl rfl (Reads.src (size := 1) (tx := 22) (e' := 5) (by kernel_rfl) (i_sa.ev Hv844).reads (bys_len _) i_sa.nz (bys_one _)) (by kernel_rfl) (z := .int .u8 0) (by kernel_rfl) rfl (by decide) (by omega) (by unfold maxLen; omega) ?_
              intro ac851 wo852 ao847 cp848 En853 Hv854 _ _
              rw [bys_nil_append] at Hv854
              have ehz849 : 0 + List.length sa = List.length sa := (by first | (simp; done) | (simp; omega) | omega)
              rw [ehz849] at En853
              refine any_at 6 (by kernel_rfl) rfl ?_
              refine op_loadbox (d := some 66) (t := 22) (b := bk1) (off := 1) (k := 0) (v := .slice a_sba (List.length sba) c_sba) En853 (by kernel_rfl) Hv854 rfl rfl (by kernel_rfl) ?_
              intro ac855 En856
              refine any_at 7 (by kernel_rfl) rfl ?_
              refine op_append (d := some 67) (t := 22) (tx := 22) (ty := 22) (k := 3) (p := List.length sa) (m := List.length sba) (x := .slice a_sba (List.length sba) c_sba) (bytes := 1) En856 (by kernel_rfl) Hv854 rfl (bys_len _) (Reads.src (size := 1) (tx := 22) (e' := 5) (by kernel_rfl) (i_sba.ev Hv854).reads (bys_len _) i_sba.nz (bys_one _)) (by kernel_rfl) (z := .int .u8 0) (by kernel_rfl) rfl (by decide) (by omega) (by unfold maxLen; omega) ?_
              intro ac861 wo862 ao857 cp858 En863 Hv864 _ _
              rw [← bys_append] at Hv864
              have ehz859 : (List.length sa) + List.length sba = List.length (sa ++ sba) := (by first | (simp; done) | (simp; omega) | omega)
              rw [ehz859] at En863
              refine any_at 10 (by kernel_rfl) rfl ?_
              refine op_append (d := some 70) (t := 22) (tx := 22) (ty := 22) (k := 3) (p := List.length (sa ++ sba)) (m := 1) (x := .slice (some ⟨bk840, 0, none⟩) 1 1) (bytes := 1) En863 (by kernel_rfl) Hv864 rfl (bys_len _) (Reads.src (size := 1) (tx := 22) (e' := 5) (by kernel_rfl) (Hv864.heap.reads (k := 4) rfl) rfl (fun e => by cases e) (bys_one _)) (by kernel_rfl) (z := .int .u8 0) (by kernel_rfl) rfl (by decide) (by omega) (by unfold maxLen; omega) ?_
              intro ac869 wo870 ao865 cp866 En871 Hv872 _ _
              rw [← bys_append] at Hv872
              have ehz867 : (List.length (sa ++ sba)) + 1 = List.length ((sa ++ sba) ++ [a]) := (by first | (simp; done) | (simp; omega) | omega)
              rw [ehz867] at En871
              refine any_pureR (d := some 71) En871 (v := .pointer (some ⟨bk392, 5, none⟩)) 11 (by kernel_rfl) (by kernel_rfl) rfl ?_
              intro ac873 En874
              refine any_pureR (d := some 72) En874 (v := .pointer (some ⟨bk392, 6, none⟩)) 12 (by kernel_rfl) (by kernel_rfl) rfl ?_
              intro ac875 En876
              refine any_at 13 (by kernel_rfl) rfl ?_
              refine op_storebox2 (d := none) (t := 22) (b := bk392) (off := 6) (k := 2) (v := .slice ao865 (List.length ((sa ++ sba) ++ [a])) cp866) En876 (by kernel_rfl) Hv872 rfl rfl (by kernel_rfl) rfl rfl rfl ?_
              intro ac877 wo878  En879 Hv880
              exact any_end (by kernel_rfl) ⟨ao865, cp866, En879.sub (by kernel_rfl), Hv880.pick [0, 1, 2, 3] (by kernel_rfl) (by decide)⟩
            · rintro _ rfl
              refine op_loadbox (d := some 66) (t := 22) (b := bk1) (off := 1) (k := 0) (v := .slice a_sba (List.length sba) c_sba) En846 (by kernel_rfl) Hv844 rfl rfl (by kernel_rfl) ?_
              intro ac881 En882
              refine any_at 3 (by kernel_rfl) rfl ?_
              refine op_append (d := some 63) (t := 22) (tx := 22) (ty := 22) (k := 3) (p := 0) (m := List.length sa) (x := .slice a_sa (List.length sa) c_sa) (bytes := 1) En882 (by kernel_rfl) Hv844 rfl rfl (Reads.src (size := 1) (tx := 22) (e' := 5) (by kernel_rfl) (i_sa.ev Hv844).reads (bys_len _) i_sa.nz (bys_one _)) (by kernel_rfl) (z := .int .u8 0) (by kernel_rfl) rfl (by decide) (by omega) (by unfold maxLen; omega) ?_
              intro ac887 wo888 ao883 cp884 En889 Hv890 _ _
              rw [bys_nil_append] at Hv890
              have ehz885 : 0 + List.length sa = List.length sa := (by first | (simp; done) | (simp; omega) | omega)
              rw [ehz885] at En889
              refine any_at 7 (by kernel_rfl) rfl ?_
              refine op_append (d := some 67) (t := 22) (tx := 22) (ty := 22) (k := 3) (p := List.length sa) (m := List.length sba) (x := .slice a_sba (List.length sba) c_sba) (bytes := 1) En889 (by kernel_rfl) Hv890 rfl (bys_len _) (Reads.src (size := 1) (tx := 22) (e' := 5) (by kernel_rfl) (i_sba.ev Hv890).reads (bys_len _) i_sba.nz (bys_one _)) (by kernel_rfl) (z := .int .u8 0) (by kernel_rfl) rfl (by decide) (by omega) (by unfold maxLen; omega) ?_
              intro ac895 wo896 ao891 cp892 En897 Hv898 _ _
              rw [← bys_append] at Hv898
              have ehz893 : (List.length sa) + List.length sba = List.length (sa ++ sba) := (by first | (simp; done) | (simp; omega) | omega)
              rw [ehz893] at En897
              refine any_at 10 (by kernel_rfl) rfl ?_
              refine op_append (d := some 70) (t := 22) (tx := 22) (ty := 22) (k := 3) (p := List.length (sa ++ sba)) (m := 1) (x := .slice (some ⟨bk840, 0, none⟩) 1 1) (bytes := 1) En897 (by kernel_rfl) Hv898 rfl (bys_len _) (Reads.src (size := 1) (tx := 22) (e' := 5) (by kernel_rfl) (Hv898.heap.reads (k := 4) rfl) rfl (fun e => by cases e) (bys_one _)) (by kernel_rfl) (z := .int .u8 0) (by kernel_rfl) rfl (by decide) (by omega) (by unfold maxLen; omega) ?_
              intro ac903 wo904 ao899 cp900 En905 Hv906 _ _
              rw [← bys_append] at Hv906
              have ehz901 : (List.length (sa ++ sba)) + 1 = List.length ((sa ++ sba) ++ [a]) := (by first | (simp; done) | (simp; omega) | omega)
              rw [ehz901] at En905
              refine any_pureR (d := some 71) En905 (v := .pointer (some ⟨bk392, 5, none⟩)) 11 (by kernel_rfl) (by kernel_rfl) rfl ?_
              intro ac907 En908
              refine any_pureR (d := some 72) En908 (v := .pointer (some ⟨bk392, 6, none⟩)) 12 (by kernel_rfl) (by kernel_rfl) rfl ?_
              intro ac909 En910
              refine any_at 13 (by kernel_rfl) rfl ?_
              refine op_storebox2 (d := none) (t := 22) (b := bk392) (off := 6) (k := 2) (v := .slice ao899 (List.length ((sa ++ sba) ++ [a])) cp900) En910 (by kernel_rfl) Hv906 rfl rfl (by kernel_rfl) rfl rfl rfl ?_
              intro ac911 wo912  En913 Hv914
              exact any_end (by kernel_rfl) ⟨ao899, cp900, En913.sub (by kernel_rfl), Hv914.pick [0, 1, 2, 3] (by kernel_rfl) (by decide)⟩
          · rintro _ rfl
            refine op_loadbox (d := some 66) (t := 22) (b := bk1) (off := 1) (k := 0) (v := .slice a_sba (List.length sba) c_sba) En843 (by kernel_rfl) Hv844 rfl rfl (by kernel_rfl) ?_
            intro ac915 En916
            refine any_at 2 (by kernel_rfl) rfl ?_
            refine op_loadbox (d := some 62) (t := 22) (b := bk1) (off := 0) (k := 0) (v := .slice a_sa (List.length sa) c_sa) En916 (by kernel_rfl) Hv844 rfl rfl (by kernel_rfl) ?_
            intro ac917 En918
            refine any_at 3 (by kernel_rfl) rfl ?_
            refine op_append (d := some 63) (t := 22) (tx := 22) (ty := 22) (k := 3) (p := 0) (m := List.length sa) (x := .slice a_sa (List.length sa) c_sa) (bytes := 1) En918 (by kernel_rfl) Hv844 rfl rfl (Reads.src (size := 1) (tx := 22) (e' := 5) (by kernel_rfl) (i_sa.ev Hv844).reads (bys_len _) i_sa.nz (bys_one _)) (by kernel_rfl) (z := .int .u8 0) (by kernel_rfl) rfl (by decide) (by omega) (by unfold maxLen; omega) ?_
            intro ac923 wo924 ao919 cp920 En925 Hv926 _ _
            rw [bys_nil_append] at Hv926
            have ehz921 : 0 + List.length sa = List.length sa := (by first | (simp; done) | (simp; omega) | omega)
            rw [ehz921] at En925
            refine any_at 7 (by kernel_rfl) rfl ?_
            refine op_append (d := some 67) (t := 22) (tx := 22) (ty := 22) (k := 3) (p := List.length sa) (m := List.length sba) (x := .slice a_sba (List.length sba) c_sba) (bytes := 1) En925 (by kernel_rfl) Hv926 rfl (bys_len _) (Reads.src (size := 1) (tx := 22) (e' := 5) (by kernel_rfl) (i_sba.ev Hv926).reads (bys_len _) i_sba.nz (bys_one _)) (by kernel_rfl) (z := .int .u8 0) (by kernel_rfl) rfl (by decide) (by omega) (by unfold maxLen; omega) ?_
            intro ac931 wo932 ao927 cp928 En933 Hv934 _ _
            rw [← bys_append] at Hv934
            have ehz929 : (List.length sa) + List.length sba = List.length (sa ++ sba) := (by first | (simp; done) | (simp; omega) | omega)
            rw [ehz929] at En933
            refine any_at 10 (by kernel_rfl) rfl ?_
            refine op_append (d := some 70) (t := 22) (tx := 22) (ty := 22) (k := 3) (p := List.length (sa ++ sba)) (m := 1) (x := .slice (some ⟨bk840, 0, none⟩) 1 1) (bytes := 1) En933 (by kernel_rfl) Hv934 rfl (bys_len _) (Reads.src (size := 1) (tx := 22) (e' := 5) (by kernel_rfl) (Hv934.heap.reads (k := 4) rfl) rfl (fun e => by cases e) (bys_one _)) (by kernel_rfl) (z := .int .u8 0) (by kernel_rfl) rfl (by decide) (by omega) (by unfold maxLen; omega) ?_
            intro ac939 wo940 ao935 cp936 En941 Hv942 _ _
            rw [← bys_append] at Hv942
            have ehz937 : (List.length (sa ++ sba)) + 1 = List.length ((sa ++ sba) ++ [a]) := (by first | (simp; done) | (simp; omega) | omega)
            rw [ehz937] at En941
            refine any_pureR (d := some 71) En941 (v := .pointer (some ⟨bk392, 5, none⟩)) 11 (by kernel_rfl) (by kernel_rfl) rfl ?_
            intro ac943 En944
            refine any_pureR (d := some 72) En944 (v := .pointer (some ⟨bk392, 6, none⟩)) 12 (by kernel_rfl) (by kernel_rfl) rfl ?_
            intro ac945 En946
            refine any_at 13 (by kernel_rfl) rfl ?_
            refine op_storebox2 (d := none) (t := 22) (b := bk392) (off := 6) (k := 2) (v := .slice ao935 (List.length ((sa ++ sba) ++ [a])) cp936) En946 (by kernel_rfl) Hv942 rfl rfl (by kernel_rfl) rfl rfl rfl ?_
            intro ac947 wo948  En949 Hv950
            exact any_end (by kernel_rfl) ⟨ao935, cp936, En949.sub (by kernel_rfl), Hv950.pick [0, 1, 2, 3] (by kernel_rfl) (by decide)⟩
      · rintro _ rfl
        refine op_loadbox (d := some 62) (t := 22) (b := bk1) (off := 0) (k := 0) (v := .slice a_sa (List.length sa) c_sa) En409 (by kernel_rfl) wo401 rfl rfl (by kernel_rfl) ?_
        intro ac951 En952
        refine any_ways [0, 6, 9] (by kernel_rfl) rfl ?_
        refine ⟨?_, ?_, ?_, trivial⟩
        · rintro _ rfl
          refine op_lit (d := some 60) (t := 22) (T := 5) (m := 0) (parts := #[]) (xs := bys []) (sz := 1) En952 (by kernel_rfl) (by kernel_rfl) rfl (by decide) wo401 ?_
          intro ac954 wo955 bk953 En956 Hv957
          refine any_ways [3, 6, 9] (by kernel_rfl) rfl ?_
          refine ⟨?_, ?_, ?_, trivial⟩
          · rintro _ rfl
            refine op_append (d := some 63) (t := 22) (tx := 22) (ty := 22) (k := 3) (p := 0) (m := List.length sa) (x := .slice a_sa (List.length sa) c_sa) (bytes := 1) En956 (by kernel_rfl) Hv957 rfl rfl (Reads.src (size := 1) (tx := 22) (e' := 5) (by kernel_rfl) (i_sa.ev Hv957).reads (bys_len _) i_sa.nz (bys_one _)) (by kernel_rfl) (z := .int .u8 0) (by kernel_rfl) rfl (by decide) (by omega) (by unfold maxLen; omega) ?_
            intro ac962 wo963 ao958 cp959 En964 Hv965 _ _
            rw [bys_nil_append] at Hv965
            have ehz960 : 0 + List.length sa = List.length sa := (by first | (simp; done) | (simp; omega) | omega)
            rw [ehz960] at En964
            refine any_two 6 9 (by kernel_rfl) ?_ ?_
            · rintro _ rfl
              refine op_loadbox (d := some 66) (t := 22) (b := bk1) (off := 1) (k := 0) (v := .slice a_sba (List.length sba) c_sba) En964 (by kernel_rfl) Hv965 rfl rfl (by kernel_rfl) ?_
              intro ac966 En967
              refine any_two 7 9 (by kernel_rfl) ?_ ?_
              · rintro _ rfl
                refine op_append (d := some 67) (t := 22) (tx := 22) (ty := 22) (k := 3) (p := List.length sa) (m := List.length sba) (x := .slice a_sba (List.length sba) c_sba) (bytes := 1) En967 (by kernel_rfl) Hv965 rfl (bys_len _) (Reads.src (size := 1) (tx := 22) (e' := 5) (by kernel_rfl) (i_sba.ev Hv965).reads (bys_len _) i_sba.nz (bys_one _)) (by kernel_rfl) (z := .int .u8 0) (by kernel_rfl) rfl (by decide) (by omega) (by unfold maxLen; omega) ?_
                intro ac972 wo973 ao968 cp969 En974 Hv975 _ _
                rw [← bys_append] at Hv975
                have ehz970 : (List.length sa) + List.length sba = List.length (sa ++ sba) := (by first | (simp; done) | (simp; omega) | omega)
                rw [ehz970] at En974
                refine any_at 9 (by kernel_rfl) rfl ?_
                refine op_lit (d := some 69) (t := 22) (T := 5) (m := 1) (parts := #[(0, .int .u8 ((UInt8.toNat a : Nat) : Int))]) (xs := bys [a]) (sz := 1) En974 (by kernel_rfl) (by kernel_rfl) rfl (by decide) Hv975 ?_
                intro ac977 wo978 bk976 En979 Hv980
                refine any_at 10 (by kernel_rfl) rfl ?_
                refine op_append (d := some 70) (t := 22) (tx := 22) (ty := 22) (k := 3) (p := List.length (sa ++ sba)) (m := 1) (x := .slice (some ⟨bk976, 0, none⟩) 1 1) (bytes := 1) En979 (by kernel_rfl) Hv980 rfl (bys_len _) (Reads.src (size := 1) (tx := 22) (e' := 5) (by kernel_rfl) (Hv980.heap.reads (k := 4) rfl) rfl (fun e => by cases e) (bys_one _)) (by kernel_rfl) (z := .int .u8 0) (by kernel_rfl) rfl (by decide) (by omega) (by unfold maxLen; omega) ?_
                intro ac985 wo986 ao981 cp982 En987 Hv988 _ _
                rw [← bys_append] at Hv988
                have ehz983 : (List.length (sa ++ sba)) + 1 = List.length ((sa ++ sba) ++ [a]) := (by first | (simp; done) | (simp; omega) | omega)
                rw [ehz983] at En987
                refine any_pureR (d := some 71) En987 (v := .pointer (some ⟨bk392, 5, none⟩)) 11 (by kernel_rfl) (by kernel_rfl) rfl ?_
                intro ac989 En990
                refine any_pureR (d := some 72) En990 (v := .pointer (some ⟨bk392, 6, none⟩)) 12 (by kernel_rfl) (by kernel_rfl) rfl ?_
                intro ac991 En992
                refine any_at 13 (by kernel_rfl) rfl ?_
                refine op_storebox2 (d := none) (t := 22) (b := bk392) (off := 6) (k := 2) (v := .slice ao981 (List.length ((sa ++ sba) ++ [a])) cp982) En992 (by kernel_rfl) Hv988 rfl rfl (by kernel_rfl) rfl rfl rfl ?_
                intro ac993 wo994  En995 Hv996
                exact any_end (by kernel_rfl) ⟨ao981, cp982, En995.sub (by kernel_rfl), Hv996.pick [0, 1, 2, 3] (by kernel_rfl) (by decide)⟩
              · rintro _ rfl
                refine op_lit (d := some 69) (t := 22) (T := 5) (m := 1) (parts := #[(0, .int .u8 ((UInt8.toNat a : Nat) : Int))]) (xs := bys [a]) (sz := 1) En967 (by kernel_rfl) (by kernel_rfl) rfl (by decide) Hv965 ?_
                intro ac998 wo999 bk997 En1000 Hv1001
                refine any_at 7 (by kernel_rfl) rfl ?_
                refine op_append (d := some 67) (t := 22) (tx := 22) (ty := 22) (k := 3) (p := List.length sa) (m := List.length sba) (x := .slice a_sba (List.length sba) c_sba) (bytes := 1) En1000 (by kernel_rfl) Hv1001 rfl (bys_len _) (Reads.src (size := 1) (tx := 22) (e' := 5) (by kernel_rfl) (i_sba.ev Hv1001).reads (bys_len _) i_sba.nz (bys_one _)) (by kernel_rfl) (z := .int .u8 0) (by kernel_rfl) rfl (by decide) (by omega) (by unfold maxLen; omega) ?_
                intro ac1006 wo1007 ao1002 cp1003 En1008 Hv1009 _ _
                rw [← bys_append] at Hv1009
                have ehz1004 : (List.length sa) + List.length sba = List.length (sa ++ sba) := (by first | (simp; done) | (simp; omega) | omega)
                rw [ehz1004] at En1008
                refine any_at 10 (by kernel_rfl) rfl ?_
                refine op_append (d := some 70) (t := 22) (tx := 22) (ty := 22) (k := 3) (p := List.length (sa ++ sba)) (m := 1) (x := .slice (some ⟨bk997, 0, none⟩) 1 1) (bytes := 1) En1008 (by kernel_rfl) Hv1009 rfl (bys_len _) (Reads.src (size := 1) (tx := 22) (e' := 5) (by kernel_rfl) (Hv1009.heap.reads (k := 4) rfl) rfl (fun e => by cases e) (bys_one _)) (by kernel_rfl) (z := .int .u8 0) (by kernel_rfl) rfl (by decide) (by omega) (by unfold maxLen; omega) ?_
                intro ac1014 wo1015 ao1010 cp1011 En1016 Hv1017 _ _
                rw [← bys_append] at Hv1017
                have ehz1012 : (List.length (sa ++ sba)) + 1 = List.length ((sa ++ sba) ++ [a]) := (by first | (simp; done) | (simp; omega) | omega)
                rw [ehz1012] at En1016
                refine any_pureR (d := some 71) En1016 (v := .pointer (some ⟨bk392, 5, none⟩)) 11 (by kernel_rfl) (by kernel_rfl) rfl ?_
                intro ac1018 En1019
                refine any_pureR (d := some 72) En1019 (v := .pointer (some ⟨bk392, 6, none⟩)) 12 (by kernel_rfl) (by kernel_rfl) rfl ?_
                intro ac1020 En1021
                refine any_at 13 (by kernel_rfl) rfl ?_
                refine op_storebox2 (d := none) (t := 22) (b := bk392) (off := 6) (k := 2) (v := .slice ao1010 (List.length ((sa ++ sba) ++ [a])) cp1011) En1021 (by kernel_rfl) Hv1017 rfl rfl (by kernel_rfl) rfl rfl rfl ?_
                intro ac1022 wo1023  En1024 Hv1025
                exact any_end (by kernel_rfl) ⟨ao1010, cp1011, En1024.sub (by kernel_rfl), Hv1025.pick [0, 1, 2, 3] (by kernel_rfl) (by decide)⟩
            · rintro _ rfl
              refine op_lit (d := some 69) (t := 22) (T := 5) (m := 1) (parts := #[(0, .int .u8 ((UInt8.toNat a : Nat) : Int))]) (xs := bys [a]) (sz := 1) En964 (by kernel_rfl) (by kernel_rfl) rfl (by decide) Hv965 ?_
              intro ac1027 wo1028 bk1026 En1029 Hv1030
              refine any_at 6 (by kernel_rfl) rfl ?_
              refine op_loadbox (d := some 66) (t := 22) (b := bk1) (off := 1) (k := 0) (v := .slice a_sba (List.length sba) c_sba) En1029 (by kernel_rfl) Hv1030 rfl rfl (by kernel_rfl) ?_
              intro ac1031 En1032
              refine any_at 7 (by kernel_rfl) rfl ?_
              refine op_append (d := some 67) (t := 22) (tx := 22) (ty := 22) (k := 3) (p := List.length sa) (m := List.length sba) (x := .slice a_sba (List.length sba) c_sba) (bytes := 1) En1032 (by kernel_rfl) Hv1030 rfl (bys_len _) (Reads.src (size := 1) (tx := 22) (e' := 5) (by kernel_rfl) (i_sba.ev Hv1030).reads (bys_len _) i_sba.nz (bys_one _)) (by kernel_rfl) (z := .int .u8 0) (by kernel_rfl) rfl (by decide) (by omega) (by unfold maxLen; omega) ?_
              intro ac1037 wo1038 ao1033 cp1034 En1039 Hv1040 _ _
              rw [← bys_append] at Hv1040
              have ehz1035 : (List.length sa) + List.length sba = List.length (sa ++ sba) := (by first | (simp; done) | (simp; omega) | omega)
              rw [ehz1035] at En1039
              refine any_at 10 (by kernel_rfl) rfl ?_
              refine op_append (d := some 70) (t := 22) (tx := 22) (ty := 22) (k := 3) (p := List.length (sa ++ sba)) (m := 1) (x := .slice (some ⟨bk1026, 0, none⟩) 1 1) (bytes := 1) En1039 (by kernel_rfl) Hv1040 rfl (bys_len _) (Reads.src (size := 1) (tx := 22) (e' := 5) (by kernel_rfl) (Hv1040.heap.reads (k := 4) rfl) rfl (fun e => by cases e) (bys_one _)) (by kernel_rfl) (z := .int .u8 0) (by kernel_rfl) rfl (by decide) (by omega) (by unfold maxLen; omega) ?_
              intro ac1045 wo1046 ao1041 cp1042 En1047 Hv1048 _ _
              rw [← bys_append] at Hv1048
              have ehz1043 : (List.length (sa ++ sba)) + 1 = List.length ((sa ++ sba) ++ [a]) := (by first | (simp; done) | (simp; omega) | omega)
              rw [ehz1043] at En1047
              refine any_pureR (d := some 71) En1047 (v := .pointer (some ⟨bk392, 5, none⟩)) 11 (by kernel_rfl) (by kernel_rfl) rfl ?_
              intro ac1049 En1050
              refine any_pureR (d := some 72) En1050 (v := .pointer (some ⟨bk392, 6, none⟩)) 12 (by kernel_rfl) (by kernel_rfl) rfl ?_
              intro ac1051 En1052
              refine any_at 13 (by kernel_rfl) rfl ?_
              refine op_storebox2 (d := none) (t := 22) (b := bk392) (off := 6) (k := 2) (v := .slice ao1041 (List.length ((sa ++ sba) ++ [a])) cp1042) En1052 (by kernel_rfl) Hv1048 rfl rfl (by kernel_rfl) rfl rfl rfl ?_
              intro ac1053 wo1054  En1055 Hv1056
              exact any_end (by kernel_rfl) ⟨ao1041, cp1042, En1055.sub (by kernel_rfl), Hv1056.pick [0, 1, 2, 3] (by kernel_rfl) (by decide)⟩
          · rintro _ rfl
            refine op_loadbox (d := some 66) (t := 22) (b := bk1) (off := 1) (k := 0) (v := .slice a_sba (List.length sba) c_sba) En956 (by kernel_rfl) Hv957 rfl rfl (by kernel_rfl) ?_
            intro ac1057 En1058
            refine any_two 3 9 (by kernel_rfl) ?_ ?_
            · rintro _ rfl
              refine op_append (d := some 63) (t := 22) (tx := 22) (ty := 22) (k := 3) (p := 0) (m := List.length sa) (x := .slice a_sa (List.length sa) c_sa) (bytes := 1) En1058 (by kernel_rfl) Hv957 rfl rfl (Reads.src (size := 1) (tx := 22) (e' := 5) (by kernel_rfl) (i_sa.ev Hv957).reads (bys_len _) i_sa.nz (bys_one _)) (by kernel_rfl) (z := .int .u8 0) (by kernel_rfl) rfl (by decide) (by omega) (by unfold maxLen; omega) ?_
              intro ac1063 wo1064 ao1059 cp1060 En1065 Hv1066 _ _
              rw [bys_nil_append] at Hv1066
              have ehz1061 : 0 + List.length sa = List.length sa := (by first | (simp; done) | (simp; omega) | omega)
              rw [ehz1061] at En1065
              refine any_two 7 9 (by kernel_rfl) ?_ ?_
              · rintro _ rfl
                refine op_append (d := some 67) (t := 22) (tx := 22) (ty := 22) (k := 3) (p := List.length sa) (m := List.length sba) (x := .slice a_sba (List.length sba) c_sba) (bytes := 1) En1065 (by kernel_rfl) Hv1066 rfl (bys_len _) (Reads.src (size := 1) (tx := 22) (e' := 5) (by kernel_rfl) (i_sba.ev Hv1066).reads (bys_len _) i_sba.nz (bys_one _)) (by kernel_rfl) (z := .int .u8 0) (by kernel_rfl) rfl (by decide) (by omega) (by unfold maxLen; omega) ?_
                intro ac1071 wo1072 ao1067 cp1068 En1073 Hv1074 _ _
                rw [← bys_append] at Hv1074
                have ehz1069 : (List.length sa) + List.length sba = List.length (sa ++ sba) := (by first | (simp; done) | (simp; omega) | omega)
                rw [ehz1069] at En1073
                refine any_at 9 (by kernel_rfl) rfl ?_
                refine op_lit (d := some 69) (t := 22) (T := 5) (m := 1) (parts := #[(0, .int .u8 ((UInt8.toNat a : Nat) : Int))]) (xs := bys [a]) (sz := 1) En1073 (by kernel_rfl) (by kernel_rfl) rfl (by decide) Hv1074 ?_
                intro ac1076 wo1077 bk1075 En1078 Hv1079
                refine any_at 10 (by kernel_rfl) rfl ?_
                refine op_append (d := some 70) (t := 22) (tx := 22) (ty := 22) (k := 3) (p := List.length (sa ++ sba)) (m := 1) (x := .slice (some ⟨bk1075, 0, none⟩) 1 1) (bytes := 1) En1078 (by kernel_rfl) Hv1079 rfl (bys_len _) (Reads.src (size := 1) (tx := 22) (e' := 5) (by kernel_rfl) (Hv1079.heap.reads (k := 4) rfl) rfl (fun e => by cases e) (bys_one _)) (by kernel_rfl) (z := .int .u8 0) (by kernel_rfl) rfl (by decide) (by omega) (by unfold maxLen; omega) ?_
                intro ac1084 wo1085 ao1080 cp1081 En1086 Hv1087 _ _
                rw [← bys_append] at Hv1087
                have ehz1082 : (List.length (sa ++ sba)) + 1 = List.length ((sa ++ sba) ++ [a]) := (by first | (simp; done) | (simp; omega) | omega)
                rw [ehz1082] at En1086
                refine any_pureR (d := some 71) En1086 (v := .pointer (some ⟨bk392, 5, none⟩)) 11 (by kernel_rfl) (by kernel_rfl) rfl ?_
                intro ac1088 En1089
                refine any_pureR (d := some 72) En1089 (v := .pointer (some ⟨bk392, 6, none⟩)) 12 (by kernel_rfl) (by kernel_rfl) rfl ?_
                intro ac1090 En1091
                refine any_at 13 (by kernel_rfl) rfl ?_
                refine op_storebox2 (d := none) (t := 22) (b := bk392) (off := 6) (k := 2) (v := .slice ao1080 (List.length ((sa ++ sba) ++ [a])) cp1081) En1091 (by kernel_rfl) Hv1087 rfl rfl (by kernel_rfl) rfl rfl rfl ?_
                intro ac1092 wo1093  En1094 Hv1095
                exact any_end (by kernel_rfl) ⟨ao1080, cp1081, En1094.sub (by kernel_rfl), Hv1095.pick [0, 1, 2, 3] (by kernel_rfl) (by decide)⟩
              · rintro _ rfl
                refine op_lit (d := some 69) (t := 22) (T := 5) (m := 1) (parts := #[(0, .int .u8 ((UInt8.toNat a : Nat) : Int))]) (xs := bys [a]) (sz := 1) En1065 (by kernel_rfl) (by kernel_rfl) rfl (by decide) Hv1066 ?_
                intro ac1097 wo1098 bk1096 En1099 Hv1100
                refine any_at 7 (by kernel_rfl) rfl ?_
                refine op_append (d := some 67) (t := 22) (tx := 22) (ty := 22) (k := 3) (p := List.length sa) (m := List.length sba) (x := .slice a_sba (List.length sba) c_sba) (bytes := 1) En1099 (by kernel_rfl) Hv1100 rfl (bys_len _) (Reads.src (size := 1) (tx := 22) (e' := 5) (by kernel_rfl) (i_sba.ev Hv1100).reads (bys_len _) i_sba.nz (bys_one _)) (by kernel_rfl) (z := .int .u8 0) (by kernel_rfl) rfl (by decide) (by omega) (by unfold maxLen; omega) ?_
                intro ac1105 wo1106 ao1101 cp1102 En1107 Hv1108 _ _
                rw [← bys_append] at Hv1108
                have ehz1103 : (List.length sa) + List.length sba = List.length (sa ++ sba) := (by first | (simp; done) | (simp; omega) | omega)
                rw [ehz1103] at En1107
                refine any_at 10 (by kernel_rfl) rfl ?_
                refine op_append (d := some 70) (t := 22) (tx := 22) (ty := 22) (k := 3) (p := List.length (sa ++ sba)) (m := 1) (x := .slice (some ⟨bk1096, 0, none⟩) 1 1) (bytes := 1) En1107 (by kernel_rfl) Hv1108 rfl (bys_len _) (Reads.src (size := 1) (tx := 22) (e' := 5) (by kernel_rfl) (Hv1108.heap.reads (k := 4) rfl) rfl (fun e => by cases e) (bys_one _)) (by kernel_rfl) (z := .int .u8 0) (by kernel_rfl) rfl (by decide) (by omega) (by unfold maxLen; omega) ?_
                intro ac1113 wo1114 ao1109 cp1110 En1115 Hv1116 _ _
                rw [← bys_append] at Hv1116
                have ehz1111 : (List.length (sa ++ sba)) + 1 = List.length ((sa ++ sba) ++ [a]) := (by first | (simp; done) | (simp; omega) | omega)
                rw [ehz1111] at En1115
                refine any_pureR (d := some 71) En1115 (v := .pointer (some ⟨bk392, 5, none⟩)) 11 (by kernel_rfl) (by kernel_rfl) rfl ?_
                intro ac1117 En1118
                refine any_pureR (d := some 72) En1118 (v := .pointer (some ⟨bk392, 6, none⟩)) 12 (by kernel_rfl) (by kernel_rfl) rfl ?_
                intro ac1119 En1120
                refine any_at 13 (by kernel_rfl) rfl ?_
                refine op_storebox2 (d := none) (t := 22) (b := bk392) (off := 6) (k := 2) (v := .slice ao1109 (List.length ((sa ++ sba) ++ [a])) cp1110) En1120 (by kernel_rfl) Hv1116 rfl rfl (by kernel_rfl) rfl rfl rfl ?_
                intro ac1121 wo1122  En1123 Hv1124
                exact any_end (by kernel_rfl) ⟨ao1109, cp1110, En1123.sub (by kernel_rfl), Hv1124.pick [0, 1, 2, 3] (by kernel_rfl) (by decide)⟩
            · rintro _ rfl
              refine op_lit (d := some 69) (t := 22) (T := 5) (m := 1) (parts := #[(0, .int .u8 ((UInt8.toNat a : Nat) : Int))]) (xs := bys [a]) (sz := 1) En1058 (by kernel_rfl) (by kernel_rfl) rfl (by decide) Hv957 ?_
              intro ac1126 wo1127 bk1125 En1128 Hv1129
              refine any_at 3 (by kernel_rfl) rfl ?_
              refine op_append (d := some 63) (t := 22) (tx := 22) (ty := 22) (k := 3) (p := 0) (m := List.length sa) (x := .slice a_sa (List.length sa) c_sa) (bytes := 1) En1128 (by kernel_rfl) Hv1129 rfl rfl (Reads.src (size := 1) (tx := 22) (e' := 5) (by kernel_rfl) (i_sa.ev Hv1129).reads (bys_len _) i_sa.nz (bys_one _)) (by kernel_rfl) (z := .int .u8 0) (by kernel_rfl) rfl (by decide) (by omega) (by unfold maxLen; omega) ?_
              intro ac1134 wo1135 ao1130 cp1131 En1136 Hv1137 _ _
              rw [bys_nil_append] at Hv1137
              have ehz1132 : 0 + List.length sa = List.length sa := (by first | (simp; done) | (simp; omega) | omega)
              rw [ehz1132] at En1136
              refine any_at 7 (by kernel_rfl) rfl ?_
              refine op_append (d := some 67) (t := 22) (tx := 22) (ty := 22) (k := 3) (p := List.length sa) (m := List.length sba) (x := .slice a_sba (List.length sba) c_sba) (bytes := 1) En1136 (by kernel_rfl) Hv1137 rfl (bys_len _) (Reads.src (size := 1) (tx := 22) (e' := 5) (by kernel_rfl) (i_sba.ev Hv1137).reads (bys_len _) i_sba.nz (bys_one _)) (by kernel_rfl) (z := .int .u8 0) (by kernel_rfl) rfl (by decide) (by omega) (by unfold maxLen; omega) ?_
              intro ac1142 wo1143 ao1138 cp1139 En1144 Hv1145 _ _
              rw [← bys_append] at Hv1145
              have ehz1140 : (List.length sa) + List.length sba = List.length (sa ++ sba) := (by first | (simp; done) | (simp; omega) | omega)
              rw [ehz1140] at En1144
              refine any_at 10 (by kernel_rfl) rfl ?_
              refine op_append (d := some 70) (t := 22) (tx := 22) (ty := 22) (k := 3) (p := List.length (sa ++ sba)) (m := 1) (x := .slice (some ⟨bk1125, 0, none⟩) 1 1) (bytes := 1) En1144 (by kernel_rfl) Hv1145 rfl (bys_len _) (Reads.src (size := 1) (tx := 22) (e' := 5) (by kernel_rfl) (Hv1145.heap.reads (k := 4) rfl) rfl (fun e => by cases e) (bys_one _)) (by kernel_rfl) (z := .int .u8 0) (by kernel_rfl) rfl (by decide) (by omega) (by unfold maxLen; omega) ?_
              intro ac1150 wo1151 ao1146 cp1147 En1152 Hv1153 _ _
              rw [← bys_append] at Hv1153
              have ehz1148 : (List.length (sa ++ sba)) + 1 = List.length ((sa ++ sba) ++ [a]) := (by first | (simp; done) | (simp; omega) | omega)
              rw [ehz1148] at En1152
              refine any_pureR (d := some 71) En1152 (v := .pointer (some ⟨bk392, 5, none⟩)) 11 (by kernel_rfl) (by kernel_rfl) rfl ?_
              intro ac1154 En1155
              refine any_pureR (d := some 72) En1155 (v := .pointer (some ⟨bk392, 6, none⟩)) 12 (by kernel_rfl) (by kernel_rfl) rfl ?_
              intro ac1156 En1157
              refine any_at 13 (by kernel_rfl) rfl ?_
              refine op_storebox2 (d := none) (t := 22) (b := bk392) (off := 6) (k := 2) (v := .slice ao1146 (List.length ((sa ++ sba) ++ [a])) cp1147) En1157 (by kernel_rfl) Hv1153 rfl rfl (by kernel_rfl) rfl rfl rfl ?_
              intro ac1158 wo1159  En1160 Hv1161
              exact any_end (by kernel_rfl) ⟨ao1146, cp1147, En1160.sub (by kernel_rfl), Hv1161.pick [0, 1, 2, 3] (by kernel_rfl) (by decide)⟩
          · rintro _ rfl
            refine op_lit (d := some 69) (t := 22) (T := 5) (m := 1) (parts := #[(0, .int .u8 ((UInt8.toNat a : Nat) : Int))]) (xs := bys [a]) (sz := 1) En956 (by kernel_rfl) (by kernel_rfl) rfl (by decide) Hv957 ?_
            intro ac1163 wo1164 bk1162 En1165 Hv1166
            refine any_two 3 6 (by kernel_rfl) ?_ ?_
            · rintro _ rfl
              refine op_append (d := some 63) (t := 22) (tx := 22) (ty := 22) (k := 3) (p := 0) (m := List.length sa) (x := .slice a_sa (List.length sa) c_sa) (bytes := 1) En1165 (by kernel_rfl) Hv1166 rfl rfl (Reads.src (size := 1) (tx := 22) (e' := 5) (by kernel_rfl) (i_sa.ev Hv1166).reads (bys_len _) i_sa.nz (bys_one _)) (by kernel_rfl) (z := .int .u8 0) (by kernel_rfl) rfl (by decide) (by omega) (by unfold maxLen; omega) ?_
              intro ac1171 wo1172 ao1167 cp1168 En1173 Hv1174 _ _
              rw [bys_nil_append] at Hv1174
              have ehz1169 : 0 + List.length sa = List.length sa := (by first | (simp; done) | (simp; omega) | omega)
              rw [ehz1169] at En1173
              refine any_at 6 (by kernel_rfl) rfl ?_
              refine op_loadbox (d := some 66) (t := 22) (b := bk1) (off := 1) (k := 0) (v := .slice a_sba (List.length sba) c_sba) En1173 (by kernel_rfl) Hv1174 rfl rfl (by kernel_rfl) ?_
              intro ac1175 En1176
              refine any_at 7 (by kernel_rfl) rfl ?_
              refine op_append (d := some 67) (t := 22) (tx := 22) (ty := 22) (k := 3) (p := List.length sa) (m := List.length sba) (x := .slice a_sba (List.length sba) c_sba) (bytes := 1) En1176 (by kernel_rfl) Hv1174 rfl (bys_len _) (Reads.src (size := 1) (tx := 22) (e' := 5) (by kernel_rfl) (i_sba.ev Hv1174).reads (bys_len _) i_sba.nz (bys_one _)) (by kernel_rfl) (z := .int .u8 0) (by kernel_rfl) rfl (by decide) (by omega) (by unfold maxLen; omega) ?_
              intro ac1181 wo1182 ao1177 cp1178 En1183 Hv1184 _ _
              rw [← bys_append] at Hv1184
              have ehz1179 : (List.length sa) + List.length sba = List.length (sa ++ sba) := (by first | (simp; done) | (simp; omega) | omega)
              rw [ehz1179] at En1183
              refine any_at 10 (by kernel_rfl) rfl ?_
              refine op_append (d := some 70) (t := 22) (tx := 22) (ty := 22) (k := 3) (p := List.length (sa ++ sba)) (m := 1) (x := .slice (some ⟨bk1162, 0, none⟩) 1 1) (bytes := 1) En1183 (by kernel_rfl) Hv1184 rfl (bys_len _) (Reads.src (size := 1) (tx := 22) (e' := 5) (by kernel_rfl) (Hv1184.heap.reads (k := 4) rfl) rfl (fun e => by cases e) (bys_one _)) (by kernel_rfl) (z := .int .u8 0) (by kernel_rfl) rfl (by decide) (by omega) (by unfold maxLen; omega) ?_
              intro ac1189 wo1190 ao1185 cp1186 En1191 Hv1192 _ _
              rw [← bys_append] at Hv1192
              have ehz1187 : (List.length (sa ++ sba)) + 1 = List.length ((sa ++ sba) ++ [a]) := (by first | (simp; done) | (simp; omega) | omega)
              rw [ehz1187] at En1191
              refine any_pureR (d := some 71) En1191 (v := .pointer (some ⟨bk392, 5, none⟩)) 11 (by kernel_rfl) (by kernel_rfl) rfl ?_
              intro ac1193 En1194
              refine any_pureR (d := some 72) En1194 (v := .pointer (some ⟨bk392, 6, none⟩)) 12 (by kernel_rfl) (by kernel_rfl) rfl ?_
              intro ac1195 En1196
              refine any_at 13 (by kernel_rfl) rfl ?_
              refine op_storebox2 (d := none) (t := 22) (b := bk392) (off := 6) (k := 2) (v := .slice ao1185 (List.length ((sa ++ sba) ++ [a])) cp1186) En1196 (by kernel_rfl) Hv1192 rfl rfl (by kernel_rfl) rfl rfl rfl ?_
              intro ac1197 wo1198  En1199 Hv1200
              exact any_end (by kernel_rfl) ⟨ao1185, cp1186, En1199.sub (by kernel_rfl), Hv1200.pick [0, 1, 2, 3] (by kernel_rfl) (by decide)⟩
            · rintro _ rfl
              refine op_loadbox (d := some 66) (t := 22) (b := bk1) (off := 1) (k := 0) (v := .slice a_sba (List.length sba) c_sba) En1165 (by kernel_rfl) Hv1166 rfl rfl (by kernel_rfl) ?_
              intro ac1201 En1202
              refine any_at 3 (by kernel_rfl) rfl ?_
              refine op_append (d := some 63) (t := 22) (tx := 22) (ty := 22) (k := 3) (p := 0) (m := List.length sa) (x := .slice a_sa (List.length sa) c_sa) (bytes := 1) En1202 (by kernel_rfl) Hv1166 rfl rfl (Reads.src (size := 1) (tx := 22) (e' := 5) (by kernel_rfl) (i_sa.ev Hv1166).reads (bys_len _) i_sa.nz (bys_one _)) (by kernel_rfl) (z := .int .u8 0) (by kernel_rfl) rfl (by decide) (by omega) (by unfold maxLen; omega) ?_
              intro ac1207 wo1208 ao1203 cp1204 En1209 Hv1210 _ _
              rw [bys_nil_append] at Hv1210
              have ehz1205 : 0 + List.length sa = List.length sa := (by first | (simp; done) | (simp; omega) | omega)
              rw [ehz1205] at En1209
              refine any_at 7 (by kernel_rfl) rfl ?_
              refine op_append (d := some 67) (t := 22) (tx := 22) (ty := 22) (k := 3) (p := List.length sa) (m := List.length sba) (x := .slice a_sba (List.length sba) c_sba) (bytes := 1) En1209 (by kernel_rfl) Hv1210 rfl (bys_len _) (Reads.src (size := 1) (tx := 22) (e' := 5) (by kernel_rfl) (i_sba.ev Hv1210).reads (bys_len _) i_sba.nz (bys_one _)) (by kernel_rfl) (z := .int .u8 0) (by kernel_rfl) rfl (by decide) (by omega) (by unfold maxLen; omega) ?_
              intro ac1215 wo1216 ao1211 cp1212 En1217 Hv1218 _ _
              rw [← bys_append] at Hv1218
              have ehz1213 : (List.length sa) + List.length sba = List.length (sa ++ sba) := (by first | (simp; done) | (simp; omega) | omega)
              rw [ehz1213] at En1217
              refine any_at 10 (by kernel_rfl) rfl ?_
              refine op_append (d := some 70) (t := 22) (tx := 22) (ty := 22) (k := 3) (p := List.length (sa ++ sba)) (m := 1) (x := .slice (some ⟨bk1162, 0, none⟩) 1 1) (bytes := 1) En1217 (by kernel_rfl) Hv1218 rfl (bys_len _) (Reads.src (size := 1) (tx := 22) (e' := 5) (by kernel_rfl) (Hv1218.heap.reads (k := 4) rfl) rfl (fun e => by cases e) (bys_one _)) (by kernel_rfl) (z := .int .u8 0) (by kernel_rfl) rfl (by decide) (by omega) (by unfold maxLen; omega) ?_
              intro ac1223 wo1224 ao1219 cp1220 En1225 Hv1226 _ _
              rw [← bys_append] at Hv1226
              have ehz1221 : (List.length (sa ++ sba)) + 1 = List.length ((sa ++ sba) ++ [a]) := (by first | (simp; done) | (simp; omega) | omega)
              rw [ehz1221] at En1225
              refine any_pureR (d := some 71) En1225 (v := .pointer (some ⟨bk392, 5, none⟩)) 11 (by kernel_rfl) (by kernel_rfl) rfl ?_
              intro ac1227 En1228
              refine any_pureR (d := some 72) En1228 (v := .pointer (some ⟨bk392, 6, none⟩)) 12 (by kernel_rfl) (by kernel_rfl) rfl ?_
              intro ac1229 En1230
              refine any_at 13 (by kernel_rfl) rfl ?_
              refine op_storebox2 (d := none) (t := 22) (b := bk392) (off := 6) (k := 2) (v := .slice ao1219 (List.length ((sa ++ sba) ++ [a])) cp1220) En1230 (by kernel_rfl) Hv1226 rfl rfl (by kernel_rfl) rfl rfl rfl ?_
              intro ac1231 wo1232  En1233 Hv1234
              exact any_end (by kernel_rfl) ⟨ao1219, cp1220, En1233.sub (by kernel_rfl), Hv1234.pick [0, 1, 2, 3] (by kernel_rfl) (by decide)⟩
        · rintro _ rfl
          refine op_loadbox (d := some 66) (t := 22) (b := bk1) (off := 1) (k := 0) (v := .slice a_sba (List.length sba) c_sba) En952 (by kernel_rfl) wo401 rfl rfl (by kernel_rfl) ?_
          intro ac1235 En1236
          refine any_two 0 9 (by kernel_rfl) ?_ ?_
          · rintro _ rfl
            refine op_lit (d := some 60) (t := 22) (T := 5) (m := 0) (parts := #[]) (xs := bys []) (sz := 1) En1236 (by kernel_rfl) (by kernel_rfl) rfl (by decide) wo401 ?_
            intro ac1238 wo1239 bk1237 En1240 Hv1241
            refine any_two 3 9 (by kernel_rfl) ?_ ?_
            · rintro _ rfl
              refine op_append (d := some 63) (t := 22) (tx := 22) (ty := 22) (k := 3) (p := 0) (m := List.length sa) (x := .slice a_sa (List.length sa) c_sa) (bytes := 1) En1240 (by kernel_rfl) Hv1241 rfl rfl (Reads.src (size := 1) (tx := 22) (e' := 5) (by kernel_rfl) (i_sa.ev Hv1241).reads (bys_len _) i_sa.nz (bys_one _)) (by kernel_rfl) (z := .int .u8 0) (by kernel_rfl) rfl (by decide) (by omega) (by unfold maxLen; omega) ?_
              intro ac1246 wo1247 ao1242 cp1243 En1248 Hv1249 _ _
              rw [bys_nil_append] at Hv1249
              have ehz1244 : 0 + List.length sa = List.length sa := (by first | (simp; done) | (simp; omega) | omega)
              rw [ehz1244] at En1248
              refine any_two 7 9 (by kernel_rfl) ?_ ?_
              · rintro _ rfl
                refine op_append (d := some 67) (t := 22) (tx := 22) (ty := 22) (k := 3) (p := List.length sa) (m := List.length sba) (x := .slice a_sba (List.length sba) c_sba) (bytes := 1) En1248 (by kernel_rfl) Hv1249 rfl (bys_len _) (Reads.src (size := 1) (tx := 22) (e' := 5) (by kernel_rfl) (i_sba.ev Hv1249).reads (bys_len _) i_sba.nz (bys_one _)) (by kernel_rfl) (z := .int .u8 0) (by kernel_rfl) rfl (by decide) (by omega) (by unfold maxLen; omega) ?_
                intro ac1254 wo1255 ao1250 cp1251 En1256 Hv1257 _ _
                rw [← bys_append] at Hv1257
                have ehz1252 : (List.length sa) + List.length sba = List.length (sa ++ sba) := (by first | (simp; done) | (simp; omega) | omega)
                rw [ehz1252] at En1256
                refine any_at 9 (by kernel_rfl) rfl ?_
                refine op_lit (d := some 69) (t := 22) (T := 5) (m := 1) (parts := #[(0, .int .u8 ((UInt8.toNat a : Nat) : Int))]) (xs := bys [a]) (sz := 1) En1256 (by kernel_rfl) (by kernel_rfl) rfl (by decide) Hv1257 ?_
                intro ac1259 wo1260 bk1258 En1261 Hv1262
                refine any_at 10 (by kernel_rfl) rfl ?_
                refine op_append (d := some 70) (t := 22) (tx := 22) (ty := 22) (k := 3) (p := List.length (sa ++ sba)) (m := 1) (x := .slice (some ⟨bk1258, 0, none⟩) 1 1) (bytes := 1) En1261 (by kernel_rfl) Hv1262 rfl (bys_len _) (Reads.src (size := 1) (tx := 22) (e' := 5) (by kernel_rfl) (Hv1262.heap.reads (k := 4) rfl) rfl (fun e => by cases e) (bys_one _)) (by kernel_rfl) (z := .int .u8 0) (by kernel_rfl) rfl (by decide) (by omega) (by unfold maxLen; omega) ?_
                intro ac1267 wo1268 ao1263 cp1264 En1269 Hv1270 _ _
                rw [← bys_append] at Hv1270
                have ehz1265 : (List.length (sa ++ sba)) + 1 = List.length ((sa ++ sba) ++ [a]) := (by first | (simp; done) | (simp; omega) | omega)
                rw [ehz1265] at En1269
                refine any_pureR (d := some 71) En1269 (v := .pointer (some ⟨bk392, 5, none⟩)) 11 (by kernel_rfl) (by kernel_rfl) rfl ?_
                intro ac1271 En1272
                refine any_pureR (d := some 72) En1272 (v := .pointer (some ⟨bk392, 6, none⟩)) 12 (by kernel_rfl) (by kernel_rfl) rfl ?_
                intro ac1273 En1274
                refine any_at 13 (by kernel_rfl) rfl ?_
                refine op_storebox2 (d := none) (t := 22) (b := bk392) (off := 6) (k := 2) (v := .slice ao1263 (List.length ((sa ++ sba) ++ [a])) cp1264) En1274 (by kernel_rfl) Hv1270 rfl rfl (by kernel_rfl) rfl rfl rfl ?_
                intro ac1275 wo1276  En1277 Hv1278
                exact any_end (by kernel_rfl) ⟨ao1263, cp1264, En1277.sub (by kernel_rfl), Hv1278.pick [0, 1, 2, 3] (by kernel_rfl) (by decide)⟩
              · rintro _ rfl
                refine op_lit (d := some 69) (t := 22) (T := 5) (m := 1) (parts := #[(0, .int .u8 ((UInt8.toNat a : Nat) : Int))]) (xs := bys [a]) (sz := 1) En1248 (by kernel_rfl) (by kernel_rfl) rfl (by decide) Hv1249 ?_
                intro ac1280 wo1281 bk1279 En1282 Hv1283
                refine any_at 7 (by kernel_rfl) rfl ?_
                refine op_append (d := some 67) (t := 22) (tx := 22) (ty := 22) (k := 3) (p := List.length sa) (m := List.length sba) (x := .slice a_sba (List.length sba) c_sba) (bytes := 1) En1282 (by kernel_rfl) Hv1283 rfl (bys_len _) (Reads.src (size := 1) (tx := 22) (e' := 5) (by kernel_rfl) (i_sba.ev Hv1283).reads (bys_len _) i_sba.nz (bys_one _)) (by kernel_rfl) (z := .int .u8 0) (by kernel_rfl) rfl (by decide) (by omega) (by unfold maxLen; omega) ?_
                intro ac1288 wo1289 ao1284 cp1285 En1290 Hv1291 _ _
                rw [← bys_append] at Hv1291
                have ehz1286 : (List.length sa) + List.length sba = List.length (sa ++ sba) := (by first | (simp; done) | (simp; omega) | omega)
                rw [ehz1286] at En1290
                refine any_at 10 (by kernel_rfl) rfl ?_
                refine op_append (d := some 70) (t := 22) (tx := 22) (ty := 22) (k := 3) (p := List.length (sa ++ sba)) (m := 1) (x := .slice (some ⟨bk1279, 0, none⟩) 1 1) (bytes := 1) En1290 (by kernel_rfl) Hv1291 rfl (bys_len _) (Reads.src (size := 1) (tx := 22) (e' := 5) (by kernel_rfl) (Hv1291.heap.reads (k := 4) rfl) rfl (fun e => by cases e) (bys_one _)) (by kernel_rfl) (z := .int .u8 0) (by kernel_rfl) rfl (by decide) (by omega) (by unfold maxLen; omega) ?_
                intro ac1296 wo1297 ao1292 cp1293 En1298 Hv1299 _ _
                rw [← bys_append] at Hv1299
                have ehz1294 : (List.length (sa ++ sba)) + 1 = List.length ((sa ++ sba) ++ [a]) := (by first | (simp; done) | (simp; omega) | omega)
                rw [ehz1294] at En1298
                refine any_pureR (d := some 71) En1298 (v := .pointer (some ⟨bk392, 5, none⟩)) 11 (by kernel_rfl) (by kernel_rfl) rfl ?_
                intro ac1300 En1301
                refine any_pureR (d := some 72) En1301 (v := .pointer (some ⟨bk392, 6, none⟩)) 12 (by kernel_rfl) (by kernel_rfl) rfl ?_
                intro ac1302 En1303
                refine any_at 13 (by kernel_rfl) rfl ?_
                refine op_storebox2 (d := none) (t := 22) (b := bk392) (off := 6) (k := 2) (v := .slice ao1292 (List.length ((sa ++ sba) ++ [a])) cp1293) En1303 (by kernel_rfl) Hv1299 rfl rfl (by kernel_rfl) rfl rfl rfl ?_
                intro ac1304 wo1305  En1306 Hv1307
                exact any_end (by kernel_rfl) ⟨ao1292, cp1293, En1306.sub (by kernel_rfl), Hv1307.pick [0, 1, 2, 3] (by kernel_rfl) (by decide)⟩
            · rintro _ rfl
              refine op_lit (d := some 69) (t := 22) (T := 5) (m := 1) (parts := #[(0, .int .u8 ((UInt8.toNat a : Nat) : Int))]) (xs := bys [a]) (sz := 1) En1240 (by kernel_rfl) (by kernel_rfl) rfl (by decide) Hv1241 ?_
              intro ac1309 wo1310 bk1308 En1311 Hv1312
              refine any_at 3 (by kernel_rfl) rfl ?_
              refine op_append (d := some 63) (t := 22) (tx := 22) (ty := 22) (k := 3) (p := 0) (m := List.length sa) (x := .slice a_sa (List.length sa) c_sa) (bytes := 1) En1311 (by kernel_rfl) Hv1312 rfl rfl (Reads.src (size := 1) (tx := 22) (e' := 5) (by kernel_rfl) (i_sa.ev Hv1312).reads (bys_len _) i_sa.nz (bys_one _)) (by kernel_rfl) (z := .int .u8 0) (by kernel_rfl) rfl (by decide) (by omega) (by unfold maxLen; omega) ?_
              intro ac1317 wo1318 ao1313 cp1314 En1319 Hv1320 _ _
              rw [bys_nil_append] at Hv1320
              have ehz1315 : 0 + List.length sa = List.length sa := (by first | (simp; done) | (simp; omega) | omega)
              rw [ehz1315] at En1319
              refine any_at 7 (by kernel_rfl) rfl ?_
              refine op_append (d := some 67) (t := 22) (tx := 22) (ty := 22) (k := 3) (p := List.length sa) (m := List.length sba) (x := .slice a_sba (List.length sba) c_sba) (bytes := 1) En1319 (by kernel_rfl) Hv1320 rfl (bys_len _) (Reads.src (size := 1) (tx := 22) (e' := 5) (by kernel_rfl) (i_sba.ev Hv1320).reads (bys_len _) i_sba.nz (bys_one _)) (by kernel_rfl) (z := .int .u8 0) (by kernel_rfl) rfl (by decide) (by omega) (by unfold maxLen; omega) ?_
              intro ac1325 wo1326 ao1321 cp1322 En1327 Hv1328 _ _
              rw [← bys_append] at Hv1328
              have ehz1323 : (List.length sa) + List.length sba = List.length (sa ++ sba) := (by first | (simp; done) | (simp; omega) | omega)
              rw [ehz1323] at En1327
              refine any_at 10 (by kernel_rfl) rfl ?_
              refine op_append (d := some 70) (t := 22) (tx := 22) (ty := 22) (k := 3) (p := List.length (sa ++ sba)) (m := 1) (x := .slice (some ⟨bk1308, 0, none⟩) 1 1) (bytes := 1) En1327 (by kernel_rfl) Hv1328 rfl (bys_len _) (Reads.src (size := 1) (tx := 22) (e' := 5) (by kernel_rfl) (Hv1328.heap.reads (k := 4) rfl) rfl (fun e => by cases e) (bys_one _)) (by kernel_rfl) (z := .int .u8 0) (by kernel_rfl) rfl (by decide) (by omega) (by unfold maxLen; omega) ?_
              intro ac1333 wo1334 ao1329 cp1330 En1335 Hv1336 _ _
              rw [← bys_append] at Hv1336
              have ehz1331 : (List.length (sa ++ sba)) + 1 = List.length ((sa ++ sba) ++ [a]) := (by first | (simp; done) | (simp; omega) | omega)
              rw [ehz1331] at En1335
              refine any_pureR (d := some 71) En1335 (v := .pointer (some ⟨bk392, 5, none⟩)) 11 (by kernel_rfl) (by kernel_rfl) rfl ?_
              intro ac1337 En1338
              refine any_pureR (d := some 72) En1338 (v := .pointer (some ⟨bk392, 6, none⟩)) 12 (by kernel_rfl) (by kernel_rfl) rfl ?_
              intro ac1339 En1340
              refine any_at 13 (by kernel_rfl) rfl ?_
              refine op_storebox2 (d := none) (t := 22) (b := bk392) (off := 6) (k := 2) (v := .slice ao1329 (List.length ((sa ++ sba) ++ [a])) cp1330) En1340 (by kernel_rfl) Hv1336 rfl rfl (by kernel_rfl) rfl rfl rfl ?_
              intro ac1341 wo1342  En1343 Hv1344
              exact any_end (by kernel_rfl) ⟨ao1329, cp1330, En1343.sub (by kernel_rfl), Hv1344.pick [0, 1, 2, 3] (by kernel_rfl) (by decide)⟩
          · rintro _ rfl
            refine op_lit (d := some 69) (t := 22) (T := 5) (m := 1) (parts := #[(0, .int .u8 ((UInt8.toNat a : Nat) : Int))]) (xs := bys [a]) (sz := 1) En1236 (by kernel_rfl) (by kernel_rfl) rfl (by decide) wo401 ?_
            intro ac1346 wo1347 bk1345 En1348 Hv1349
            refine any_at 0 (by kernel_rfl) rfl ?_
            refine op_lit (d := some 60) (t := 22) (T := 5) (m := 0) (parts := #[]) (xs := bys []) (sz := 1) En1348 (by kernel_rfl) (by kernel_rfl) rfl (by decide) Hv1349 ?_
            intro ac1351 wo1352 bk1350 En1353 Hv1354
            refine any_at 3 (by kernel_rfl) rfl ?_
            refine op_append (d := some 63) (t := 22) (tx := 22) (ty := 22) (k := 4) (p := 0) (m := List.length sa) (x := .slice a_sa (List.length sa) c_sa) (bytes := 1) En1353 (by kernel_rfl) Hv1354 rfl rfl (Reads.src (size := 1) (tx := 22) (e' := 5) (by kernel_rfl) (i_sa.ev Hv1354).reads (bys_len _) i_sa.nz (bys_one _)) (by kernel_rfl) (z := .int .u8 0) (by kernel_rfl) rfl (by decide) (by omega) (by unfold maxLen; omega) ?_
            intro ac1359 wo1360 ao1355 cp1356 En1361 Hv1362 _ _
            rw [bys_nil_append] at Hv1362
            have ehz1357 : 0 + List.length sa = List.length sa := (by first | (simp; done) | (simp; omega) | omega)
            rw [ehz1357] at En1361
            refine any_at 7 (by kernel_rfl) rfl ?_
            refine op_append (d := some 67) (t := 22) (tx := 22) (ty := 22) (k := 4) (p := List.length sa) (m := List.length sba) (x := .slice a_sba (List.length sba) c_sba) (bytes := 1) En1361 (by kernel_rfl) Hv1362 rfl (bys_len _) (Reads.src (size := 1) (tx := 22) (e' := 5) (by kernel_rfl) (i_sba.ev Hv1362).reads (bys_len _) i_sba.nz (bys_one _)) (by kernel_rfl) (z := .int .u8 0) (by kernel_rfl) rfl (by decide) (by omega) (by unfold maxLen; omega) ?_
            intro ac1367 wo1368 ao1363 cp1364 En1369 Hv1370 _ _
            rw [← bys_append] at Hv1370
            have ehz1365 : (List.length sa) + List.length sba = List.length (sa ++ sba) := (by first | (simp; done) | (simp; omega) | omega)
            rw [ehz1365] at En1369
            refine any_at 10 (by kernel_rfl) rfl ?_
            refine op_append (d := some 70) (t := 22) (tx := 22) (ty := 22) (k := 4) (p := List.length (sa ++ sba)) (m := 1) (x := .slice (some ⟨bk1345, 0, none⟩) 1 1) (bytes := 1) En1369 (by kernel_rfl) Hv1370 rfl (bys_len _) (Reads.src (size := 1) (tx := 22) (e' := 5) (by kernel_rfl) (Hv1370.heap.reads (k := 3) rfl) rfl (fun e => by cases e) (bys_one _)) (by kernel_rfl) (z := .int .u8 0) (by kernel_rfl) rfl (by decide) (by omega) (by unfold maxLen; omega) ?_
            intro ac1375 wo1376 ao1371 cp1372 En1377 Hv1378 _ _
            rw [← bys_append] at Hv1378
            have ehz1373 : (List.length (sa ++ sba)) + 1 = List.length ((sa ++ sba) ++ [a]) := (by first | (simp; done) | (simp; omega) | omega)
            rw [ehz1373] at En1377
            refine any_pureR (d := some 71) En1377 (v := .pointer (some ⟨bk392, 5, none⟩)) 11 (by kernel_rfl) (by kernel_rfl) rfl ?_
            intro ac1379 En1380
            refine any_pureR (d := some 72) En1380 (v := .pointer (some ⟨bk392, 6, none⟩)) 12 (by kernel_rfl) (by kernel_rfl) rfl ?_
            intro ac1381 En1382
            refine any_at 13 (by kernel_rfl) rfl ?_
            refine op_storebox2 (d := none) (t := 22) (b := bk392) (off := 6) (k := 2) (v := .slice ao1371 (List.length ((sa ++ sba) ++ [a])) cp1372) En1382 (by kernel_rfl) Hv1378 rfl rfl (by kernel_rfl) rfl rfl rfl ?_
            intro ac1383 wo1384  En1385 Hv1386
            exact any_end (by kernel_rfl) ⟨ao1371, cp1372, En1385.sub (by kernel_rfl), Hv1386.pick [0, 1, 2, 4] (by kernel_rfl) (by decide)⟩
        · rintro _ rfl
          refine op_lit (d := some 69) (t := 22) (T := 5) (m := 1) (parts := #[(0, .int .u8 ((UInt8.toNat a : Nat) : Int))]) (xs := bys [a]) (sz := 1) En952 (by kernel_rfl) (by kernel_rfl) rfl (by decide) wo401 ?_
          intro ac1388 wo1389 bk1387 En1390 Hv1391
          refine any_two 0 6 (by kernel_rfl) ?_ ?_
          · rintro _ rfl
            refine op_lit (d := some 60) (t := 22) (T := 5) (m := 0) (parts := #[]) (xs := bys []) (sz := 1) En1390 (by kernel_rfl) (by kernel_rfl) rfl (by decide) Hv1391 ?_
            intro ac1393 wo1394 bk1392 En1395 Hv1396
            refine any_two 3 6 (by kernel_rfl) ?_ ?_
            · rintro _ rfl
              refine op_append (d := some 63) (t := 22) (tx := 22) (ty := 22) (k := 4) (p := 0) (m := List.length sa) (x := .slice a_sa (List.length sa) c_sa) (bytes := 1) En1395 (by kernel_rfl) Hv1396 rfl rfl (Reads.src (size := 1) (tx := 22) (e' := 5) (by kernel_rfl) (i_sa.ev Hv1396).reads (bys_len _) i_sa.nz (bys_one _)) (by kernel_rfl) (z := .int .u8 0) (by kernel_rfl) rfl (by decide) (by omega) (by unfold maxLen; omega) ?_
              intro ac1401 wo1402 ao1397 cp1398 En1403 Hv1404 _ _
              rw [bys_nil_append] at Hv1404
              have ehz1399 : 0 + List.length sa = List.length sa := (by first | (simp; done) | (simp; omega) | omega)
              rw [ehz1399] at En1403
              refine any_at 6 (by kernel_rfl) rfl ?_
              refine op_loadbox (d := some 66) (t := 22) (b := bk1) (off := 1) (k := 0) (v := .slice a_sba (List.length sba) c_sba) En1403 (by kernel_rfl) Hv1404 rfl rfl (by kernel_rfl) ?_
              intro ac1405 En1406
              refine any_at 7 (by kernel_rfl) rfl ?_
              refine op_append (d := some 67) (t := 22) (tx := 22) (ty := 22) (k := 4) (p := List.length sa) (m := List.length sba) (x := .slice a_sba (List.length sba) c_sba) (bytes := 1) En1406 (by kernel_rfl) Hv1404 rfl (bys_len _) (Reads.src (size := 1) (tx := 22) (e' := 5) (by kernel_rfl) (i_sba.ev Hv1404).reads (bys_len _) i_sba.nz (bys_one _)) (by kernel_rfl) (z := .int .u8 0) (by kernel_rfl) rfl (by decide) (by omega) (by unfold maxLen; omega) ?_
              intro ac1411 wo1412 ao1407 cp1408 En1413 Hv1414 _ _
              rw [← bys_append] at Hv1414
              have ehz1409 : (List.length sa) + List.length sba = List.length (sa ++ sba) := (by first | (simp; done) | (simp; omega) | omega)
              rw [ehz1409] at En1413
              refine any_at 10 (by kernel_rfl) rfl ?_
              refine op_append (d := some 70) (t := 22) (tx := 22) (ty := 22) (k := 4) (p := List.length (sa ++ sba)) (m := 1) (x := .slice (some ⟨bk1387, 0, none⟩) 1 1) (bytes := 1) En1413 (by kernel_rfl) Hv1414 rfl (bys_len _) (Reads.src (size := 1) (tx := 22) (e' := 5) (by kernel_rfl) (Hv1414.heap.reads (k := 3) rfl) rfl (fun e => by cases e) (bys_one _)) (by kernel_rfl) (z := .int .u8 0) (by kernel_rfl) rfl (by decide) (by omega) (by unfold maxLen; omega) ?_
              intro ac1419 wo1420 ao1415 cp1416 En1421 Hv1422 _ _
              rw [← bys_append] at Hv1422
              have ehz1417 : (List.length (sa ++ sba)) + 1 = List.length ((sa ++ sba) ++ [a]) := (by first | (simp; done) | (simp; omega) | omega)
              rw [ehz1417] at En1421
              refine any_pureR (d := some 71) En1421 (v := .pointer (some ⟨bk392, 5, none⟩)) 11 (by kernel_rfl) (by kernel_rfl) rfl ?_
              intro ac1423 En1424
              refine any_pureR (d := some 72) En1424 (v := .pointer (some ⟨bk392, 6, none⟩)) 12 (by kernel_rfl) (by kernel_rfl) rfl ?_
              intro ac1425 En1426
              refine any_at 13 (by kernel_rfl) rfl ?_
              refine op_storebox2 (d := none) (t := 22) (b := bk392) (off := 6) (k := 2) (v := .slice ao1415 (List.length ((sa ++ sba) ++ [a])) cp1416) En1426 (by kernel_rfl) Hv1422 rfl rfl (by kernel_rfl) rfl rfl rfl ?_
              intro ac1427 wo1428  En1429 Hv1430
              exact any_end (by kernel_rfl) ⟨ao1415, cp1416, En1429.sub (by kernel_rfl), Hv1430.pick [0, 1, 2, 4] (by kernel_rfl) (by decide)⟩
            · rintro _ rfl
              refine op_loadbox (d := some 66) (t := 22) (b := bk1) (off := 1) (k := 0) (v := .slice a_sba (List.length sba) c_sba) En1395 (by kernel_rfl) Hv1396 rfl rfl (by kernel_rfl) ?_
              intro ac1431 En1432
              refine any_at 3 (by kernel_rfl) rfl ?_
              refine op_append (d := some 63) (t := 22) (tx := 22) (ty := 22) (k := 4) (p := 0) (m := List.length sa) (x := .slice a_sa (List.length sa) c_sa) (bytes := 1) En1432 (by kernel_rfl) Hv1396 rfl rfl (Reads.src (size := 1) (tx := 22) (e' := 5) (by kernel_rfl) (i_sa.ev Hv1396).reads (bys_len _) i_sa.nz (bys_one _)) (by kernel_rfl) (z := .int .u8 0) (by kernel_rfl) rfl (by decide) (by omega) (by unfold maxLen; omega) ?_
              intro ac1437 wo1438 ao1433 cp1434 En1439 Hv1440 _ _
              rw [bys_nil_append] at Hv1440
              have ehz1435 : 0 + List.length sa = List.length sa := (by first | (simp; done) | (simp; omega) | omega)
              rw [ehz1435] at En1439
              refine any_at 7 (by kernel_rfl) rfl ?_
              refine op_append (d := some 67) (t := 22) (tx := 22) (ty := 22) (k := 4) (p := List.length sa) (m := List.length sba) (x := .slice a_sba (List.length sba) c_sba) (bytes := 1) En1439 (by kernel_rfl) Hv1440 rfl (bys_len _) (Reads.src (size := 1) (tx := 22) (e' := 5) (by kernel_rfl) (i_sba.ev Hv1440).reads (bys_len _) i_sba.nz (bys_one _)) (by kernel_rfl) (z := .int .u8 0) (by kernel_rfl) rfl (by decide) (by omega) (by unfold maxLen; omega) ?_
              intro ac1445 wo1446 ao1441 cp1442 En1447 Hv1448 _ _
              rw [← bys_append] at Hv1448
              have ehz1443 : (List.length sa) + List.length sba = List.length (sa ++ sba) := (by first | (simp; done) | (simp; omega) | omega)
              rw [ehz1443] at En1447
              refine any_at 10 (by kernel_rfl) rfl ?_
              refine op_append (d := some 70) (t := 22) (tx := 22) (ty := 22) (k := 4) (p := List.length (sa ++ sba)) (m := 1) (x := .slice (some ⟨bk1387, 0, none⟩) 1 1) (bytes := 1) En1447 (by kernel_rfl) Hv1448 rfl (bys_len _) (Reads.src (size := 1) (tx := 22) (e' := 5) (by kernel_rfl) (Hv1448.heap.reads (k := 3) rfl) rfl (fun e => by cases e) (bys_one _)) (by kernel_rfl) (z := .int .u8 0) (by kernel_rfl) rfl (by decide) (by omega) (by unfold maxLen; omega) ?_
              intro ac1453 wo1454 ao1449 cp1450 En1455 Hv1456 _ _
              rw [← bys_append] at Hv1456
              have ehz1451 : (List.length (sa ++ sba)) + 1 = List.length ((sa ++ sba) ++ [a]) := (by first | (simp; done) | (simp; omega) | omega)
              rw [ehz1451] at En1455
              refine any_pureR (d := some 71) En1455 (v := .pointer (some ⟨bk392, 5, none⟩)) 11 (by kernel_rfl) (by kernel_rfl) rfl ?_
              intro ac1457 En1458
              refine any_pureR (d := some 72) En1458 (v := .pointer (some ⟨bk392, 6, none⟩)) 12 (by kernel_rfl) (by kernel_rfl) rfl ?_
              intro ac1459 En1460
              refine any_at 13 (by kernel_rfl) rfl ?_
              refine op_storebox2 (d := none) (t := 22) (b := bk392) (off := 6) (k := 2) (v := .slice ao1449 (List.length ((sa ++ sba) ++ [a])) cp1450) En1460 (by kernel_rfl) Hv1456 rfl rfl (by kernel_rfl) rfl rfl rfl ?_
              intro ac1461 wo1462  En1463 Hv1464
              exact any_end (by kernel_rfl) ⟨ao1449, cp1450, En1463.sub (by kernel_rfl), Hv1464.pick [0, 1, 2, 4] (by kernel_rfl) (by decide)⟩
          · rintro _ rfl
            refine op_loadbox (d := some 66) (t := 22) (b := bk1) (off := 1) (k := 0) (v := .slice a_sba (List.length sba) c_sba) En1390 (by kernel_rfl) Hv1391 rfl rfl (by kernel_rfl) ?_
            intro ac1465 En1466
            refine any_at 0 (by kernel_rfl) rfl ?_
            refine op_lit (d := some 60) (t := 22) (T := 5) (m := 0) (parts := #[]) (xs := bys []) (sz := 1) En1466 (by kernel_rfl) (by kernel_rfl) rfl (by decide) Hv1391 ?_
            intro ac1468 wo1469 bk1467 En1470 Hv1471
            refine any_at 3 (by kernel_rfl) rfl ?_
            refine op_append (d := some 63) (t := 22) (tx := 22) (ty := 22) (k := 4) (p := 0) (m := List.length sa) (x := .slice a_sa (List.length sa) c_sa) (bytes := 1) En1470 (by kernel_rfl) Hv1471 rfl rfl (Reads.src (size := 1) (tx := 22) (e' := 5) (by kernel_rfl) (i_sa.ev Hv1471).reads (bys_len _) i_sa.nz (bys_one _)) (by kernel_rfl) (z := .int .u8 0) (by kernel_rfl) rfl (by decide) (by omega) (by unfold maxLen; omega) ?_
            intro ac1476 wo1477 ao1472 cp1473 En1478 Hv1479 _ _
            rw [bys_nil_append] at Hv1479
            have ehz1474 : 0 + List.length sa = List.length sa := (by first | (simp; done) | (simp; omega) | omega)
            rw [ehz1474] at En1478
            refine any_at 7 (by kernel_rfl) rfl ?_
            refine op_append (d := some 67) (t := 22) (tx := 22) (ty := 22) (k := 4) (p := List.length sa) (m := List.length sba) (x := .slice a_sba (List.length sba) c_sba) (bytes := 1) En1478 (by kernel_rfl) Hv1479 rfl (bys_len _) (Reads.src (size := 1) (tx := 22) (e' := 5) (by kernel_rfl) (i_sba.ev Hv1479).reads (bys_len _) i_sba.nz (bys_one _)) (by kernel_rfl) (z := .int .u8 0) (by kernel_rfl) rfl (by decide) (by omega) (by unfold maxLen; omega) ?_
            intro ac1484 wo1485 ao1480 cp1481 En1486 Hv1487 _ _
            rw [← bys_append] at Hv1487
            have ehz1482 : (List.length sa) + List.length sba = List.length (sa ++ sba) := (by first | (simp; done) | (simp; omega) | omega)
            rw [ehz1482] at En1486
            refine any_at 10 (by kernel_rfl) rfl ?_
            refine op_append (d := some 70) (t := 22) (tx := 22) (ty := 22) (k := 4) (p := List.length (sa ++ sba)) (m := 1) (x := .slice (some ⟨bk1387, 0, none⟩) 1 1) (bytes := 1) En1486 (by kernel_rfl) Hv1487 rfl (bys_len _) (Reads.src (size := 1) (tx := 22) (e' := 5) (by kernel_rfl) (Hv1487.heap.reads (k := 3) rfl) rfl (fun e => by cases e) (bys_one _)) (by kernel_rfl) (z := .int .u8 0) (by kernel_rfl) rfl (by decide) (by omega) (by unfold maxLen; omega) ?_
            intro ac1492 wo1493 ao1488 cp1489 En1494 Hv1495 _ _
            rw [← bys_append] at Hv1495
            have ehz1490 : (List.length (sa ++ sba)) + 1 = List.length ((sa ++ sba) ++ [a]) := (by first | (simp; done) | (simp; omega) | omega)
            rw [ehz1490] at En1494
            refine any_pureR (d := some 71) En1494 (v := .pointer (some ⟨bk392, 5, none⟩)) 11 (by kernel_rfl) (by kernel_rfl) rfl ?_
            intro ac1496 En1497
            refine any_pureR (d := some 72) En1497 (v := .pointer (some ⟨bk392, 6, none⟩)) 12 (by kernel_rfl) (by kernel_rfl) rfl ?_
            intro ac1498 En1499
            refine any_at 13 (by kernel_rfl) rfl ?_
            refine op_storebox2 (d := none) (t := 22) (b := bk392) (off := 6) (k := 2) (v := .slice ao1488 (List.length ((sa ++ sba) ++ [a])) cp1489) En1499 (by kernel_rfl) Hv1495 rfl rfl (by kernel_rfl) rfl rfl rfl ?_
            intro ac1500 wo1501  En1502 Hv1503
            exact any_end (by kernel_rfl) ⟨ao1488, cp1489, En1502.sub (by kernel_rfl), Hv1503.pick [0, 1, 2, 4] (by kernel_rfl) (by decide)⟩
      · rintro _ rfl
        refine op_loadbox (d := some 66) (t := 22) (b := bk1) (off := 1) (k := 0) (v := .slice a_sba (List.length sba) c_sba) En409 (by kernel_rfl) wo401 rfl rfl (by kernel_rfl) ?_
        intro ac1504 En1505
        refine any_ways [0, 2, 9] (by kernel_rfl) rfl ?_
        refine ⟨?_, ?_, ?_, trivial⟩
        · rintro _ rfl
          refine op_lit (d := some 60) (t := 22) (T := 5) (m := 0) (parts := #[]) (xs := bys []) (sz := 1) En1505 (by kernel_rfl) (by kernel_rfl) rfl (by decide) wo401 ?_
          intro ac1507 wo1508 bk1506 En1509 Hv1510
          refine any_two 2 9 (by kernel_rfl) ?_ ?_
          · rintro _ rfl
            refine op_loadbox (d := some 62) (t := 22) (b := bk1) (off := 0) (k := 0) (v := .slice a_sa (List.length sa) c_sa) En1509 (by kernel_rfl) Hv1510 rfl rfl (by kernel_rfl) ?_
            intro ac1511 En1512
            refine any_two 3 9 (by kernel_rfl) ?_ ?_
            · rintro _ rfl
              refine op_append (d := some 63) (t := 22) (tx := 22) (ty := 22) (k := 3) (p := 0) (m := List.length sa) (x := .slice a_sa (List.length sa) c_sa) (bytes := 1) En1512 (by kernel_rfl) Hv1510 rfl rfl (Reads.src (size := 1) (tx := 22) (e' := 5) (by kernel_rfl) (i_sa.ev Hv1510).reads (bys_len _) i_sa.nz (bys_one _)) (by kernel_rfl) (z := .int .u8 0) (by kernel_rfl) rfl (by decide) (by omega) (by unfold maxLen; omega) ?_
              intro ac1517 wo1518 ao1513 cp1514 En1519 Hv1520 _ _
              rw [bys_nil_append] at Hv1520
              have ehz1515 : 0 + List.length sa = List.length sa := (by first | (simp; done) | (simp; omega) | omega)
              rw [ehz1515] at En1519
              refine any_two 7 9 (by kernel_rfl) ?_ ?_
              · rintro _ rfl
                refine op_append (d := some 67) (t := 22) (tx := 22) (ty := 22) (k := 3) (p := List.length sa) (m := List.length sba) (x := .slice a_sba (List.length sba) c_sba) (bytes := 1) En1519 (by kernel_rfl) Hv1520 rfl (bys_len _) (Reads.src (size := 1) (tx := 22) (e' := 5) (by kernel_rfl) (i_sba.ev Hv1520).reads (bys_len _) i_sba.nz (bys_one _)) (by kernel_rfl) (z := .int .u8 0) (by kernel_rfl) rfl (by decide) (by omega) (by unfold maxLen; omega) ?_
                intro ac1525 wo1526 ao1521 cp1522 En1527 Hv1528 _ _
                rw [← bys_append] at Hv1528
                have ehz1523 : (List.length sa) + List.length sba = List.length (sa ++ sba) := (by first | (simp; done) | (simp; omega) | omega)
                rw [ehz1523] at En1527
                refine any_at 9 (by kernel_rfl) rfl ?_
                refine op_lit (d := some 69) (t := 22) (T := 5) (m := 1) (parts := #[(0, .int .u8 ((UInt8.toNat a : Nat) : Int))]) (xs := bys [a]) (sz := 1) En1527 (by kernel_rfl) (by kernel_rfl) rfl (by decide) Hv1528 ?_
                intro ac1530 wo1531 bk1529 En1532 Hv1533
                refine any_at 10 (by kernel_rfl) rfl ?_
                refine op_append (d := some 70) (t := 22) (tx := 22) (ty := 22) (k := 3) (p := List.length (sa ++ sba)) (m := 1) (x := .slice (some ⟨bk1529, 0, none⟩) 1 1) (bytes := 1) En1532 (by kernel_rfl) Hv1533 rfl (bys_len _) (Reads.src (size := 1) (tx := 22) (e' := 5) (by kernel_rfl) (Hv1533.heap.reads (k := 4) rfl) rfl (fun e => by cases e) (bys_one _)) (by kernel_rfl) (z := .int .u8 0) (by kernel_rfl) rfl (by decide) (by omega) (by unfold maxLen; omega) ?_
                intro ac1538 wo1539 ao1534 cp1535 En1540 Hv1541 _ _
                rw [← bys_append] at Hv1541
                have ehz1536 : (List.length (sa ++ sba)) + 1 = List.length ((sa ++ sba) ++ [a]) := (by first | (simp; done) | (simp; omega) | omega)
                rw [ehz1536] at En1540
                refine any_pureR (d := some 71) En1540 (v := .pointer (some ⟨bk392, 5, none⟩)) 11 (by kernel_rfl) (by kernel_rfl) rfl ?_
                intro ac1542 En1543
                refine any_pureR (d := some 72) En1543 (v := .pointer (some ⟨bk392, 6, none⟩)) 12 (by kernel_rfl) (by kernel_rfl) rfl ?_
                intro ac1544 En1545
                refine any_at 13 (by kernel_rfl) rfl ?_
                refine op_storebox2 (d := none) (t := 22) (b := bk392) (off := 6) (k := 2) (v := .slice ao1534 (List.length ((sa ++ sba) ++ [a])) cp1535) En1545 (by kernel_rfl) Hv1541 rfl rfl (by kernel_rfl) rfl rfl rfl ?_
                intro ac1546 wo1547  En1548 Hv1549
                exact any_end (by kernel_rfl) ⟨ao1534, cp1535, En1548.sub (by kernel_rfl), Hv1549.pick [0, 1, 2, 3] (by kernel_rfl) (by decide)⟩
              · rintro _ rfl
                refine op_lit (d := some 69) (t := 22) (T := 5) (m := 1) (parts := #[(0, .int .u8 ((UInt8.toNat a : Nat) : Int))]) (xs := bys [a]) (sz := 1) En1519 (by kernel_rfl) (by kernel_rfl) rfl (by decide) Hv1520 ?_
                intro ac1551 wo1552 bk1550 En1553 Hv1554
                refine any_at 7 (by kernel_rfl) rfl ?_
                refine op_append (d := some 67) (t := 22) (tx := 22) (ty := 22) (k := 3) (p := List.length sa) (m := List.length sba) (x := .slice a_sba (List.length sba) c_sba) (bytes := 1) En1553 (by kernel_rfl) Hv1554 rfl (bys_len _) (Reads.src (size := 1) (tx := 22) (e' := 5) (by kernel_rfl) (i_sba.ev Hv1554).reads (bys_len _) i_sba.nz (bys_one _)) (by kernel_rfl) (z := .int .u8 0) (by kernel_rfl) rfl (by decide) (by omega) (by unfold maxLen; omega) ?_
                intro ac1559 wo1560 ao1555 cp1556 En1561 Hv1562 _ _
                rw [← bys_append] at Hv1562
                have ehz1557 : (List.length sa) + List.length sba = List.length (sa ++ sba) := (by first | (simp; done) | (simp; omega) | omega)
                rw [ehz1557] at En1561
                refine any_at 10 (by kernel_rfl) rfl ?_
                refine op_append (d := some 70) (t := 22) (tx := 22) (ty := 22) (k := 3) (p := List.length (sa ++ sba)) (m := 1) (x := .slice (some ⟨bk1550, 0, none⟩) 1 1) (bytes := 1) En1561 (by kernel_rfl) Hv1562 rfl (bys_len _) (Reads.src (size := 1) (tx := 22) (e' := 5) (by kernel_rfl) (Hv1562.heap.reads (k := 4) rfl) rfl (fun e => by cases e) (bys_one _)) (by kernel_rfl) (z := .int .u8 0) (by kernel_rfl) rfl (by decide) (by omega) (by unfold maxLen; omega) ?_
                intro ac1567 wo1568 ao1563 cp1564 En1569 Hv1570 _ _
                rw [← bys_append] at Hv1570
                have ehz1565 : (List.length (sa ++ sba)) + 1 = List.length ((sa ++ sba) ++ [a]) := (by first | (simp; done) | (simp; omega) | omega)
                rw [ehz1565] at En1569
                refine any_pureR (d := some 71) En1569 (v := .pointer (some ⟨bk392, 5, none⟩)) 11 (by kernel_rfl) (by kernel_rfl) rfl ?_
                intro ac1571 En1572
                refine any_pureR (d := some 72) En1572 (v := .pointer (some ⟨bk392, 6, none⟩)) 12 (by kernel_rfl) (by kernel_rfl) rfl ?_
                intro ac1573 En1574
                refine any_at 13 (by kernel_rfl) rfl ?_
                refine op_storebox2 (d := none) (t := 22) (b := bk392) (off := 6) (k := 2) (v := .slice ao1563 (List.length ((sa ++ sba) ++ [a])) cp1564) En1574 (by kernel_rfl) Hv1570 rfl rfl (by kernel_rfl) rfl rfl rfl ?_
                intro ac1575 wo1576  En1577 Hv1578
                exact any_end (by kernel_rfl) ⟨ao1563, cp1564, En1577.sub (by kernel_rfl), Hv1578.pick [0, 1, 2, 3] (by kernel_rfl) (by decide)⟩
            · rintro _ rfl
              refine op_lit (d := some 69) (t := 22) (T := 5) (m := 1) (parts := #[(0, .int .u8 ((UInt8.toNat a : Nat) : Int))]) (xs := bys [a]) (sz := 1) En1512 (by kernel_rfl) (by kernel_rfl) rfl (by decide) Hv1510 ?_
              intro ac1580 wo1581 bk1579 En1582 Hv1583
              refine any_at 3 (by kernel_rfl) rfl ?_
              refine op_append (d := some 63) (t := 22) (tx := 22) (ty := 22) (k := 3) (p := 0) (m := List.length sa) (x := .slice a_sa (List.length sa) c_sa) (bytes := 1) En1582 (by kernel_rfl) Hv1583 rfl rfl (Reads.src (size := 1) (tx := 22) (e' := 5) (by kernel_rfl) (i_sa.ev Hv1583).reads (bys_len _) i_sa.nz (bys_one _)) (by kernel_rfl) (z := .int .u8 0) (by kernel_rfl) rfl (by decide) (by omega) (by unfold maxLen; omega) ?_
              intro ac1588 wo1589 ao1584 cp1585 En1590 Hv1591 _ _
              rw [bys_nil_append] at Hv1591
              have ehz1586 : 0 + List.length sa = List.length sa := (by first | (simp; done) | (simp; omega) | omega)
              rw [ehz1586] at En1590
              refine any_at 7 (by kernel_rfl) rfl ?_
              refine op_append (d := some 67) (t := 22) (tx := 22) (ty := 22) (k := 3) (p := List.length sa) (m := List.length sba) (x := .slice a_sba (List.length sba) c_sba) (bytes := 1) En1590 (by kernel_rfl) Hv1591 rfl (bys_len _) (Reads.src (size := 1) (tx := 22) (e' := 5) (by kernel_rfl) (i_sba.ev Hv1591).reads (bys_len _) i_sba.nz (bys_one _)) (by kernel_rfl) (z := .int .u8 0) (by kernel_rfl) rfl (by decide) (by omega) (by unfold maxLen; omega) ?_
              intro ac1596 wo1597 ao1592 cp1593 En1598 Hv1599 _ _
              rw [← bys_append] at Hv1599
              have ehz1594 : (List.length sa) + List.length sba = List.length (sa ++ sba) := (by first | (simp; done) | (simp; omega) | omega)
              rw [ehz1594] at En1598
              refine any_at 10 (by kernel_rfl) rfl ?_
              refine op_append (d := some 70) (t := 22) (tx := 22) (ty := 22) (k := 3) (p := List.length (sa ++ sba)) (m := 1) (x := .slice (some ⟨bk1579, 0, none⟩) 1 1) (bytes := 1) En1598 (by kernel_rfl) Hv1599 rfl (bys_len _) (Reads.src (size := 1) (tx := 22) (e' := 5) (by kernel_rfl) (Hv1599.heap.reads (k := 4) rfl) rfl (fun e => by cases e) (bys_one _)) (by kernel_rfl) (z := .int .u8 0) (by kernel_rfl) rfl (by decide) (by omega) (by unfold maxLen; omega) ?_
              intro ac1604 wo1605 ao1600 cp1601 En1606 Hv1607 _ _
              rw [← bys_append] at Hv1607
              have ehz1602 : (List.length (sa ++ sba)) + 1 = List.length ((sa ++ sba) ++ [a]) := (by first | (simp; done) | (simp; omega) | omega)
              rw [ehz1602] at En1606
              refine any_pureR (d := some 71) En1606 (v := .pointer (some ⟨bk392, 5, none⟩)) 11 (by kernel_rfl) (by kernel_rfl) rfl ?_
              intro ac1608 En1609
              refine any_pureR (d := some 72) En1609 (v := .pointer (some ⟨bk392, 6, none⟩)) 12 (by kernel_rfl) (by kernel_rfl) rfl ?_
              intro ac1610 En1611
              refine any_at 13 (by kernel_rfl) rfl ?_
              refine op_storebox2 (d := none) (t := 22) (b := bk392) (off := 6) (k := 2) (v := .slice ao1600 (List.length ((sa ++ sba) ++ [a])) cp1601) En1611 (by kernel_rfl) Hv1607 rfl rfl (by kernel_rfl) rfl rfl rfl ?_
              intro ac1612 wo1613  En1614 Hv1615
              exact any_end (by kernel_rfl) ⟨ao1600, cp1601, En1614.sub (by kernel_rfl), Hv1615.pick [0, 1, 2, 3] (by kernel_rfl) (by decide)⟩
          · rintro _ rfl
            refine op_lit (d := some 69) (t := 22) (T := 5) (m := 1) (parts := #[(0, .int .u8 ((UInt8.toNat a : Nat) : Int))]) (xs := bys [a]) (sz := 1) En1509 (by kernel_rfl) (by kernel_rfl) rfl (by decide) Hv1510 ?_
            intro ac1617 wo1618 bk1616 En1619 Hv1620
            refine any_at 2 (by kernel_rfl) rfl ?_
            refine op_loadbox (d := some 62) (t := 22) (b := bk1) (off := 0) (k := 0) (v := .slice a_sa (List.length sa) c_sa) En1619 (by kernel_rfl) Hv1620 rfl rfl (by kernel_rfl) ?_
            intro ac1621 En1622
            refine any_at 3 (by kernel_rfl) rfl ?_
            refine op_append (d := some 63) (t := 22) (tx := 22) (ty := 22) (k := 3) (p := 0) (m := List.length sa) (x := .slice a_sa (List.length sa) c_sa) (bytes := 1) En1622 (by kernel_rfl) Hv1620 rfl rfl (Reads.src (size := 1) (tx := 22) (e' := 5) (by kernel_rfl) (i_sa.ev Hv1620).reads (bys_len _) i_sa.nz (bys_one _)) (by kernel_rfl) (z := .int .u8 0) (by kernel_rfl) rfl (by decide) (by omega) (by unfold maxLen; omega) ?_
            intro ac1627 wo1628 ao1623 cp1624 En1629 Hv1630 _ _
            rw [bys_nil_append] at Hv1630
            have ehz1625 : 0 + List.length sa = List.length sa := (by first | (simp; done) | (simp; omega) | omega)
            rw [ehz1625] at En1629
            refine any_at 7 (by kernel_rfl) rfl ?_
            refine op_append (d := some 67) (t := 22) (tx := 22) (ty := 22) (k := 3) (p := List.length sa) (m := List.length sba) (x := .slice a_sba (List.length sba) c_sba) (bytes := 1) En1629 (by kernel_rfl) Hv1630 rfl (bys_len _) (Reads.src (size := 1) (tx := 22) (e' := 5) (by kernel_rfl) (i_sba.ev Hv1630).reads (bys_len _) i_sba.nz (bys_one _)) (by kernel_rfl) (z := .int .u8 0) (by kernel_rfl) rfl (by decide) (by omega) (by unfold maxLen; omega) ?_
            intro ac1635 wo1636 ao1631 cp1632 En1637 Hv1638 _ _
            rw [← bys_append] at Hv1638
            have ehz1633 : (List.length sa) + List.length sba = List.length (sa ++ sba) := (by first | (simp; done) | (simp; omega) | omega)
            rw [ehz1633] at En1637
            refine any_at 10 (by kernel_rfl) rfl ?_
            refine op_append (d := some 70) (t := 22) (tx := 22) (ty := 22) (k := 3) (p := List.length (sa ++ sba)) (m := 1) (x := .slice (some ⟨bk1616, 0, none⟩) 1 1) (bytes := 1) En1637 (by kernel_rfl) Hv1638 rfl (bys_len _) (Reads.src (size := 1) (tx := 22) (e' := 5) (by kernel_rfl) (Hv1638.heap.reads (k := 4) rfl) rfl (fun e => by cases e) (bys_one _)) (by kernel_rfl) (z := .int .u8 0) (by kernel_rfl) rfl (by decide) (by omega) (by unfold maxLen; omega) ?_
            intro ac1643 wo1644 ao1639 cp1640 En1645 Hv1646 _ _
            rw [← bys_append] at Hv1646
            have ehz1641 : (List.length (sa ++ sba)) + 1 = List.length ((sa ++ sba) ++ [a]) := (by first | (simp; done) | (simp; omega) | omega)
            rw [ehz1641] at En1645
            refine any_pureR (d := some 71) En1645 (v := .pointer (some ⟨bk392, 5, none⟩)) 11 (by kernel_rfl) (by kernel_rfl) rfl ?_
            intro ac1647 En1648
            refine any_pureR (d := some 72) En1648 (v := .pointer (some ⟨bk392, 6, none⟩)) 12 (by kernel_rfl) (by kernel_rfl) rfl ?_
            intro ac1649 En1650
            refine any_at 13 (by kernel_rfl) rfl ?_
            refine op_storebox2 (d := none) (t := 22) (b := bk392) (off := 6) (k := 2) (v := .slice ao1639 (List.length ((sa ++ sba) ++ [a])) cp1640) En1650 (by kernel_rfl) Hv1646 rfl rfl (by kernel_rfl) rfl rfl rfl ?_
            intro ac1651 wo1652  En1653 Hv1654
            exact any_end (by kernel_rfl) ⟨ao1639, cp1640, En1653.sub (by kernel_rfl), Hv1654.pick [0, 1, 2, 3] (by kernel_rfl) (by decide)⟩
        · rintro _ rfl
          refine op_loadbox (d := some 62) (t := 22) (b := bk1) (off := 0) (k := 0) (v := .slice a_sa (List.length sa) c_sa) En1505 (by kernel_rfl) wo401 rfl rfl (by kernel_rfl) ?_
          intro ac1655 En1656
          refine any_two 0 9 (by kernel_rfl) ?_ ?_
          · rintro _ rfl
            refine op_lit (d := some 60) (t := 22) (T := 5) (m := 0) (parts := #[]) (xs := bys []) (sz := 1) En1656 (by kernel_rfl) (by kernel_rfl) rfl (by decide) wo401 ?_
            intro ac1658 wo1659 bk1657 En1660 Hv1661
            refine any_two 3 9 (by kernel_rfl) ?_ ?_
            · rintro _ rfl
              refine op_append (d := some 63) (t := 22) (tx := 22) (ty := 22) (k := 3) (p := 0) (m := List.length sa) (x := .slice a_sa (List.length sa) c_sa) (bytes := 1) En1660 (by kernel_rfl) Hv1661 rfl rfl (Reads.src (size := 1) (tx := 22) (e' := 5) (by kernel_rfl) (i_sa.ev Hv1661).reads (bys_len _) i_sa.nz (bys_one _)) (by kernel_rfl) (z := .int .u8 0) (by kernel_rfl) rfl (by decide) (by omega) (by unfold maxLen; omega) ?_
              intro ac1666 wo1667 ao1662 cp1663 En1668 Hv1669 _ _
              rw [bys_nil_append] at Hv1669
              have ehz1664 : 0 + List.length sa = List.length sa := (by first | (simp; done) | (simp; omega) | omega)
              rw [ehz1664] at En1668
              refine any_two 7 9 (by kernel_rfl) ?_ ?_
              · rintro _ rfl
                refine op_append (d := some 67) (t := 22) (tx := 22) (ty := 22) (k := 3) (p := List.length sa) (m := List.length sba) (x := .slice a_sba (List.length sba) c_sba) (bytes := 1) En1668 (by kernel_rfl) Hv1669 rfl (bys_len _) (Reads.src (size := 1) (tx := 22) (e' := 5) (by kernel_rfl) (i_sba.ev Hv1669).reads (bys_len _) i_sba.nz (bys_one _)) (by kernel_rfl) (z := .int .u8 0) (by kernel_rfl) rfl (by decide) (by omega) (by unfold maxLen; omega) ?_
                intro ac1674 wo1675 ao1670 cp1671 En1676 Hv1677 _ _
                rw [← bys_append] at Hv1677
                have ehz1672 : (List.length sa) + List.length sba = List.length (sa ++ sba) := (by first | (simp; done) | (simp; omega) | omega)
                rw [ehz1672] at En1676
                refine any_at 9 (by kernel_rfl) rfl ?_
                refine op_lit (d := some 69) (t := 22) (T := 5) (m := 1) (parts := #[(0, .int .u8 ((UInt8.toNat a : Nat) : Int))]) (xs := bys [a]) (sz := 1) En1676 (by kernel_rfl) (by kernel_rfl) rfl (by decide) Hv1677 ?_
                intro ac1679 wo1680 bk1678 En1681 Hv1682
                refine any_at 10 (by kernel_rfl) rfl ?_
                refine op_append (d := some 70) (t := 22) (tx := 22) (ty := 22) (k := 3) (p := List.length (sa ++ sba)) (m := 1) (x := .slice (some ⟨bk1678, 0, none⟩) 1 1) (bytes := 1) En1681 (by kernel_rfl) Hv1682 rfl (bys_len _) (Reads.src (size := 1) (tx := 22) (e' := 5) (by kernel_rfl) (Hv1682.heap.reads (k := 4) rfl) rfl (fun e => by cases e) (bys_one _)) (by kernel_rfl) (z := .int .u8 0) (by kernel_rfl) rfl (by decide) (by omega) (by unfold maxLen; omega) ?_
                intro ac1687 wo1688 ao1683 cp1684 En1689 Hv1690 _ _
                rw [← bys_append] at Hv1690
                have ehz1685 : (List.length (sa ++ sba)) + 1 = List.length ((sa ++ sba) ++ [a]) := (by first | (simp; done) | (simp; omega) | omega)
                rw [ehz1685] at En1689
                refine any_pureR (d := some 71) En1689 (v := .pointer (some ⟨bk392, 5, none⟩)) 11 (by kernel_rfl) (by kernel_rfl) rfl ?_
                intro ac1691 En1692
                refine any_pureR (d := some 72) En1692 (v := .pointer (some ⟨bk392, 6, none⟩)) 12 (by kernel_rfl) (by kernel_rfl) rfl ?_
                intro ac1693 En1694
                refine any_at 13 (by kernel_rfl) rfl ?_
                refine op_storebox2 (d := none) (t := 22) (b := bk392) (off := 6) (k := 2) (v := .slice ao1683 (List.length ((sa ++ sba) ++ [a])) cp1684) En1694 (by kernel_rfl) Hv1690 rfl rfl (by kernel_rfl) rfl rfl rfl ?_
                intro ac1695 wo1696  En1697 Hv1698
                exact any_end (by kernel_rfl) ⟨ao1683, cp1684, En1697.sub (by kernel_rfl), Hv1698.pick [0, 1, 2, 3] (by kernel_rfl) (by decide)⟩
              · rintro _ rfl
                refine op_lit (d := some 69) (t := 22) (T := 5) (m := 1) (parts := #[(0, .int .u8 ((UInt8.toNat a : Nat) : Int))]) (xs := bys [a]) (sz := 1) En1668 (by kernel_rfl) (by kernel_rfl) rfl (by decide) Hv1669 ?_
                intro ac1700 wo1701 bk1699 En1702 Hv1703
                refine any_at 7 (by kernel_rfl) rfl ?_
                refine op_append (d := some 67) (t := 22) (tx := 22) (ty := 22) (k := 3) (p := List.length sa) (m := List.length sba) (x := .slice a_sba (List.length sba) c_sba) (bytes := 1) En1702 (by kernel_rfl) Hv1703 rfl (bys_len _) (Reads.src (size := 1) (tx := 22) (e' := 5) (by kernel_rfl) (i_sba.ev Hv1703).reads (bys_len _) i_sba.nz (bys_one _)) (by kernel_rfl) (z := .int .u8 0) (by kernel_rfl) rfl (by decide) (by omega) (by unfold maxLen; omega) ?_
                intro ac1708 wo1709 ao1704 cp1705 En1710 Hv1711 _ _
                rw [← bys_append] at Hv1711
                have ehz1706 : (List.length sa) + List.length sba = List.length (sa ++ sba) := (by first | (simp; done) | (simp; omega) | omega)
                rw [ehz1706] at En1710
                refine any_at 10 (by kernel_rfl) rfl ?_
                refine op_append (d := some 70) (t := 22) (tx := 22) (ty := 22) (k := 3) (p := List.length (sa ++ sba)) (m := 1) (x := .slice (some ⟨bk1699, 0, none⟩) 1 1) (bytes := 1) En1710 (by kernel_rfl) Hv1711 rfl (bys_len _) (Reads.src (size := 1) (tx := 22) (e' := 5) (by kernel_rfl) (Hv1711.heap.reads (k := 4) rfl) rfl (fun e => by cases e) (bys_one _)) (by kernel_rfl) (z := .int .u8 0) (by kernel_rfl) rfl (by decide) (by omega) (by unfold maxLen; omega) ?_
                intro ac1716 wo1717 ao1712 cp1713 En1718 Hv1719 _ _
                rw [← bys_append] at Hv1719
                have ehz1714 : (List.length (sa ++ sba)) + 1 = List.length ((sa ++ sba) ++ [a]) := (by first | (simp; done) | (simp; omega) | omega)
                rw [ehz1714] at En1718
                refine any_pureR (d := some 71) En1718 (v := .pointer (some ⟨bk392, 5, none⟩)) 11 (by kernel_rfl) (by kernel_rfl) rfl ?_
                intro ac1720 En1721
                refine any_pureR (d := some 72) En1721 (v := .pointer (some ⟨bk392, 6, none⟩)) 12 (by kernel_rfl) (by kernel_rfl) rfl ?_
                intro ac1722 En1723
                refine any_at 13 (by kernel_rfl) rfl ?_
                refine op_storebox2 (d := none) (t := 22) (b := bk392) (off := 6) (k := 2) (v := .slice ao1712 (List.length ((sa ++ sba) ++ [a])) cp1713) En1723 (by kernel_rfl) Hv1719 rfl rfl (by kernel_rfl) rfl rfl rfl ?_
                intro ac1724 wo1725  En1726 Hv1727
                exact any_end (by kernel_rfl) ⟨ao1712, cp1713, En1726.sub (by kernel_rfl), Hv1727.pick [0, 1, 2, 3] (by kernel_rfl) (by decide)⟩
            · rintro _ rfl
              refine op_lit (d := some 69) (t := 22) (T := 5) (m := 1) (parts := #[(0, .int .u8 ((UInt8.toNat a : Nat) : Int))]) (xs := bys [a]) (sz := 1) En1660 (by kernel_rfl) (by kernel_rfl) rfl (by decide) Hv1661 ?_
              intro ac1729 wo1730 bk1728 En1731 Hv1732
              refine any_at 3 (by kernel_rfl) rfl ?_
              refine op_append (d := some 63) (t := 22) (tx := 22) (ty := 22) (k := 3) (p := 0) (m := List.length sa) (x := .slice a_sa (List.length sa) c_sa) (bytes := 1) En1731 (by kernel_rfl) Hv1732 rfl rfl (Reads.src (size := 1) (tx := 22) (e' := 5) (by kernel_rfl) (i_sa.ev Hv1732).reads (bys_len _) i_sa.nz (bys_one _)) (by kernel_rfl) (z := .int .u8 0) (by kernel_rfl) rfl (by decide) (by omega) (by unfold maxLen; omega) ?_
              intro ac1737 wo1738 ao1733 cp1734 En1739 Hv1740 _ _
              rw [bys_nil_append] at Hv1740
              have ehz1735 : 0 + List.length sa = List.length sa := (by first | (simp; done) | (simp; omega) | omega)
              rw [ehz1735] at En1739
              refine any_at 7 (by kernel_rfl) rfl ?_
              refine op_append (d := some 67) (t := 22) (tx := 22) (ty := 22) (k := 3) (p := List.length sa) (m := List.length sba) (x := .slice a_sba (List.length sba) c_sba) (bytes := 1) En1739 (by kernel_rfl) Hv1740 rfl (bys_len _) (Reads.src (size := 1) (tx := 22) (e' := 5) (by kernel_rfl) (i_sba.ev Hv1740).reads (bys_len _) i_sba.nz (bys_one _)) (by kernel_rfl) (z := .int .u8 0) (by kernel_rfl) rfl (by decide) (by omega) (by unfold maxLen; omega) ?_
              intro ac1745 wo1746 ao1741 cp1742 En1747 Hv1748 _ _
              rw [← bys_append] at Hv1748
              have ehz1743 : (List.length sa) + List.length sba = List.length (sa ++ sba) := (by first | (simp; done) | (simp; omega) | omega)
              rw [ehz1743] at En1747
              refine any_at 10 (by kernel_rfl) rfl ?_
              refine op_append (d := some 70) (t := 22) (tx := 22) (ty := 22) (k := 3) (p := List.length (sa ++ sba)) (m := 1) (x := .slice (some ⟨bk1728, 0, none⟩) 1 1) (bytes := 1) En1747 (by kernel_rfl) Hv1748 rfl (bys_len _) (Reads.src (size := 1) (tx := 22) (e' := 5) (by kernel_rfl) (Hv1748.heap.reads (k := 4) rfl) rfl (fun e => by cases e) (bys_one _)) (by kernel_rfl) (z := .int .u8 0) (by kernel_rfl) rfl (by decide) (by omega) (by unfold maxLen; omega) ?_
              intro ac1753 wo1754 ao1749 cp1750 En1755 Hv1756 _ _
              rw [← bys_append] at Hv1756
              have ehz1751 : (List.length (sa ++ sba)) + 1 = List.length ((sa ++ sba) ++ [a]) := (by first | (simp; done) | (simp; omega) | omega)
              rw [ehz1751] at En1755
              refine any_pureR (d := some 71) En1755 (v := .pointer (some ⟨bk392, 5, none⟩)) 11 (by kernel_rfl) (by kernel_rfl) rfl ?_
              intro ac1757 En1758
              refine any_pureR (d := some 72) En1758 (v := .pointer (some ⟨bk392, 6, none⟩)) 12 (by kernel_rfl) (by kernel_rfl) rfl ?_
              intro ac1759 En1760
              refine any_at 13 (by kernel_rfl) rfl ?_
              refine op_storebox2 (d := none) (t := 22) (b := bk392) (off := 6) (k := 2) (v := .slice ao1749 (List.length ((sa ++ sba) ++ [a])) cp1750) En1760 (by kernel_rfl) Hv1756 rfl rfl (by kernel_rfl) rfl rfl rfl ?_
              intro ac1761 wo1762  En1763 Hv1764
              exact any_end (by kernel_rfl) ⟨ao1749, cp1750, En1763.sub (by kernel_rfl), Hv1764.pick [0, 1, 2, 3] (by kernel_rfl) (by decide)⟩
          · rintro _ rfl
            refine op_lit (d := some 69) (t := 22) (T := 5) (m := 1) (parts := #[(0, .int .u8 ((UInt8.toNat a : Nat) : Int))]) (xs := bys [a]) (sz := 1) En1656 (by kernel_rfl) (by kernel_rfl) rfl (by decide) wo401 ?_
            intro ac1766 wo1767 bk1765 En1768 Hv1769
            refine any_at 0 (by kernel_rfl) rfl ?_
            refine op_lit (d := some 60) (t := 22) (T := 5) (m := 0) (parts := #[]) (xs := bys []) (sz := 1) En1768 (by kernel_rfl) (by kernel_rfl) rfl (by decide) Hv1769 ?_
            intro ac1771 wo1772 bk1770 En1773 Hv1774
            refine any_at 3 (by kernel_rfl) rfl ?_
            refine op_append (d := some 63) (t := 22) (tx := 22) (ty := 22) (k := 4) (p := 0) (m := List.length sa) (x := .slice a_sa (List.length sa) c_sa) (bytes := 1) En1773 (by kernel_rfl) Hv1774 rfl rfl (Reads.src (size := 1) (tx := 22) (e' := 5) (by kernel_rfl) (i_sa.ev Hv1774).reads (bys_len _) i_sa.nz (bys_one _)) (by kernel_rfl) (z := .int .u8 0) (by kernel_rfl) rfl (by decide) (by omega) (by unfold maxLen; omega) ?_
            intro ac1779 wo1780 ao1775 cp1776 En1781 Hv1782 _ _
            rw [bys_nil_append] at Hv1782
            have ehz1777 : 0 + List.length sa = List.length sa := (by first | (simp; done) | (simp; omega) | omega)
            rw [ehz1777] at En1781
            refine any_at 7 (by kernel_rfl) rfl ?_
            refine op_append (d := some 67) (t := 22) (tx := 22) (ty := 22) (k := 4) (p := List.length sa) (m := List.length sba) (x := .slice a_sba (List.length sba) c_sba) (bytes := 1) En1781 (by kernel_rfl) Hv1782 rfl (bys_len _) (Reads.src (size := 1) (tx := 22) (e' := 5) (by kernel_rfl) (i_sba.ev Hv1782).reads (bys_len _) i_sba.nz (bys_one _)) (by kernel_rfl) (z := .int .u8 0) (by kernel_rfl) rfl (by decide) (by omega) (by unfold maxLen; omega) ?_
            intro ac1787 wo1788 ao1783 cp1784 En1789 Hv1790 _ _
            rw [← bys_append] at Hv1790
            have ehz1785 : (List.length sa) + List.length sba = List.length (sa ++ sba) := (by first | (simp; done) | (simp; omega) | omega)
            rw [ehz1785] at En1789
            refine any_at 10 (by kernel_rfl) rfl ?_
            refine op_append (d := some 70) (t := 22) (tx := 22) (ty := 22) (k := 4) (p := List.length (sa ++ sba)) (m := 1) (x := .slice (some ⟨bk1765, 0, none⟩) 1 1) (bytes := 1) En1789 (by kernel_rfl) Hv1790 rfl (bys_len _) (Reads.src (size := 1) (tx := 22) (e' := 5) (by kernel_rfl) (Hv1790.heap.reads (k := 3) rfl) rfl (fun e => by cases e) (bys_one _)) (by kernel_rfl) (z := .int .u8 0) (by kernel_rfl) rfl (by decide) (by omega) (by unfold maxLen; omega) ?_
            intro ac1795 wo1796 ao1791 cp1792 En1797 Hv1798 _ _
            rw [← bys_append] at Hv1798
            have ehz1793 : (List.length (sa ++ sba)) + 1 = List.length ((sa ++ sba) ++ [a]) := (by first | (simp; done) | (simp; omega) | omega)
            rw [ehz1793] at En1797
            refine any_pureR (d := some 71) En1797 (v := .pointer (some ⟨bk392, 5, none⟩)) 11 (by kernel_rfl) (by kernel_rfl) rfl ?_
            intro ac1799 En1800
            refine any_pureR (d := some 72) En1800 (v := .pointer (some ⟨bk392, 6, none⟩)) 12 (by kernel_rfl) (by kernel_rfl) rfl ?_
            intro ac1801 En1802
            refine any_at 13 (by kernel_rfl) rfl ?_
            refine op_storebox2 (d := none) (t := 22) (b := bk392) (off := 6) (k := 2) (v := .slice ao1791 (List.length ((sa ++ sba) ++ [a])) cp1792) En1802 (by kernel_rfl) Hv1798 rfl rfl (by kernel_rfl) rfl rfl rfl ?_
            intro ac1803 wo1804  En1805 Hv1806
            exact any_end (by kernel_rfl) ⟨ao1791, cp1792, En1805.sub (by kernel_rfl), Hv1806.pick [0, 1, 2, 4] (by kernel_rfl) (by decide)⟩
        · rintro _ rfl
          refine op_lit (d := some 69) (t := 22) (T := 5) (m := 1) (parts := #[(0, .int .u8 ((UInt8.toNat a : Nat) : Int))]) (xs := bys [a]) (sz := 1) En1505 (by kernel_rfl) (by kernel_rfl) rfl (by decide) wo401 ?_
          intro ac1808 wo1809 bk1807 En1810 Hv1811
          refine any_two 0 2 (by kernel_rfl) ?_ ?_
          · rintro _ rfl
            refine op_lit (d := some 60) (t := 22) (T := 5) (m := 0) (parts := #[]) (xs := bys []) (sz := 1) En1810 (by kernel_rfl) (by kernel_rfl) rfl (by decide) Hv1811 ?_
            intro ac1813 wo1814 bk1812 En1815 Hv1816
            refine any_at 2 (by kernel_rfl) rfl ?_
            refine op_loadbox (d := some 62) (t := 22) (b := bk1) (off := 0) (k := 0) (v := .slice a_sa (List.length sa) c_sa) En1815 (by kernel_rfl) Hv1816 rfl rfl (by kernel_rfl) ?_
            intro ac1817 En1818
            refine any_at 3 (by kernel_rfl) rfl ?_
            refine op_append (d := some 63) (t := 22) (tx := 22) (ty := 22) (k := 4) (p := 0) (m := List.length sa) (x := .slice a_sa (List.length sa) c_sa) (bytes := 1) En1818 (by kernel_rfl) Hv1816 rfl rfl (Reads.src (size := 1) (tx := 22) (e' := 5) (by kernel_rfl) (i_sa.ev Hv1816).reads (bys_len _) i_sa.nz (bys_one _)) (by kernel_rfl) (z := .int .u8 0) (by kernel_rfl) rfl (by decide) (by omega) (by unfold maxLen; omega) ?_
            intro ac1823 wo1824 ao1819 cp1820 En1825 Hv1826 _ _
            rw [bys_nil_append] at Hv1826
            have ehz1821 : 0 + List.length sa = List.length sa := (by first | (simp; done) | (simp; omega) | omega)
            rw [ehz1821] at En1825
            refine any_at 7 (by kernel_rfl) rfl ?_
            refine op_append (d := some 67) (t := 22) (tx := 22) (ty := 22) (k := 4) (p := List.length sa) (m := List.length sba) (x := .slice a_sba (List.length sba) c_sba) (bytes := 1) En1825 (by kernel_rfl) Hv1826 rfl (bys_len _) (Reads.src (size := 1) (tx := 22) (e' := 5) (by kernel_rfl) (i_sba.ev Hv1826).reads (bys_len _) i_sba.nz (bys_one _)) (by kernel_rfl) (z := .int .u8 0) (by kernel_rfl) rfl (by decide) (by omega) (by unfold maxLen; omega) ?_
            intro ac1831 wo1832 ao1827 cp1828 En1833 Hv1834 _ _
            rw [← bys_append] at Hv1834
            have ehz1829 : (List.length sa) + List.length sba = List.length (sa ++ sba) := (by first | (simp; done) | (simp; omega) | omega)
            rw [ehz1829] at En1833
            refine any_at 10 (by kernel_rfl) rfl ?_
            refine op_append (d := some 70) (t := 22) (tx := 22) (ty := 22) (k := 4) (p := List.length (sa ++ sba)) (m := 1) (x := .slice (some ⟨bk1807, 0, none⟩) 1 1) (bytes := 1) En1833 (by kernel_rfl) Hv1834 rfl (bys_len _) (Reads.src (size := 1) (tx := 22) (e' := 5) (by kernel_rfl) (Hv1834.heap.reads (k := 3) rfl) rfl (fun e => by cases e) (bys_one _)) (by kernel_rfl) (z := .int .u8 0) (by kernel_rfl) rfl (by decide) (by omega) (by unfold maxLen; omega) ?_
            intro ac1839 wo1840 ao1835 cp1836 En1841 Hv1842 _ _
            rw [← bys_append] at Hv1842
            have ehz1837 : (List.length (sa ++ sba)) + 1 = List.length ((sa ++ sba) ++ [a]) := (by first | (simp; done) | (simp; omega) | omega)
            rw [ehz1837] at En1841
            refine any_pureR (d := some 71) En1841 (v := .pointer (some ⟨bk392, 5, none⟩)) 11 (by kernel_rfl) (by kernel_rfl) rfl ?_
            intro ac1843 En1844
            refine any_pureR (d := some 72) En1844 (v := .pointer (some ⟨bk392, 6, none⟩)) 12 (by kernel_rfl) (by kernel_rfl) rfl ?_
            intro ac1845 En1846
            refine any_at 13 (by kernel_rfl) rfl ?_
            refine op_storebox2 (d := none) (t := 22) (b := bk392) (off := 6) (k := 2) (v := .slice ao1835 (List.length ((sa ++ sba) ++ [a])) cp1836) En1846 (by kernel_rfl) Hv1842 rfl rfl (by kernel_rfl) rfl rfl rfl ?_
            intro ac1847 wo1848  En1849 Hv1850
            exact any_end (by kernel_rfl) ⟨ao1835, cp1836, En1849.sub (by kernel_rfl), Hv1850.pick [0, 1, 2, 4] (by kernel_rfl) (by decide)⟩
          · rintro _ rfl
            refine op_loadbox (d := some 62) (t := 22) (b := bk1) (off := 0) (k := 0) (v := .slice a_sa (List.length sa) c_sa) En1810 (by kernel_rfl) Hv1811 rfl rfl (by kernel_rfl) ?_
            intro ac1851 En1852
            refine any_at 0 (by kernel_rfl) rfl ?_
            refine op_lit (d := some 60) (t := 22) (T := 5) (m := 0) (parts := #[]) (xs := bys []) (sz := 1) En1852 (by kernel_rfl) (by kernel_rfl) rfl (by decide) Hv1811 ?_
            intro ac1854 wo1855 bk1853 En1856 Hv1857
            refine any_at 3 (by kernel_rfl) rfl ?_
            refine op_append (d := some 63) (t := 22) (tx := 22) (ty := 22) (k := 4) (p := 0) (m := List.length sa) (x := .slice a_sa (List.length sa) c_sa) (bytes := 1) En1856 (by kernel_rfl) Hv1857 rfl rfl (Reads.src (size := 1) (tx := 22) (e' := 5) (by kernel_rfl) (i_sa.ev Hv1857).reads (bys_len _) i_sa.nz (bys_one _)) (by kernel_rfl) (z := .int .u8 0) (by kernel_rfl) rfl (by decide) (by omega) (by unfold maxLen; omega) ?_
            intro ac1862 wo1863 ao1858 cp1859 En1864 Hv1865 _ _
            rw [bys_nil_append] at Hv1865
            have ehz1860 : 0 + List.length sa = List.length sa := (by first | (simp; done) | (simp; omega) | omega)
            rw [ehz1860] at En1864
            refine any_at 7 (by kernel_rfl) rfl ?_
            refine op_append (d := some 67) (t := 22) (tx := 22) (ty := 22) (k := 4) (p := List.length sa) (m := List.length sba) (x := .slice a_sba (List.length sba) c_sba) (bytes := 1) En1864 (by kernel_rfl) Hv1865 rfl (bys_len _) (Reads.src (size := 1) (tx := 22) (e' := 5) (by kernel_rfl) (i_sba.ev Hv1865).reads (bys_len _) i_sba.nz (bys_one _)) (by kernel_rfl) (z := .int .u8 0) (by kernel_rfl) rfl (by decide) (by omega) (by unfold maxLen; omega) ?_
            intro ac1870 wo1871 ao1866 cp1867 En1872 Hv1873 _ _
            rw [← bys_append] at Hv1873
            have ehz1868 : (List.length sa) + List.length sba = List.length (sa ++ sba) := (by first | (simp; done) | (simp; omega) | omega)
            rw [ehz1868] at En1872
            refine any_at 10 (by kernel_rfl) rfl ?_
            refine op_append (d := some 70) (t := 22) (tx := 22) (ty := 22) (k := 4) (p := List.length (sa ++ sba)) (m := 1) (x := .slice (some ⟨bk1807, 0, none⟩) 1 1) (bytes := 1) En1872 (by kernel_rfl) Hv1873 rfl (bys_len _) (Reads.src (size := 1) (tx := 22) (e' := 5) (by kernel_rfl) (Hv1873.heap.reads (k := 3) rfl) rfl (fun e => by cases e) (bys_one _)) (by kernel_rfl) (z := .int .u8 0) (by kernel_rfl) rfl (by decide) (by omega) (by unfold maxLen; omega) ?_
            intro ac1878 wo1879 ao1874 cp1875 En1880 Hv1881 _ _
            rw [← bys_append] at Hv1881
            have ehz1876 : (List.length (sa ++ sba)) + 1 = List.length ((sa ++ sba) ++ [a]) := (by first | (simp; done) | (simp; omega) | omega)
            rw [ehz1876] at En1880
            refine any_pureR (d := some 71) En1880 (v := .pointer (some ⟨bk392, 5, none⟩)) 11 (by kernel_rfl) (by kernel_rfl) rfl ?_
            intro ac1882 En1883
            refine any_pureR (d := some 72) En1883 (v := .pointer (some ⟨bk392, 6, none⟩)) 12 (by kernel_rfl) (by kernel_rfl) rfl ?_
            intro ac1884 En1885
            refine any_at 13 (by kernel_rfl) rfl ?_
            refine op_storebox2 (d := none) (t := 22) (b := bk392) (off := 6) (k := 2) (v := .slice ao1874 (List.length ((sa ++ sba) ++ [a])) cp1875) En1885 (by kernel_rfl) Hv1881 rfl rfl (by kernel_rfl) rfl rfl rfl ?_
            intro ac1886 wo1887  En1888 Hv1889
            exact any_end (by kernel_rfl) ⟨ao1874, cp1875, En1888.sub (by kernel_rfl), Hv1889.pick [0, 1, 2, 4] (by kernel_rfl) (by decide)⟩
      · rintro _ rfl
        refine op_lit (d := some 69) (t := 22) (T := 5) (m := 1) (parts := #[(0, .int .u8 ((UInt8.toNat a : Nat) : Int))]) (xs := bys [a]) (sz := 1) En409 (by kernel_rfl) (by kernel_rfl) rfl (by decide) wo401 ?_
        intro ac1891 wo1892 bk1890 En1893 Hv1894
        refine any_ways [0, 2, 6] (by kernel_rfl) rfl ?_
        refine ⟨?_, ?_, ?_, trivial⟩
        · rintro _ rfl
          refine op_lit (d := some 60) (t := 22) (T := 5) (m := 0) (parts := #[]) (xs := bys []) (sz := 1) En1893 (by kernel_rfl) (by kernel_rfl) rfl (by decide) Hv1894 ?_
          intro ac1896 wo1897 bk1895 En1898 Hv1899
          refine any_two 2 6 (by kernel_rfl) ?_ ?_
          · rintro _ rfl
            refine op_loadbox (d := some 62) (t := 22) (b := bk1) (off := 0) (k := 0) (v := .slice a_sa (List.length sa) c_sa) En1898 (by kernel_rfl) Hv1899 rfl rfl (by kernel_rfl) ?_
            intro ac1900 En1901
            refine any_two 3 6 (by kernel_rfl) ?_ ?_
            · rintro _ rfl
              refine op_append (d := some 63) (t := 22) (tx := 22) (ty := 22) (k := 4) (p := 0) (m := List.length sa) (x := .slice a_sa (List.length sa) c_sa) (bytes := 1) En1901 (by kernel_rfl) Hv1899 rfl rfl (Reads.src (size := 1) (tx := 22) (e' := 5) (by kernel_rfl) (i_sa.ev Hv1899).reads (bys_len _) i_sa.nz (bys_one _)) (by kernel_rfl) (z := .int .u8 0) (by kernel_rfl) rfl (by decide) (by omega) (by unfold maxLen; omega) ?_
              intro ac1906 wo1907 ao1902 cp1903 En1908 Hv1909 _ _
              rw [bys_nil_append] at Hv1909
              have ehz1904 : 0 + List.length sa = List.length sa := (by first | (simp; done) | (simp; omega) | omega)
              rw [ehz1904] at En1908
              refine any_at 6 (by kernel_rfl) rfl ?_
              refine op_loadbox (d := some 66) (t := 22) (b := bk1) (off := 1) (k := 0) (v := .slice a_sba (List.length sba) c_sba) En1908 (by kernel_rfl) Hv1909 rfl rfl (by kernel_rfl) ?_
              intro ac1910 En1911
              refine any_at 7 (by kernel_rfl) rfl ?_
              refine op_append (d := some 67) (t := 22) (tx := 22) (ty := 22) (k := 4) (p := List.length sa) (m := List.length sba) (x := .slice a_sba (List.length sba) c_sba) (bytes := 1) En1911 (by kernel_rfl) Hv1909 rfl (bys_len _) (Reads.src (size := 1) (tx := 22) (e' := 5) (by kernel_rfl) (i_sba.ev Hv1909).reads (bys_len _) i_sba.nz (bys_one _)) (by kernel_rfl) (z := .int .u8 0) (by kernel_rfl) rfl (by decide) (by omega) (by unfold maxLen; omega) ?_
              intro ac1916 wo1917 ao1912 cp1913 En1918 Hv1919 _ _
              rw [← bys_append] at Hv1919
              have ehz1914 : (List.length sa) + List.length sba = List.length (sa ++ sba) := (by first | (simp; done) | (simp; omega) | omega)
              rw [ehz1914] at En1918
              refine any_at 10 (by kernel_rfl) rfl ?_
              refine op_append (d := some 70) (t := 22) (tx := 22) (ty := 22) (k := 4) (p := List.length (sa ++ sba)) (m := 1) (x := .slice (some ⟨bk1890, 0, none⟩) 1 1) (bytes := 1) En1918 (by kernel_rfl) Hv1919 rfl (bys_len _) (Reads.src (size := 1) (tx := 22) (e' := 5) (by kernel_rfl) (Hv1919.heap.reads (k := 3) rfl) rfl (fun e => by cases e) (bys_one _)) (by kernel_rfl) (z := .int .u8 0) (by kernel_rfl) rfl (by decide) (by omega) (by unfold maxLen; omega) ?_
              intro ac1924 wo1925 ao1920 cp1921 En1926 Hv1927 _ _
              rw [← bys_append] at Hv1927
              have ehz1922 : (List.length (sa ++ sba)) + 1 = List.length ((sa ++ sba) ++ [a]) := (by first | (simp; done) | (simp; omega) | omega)
              rw [ehz1922] at En1926
              refine any_pureR (d := some 71) En1926 (v := .pointer (some ⟨bk392, 5, none⟩)) 11 (by kernel_rfl) (by kernel_rfl) rfl ?_
              intro ac1928 En1929
              refine any_pureR (d := some 72) En1929 (v := .pointer (some ⟨bk392, 6, none⟩)) 12 (by kernel_rfl) (by kernel_rfl) rfl ?_
              intro ac1930 En1931
              refine any_at 13 (by kernel_rfl) rfl ?_
              refine op_storebox2 (d := none) (t := 22) (b := bk392) (off := 6) (k := 2) (v := .slice ao1920 (List.length ((sa ++ sba) ++ [a])) cp1921) En1931 (by kernel_rfl) Hv1927 rfl rfl (by kernel_rfl) rfl rfl rfl ?_
              intro ac1932 wo1933  En1934 Hv1935
              exact any_end (by kernel_rfl) ⟨ao1920, cp1921, En1934.sub (by kernel_rfl), Hv1935.pick [0, 1, 2, 4] (by kernel_rfl) (by decide)⟩
            · rintro _ rfl
              refine op_loadbox (d := some 66) (t := 22) (b := bk1) (off := 1) (k := 0) (v := .slice a_sba (List.length sba) c_sba) En1901 (by kernel_rfl) Hv1899 rfl rfl (by kernel_rfl) ?_
              intro ac1936 En1937
              refine any_at 3 (by kernel_rfl) rfl ?_
              refine op_append (d := some 63) (t := 22) (tx := 22) (ty := 22) (k := 4) (p := 0) (m := List.length sa) (x := .slice a_sa (List.length sa) c_sa) (bytes := 1) En1937 (by kernel_rfl) Hv1899 rfl rfl (Reads.src (size := 1) (tx := 22) (e' := 5) (by kernel_rfl) (i_sa.ev Hv1899).reads (bys_len _) i_sa.nz (bys_one _)) (by kernel_rfl) (z := .int .u8 0) (by kernel_rfl) rfl (by decide) (by omega) (by unfold maxLen; omega) ?_
              intro ac1942 wo1943 ao1938 cp1939 En1944 Hv1945 _ _
              rw [bys_nil_append] at Hv1945
              have ehz1940 : 0 + List.length sa = List.length sa := (by first | (simp; done) | (simp; omega) | omega)
              rw [ehz1940] at En1944
              refine any_at 7 (by kernel_rfl) rfl ?_
              refine op_append (d := some 67) (t := 22) (tx := 22) (ty := 22) (k := 4) (p := List.length sa) (m := List.length sba) (x := .slice a_sba (List.length sba) c_sba) (bytes := 1) En1944 (by kernel_rfl) Hv1945 rfl (bys_len _) (Reads.src (size := 1) (tx := 22) (e' := 5) (by kernel_rfl) (i_sba.ev Hv1945).reads (bys_len _) i_sba.nz (bys_one _)) (by kernel_rfl) (z := .int .u8 0) (by kernel_rfl) rfl (by decide) (by omega) (by unfold maxLen; omega) ?_
              intro ac1950 wo1951 ao1946 cp1947 En1952 Hv1953 _ _
              rw [← bys_append] at Hv1953
              have ehz1948 : (List.length sa) + List.length sba = List.length (sa ++ sba) := (by first | (simp; done) | (simp; omega) | omega)
              rw [ehz1948] at En1952
              refine any_at 10 (by kernel_rfl) rfl ?_
              refine op_append (d := some 70) (t := 22) (tx := 22) (ty := 22) (k := 4) (p := List.length (sa ++ sba)) (m := 1) (x := .slice (some ⟨bk1890, 0, none⟩) 1 1) (bytes := 1) En1952 (by kernel_rfl) Hv1953 rfl (bys_len _) (Reads.src (size := 1) (tx := 22) (e' := 5) (by kernel_rfl) (Hv1953.heap.reads (k := 3) rfl) rfl (fun e => by cases e) (bys_one _)) (by kernel_rfl) (z := .int .u8 0) (by kernel_rfl) rfl (by decide) (by omega) (by unfold maxLen; omega) ?_
              intro ac1958 wo1959 ao1954 cp1955 En1960 Hv1961 _ _
              rw [← bys_append] at Hv1961
              have ehz1956 : (List.length (sa ++ sba)) + 1 = List.length ((sa ++ sba) ++ [a]) := (by first | (simp; done) | (simp; omega) | omega)
              rw [ehz1956] at En1960
              refine any_pureR (d := some 71) En1960 (v := .pointer (some ⟨bk392, 5, none⟩)) 11 (by kernel_rfl) (by kernel_rfl) rfl ?_
              intro ac1962 En1963
              refine any_pureR (d := some 72) En1963 (v := .pointer (some ⟨bk392, 6, none⟩)) 12 (by kernel_rfl) (by kernel_rfl) rfl ?_
              intro ac1964 En1965
              refine any_at 13 (by kernel_rfl) rfl ?_
              refine op_storebox2 (d := none) (t := 22) (b := bk392) (off := 6) (k := 2) (v := .slice ao1954 (List.length ((sa ++ sba) ++ [a])) cp1955) En1965 (by kernel_rfl) Hv1961 rfl rfl (by kernel_rfl) rfl rfl rfl ?_
              intro ac1966 wo1967  En1968 Hv1969
              exact any_end (by kernel_rfl) ⟨ao1954, cp1955, En1968.sub (by kernel_rfl), Hv1969.pick [0, 1, 2, 4] (by kernel_rfl) (by decide)⟩
          · rintro _ rfl
            refine op_loadbox (d := some 66) (t := 22) (b := bk1) (off := 1) (k := 0) (v := .slice a_sba (List.length sba) c_sba) En1898 (by kernel_rfl) Hv1899 rfl rfl (by kernel_rfl) ?_
            intro ac1970 En1971
            refine any_at 2 (by kernel_rfl) rfl ?_
            refine op_loadbox (d := some 62) (t := 22) (b := bk1) (off := 0) (k := 0) (v := .slice a_sa (List.length sa) c_sa) En1971 (by kernel_rfl) Hv1899 rfl rfl (by kernel_rfl) ?_
            intro ac1972 En1973
            refine any_at 3 (by kernel_rfl) rfl ?_
            refine op_append (d := some 63) (t := 22) (tx := 22) (ty := 22) (k := 4) (p := 0) (m := List.length sa) (x := .slice a_sa (List.length sa) c_sa) (bytes := 1) En1973 (by kernel_rfl) Hv1899 rfl rfl (Reads.src (size := 1) (tx := 22) (e' := 5) (by kernel_rfl) (i_sa.ev Hv1899).reads (bys_len _) i_sa.nz (bys_one _)) (by kernel_rfl) (z := .int .u8 0) (by kernel_rfl) rfl (by decide) (by omega) (by unfold maxLen; omega) ?_
            intro ac1978 wo1979 ao1974 cp1975 En1980 Hv1981 _ _
            rw [bys_nil_append] at Hv1981
            have ehz1976 : 0 + List.length sa = List.length sa := (by first | (simp; done) | (simp; omega) | omega)
            rw [ehz1976] at En1980
            refine any_at 7 (by kernel_rfl) rfl ?_
            refine op_append (d := some 67) (t := 22) (tx := 22) (ty := 22) (k := 4) (p := List.length sa) (m := List.length sba) (x := .slice a_sba (List.length sba) c_sba) (bytes := 1) En1980 (by kernel_rfl) Hv1981 rfl (bys_len _) (Reads.src (size := 1) (tx := 22) (e' := 5) (by kernel_rfl) (i_sba.ev Hv1981).reads (bys_len _) i_sba.nz (bys_one _)) (by kernel_rfl) (z := .int .u8 0) (by kernel_rfl) rfl (by decide) (by omega) (by unfold maxLen; omega) ?_
            intro ac1986 wo1987 ao1982 cp1983 En1988 Hv1989 _ _
            rw [← bys_append] at Hv1989
            have ehz1984 : (List.length sa) + List.length sba = List.length (sa ++ sba) := (by first | (simp; done) | (simp; omega) | omega)
            rw [ehz1984] at En1988
            refine any_at 10 (by kernel_rfl) rfl ?_
            refine op_append (d := some 70) (t := 22) (tx := 22) (ty := 22) (k := 4) (p := List.length (sa ++ sba)) (m := 1) (x := .slice (some ⟨bk1890, 0, none⟩) 1 1) (bytes := 1) En1988 (by kernel_rfl) Hv1989 rfl (bys_len _) (Reads.src (size := 1) (tx := 22) (e' := 5) (by kernel_rfl) (Hv1989.heap.reads (k := 3) rfl) rfl (fun e => by cases e) (bys_one _)) (by kernel_rfl) (z := .int .u8 0) (by kernel_rfl) rfl (by decide) (by omega) (by unfold maxLen; omega) ?_
            intro ac1994 wo1995 ao1990 cp1991 En1996 Hv1997 _ _
            rw [← bys_append] at Hv1997
            have ehz1992 : (List.length (sa ++ sba)) + 1 = List.length ((sa ++ sba) ++ [a]) := (by first | (simp; done) | (simp; omega) | omega)
            rw [ehz1992] at En1996
            refine any_pureR (d := some 71) En1996 (v := .pointer (some ⟨bk392, 5, none⟩)) 11 (by kernel_rfl) (by kernel_rfl) rfl ?_
            intro ac1998 En1999
            refine any_pureR (d := some 72) En1999 (v := .pointer (some ⟨bk392, 6, none⟩)) 12 (by kernel_rfl) (by kernel_rfl) rfl ?_
            intro ac2000 En2001
            refine any_at 13 (by kernel_rfl) rfl ?_
            refine op_storebox2 (d := none) (t := 22) (b := bk392) (off := 6) (k := 2) (v := .slice ao1990 (List.length ((sa ++ sba) ++ [a])) cp1991) En2001 (by kernel_rfl) Hv1997 rfl rfl (by kernel_rfl) rfl rfl rfl ?_
            intro ac2002 wo2003  En2004 Hv2005
            exact any_end (by kernel_rfl) ⟨ao1990, cp1991, En2004.sub (by kernel_rfl), Hv2005.pick [0, 1, 2, 4] (by kernel_rfl) (by decide)⟩
        · rintro _ rfl
          refine op_loadbox (d := some 62) (t := 22) (b := bk1) (off := 0) (k := 0) (v := .slice a_sa (List.length sa) c_sa) En1893 (by kernel_rfl) Hv1894 rfl rfl (by kernel_rfl) ?_
          intro ac2006 En2007
          refine any_two 0 6 (by kernel_rfl) ?_ ?_
          · rintro _ rfl
            refine op_lit (d := some 60) (t := 22) (T := 5) (m := 0) (parts := #[]) (xs := bys []) (sz := 1) En2007 (by kernel_rfl) (by kernel_rfl) rfl (by decide) Hv1894 ?_
            intro ac2009 wo2010 bk2008 En2011 Hv2012
            refine any_two 3 6 (by kernel_rfl) ?_ ?_
            · rintro _ rfl
              refine op_append (d := some 63) (t := 22) (tx := 22) (ty := 22) (k := 4) (p := 0) (m := List.length sa) (x := .slice a_sa (List.length sa) c_sa) (bytes := 1) En2011 (by kernel_rfl) Hv2012 rfl rfl (Reads.src (size := 1) (tx := 22) (e' := 5) (by kernel_rfl) (i_sa.ev Hv2012).reads (bys_len _) i_sa.nz (bys_one _)) (by kernel_rfl) (z := .int .u8 0) (by kernel_rfl) rfl (by decide) (by omega) (by unfold maxLen; omega) ?_
              intro ac2017 wo2018 ao2013 cp2014 En2019 Hv2020 _ _
              rw [bys_nil_append] at Hv2020
              have ehz2015 : 0 + List.length sa = List.length sa := (by first | (simp; done) | (simp; omega) | omega)
              rw [ehz2015] at En2019
              refine any_at 6 (by kernel_rfl) rfl ?_
              refine op_loadbox (d := some 66) (t := 22) (b := bk1) (off := 1) (k := 0) (v := .slice a_sba (List.length sba) c_sba) En2019 (by kernel_rfl) Hv2020 rfl rfl (by kernel_rfl) ?_
              intro ac2021 En2022
              refine any_at 7 (by kernel_rfl) rfl ?_
              refine op_append (d := some 67) (t := 22) (tx := 22) (ty := 22) (k := 4) (p := List.length sa) (m := List.length sba) (x := .slice a_sba (List.length sba) c_sba) (bytes := 1) En2022 (by kernel_rfl) Hv2020 rfl (bys_len _) (Reads.src (size := 1) (tx := 22) (e' := 5) (by kernel_rfl) (i_sba.ev Hv2020).reads (bys_len _) i_sba.nz (bys_one _)) (by kernel_rfl) (z := .int .u8 0) (by kernel_rfl) rfl (by decide) (by omega) (by unfold maxLen; omega) ?_
              intro ac2027 wo2028 ao2023 cp2024 En2029 Hv2030 _ _
              rw [← bys_append] at Hv2030
              have ehz2025 : (List.length sa) + List.length sba = List.length (sa ++ sba) := (by first | (simp; done) | (simp; omega) | omega)
              rw [ehz2025] at En2029
              refine any_at 10 (by kernel_rfl) rfl ?_
              refine op_append (d := some 70) (t := 22) (tx := 22) (ty := 22) (k := 4) (p := List.length (sa ++ sba)) (m := 1) (x := .slice (some ⟨bk1890, 0, none⟩) 1 1) (bytes := 1) En2029 (by kernel_rfl) Hv2030 rfl (bys_len _) (Reads.src (size := 1) (tx := 22) (e' := 5) (by kernel_rfl) (Hv2030.heap.reads (k := 3) rfl) rfl (fun e => by cases e) (bys_one _)) (by kernel_rfl) (z := .int .u8 0) (by kernel_rfl) rfl (by decide) (by omega) (by unfold maxLen; omega) ?_
              intro ac2035 wo2036 ao2031 cp2032 En2037 Hv2038 _ _
              rw [← bys_append] at Hv2038
              have ehz2033 : (List.length (sa ++ sba)) + 1 = List.length ((sa ++ sba) ++ [a]) := (by first | (simp; done) | (simp; omega) | omega)
              rw [ehz2033] at En2037
              refine any_pureR (d := some 71) En2037 (v := .pointer (some ⟨bk392, 5, none⟩)) 11 (by kernel_rfl) (by kernel_rfl) rfl ?_
              intro ac2039 En2040
              refine any_pureR (d := some 72) En2040 (v := .pointer (some ⟨bk392, 6, none⟩)) 12 (by kernel_rfl) (by kernel_rfl) rfl ?_
              intro ac2041 En2042
              refine any_at 13 (by kernel_rfl) rfl ?_
              refine op_storebox2 (d := none) (t := 22) (b := bk392) (off := 6) (k := 2) (v := .slice ao2031 (List.length ((sa ++ sba) ++ [a])) cp2032) En2042 (by kernel_rfl) Hv2038 rfl rfl (by kernel_rfl) rfl rfl rfl ?_
              intro ac2043 wo2044  En2045 Hv2046
              exact any_end (by kernel_rfl) ⟨ao2031, cp2032, En2045.sub (by kernel_rfl), Hv2046.pick [0, 1, 2, 4] (by kernel_rfl) (by decide)⟩
            · rintro _ rfl
              refine op_loadbox (d := some 66) (t := 22) (b := bk1) (off := 1) (k := 0) (v := .slice a_sba (List.length sba) c_sba) En2011 (by kernel_rfl) Hv2012 rfl rfl (by kernel_rfl) ?_
              intro ac2047 En2048
              refine any_at 3 (by kernel_rfl) rfl ?_
              refine op_append (d := some 63) (t := 22) (tx := 22) (ty := 22) (k := 4) (p := 0) (m := List.length sa) (x := .slice a_sa (List.length sa) c_sa) (bytes := 1) En2048 (by kernel_rfl) Hv2012 rfl rfl (Reads.src (size := 1) (tx := 22) (e' := 5) (by kernel_rfl) (i_sa.ev Hv2012).reads (bys_len _) i_sa.nz (bys_one _)) (by kernel_rfl) (z := .int .u8 0) (by kernel_rfl) rfl (by decide) (by omega) (by unfold maxLen; omega) ?_
              intro ac2053 wo2054 ao2049 cp2050 En2055 Hv2056 _ _
              rw [bys_nil_append] at Hv2056
              have ehz2051 : 0 + List.length sa = List.length sa := (by first | (simp; done) | (simp; omega) | omega)
              rw [ehz2051] at En2055
              refine any_at 7 (by kernel_rfl) rfl ?_
              refine op_append (d := some 67) (t := 22) (tx := 22) (ty := 22) (k := 4) (p := List.length sa) (m := List.length sba) (x := .slice a_sba (List.length sba) c_sba) (bytes := 1) En2055 (by kernel_rfl) Hv2056 rfl (bys_len _) (Reads.src (size := 1) (tx := 22) (e' := 5) (by kernel_rfl) (i_sba.ev Hv2056).reads (bys_len _) i_sba.nz (bys_one _)) (by kernel_rfl) (z := .int .u8 0) (by kernel_rfl) rfl (by decide) (by omega) (by unfold maxLen; omega) ?_
              intro ac2061 wo2062 ao2057 cp2058 En2063 Hv2064 _ _
              rw [← bys_append] at Hv2064
              have ehz2059 : (List.length sa) + List.length sba = List.length (sa ++ sba) := (by first | (simp; done) | (simp; omega) | omega)
              rw [ehz2059] at En2063
              refine any_at 10 (by kernel_rfl) rfl ?_
              refine op_append (d := some 70) (t := 22) (tx := 22) (ty := 22) (k := 4) (p := List.length (sa ++ sba)) (m := 1) (x := .slice (some ⟨bk1890, 0, none⟩) 1 1) (bytes := 1) En2063 (by kernel_rfl) Hv2064 rfl (bys_len _) (Reads.src (size := 1) (tx := 22) (e' := 5) (by kernel_rfl) (Hv2064.heap.reads (k := 3) rfl) rfl (fun e => by cases e) (bys_one _)) (by kernel_rfl) (z := .int .u8 0) (by kernel_rfl) rfl (by decide) (by omega) (by unfold maxLen; omega) ?_
              intro ac2069 wo2070 ao2065 cp2066 En2071 Hv2072 _ _
              rw [← bys_append] at Hv2072
              have ehz2067 : (List.length (sa ++ sba)) + 1 = List.length ((sa ++ sba) ++ [a]) := (by first | (simp; done) | (simp; omega) | omega)
              rw [ehz2067] at En2071
              refine any_pureR (d := some 71) En2071 (v := .pointer (some ⟨bk392, 5, none⟩)) 11 (by kernel_rfl) (by kernel_rfl) rfl ?_
              intro ac2073 En2074
              refine any_pureR (d := some 72) En2074 (v := .pointer (some ⟨bk392, 6, none⟩)) 12 (by kernel_rfl) (by kernel_rfl) rfl ?_
              intro ac2075 En2076
              refine any_at 13 (by kernel_rfl) rfl ?_
              refine op_storebox2 (d := none) (t := 22) (b := bk392) (off := 6) (k := 2) (v := .slice ao2065 (List.length ((sa ++ sba) ++ [a])) cp2066) En2076 (by kernel_rfl) Hv2072 rfl rfl (by kernel_rfl) rfl rfl rfl ?_
              intro ac2077 wo2078  En2079 Hv2080
              exact any_end (by kernel_rfl) ⟨ao2065, cp2066, En2079.sub (by kernel_rfl), Hv2080.pick [0, 1, 2, 4] (by kernel_rfl) (by decide)⟩
          · rintro _ rfl
            refine op_loadbox (d := some 66) (t := 22) (b := bk1) (off := 1) (k := 0) (v := .slice a_sba (List.length sba) c_sba) En2007 (by kernel_rfl) Hv1894 rfl rfl (by kernel_rfl) ?_
            intro ac2081 En2082
            refine any_at 0 (by kernel_rfl) rfl ?_
            refine op_lit (d := some 60) (t := 22) (T := 5) (m := 0) (parts := #[]) (xs := bys []) (sz := 1) En2082 (by kernel_rfl) (by kernel_rfl) rfl (by decide) Hv1894 ?_
            intro ac2084 wo2085 bk2083 En2086 Hv2087
            refine any_at 3 (by kernel_rfl) rfl ?_
            refine op_append (d := some 63) (t := 22) (tx := 22) (ty := 22) (k := 4) (p := 0) (m := List.length sa) (x := .slice a_sa (List.length sa) c_sa) (bytes := 1) En2086 (by kernel_rfl) Hv2087 rfl rfl (Reads.src (size := 1) (tx := 22) (e' := 5) (by kernel_rfl) (i_sa.ev Hv2087).reads (bys_len _) i_sa.nz (bys_one _)) (by kernel_rfl) (z := .int .u8 0) (by kernel_rfl) rfl (by decide) (by omega) (by unfold maxLen; omega) ?_
            intro ac2092 wo2093 ao2088 cp2089 En2094 Hv2095 _ _
            rw [bys_nil_append] at Hv2095
            have ehz2090 : 0 + List.length sa = List.length sa := (by first | (simp; done) | (simp; omega) | omega)
            rw [ehz2090] at En2094
            refine any_at 7 (by kernel_rfl) rfl ?_
            refine op_append (d := some 67) (t := 22) (tx := 22) (ty := 22) (k := 4) (p := List.length sa) (m := List.length sba) (x := .slice a_sba (List.length sba) c_sba) (bytes := 1) En2094 (by kernel_rfl) Hv2095 rfl (bys_len _) (Reads.src (size := 1) (tx := 22) (e' := 5) (by kernel_rfl) (i_sba.ev Hv2095).reads (bys_len _) i_sba.nz (bys_one _)) (by kernel_rfl) (z := .int .u8 0) (by kernel_rfl) rfl (by decide) (by omega) (by unfold maxLen; omega) ?_
            intro ac2100 wo2101 ao2096 cp2097 En2102 Hv2103 _ _
            rw [← bys_append] at Hv2103
            have ehz2098 : (List.length sa) + List.length sba = List.length (sa ++ sba) := (by first | (simp; done) | (simp; omega) | omega)
            rw [ehz2098] at En2102
            refine any_at 10 (by kernel_rfl) rfl ?_
            refine op_append (d := some 70) (t := 22) (tx := 22) (ty := 22) (k := 4) (p := List.length (sa ++ sba)) (m := 1) (x := .slice (some ⟨bk1890, 0, none⟩) 1 1) (bytes := 1) En2102 (by kernel_rfl) Hv2103 rfl (bys_len _) (Reads.src (size := 1) (tx := 22) (e' := 5) (by kernel_rfl) (Hv2103.heap.reads (k := 3) rfl) rfl (fun e => by cases e) (bys_one _)) (by kernel_rfl) (z := .int .u8 0) (by kernel_rfl) rfl (by decide) (by omega) (by unfold maxLen; omega) ?_
            intro ac2108 wo2109 ao2104 cp2105 En2110 Hv2111 _ _
            rw [← bys_append] at Hv2111
            have ehz2106 : (List.length (sa ++ sba)) + 1 = List.length ((sa ++ sba) ++ [a]) := (by first | (simp; done) | (simp; omega) | omega)
            rw [ehz2106] at En2110
            refine any_pureR (d := some 71) En2110 (v := .pointer (some ⟨bk392, 5, none⟩)) 11 (by kernel_rfl) (by kernel_rfl) rfl ?_
            intro ac2112 En2113
            refine any_pureR (d := some 72) En2113 (v := .pointer (some ⟨bk392, 6, none⟩)) 12 (by kernel_rfl) (by kernel_rfl) rfl ?_
            intro ac2114 En2115
            refine any_at 13 (by kernel_rfl) rfl ?_
            refine op_storebox2 (d := none) (t := 22) (b := bk392) (off := 6) (k := 2) (v := .slice ao2104 (List.length ((sa ++ sba) ++ [a])) cp2105) En2115 (by kernel_rfl) Hv2111 rfl rfl (by kernel_rfl) rfl rfl rfl ?_
            intro ac2116 wo2117  En2118 Hv2119
            exact any_end (by kernel_rfl) ⟨ao2104, cp2105, En2118.sub (by kernel_rfl), Hv2119.pick [0, 1, 2, 4] (by kernel_rfl) (by decide)⟩
        · rintro _ rfl
          refine op_loadbox (d := some 66) (t := 22) (b := bk1) (off := 1) (k := 0) (v := .slice a_sba (List.length sba) c_sba) En1893 (by kernel_rfl) Hv1894 rfl rfl (by kernel_rfl) ?_
          intro ac2120 En2121
          refine any_two 0 2 (by kernel_rfl) ?_ ?_
          · rintro _ rfl
            refine op_lit (d := some 60) (t := 22) (T := 5) (m := 0) (parts := #[]) (xs := bys []) (sz := 1) En2121 (by kernel_rfl) (by kernel_rfl) rfl (by decide) Hv1894 ?_
            intro ac2123 wo2124 bk2122 En2125 Hv2126
            refine any_at 2 (by kernel_rfl) rfl ?_
            refine op_loadbox (d := some 62) (t := 22) (b := bk1) (off := 0) (k := 0) (v := .slice a_sa (List.length sa) c_sa) En2125 (by kernel_rfl) Hv2126 rfl rfl (by kernel_rfl) ?_
            intro ac2127 En2128
            refine any_at 3 (by kernel_rfl) rfl ?_
            refine op_append (d := some 63) (t := 22) (tx := 22) (ty := 22) (k := 4) (p := 0) (m := List.length sa) (x := .slice a_sa (List.length sa) c_sa) (bytes := 1) En2128 (by kernel_rfl) Hv2126 rfl rfl (Reads.src (size := 1) (tx := 22) (e' := 5) (by kernel_rfl) (i_sa.ev Hv2126).reads (bys_len _) i_sa.nz (bys_one _)) (by kernel_rfl) (z := .int .u8 0) (by kernel_rfl) rfl (by decide) (by omega) (by unfold maxLen; omega) ?_
            intro ac2133 wo2134 ao2129 cp2130 En2135 Hv2136 _ _
            rw [bys_nil_append] at Hv2136
            have ehz2131 : 0 + List.length sa = List.length sa := (by first | (simp; done) | (simp; omega) | omega)
            rw [ehz2131] at En2135
            refine any_at 7 (by kernel_rfl) rfl ?_
            refine op_append (d := some 67) (t := 22) (tx := 22) (ty := 22) (k := 4) (p := List.length sa) (m := List.length sba) (x := .slice a_sba (List.length sba) c_sba) (bytes := 1) En2135 (by kernel_rfl) Hv2136 rfl (bys_len _) (Reads.src (size := 1) (tx := 22) (e' := 5) (by kernel_rfl) (i_sba.ev Hv2136).reads (bys_len _) i_sba.nz (bys_one _)) (by kernel_rfl) (z := .int .u8 0) (by kernel_rfl) rfl (by decide) (by omega) (by unfold maxLen; omega) ?_
            intro ac2141 wo2142 ao2137 cp2138 En2143 Hv2144 _ _
            rw [← bys_append] at Hv2144
            have ehz2139 : (List.length sa) + List.length sba = List.length (sa ++ sba) := (by first | (simp; done) | (simp; omega) | omega)
            rw [ehz2139] at En2143
            refine any_at 10 (by kernel_rfl) rfl ?_
            refine op_append (d := some 70) (t := 22) (tx := 22) (ty := 22) (k := 4) (p := List.length (sa ++ sba)) (m := 1) (x := .slice (some ⟨bk1890, 0, none⟩) 1 1) (bytes := 1) En2143 (by kernel_rfl) Hv2144 rfl (bys_len _) (Reads.src (size := 1) (tx := 22) (e' := 5) (by kernel_rfl) (Hv2144.heap.reads (k := 3) rfl) rfl (fun e => by cases e) (bys_one _)) (by kernel_rfl) (z := .int .u8 0) (by kernel_rfl) rfl (by decide) (by omega) (by unfold maxLen; omega) ?_
            intro ac2149 wo2150 ao2145 cp2146 En2151 Hv2152 _ _
            rw [← bys_append] at Hv2152
            have ehz2147 : (List.length (sa ++ sba)) + 1 = List.length ((sa ++ sba) ++ [a]) := (by first | (simp; done) | (simp; omega) | omega)
            rw [ehz2147] at En2151
            refine any_pureR (d := some 71) En2151 (v := .pointer (some ⟨bk392, 5, none⟩)) 11 (by kernel_rfl) (by kernel_rfl) rfl ?_
            intro ac2153 En2154
            refine any_pureR (d := some 72) En2154 (v := .pointer (some ⟨bk392, 6, none⟩)) 12 (by kernel_rfl) (by kernel_rfl) rfl ?_
            intro ac2155 En2156
            refine any_at 13 (by kernel_rfl) rfl ?_
            refine op_storebox2 (d := none) (t := 22) (b := bk392) (off := 6) (k := 2) (v := .slice ao2145 (List.length ((sa ++ sba) ++ [a])) cp2146) En2156 (by kernel_rfl) Hv2152 rfl rfl (by kernel_rfl) rfl rfl rfl ?_
            intro ac2157 wo2158  En2159 Hv2160
            exact any_end (by kernel_rfl) ⟨ao2145, cp2146, En2159.sub (by kernel_rfl), Hv2160.pick [0, 1, 2, 4] (by kernel_rfl) (by decide)⟩
          · rintro _ rfl
            refine op_loadbox (d := some 62) (t := 22) (b := bk1) (off := 0) (k := 0) (v := .slice a_sa (List.length sa) c_sa) En2121 (by kernel_rfl) Hv1894 rfl rfl (by kernel_rfl) ?_
            intro ac2161 En2162
            refine any_at 0 (by kernel_rfl) rfl ?_
            refine op_lit (d := some 60) (t := 22) (T := 5) (m := 0) (parts := #[]) (xs := bys []) (sz := 1) En2162 (by kernel_rfl) (by kernel_rfl) rfl (by decide) Hv1894 ?_
            intro ac2164 wo2165 bk2163 En2166 Hv2167
            refine any_at 3 (by kernel_rfl) rfl ?_
            refine op_append (d := some 63) (t := 22) (tx := 22) (ty := 22) (k := 4) (p := 0) (m := List.length sa) (x := .slice a_sa (List.length sa) c_sa) (bytes := 1) En2166 (by kernel_rfl) Hv2167 rfl rfl (Reads.src (size := 1) (tx := 22) (e' := 5) (by kernel_rfl) (i_sa.ev Hv2167).reads (bys_len _) i_sa.nz (bys_one _)) (by kernel_rfl) (z := .int .u8 0) (by kernel_rfl) rfl (by decide) (by omega) (by unfold maxLen; omega) ?_
            intro ac2172 wo2173 ao2168 cp2169 En2174 Hv2175 _ _
            rw [bys_nil_append] at Hv2175
            have ehz2170 : 0 + List.length sa = List.length sa := (by first | (simp; done) | (simp; omega) | omega)
            rw [ehz2170] at En2174
            refine any_at 7 (by kernel_rfl) rfl ?_
            refine op_append (d := some 67) (t := 22) (tx := 22) (ty := 22) (k := 4) (p := List.length sa) (m := List.length sba) (x := .slice a_sba (List.length sba) c_sba) (bytes := 1) En2174 (by kernel_rfl) Hv2175 rfl (bys_len _) (Reads.src (size := 1) (tx := 22) (e' := 5) (by kernel_rfl) (i_sba.ev Hv2175).reads (bys_len _) i_sba.nz (bys_one _)) (by kernel_rfl) (z := .int .u8 0) (by kernel_rfl) rfl (by decide) (by omega) (by unfold maxLen; omega) ?_
            intro ac2180 wo2181 ao2176 cp2177 En2182 Hv2183 _ _
            rw [← bys_append] at Hv2183
            have ehz2178 : (List.length sa) + List.length sba = List.length (sa ++ sba) := (by first | (simp; done) | (simp; omega) | omega)
            rw [ehz2178] at En2182
            refine any_at 10 (by kernel_rfl) rfl ?_
            refine op_append (d := some 70) (t := 22) (tx := 22) (ty := 22) (k := 4) (p := List.length (sa ++ sba)) (m := 1) (x := .slice (some ⟨bk1890, 0, none⟩) 1 1) (bytes := 1) En2182 (by kernel_rfl) Hv2183 rfl (bys_len _) (Reads.src (size := 1) (tx := 22) (e' := 5) (by kernel_rfl) (Hv2183.heap.reads (k := 3) rfl) rfl (fun e => by cases e) (bys_one _)) (by kernel_rfl) (z := .int .u8 0) (by kernel_rfl) rfl (by decide) (by omega) (by unfold maxLen; omega) ?_
            intro ac2188 wo2189 ao2184 cp2185 En2190 Hv2191 _ _
            rw [← bys_append] at Hv2191
            have ehz2186 : (List.length (sa ++ sba)) + 1 = List.length ((sa ++ sba) ++ [a]) := (by first | (simp; done) | (simp; omega) | omega)
            rw [ehz2186] at En2190
            refine any_pureR (d := some 71) En2190 (v := .pointer (some ⟨bk392, 5, none⟩)) 11 (by kernel_rfl) (by kernel_rfl) rfl ?_
            intro ac2192 En2193
            refine any_pureR (d := some 72) En2193 (v := .pointer (some ⟨bk392, 6, none⟩)) 12 (by kernel_rfl) (by kernel_rfl) rfl ?_
            intro ac2194 En2195
            refine any_at 13 (by kernel_rfl) rfl ?_
            refine op_storebox2 (d := none) (t := 22) (b := bk392) (off := 6) (k := 2) (v := .slice ao2184 (List.length ((sa ++ sba) ++ [a])) cp2185) En2195 (by kernel_rfl) Hv2191 rfl rfl (by kernel_rfl) rfl rfl rfl ?_
            intro ac2196 wo2197  En2198 Hv2199
            exact any_end (by kernel_rfl) ⟨ao2184, cp2185, En2198.sub (by kernel_rfl), Hv2199.pick [0, 1, 2, 4] (by kernel_rfl) (by decide)⟩
    rintro ac2200 wo2201 ⟨ao440, cp441, En2202, Hv2203⟩
    refine then_normal ?_
    refine wp_seq ?_
    refine region_from ?_  -- region 11
    refine from_op (by kernel_rfl) ?_
    refine op_loadaggbox (d := some 73) (t := 26) (b := bk1) (off := 0) (k := 0) (m := 9) (xs := [.slice a_sa (List.length sa) c_sa, .slice a_sba (List.length sba) c_sba, .slice a_sbb (List.length sbb) c_sbb, .bool sbc, .bool sbd, .slice a_sca (List.length sca) c_sca, .slice a_scb (List.length scb) c_scb, .bool scc, .bool scd]) En2202 (by kernel_rfl) Hv2203 rfl rfl rfl (by kernel_rfl) (by kernel_rfl) ?_
    intro ac2204 En2205
    refine from_op (by kernel_rfl) ?_
    refine op_alloc (d := some 10) (T := 26) (x := .tuple #[]) (z := .agg #[.slice none 0 0, .slice none 0 0, .slice none 0 0, .bool false, .bool false, .slice none 0 0, .slice none 0 0, .bool false, .bool false]) (cs := [.slice none 0 0, .slice none 0 0, .slice none 0 0, .bool false, .bool false, .slice none 0 0, .slice none 0 0, .bool false, .bool false]) En2205 (by kernel_rfl) (by kernel_rfl) (by kernel_rfl) Hv2203 ?_
    intro ac2207 wo2208 bk2206 En2209 Hv2210
    refine from_op (by kernel_rfl) ?_
    refine op_storeaggbox (d := none) (t := 26) (b := bk2206) (off := 0) (k := 4) (m := 9) (xs := [.slice a_sa (List.length sa) c_sa, .slice a_sba (List.length sba) c_sba, .slice a_sbb (List.length sbb) c_sbb, .bool sbc, .bool sbd, .slice a_sca (List.length sca) c_sca, .slice a_scb (List.length scb) c_scb, .bool scc, .bool scd]) (v := .agg #[.slice a_sa (List.length sa) c_sa, .slice a_sba (List.length sba) c_sba, .slice a_sbb (List.length sbb) c_sbb, .bool sbc, .bool sbd, .slice a_sca (List.length sca) c_sca, .slice a_scb (List.length scb) c_scb, .bool scc, .bool scd]) (cs' := [.slice a_sa (List.length sa) c_sa, .slice a_sba (List.length sba) c_sba, .slice a_sbb (List.length sbb) c_sbb, .bool sbc, .bool sbd, .slice a_sca (List.length sca) c_sca, .slice a_scb (List.length scb) c_scb, .bool scc, .bool scd]) En2209 (by kernel_rfl) Hv2210 rfl rfl rfl (by simp) (by kernel_rfl) (one_all (by kernel_rfl)) rfl (L' := [.box bk1 [.slice a_sa (List.length sa) c_sa, .slice a_sba (List.length sba) c_sba, .slice a_sbb (List.length sbb) c_sbb, .bool sbc, .bool sbd, .slice a_sca (List.length sca) c_sca, .slice a_scb (List.length scb) c_scb, .bool scc, .bool scd] 26, .box bk31 [.slice a_sa (List.length sa) c_sa, .slice a_sba (List.length sba) c_sba, .slice a_sbb (List.length sbb - UInt8.toNat b % (List.length sbb + 1)) c_sbb, .bool sbc, .bool false, .slice a_sca (List.length sca) c_sca, .slice a_scb (List.length scb - UInt8.toNat a % (List.length scb + 1)) c_scb, .bool scc, .bool false] 26, .box bk392 [.slice a_sa (List.length sa) c_sa, .slice a_sba (List.length sba) c_sba, .slice a_sbb (List.length sbb) c_sbb, .bool sbc, .bool sbd, .slice a_sca (List.length sca) c_sca, .slice ao440 (List.length ((sa ++ sba) ++ [a])) cp441, .bool scc, .bool scd] 26, .vec ao440 cp441 1 (bys ((sa ++ sba) ++ [a])) 5, .box bk2206 [.slice a_sa (List.length sa) c_sa, .slice a_sba (List.length sba) c_sba, .slice a_sbb (List.length sbb) c_sbb, .bool sbc, .bool sbd, .slice a_sca (List.length sca) c_sca, .slice a_scb (List.length scb) c_scb, .bool scc, .bool scd] 26]) rfl ?_
    intro ac2211 wo2212  En2213 Hv2214
    refine from_end (by kernel_rfl) ?_
    refine then_normal ?_
    refine wp_seq ?_
    refine region_from ?_  -- region 12
    refine from_op (by kernel_rfl) ?_
    refine op_lit (d := some 74) (t := 22) (T := 5) (m := 0) (parts := #[]) (xs := bys []) (sz := 1) En2213 (by kernel_rfl) (by kernel_rfl) rfl (by decide) Hv2214 ?_
    intro ac2216 wo2217 bk2215 En2218 Hv2219
    refine d_pures [(1, .int .u8 ((UInt8.toNat a : Nat) : Int)), (2, .int .u8 ((UInt8.toNat b : Nat) : Int)), (3, .pointer (some ⟨bk1, 0, none⟩)), (6, .bool false), (7, .bool true), (8, .pointer (some ⟨bk31, 0, none⟩)), (9, .pointer (some ⟨bk392, 0, none⟩)), (10, .pointer (some ⟨bk2206, 0, none⟩)), (74, .slice (some ⟨bk2215, 0, none⟩) 0 0), (76, .pointer (some ⟨bk1, 5, none⟩))] [.pointer (some ⟨bk1, 5, none⟩), .pointer (some ⟨bk1, 5, none⟩)] 3 En2218 (by kernel_rfl) (by kernel_rfl) rfl ?_
    intro ac2220 En2221
    refine from_op (by kernel_rfl) ?_
    refine op_loadbox (d := some 77) (t := 22) (b := bk1) (off := 5) (k := 0) (v := .slice a_sca (List.length sca) c_sca) En2221 (by kernel_rfl) Hv2219 rfl rfl (by kernel_rfl) ?_
    intro ac2222 En2223
    refine from_op (by kernel_rfl) ?_
    refine op_append (d := some 78) (t := 22) (tx := 22) (ty := 22) (k := 5) (p := 0) (m := List.length sca) (x := .slice a_sca (List.length sca) c_sca) (bytes := 1) En2223 (by kernel_rfl) Hv2219 rfl rfl (Reads.src (size := 1) (tx := 22) (e' := 5) (by kernel_rfl) (i_sca.ev Hv2219).reads (bys_len _) i_sca.nz (bys_one _)) (by kernel_rfl) (z := .int .u8 0) (by kernel_rfl) rfl (by decide) (by omega) (by unfold maxLen; omega) ?_
    intro ac2228 wo2229 ao2224 cp2225 En2230 Hv2231 _ _
    rw [bys_nil_append] at Hv2231
    have ehz2226 : 0 + List.length sca = List.length sca := (by first | (simp; done) | (simp; omega) | omega)
    rw [ehz2226] at En2230
    refine d_pures [(1, .int .u8 ((UInt8.toNat a : Nat) : Int)), (2, .int .u8 ((UInt8.toNat b : Nat) : Int)), (3, .pointer (some ⟨bk1, 0, none⟩)), (6, .bool false), (7, .bool true), (8, .pointer (some ⟨bk31, 0, none⟩)), (9, .pointer (some ⟨bk392, 0, none⟩)), (10, .pointer (some ⟨bk2206, 0, none⟩)), (78, .slice ao2224 (List.length sca) cp2225), (79, .int .u8 ((UInt8.toNat b : Nat) : Int))] [.int .u8 ((UInt8.toNat b : Nat) : Int)] 6 En2230 (by kernel_rfl) (by kernel_rfl) rfl ?_
    intro ac2232 En2233
    refine from_op (by kernel_rfl) ?_
    refine op_lit (d := some 80) (t := 22) (T := 5) (m := 1) (parts := #[(0, .int .u8 ((UInt8.toNat b : Nat) : Int))]) (xs := bys [b]) (sz := 1) En2233 (by kernel_rfl) (by kernel_rfl) rfl (by decide) Hv2231 ?_
    intro ac2235 wo2236 bk2234 En2237 Hv2238
    refine from_op (by kernel_rfl) ?_
    refine op_append (d := some 81) (t := 22) (tx := 22) (ty := 22) (k := 5) (p := List.length sca) (m := 1) (x := .slice (some ⟨bk2234, 0, none⟩) 1 1) (bytes := 1) En2237 (by kernel_rfl) Hv2238 rfl (bys_len _) (Reads.src (size := 1) (tx := 22) (e' := 5) (by kernel_rfl) (Hv2238.heap.reads (k := 6) rfl) rfl (fun e => by cases e) (bys_one _)) (by kernel_rfl) (z := .int .u8 0) (by kernel_rfl) rfl (by decide) (by omega) (by unfold maxLen; omega) ?_
    intro ac2243 wo2244 ao2239 cp2240 En2245 Hv2246 _ _
    rw [← bys_append] at Hv2246
    have ehz2241 : (List.length sca) + 1 = List.length (sca ++ [b]) := (by first | (simp; done) | (simp; omega) | omega)
    rw [ehz2241] at En2245
    refine d_pures [(1, .int .u8 ((UInt8.toNat a : Nat) : Int)), (2, .int .u8 ((UInt8.toNat b : Nat) : Int)), (3, .pointer (some ⟨bk1, 0, none⟩)), (6, .bool false), (7, .bool true), (8, .pointer (some ⟨bk31, 0, none⟩)), (9, .pointer (some ⟨bk392, 0, none⟩)), (10, .pointer (some ⟨bk2206, 0, none⟩)), (81, .slice ao2239 (List.length (sca ++ [b])) cp2240), (83, .pointer (some ⟨bk2206, 2, none⟩))] [.pointer (some ⟨bk2206, 1, none⟩), .pointer (some ⟨bk2206, 2, none⟩)] 10 En2245 (by kernel_rfl) (by kernel_rfl) rfl ?_
    intro ac2247 En2248
    refine from_op (by kernel_rfl) ?_
    refine op_storebox2 (d := none) (t := 22) (b := bk2206) (off := 2) (k := 4) (v := .slice ao2239 (List.length (sca ++ [b])) cp2240) En2248 (by kernel_rfl) Hv2246 rfl rfl (by kernel_rfl) rfl rfl (L' := [.box bk1 [.slice a_sa (List.length sa) c_sa, .slice a_sba (List.length sba) c_sba, .slice a_sbb (List.length sbb) c_sbb, .bool sbc, .bool sbd, .slice a_sca (List.length sca) c_sca, .slice a_scb (List.length scb) c_scb, .bool scc, .bool scd] 26, .box bk31 [.slice a_sa (List.length sa) c_sa, .slice a_sba (List.length sba) c_sba, .slice a_sbb (List.length sbb - UInt8.toNat b % (List.length sbb + 1)) c_sbb, .bool sbc, .bool false, .slice a_sca (List.length sca) c_sca, .slice a_scb (List.length scb - UInt8.toNat a % (List.length scb + 1)) c_scb, .bool scc, .bool false] 26, .box bk392 [.slice a_sa (List.length sa) c_sa, .slice a_sba (List.length sba) c_sba, .slice a_sbb (List.length sbb) c_sbb, .bool sbc, .bool sbd, .slice a_sca (List.length sca) c_sca, .slice ao440 (List.length ((sa ++ sba) ++ [a])) cp441, .bool scc, .bool scd] 26, .vec ao440 cp441 1 (bys ((sa ++ sba) ++ [a])) 5, .box bk2206 [.slice a_sa (List.length sa) c_sa, .slice a_sba (List.length sba) c_sba, .slice ao2239 (List.length (sca ++ [b])) cp2240, .bool sbc, .bool sbd, .slice a_sca (List.length sca) c_sca, .slice a_scb (List.length scb) c_scb, .bool scc, .bool scd] 26, .vec ao2239 cp2240 1 (bys (sca ++ [b])) 5, .vec (some ⟨bk2234, 0, none⟩) 1 1 (bys [b]) 5]) rfl ?_
    intro ac2249 wo2250  En2251 Hv2252
    refine from_end (by kernel_rfl) ?_
    refine then_normal ?_
    refine wp_seq ?_
    refine region_from ?_  -- region 13
    refine d_pures [(1, .int .u8 ((UInt8.toNat a : Nat) : Int)), (2, .int .u8 ((UInt8.toNat b : Nat) : Int)), (3, .pointer (some ⟨bk1, 0, none⟩)), (6, .bool false), (7, .bool true), (8, .pointer (some ⟨bk31, 0, none⟩)), (9, .pointer (some ⟨bk392, 0, none⟩)), (10, .pointer (some ⟨bk2206, 0, none⟩)), (85, .bool true)] [.bool true, .bool true] 2 En2251 (by kernel_rfl) (by kernel_rfl) rfl ?_
    intro ac2253 En2254
    refine from_op (by kernel_rfl) ?_
    refine op_loadaggbox (d := some 86) (t := 26) (b := bk31) (off := 0) (k := 1) (m := 9) (xs := [.slice a_sa (List.length sa) c_sa, .slice a_sba (List.length sba) c_sba, .slice a_sbb (List.length sbb - UInt8.toNat b % (List.length sbb + 1)) c_sbb, .bool sbc, .bool false, .slice a_sca (List.length sca) c_sca, .slice a_scb (List.length scb - UInt8.toNat a % (List.length scb + 1)) c_scb, .bool scc, .bool false]) En2254 (by kernel_rfl) Hv2252 rfl rfl rfl (by kernel_rfl) (by kernel_rfl) ?_
    intro ac2255 En2256
    refine from_op (by kernel_rfl) ?_
    have hM2257 : Heap wo2250 [] := Hv2252.heap.pick [] (by kernel_rfl) (by decide)
    refine op_call (d := some 87) (f := 9) (args := #[.agg #[.slice a_sa (List.length sa) c_sa, .slice a_sba (List.length sba) c_sba, .slice a_sbb (List.length sbb - UInt8.toNat b % (List.length sbb + 1)) c_sbb, .bool sbc, .bool false, .slice a_sca (List.length sca) c_sca, .slice a_scb (List.length scb - UInt8.toNat a % (List.length scb + 1)) c_scb, .bool scc, .bool false]]) En2256 (by kernel_rfl) ((relay_go _ a_sa (List.length sa) c_sa sa (by first | rfl | (simp; done) | (simp; omega) | omega) ((i_sa.ev Hv2252).pick [] (by kernel_rfl)) a_sba (List.length sba) c_sba sba (by first | rfl | (simp; done) | (simp; omega) | omega) ((i_sba.ev Hv2252).pick [] (by kernel_rfl)) a_sbb (List.length sbb - UInt8.toNat b % (List.length sbb + 1)) c_sbb (List.take (List.length sbb - UInt8.toNat b % (List.length sbb + 1)) sbb) (by first | rfl | (simp; done) | (simp; omega) | omega) (((i_sbb.ev Hv2252).pick [] (by kernel_rfl)).take (List.length sbb - UInt8.toNat b % (List.length sbb + 1))) sbc false a_sca (List.length sca) c_sca sca (by first | rfl | (simp; done) | (simp; omega) | omega) ((i_sca.ev Hv2252).pick [] (by kernel_rfl)) a_scb (List.length scb - UInt8.toNat a % (List.length scb + 1)) c_scb (List.take (List.length scb - UInt8.toNat a % (List.length scb + 1)) scb) (by first | rfl | (simp; done) | (simp; omega) | omega) (((i_scb.ev Hv2252).pick [] (by kernel_rfl)).take (List.length scb - UInt8.toNat a % (List.length scb + 1))) scc false (by first | omega | (simp; done) | (simp; omega))).mono ?_)
    rintro _ wo2259 ⟨rfl, he2262⟩
    refine ⟨_, rfl, ?_⟩
    intro ac2258 En2260
    have Hv2261 : Ev w [] wo2259 [.box bk1 [.slice a_sa (List.length sa) c_sa, .slice a_sba (List.length sba) c_sba, .slice a_sbb (List.length sbb) c_sbb, .bool sbc, .bool sbd, .slice a_sca (List.length sca) c_sca, .slice a_scb (List.length scb) c_scb, .bool scc, .bool scd] 26, .box bk31 [.slice a_sa (List.length sa) c_sa, .slice a_sba (List.length sba) c_sba, .slice a_sbb (List.length sbb - UInt8.toNat b % (List.length sbb + 1)) c_sbb, .bool sbc, .bool false, .slice a_sca (List.length sca) c_sca, .slice a_scb (List.length scb - UInt8.toNat a % (List.length scb + 1)) c_scb, .bool scc, .bool false] 26, .box bk392 [.slice a_sa (List.length sa) c_sa, .slice a_sba (List.length sba) c_sba, .slice a_sbb (List.length sbb) c_sbb, .bool sbc, .bool sbd, .slice a_sca (List.length sca) c_sca, .slice ao440 (List.length ((sa ++ sba) ++ [a])) cp441, .bool scc, .bool scd] 26, .vec ao440 cp441 1 (bys ((sa ++ sba) ++ [a])) 5, .box bk2206 [.slice a_sa (List.length sa) c_sa, .slice a_sba (List.length sba) c_sba, .slice ao2239 (List.length (sca ++ [b])) cp2240, .bool sbc, .bool sbd, .slice a_sca (List.length sca) c_sca, .slice a_scb (List.length scb) c_scb, .bool scc, .bool scd] 26, .vec ao2239 cp2240 1 (bys (sca ++ [b])) 5, .vec (some ⟨bk2234, 0, none⟩) 1 1 (bys [b]) 5] := Hv2252.trans (Ev.call (R := [.box bk1 [.slice a_sa (List.length sa) c_sa, .slice a_sba (List.length sba) c_sba, .slice a_sbb (List.length sbb) c_sbb, .bool sbc, .bool sbd, .slice a_sca (List.length sca) c_sca, .slice a_scb (List.length scb) c_scb, .bool scc, .bool scd] 26, .box bk31 [.slice a_sa (List.length sa) c_sa, .slice a_sba (List.length sba) c_sba, .slice a_sbb (List.length sbb - UInt8.toNat b % (List.length sbb + 1)) c_sbb, .bool sbc, .bool false, .slice a_sca (List.length sca) c_sca, .slice a_scb (List.length scb - UInt8.toNat a % (List.length scb + 1)) c_scb, .bool scc, .bool false] 26, .box bk392 [.slice a_sa (List.length sa) c_sa, .slice a_sba (List.length sba) c_sba, .slice a_sbb (List.length sbb) c_sbb, .bool sbc, .bool sbd, .slice a_sca (List.length sca) c_sca, .slice ao440 (List.length ((sa ++ sba) ++ [a])) cp441, .bool scc, .bool scd] 26, .vec ao440 cp441 1 (bys ((sa ++ sba) ++ [a])) 5, .box bk2206 [.slice a_sa (List.length sa) c_sa, .slice a_sba (List.length sba) c_sba, .slice ao2239 (List.length (sca ++ [b])) cp2240, .bool sbc, .bool sbd, .slice a_sca (List.length sca) c_sca, .slice a_scb (List.length scb) c_scb, .bool scc, .bool scd] 26, .vec ao2239 cp2240 1 (bys (sca ++ [b])) 5, .vec (some ⟨bk2234, 0, none⟩) 1 1 (bys [b]) 5]) Hv2252.heap [0, 1, 2, 3, 4, 5, 6] (by kernel_rfl) (by decide) he2262)
    clear hM2257 he2262
    refine d_pures [(1, .int .u8 ((UInt8.toNat a : Nat) : Int)), (2, .int .u8 ((UInt8.toNat b : Nat) : Int)), (3, .pointer (some ⟨bk1, 0, none⟩)), (6, .bool false), (7, .bool true), (8, .pointer (some ⟨bk31, 0, none⟩)), (9, .pointer (some ⟨bk392, 0, none⟩)), (10, .pointer (some ⟨bk2206, 0, none⟩)), (85, .bool true), (88, .bool (relayF sa sba (List.take (List.length sbb - UInt8.toNat b % (List.length sbb + 1)) sbb) sbc false sca (List.take (List.length scb - UInt8.toNat a % (List.length scb + 1)) scb) scc false == (0 : Int)))] [.bool (relayF sa sba (List.take (List.length sbb - UInt8.toNat b % (List.length sbb + 1)) sbb) sbc false sca (List.take (List.length scb - UInt8.toNat a % (List.length scb + 1)) scb) scc false == (0 : Int))] 5 En2260 (by kernel_rfl) (by kernel_rfl) rfl ?_
    intro ac2263 En2264
    rw [show (relayF sa sba (List.take (List.length sbb - UInt8.toNat b % (List.length sbb + 1)) sbb) sbc false sca (List.take (List.length scb - UInt8.toNat a % (List.length scb + 1)) scb) scc false == (0 : Int)) = true from (by rw [beq_iff_eq]; exact less_zero hc26 _ _)] at En2264
    refine d_pures [(1, .int .u8 ((UInt8.toNat a : Nat) : Int)), (2, .int .u8 ((UInt8.toNat b : Nat) : Int)), (3, .pointer (some ⟨bk1, 0, none⟩)), (6, .bool false), (7, .bool true), (8, .pointer (some ⟨bk31, 0, none⟩)), (9, .pointer (some ⟨bk392, 0, none⟩)), (10, .pointer (some ⟨bk2206, 0, none⟩)), (90, .bool true)] [.bool true, .bool true] 7 En2264 (by kernel_rfl) (by kernel_rfl) rfl ?_
    intro ac2265 En2266
    refine from_op (by kernel_rfl) ?_
    refine op_loadaggbox (d := some 91) (t := 26) (b := bk392) (off := 0) (k := 2) (m := 9) (xs := [.slice a_sa (List.length sa) c_sa, .slice a_sba (List.length sba) c_sba, .slice a_sbb (List.length sbb) c_sbb, .bool sbc, .bool sbd, .slice a_sca (List.length sca) c_sca, .slice ao440 (List.length ((sa ++ sba) ++ [a])) cp441, .bool scc, .bool scd]) En2266 (by kernel_rfl) Hv2261 rfl rfl rfl (by kernel_rfl) (by kernel_rfl) ?_
    intro ac2267 En2268
    refine from_op (by kernel_rfl) ?_
    have hM2269 : Heap wo2259 [] := Hv2261.heap.pick [] (by kernel_rfl) (by decide)
    refine op_call (d := some 92) (f := 9) (args := #[.agg #[.slice a_sa (List.length sa) c_sa, .slice a_sba (List.length sba) c_sba, .slice a_sbb (List.length sbb) c_sbb, .bool sbc, .bool sbd, .slice a_sca (List.length sca) c_sca, .slice ao440 (List.length ((sa ++ sba) ++ [a])) cp441, .bool scc, .bool scd]]) En2268 (by kernel_rfl) ((relay_go _ a_sa (List.length sa) c_sa sa (by first | rfl | (simp; done) | (simp; omega) | omega) ((i_sa.ev Hv2261).pick [] (by kernel_rfl)) a_sba (List.length sba) c_sba sba (by first | rfl | (simp; done) | (simp; omega) | omega) ((i_sba.ev Hv2261).pick [] (by kernel_rfl)) a_sbb (List.length sbb) c_sbb sbb (by first | rfl | (simp; done) | (simp; omega) | omega) ((i_sbb.ev Hv2261).pick [] (by kernel_rfl)) sbc sbd a_sca (List.length sca) c_sca sca (by first | rfl | (simp; done) | (simp; omega) | omega) ((i_sca.ev Hv2261).pick [] (by kernel_rfl)) ao440 (List.length ((sa ++ sba) ++ [a])) cp441 ((sa ++ sba) ++ [a]) (by first | rfl | (simp; done) | (simp; omega) | omega) (bys_in Hv2261.heap (k := 3) rfl [] (by kernel_rfl) rfl (by first | omega | (simp; done) | (simp; omega))) scc scd (by first | omega | (simp; done) | (simp; omega))).mono ?_)
    rintro _ wo2271 ⟨rfl, he2274⟩
    refine ⟨_, rfl, ?_⟩
    intro ac2270 En2272
    have Hv2273 : Ev w [] wo2271 [.box bk1 [.slice a_sa (List.length sa) c_sa, .slice a_sba (List.length sba) c_sba, .slice a_sbb (List.length sbb) c_sbb, .bool sbc, .bool sbd, .slice a_sca (List.length sca) c_sca, .slice a_scb (List.length scb) c_scb, .bool scc, .bool scd] 26, .box bk31 [.slice a_sa (List.length sa) c_sa, .slice a_sba (List.length sba) c_sba, .slice a_sbb (List.length sbb - UInt8.toNat b % (List.length sbb + 1)) c_sbb, .bool sbc, .bool false, .slice a_sca (List.length sca) c_sca, .slice a_scb (List.length scb - UInt8.toNat a % (List.length scb + 1)) c_scb, .bool scc, .bool false] 26, .box bk392 [.slice a_sa (List.length sa) c_sa, .slice a_sba (List.length sba) c_sba, .slice a_sbb (List.length sbb) c_sbb, .bool sbc, .bool sbd, .slice a_sca (List.length sca) c_sca, .slice ao440 (List.length ((sa ++ sba) ++ [a])) cp441, .bool scc, .bool scd] 26, .vec ao440 cp441 1 (bys ((sa ++ sba) ++ [a])) 5, .box bk2206 [.slice a_sa (List.length sa) c_sa, .slice a_sba (List.length sba) c_sba, .slice ao2239 (List.length (sca ++ [b])) cp2240, .bool sbc, .bool sbd, .slice a_sca (List.length sca) c_sca, .slice a_scb (List.length scb) c_scb, .bool scc, .bool scd] 26, .vec ao2239 cp2240 1 (bys (sca ++ [b])) 5, .vec (some ⟨bk2234, 0, none⟩) 1 1 (bys [b]) 5] := Hv2261.trans (Ev.call (R := [.box bk1 [.slice a_sa (List.length sa) c_sa, .slice a_sba (List.length sba) c_sba, .slice a_sbb (List.length sbb) c_sbb, .bool sbc, .bool sbd, .slice a_sca (List.length sca) c_sca, .slice a_scb (List.length scb) c_scb, .bool scc, .bool scd] 26, .box bk31 [.slice a_sa (List.length sa) c_sa, .slice a_sba (List.length sba) c_sba, .slice a_sbb (List.length sbb - UInt8.toNat b % (List.length sbb + 1)) c_sbb, .bool sbc, .bool false, .slice a_sca (List.length sca) c_sca, .slice a_scb (List.length scb - UInt8.toNat a % (List.length scb + 1)) c_scb, .bool scc, .bool false] 26, .box bk392 [.slice a_sa (List.length sa) c_sa, .slice a_sba (List.length sba) c_sba, .slice a_sbb (List.length sbb) c_sbb, .bool sbc, .bool sbd, .slice a_sca (List.length sca) c_sca, .slice ao440 (List.length ((sa ++ sba) ++ [a])) cp441, .bool scc, .bool scd] 26, .vec ao440 cp441 1 (bys ((sa ++ sba) ++ [a])) 5, .box bk2206 [.slice a_sa (List.length sa) c_sa, .slice a_sba (List.length sba) c_sba, .slice ao2239 (List.length (sca ++ [b])) cp2240, .bool sbc, .bool sbd, .slice a_sca (List.length sca) c_sca, .slice a_scb (List.length scb) c_scb, .bool scc, .bool scd] 26, .vec ao2239 cp2240 1 (bys (sca ++ [b])) 5, .vec (some ⟨bk2234, 0, none⟩) 1 1 (bys [b]) 5]) Hv2261.heap [0, 1, 2, 3, 4, 5, 6] (by kernel_rfl) (by decide) he2274)
    clear hM2269 he2274
    refine d_pures [(1, .int .u8 ((UInt8.toNat a : Nat) : Int)), (2, .int .u8 ((UInt8.toNat b : Nat) : Int)), (3, .pointer (some ⟨bk1, 0, none⟩)), (6, .bool false), (7, .bool true), (8, .pointer (some ⟨bk31, 0, none⟩)), (9, .pointer (some ⟨bk392, 0, none⟩)), (10, .pointer (some ⟨bk2206, 0, none⟩)), (90, .bool true), (93, .bool (relayF sa sba sbb sbc sbd sca ((sa ++ sba) ++ [a]) scc scd == (1 : Int)))] [.bool (relayF sa sba sbb sbc sbd sca ((sa ++ sba) ++ [a]) scc scd == (1 : Int))] 10 En2272 (by kernel_rfl) (by kernel_rfl) rfl ?_
    intro ac2275 En2276
    rw [show (relayF sa sba sbb sbc sbd sca ((sa ++ sba) ++ [a]) scc scd == (1 : Int)) = true from (by rw [beq_iff_eq]; exact more_one _ _ _ _ _ _ _ _ _)] at En2276
    refine d_pures [(1, .int .u8 ((UInt8.toNat a : Nat) : Int)), (2, .int .u8 ((UInt8.toNat b : Nat) : Int)), (3, .pointer (some ⟨bk1, 0, none⟩)), (6, .bool false), (7, .bool true), (8, .pointer (some ⟨bk31, 0, none⟩)), (9, .pointer (some ⟨bk392, 0, none⟩)), (10, .pointer (some ⟨bk2206, 0, none⟩)), (95, .bool true)] [.bool true, .bool true] 12 En2276 (by kernel_rfl) (by kernel_rfl) rfl ?_
    intro ac2277 En2278
    refine from_op (by kernel_rfl) ?_
    refine op_loadaggbox (d := some 96) (t := 26) (b := bk2206) (off := 0) (k := 4) (m := 9) (xs := [.slice a_sa (List.length sa) c_sa, .slice a_sba (List.length sba) c_sba, .slice ao2239 (List.length (sca ++ [b])) cp2240, .bool sbc, .bool sbd, .slice a_sca (List.length sca) c_sca, .slice a_scb (List.length scb) c_scb, .bool scc, .bool scd]) En2278 (by kernel_rfl) Hv2273 rfl rfl rfl (by kernel_rfl) (by kernel_rfl) ?_
    intro ac2279 En2280
    refine from_op (by kernel_rfl) ?_
    have hM2281 : Heap wo2271 [] := Hv2273.heap.pick [] (by kernel_rfl) (by decide)
    refine op_call (d := some 97) (f := 9) (args := #[.agg #[.slice a_sa (List.length sa) c_sa, .slice a_sba (List.length sba) c_sba, .slice ao2239 (List.length (sca ++ [b])) cp2240, .bool sbc, .bool sbd, .slice a_sca (List.length sca) c_sca, .slice a_scb (List.length scb) c_scb, .bool scc, .bool scd]]) En2280 (by kernel_rfl) ((relay_go _ a_sa (List.length sa) c_sa sa (by first | rfl | (simp; done) | (simp; omega) | omega) ((i_sa.ev Hv2273).pick [] (by kernel_rfl)) a_sba (List.length sba) c_sba sba (by first | rfl | (simp; done) | (simp; omega) | omega) ((i_sba.ev Hv2273).pick [] (by kernel_rfl)) ao2239 (List.length (sca ++ [b])) cp2240 (sca ++ [b]) (by first | rfl | (simp; done) | (simp; omega) | omega) (bys_in Hv2273.heap (k := 5) rfl [] (by kernel_rfl) rfl (by first | omega | (simp; done) | (simp; omega))) sbc sbd a_sca (List.length sca) c_sca sca (by first | rfl | (simp; done) | (simp; omega) | omega) ((i_sca.ev Hv2273).pick [] (by kernel_rfl)) a_scb (List.length scb) c_scb scb (by first | rfl | (simp; done) | (simp; omega) | omega) ((i_scb.ev Hv2273).pick [] (by kernel_rfl)) scc scd (by first | omega | (simp; done) | (simp; omega))).mono ?_)
    rintro _ wo2283 ⟨rfl, he2286⟩
    refine ⟨_, rfl, ?_⟩
    intro ac2282 En2284
    have Hv2285 : Ev w [] wo2283 [.box bk1 [.slice a_sa (List.length sa) c_sa, .slice a_sba (List.length sba) c_sba, .slice a_sbb (List.length sbb) c_sbb, .bool sbc, .bool sbd, .slice a_sca (List.length sca) c_sca, .slice a_scb (List.length scb) c_scb, .bool scc, .bool scd] 26, .box bk31 [.slice a_sa (List.length sa) c_sa, .slice a_sba (List.length sba) c_sba, .slice a_sbb (List.length sbb - UInt8.toNat b % (List.length sbb + 1)) c_sbb, .bool sbc, .bool false, .slice a_sca (List.length sca) c_sca, .slice a_scb (List.length scb - UInt8.toNat a % (List.length scb + 1)) c_scb, .bool scc, .bool false] 26, .box bk392 [.slice a_sa (List.length sa) c_sa, .slice a_sba (List.length sba) c_sba, .slice a_sbb (List.length sbb) c_sbb, .bool sbc, .bool sbd, .slice a_sca (List.length sca) c_sca, .slice ao440 (List.length ((sa ++ sba) ++ [a])) cp441, .bool scc, .bool scd] 26, .vec ao440 cp441 1 (bys ((sa ++ sba) ++ [a])) 5, .box bk2206 [.slice a_sa (List.length sa) c_sa, .slice a_sba (List.length sba) c_sba, .slice ao2239 (List.length (sca ++ [b])) cp2240, .bool sbc, .bool sbd, .slice a_sca (List.length sca) c_sca, .slice a_scb (List.length scb) c_scb, .bool scc, .bool scd] 26, .vec ao2239 cp2240 1 (bys (sca ++ [b])) 5, .vec (some ⟨bk2234, 0, none⟩) 1 1 (bys [b]) 5] := Hv2273.trans (Ev.call (R := [.box bk1 [.slice a_sa (List.length sa) c_sa, .slice a_sba (List.length sba) c_sba, .slice a_sbb (List.length sbb) c_sbb, .bool sbc, .bool sbd, .slice a_sca (List.length sca) c_sca, .slice a_scb (List.length scb) c_scb, .bool scc, .bool scd] 26, .box bk31 [.slice a_sa (List.length sa) c_sa, .slice a_sba (List.length sba) c_sba, .slice a_sbb (List.length sbb - UInt8.toNat b % (List.length sbb + 1)) c_sbb, .bool sbc, .bool false, .slice a_sca (List.length sca) c_sca, .slice a_scb (List.length scb - UInt8.toNat a % (List.length scb + 1)) c_scb, .bool scc, .bool false] 26, .box bk392 [.slice a_sa (List.length sa) c_sa, .slice a_sba (List.length sba) c_sba, .slice a_sbb (List.length sbb) c_sbb, .bool sbc, .bool sbd, .slice a_sca (List.length sca) c_sca, .slice ao440 (List.length ((sa ++ sba) ++ [a])) cp441, .bool scc, .bool scd] 26, .vec ao440 cp441 1 (bys ((sa ++ sba) ++ [a])) 5, .box bk2206 [.slice a_sa (List.length sa) c_sa, .slice a_sba (List.length sba) c_sba, .slice ao2239 (List.length (sca ++ [b])) cp2240, .bool sbc, .bool sbd, .slice a_sca (List.length sca) c_sca, .slice a_scb (List.length scb) c_scb, .bool scc, .bool scd] 26, .vec ao2239 cp2240 1 (bys (sca ++ [b])) 5, .vec (some ⟨bk2234, 0, none⟩) 1 1 (bys [b]) 5]) Hv2273.heap [0, 1, 2, 3, 4, 5, 6] (by kernel_rfl) (by decide) he2286)
    clear hM2281 he2286
    refine d_pures [(1, .int .u8 ((UInt8.toNat a : Nat) : Int)), (2, .int .u8 ((UInt8.toNat b : Nat) : Int)), (3, .pointer (some ⟨bk1, 0, none⟩)), (6, .bool false), (7, .bool true), (8, .pointer (some ⟨bk31, 0, none⟩)), (9, .pointer (some ⟨bk392, 0, none⟩)), (10, .pointer (some ⟨bk2206, 0, none⟩)), (95, .bool true), (98, .bool (relayF sa sba (sca ++ [b]) sbc sbd sca scb scc scd == (2 : Int)))] [.bool (relayF sa sba (sca ++ [b]) sbc sbd sca scb scc scd == (2 : Int))] 15 En2284 (by kernel_rfl) (by kernel_rfl) rfl ?_
    intro ac2287 En2288
    rw [show (relayF sa sba (sca ++ [b]) sbc sbd sca scb scc scd == (2 : Int)) = true from (by rw [beq_iff_eq]; exact more_two hc26 _)] at En2288
    refine d_pures [(1, .int .u8 ((UInt8.toNat a : Nat) : Int)), (2, .int .u8 ((UInt8.toNat b : Nat) : Int)), (3, .pointer (some ⟨bk1, 0, none⟩)), (6, .bool true), (7, .bool true), (8, .pointer (some ⟨bk31, 0, none⟩)), (9, .pointer (some ⟨bk392, 0, none⟩)), (10, .pointer (some ⟨bk2206, 0, none⟩))] [.bool true, .bool true] 17 En2288 (by kernel_rfl) (by kernel_rfl) rfl ?_
    intro ac2289 En2290
    refine from_end (by kernel_rfl) ?_
    refine then_normal ?_
    refine wp_ret ?_
    refine d_ret1 (t := 6) (v := .bool true) En2290 (by kernel_rfl) (by kernel_rfl) ?_
    exact ⟨rfl, Hv2285.pick [] (by kernel_rfl) (by decide)⟩

end Go.Proofs.Ytjecaljhipfbfaa
