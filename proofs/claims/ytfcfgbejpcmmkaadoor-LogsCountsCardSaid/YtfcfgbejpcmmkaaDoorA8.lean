/- Layer 3: the live question. -/
import Derived.Test.YtfcfgbejpcmmkaaDoorA7
namespace Go.Proofs.YtfcfgbejpcmmkaaDoor
open Go.Dbr
set_option maxRecDepth 100000
set_option maxHeartbeats 2000000
set_option linter.unusedVariables false
set_option linter.unusedSimpArgs false

def headPs : List RPair := [(([115, 114, 99] : Bs), true, (3 : UInt64), ([] : Bs), ()), (([104, 111, 115, 116] : Bs), false, (0 : UInt64), ([97, 34, 98, 1] : Bs), ())]
def headT : Bs := [116, 61, 49, 50, 32, 101, 118, 61, 97, 99, 99, 101, 112, 116, 32, 115, 114, 99, 61, 51, 32, 104, 111, 115, 116, 61, 34, 97, 92, 34, 98, 92, 120, 48, 49, 34]
theorem head_enc : encL 12 [97, 99, 99, 101, 112, 116] headPs = (headT, 0) := by
  have h12 : decL (UInt64.toNat 12) = [49, 50] := by show Lib.decDigits 12 = _; rw [Lib.decDigits_two (by decide) (by decide)]; rfl
  have h3 : decL (UInt64.toNat 3) = [51] := by show Lib.decDigits 3 = _; rw [Lib.decDigits_one (by decide)]; rfl
  have e : headL 12 [97, 99, 99, 101, 112, 116] = [116, 61, 49, 50, 32, 101, 118, 61, 97, 99, 99, 101, 112, 116] := by rw [headL, h12]; rfl
  rw [encd_ok (by decide) (by decide) (by decide), e, headPs, docE, if_neg (by decide), docE, if_neg (by decide), docE]
  have e1 : ∀ t : Bs, saysT ((([115, 114, 99] : Bs), true, (3 : UInt64), ([] : Bs), ()) : RPair) t = [32, 115, 114, 99, 61, 51] := fun t => by rw [saysT, if_pos rfl, h3]; rfl
  rw [e1]
  decide
theorem okP_all {xs : List RPair} {n : Nat} (hn : n ≤ 140737488351232) (h : xs.all (fun y => decide (y.1.length ≤ n ∧ y.2.2.2.1.length ≤ n)) = true) : ∀ y ∈ xs, y.1.length ≤ 140737488351232 ∧ True ∧ True ∧ y.2.2.2.1.length ≤ 140737488351232 ∧ True := fun y hy => by
  have := List.all_eq_true.1 h y hy
  simp only [decide_eq_true_eq] at this
  exact ⟨by omega, trivial, trivial, by omega, trivial⟩

theorem head_go (w : World) (gt : InT w []) : Calls Tryd.prog 7 #[] w fun e w' => e = .returned (.bool true) ∧ Ev w [] w' [] := by
 refine d_0 [] 17 Go.Proofs.Tryd.func7 Go.Proofs.Tryd.ntmps7 (Heap.nil _) fun act0 En0 Hv0 => ?_
 refine d_s [0] [] En0 fun ac1 En2 => ?_
 refine wp_seq ?_
 refine region_from ?_
 refine d_k [0,4,5] [] 2 En2 fun ac3 En4 => ?_
 refine f_o ?_
 refine op_lit (d := some 6) (t := 23) (T := 35) (m := 2) (parts := #[(0, .agg #[.string (bstr [115, 114, 99]), .bool true, .int .u64 3, .string (bstr [])]), (1, .agg #[.string (bstr [104, 111, 115, 116]), .bool false, .int .u64 0, .string (bstr [97, 34, 98, 1])])]) (xs := List.flatMap fPair ([([115, 114, 99], true, (3 : UInt64), [], ()), ([104, 111, 115, 116], false, (0 : UInt64), [97, 34, 98, 1], ())] : List (RPair))) (sz := 4) En4 (by kernel_rfl) (by kernel_rfl) rfl (by decide) Hv0 ?_
 intro ac6 wo7 bk5 En8 Hv9
 refine d_k [0,7] [] 4 En8 fun ac10 En11 => ?_
 refine f_o ?_
 refine c_p En11 Hv9 (enc_go _ (12 : UInt64) [97, 99, 99, 101, 112, 116] (by decide) (some ⟨bk5, 0, none⟩) 2 ([([115, 114, 99], true, (3 : UInt64), [], ()), ([104, 111, 115, 116], false, (0 : UInt64), [97, 34, 98, 1], ())] : List (RPair)) (Hv9.heap.innS (k := 0) (f := fPair) (sz := 4) (by_ := 48) rfl (fun _ => rfl) (by decide) [] (by kernel_rfl) rfl (by decide) (okP_all (n := 32) (by decide) (by decide))) ((gt.ev Hv9).nil)) fun ac16 wo13 En17 Hv18 => ?_
 refine d_e [0,1,2] [] En17 fun ac19 En20 => ?_
 refine then_normal ?_
 refine wp_seq ?_
 refine region_from ?_
 refine d_k [0,1,13] [] 3 En20 fun ac21 En22 => ?_
 rcases Bool.eq_false_or_eq_true ((encL (12 : UInt64) [97, 99, 99, 101, 112, 116] ([([115, 114, 99], true, (3 : UInt64), [], ()), ([104, 111, 115, 116], false, (0 : UInt64), [97, 34, 98, 1], ())] : List (RPair))).2 == (0 : Int)) with hb23 | hb23
 ·
  have En24 := En22.fx (t := 13) (congrArg Value.bool hb23)
  have hp25 : (encL (12 : UInt64) [97, 99, 99, 101, 112, 116] ([([115, 114, 99], true, (3 : UInt64), [], ()), ([104, 111, 115, 116], false, (0 : UInt64), [97, 34, 98, 1], ())] : List (RPair))).2 = (0 : Int) := eq_of_beq hb23
  refine d_e [0] [(4, g_v (show (.bool (ByteArray.toList (bstr ((encL (12 : UInt64) [97, 99, 99, 101, 112, 116] ([([115, 114, 99], true, (3 : UInt64), [], ()), ([104, 111, 115, 116], false, (0 : UInt64), [97, 34, 98, 1], ())] : List (RPair))).1)) == ByteArray.toList (bstr [116, 61, 49, 50, 32, 101, 118, 61, 97, 99, 99, 101, 112, 116, 32, 115, 114, 99, 61, 51, 32, 104, 111, 115, 116, 61, 34, 97, 92, 34, 98, 92, 120, 48, 49, 34])) : Value) = .bool (((encL (12 : UInt64) [97, 99, 99, 101, 112, 116] ([([115, 114, 99], true, (3 : UInt64), [], ()), ([104, 111, 115, 116], false, (0 : UInt64), [97, 34, 98, 1], ())] : List (RPair))).1) == [116, 61, 49, 50, 32, 101, 118, 61, 97, 99, 99, 101, 112, 116, 32, 115, 114, 99, 61, 51, 32, 104, 111, 115, 116, 61, 34, 97, 92, 34, 98, 92, 120, 48, 49, 34]) by rw [Go.Dbr.bstr_eq ((encL (12 : UInt64) [97, 99, 99, 101, 112, 116] ([([115, 114, 99], true, (3 : UInt64), [], ()), ([104, 111, 115, 116], false, (0 : UInt64), [97, 34, 98, 1], ())] : List (RPair))).1) [116, 61, 49, 50, 32, 101, 118, 61, 97, 99, 99, 101, 112, 116, 32, 115, 114, 99, 61, 51, 32, 104, 111, 115, 116, 61, 34, 97, 92, 34, 98, 92, 120, 48, 49, 34]] <;> rfl))] En24 fun ac26 En27 => ?_
  refine then_normal ?_
  refine wp_ret ?_
  refine d_ret1 (t := 0) (v := .bool (((encL (12 : UInt64) [97, 99, 99, 101, 112, 116] ([([115, 114, 99], true, (3 : UInt64), [], ()), ([104, 111, 115, 116], false, (0 : UInt64), [97, 34, 98, 1], ())] : List (RPair))).1) == [116, 61, 49, 50, 32, 101, 118, 61, 97, 99, 99, 101, 112, 116, 32, 115, 114, 99, 61, 51, 32, 104, 111, 115, 116, 61, 34, 97, 92, 34, 98, 92, 120, 48, 49, 34])) En27 (by kernel_rfl) (by kernel_rfl) ?_
  exact ⟨congrArg (fun z => Ending.returned (Value.bool z)) (by show ((encL 12 [97, 99, 99, 101, 112, 116] headPs).1 == headT) = true; rw [head_enc]; decide), Hv18.pick [] (by kernel_rfl) (by decide)⟩
 ·
  have En28 := En22.fx (t := 13) (congrArg Value.bool hb23)
  have hp29 : ¬ ((encL (12 : UInt64) [97, 99, 99, 101, 112, 116] ([([115, 114, 99], true, (3 : UInt64), [], ()), ([104, 111, 115, 116], false, (0 : UInt64), [97, 34, 98, 1], ())] : List (RPair))).2 = (0 : Int)) := ne_of_beq_false hb23
  refine d_e [0] [] En28 fun ac30 En31 => ?_
  refine then_normal ?_
  refine wp_ret ?_
  refine d_ret1 (t := 0) (v := .bool false) En31 (by kernel_rfl) (by kernel_rfl) ?_
  exact absurd (show (encL 12 [97, 99, 99, 101, 112, 116] headPs).2 = 0 from congrArg Prod.snd head_enc) (by assumption)

end Go.Proofs.YtfcfgbejpcmmkaaDoor
