import Derived.Test.YtofecellbfhnjaaTh4
import Derived.Test.YtofecellbfhnjaaTh3
/- Layer 17: writers: lists, what they give; the document's. -/

namespace Go.Proofs.Ytofecellbfhnjaa
open Go.Dbr
set_option maxRecDepth 100000
set_option maxHeartbeats 2000000
set_option linter.unusedVariables false
set_option linter.unusedSimpArgs false

theorem ofNat_id {n : Nat} (h : n < 18446744073709551616) : (UInt64.ofNat n).toNat = n := by rw [UInt64.toNat_ofNat']; omega
def wput (n : Nat) (l b : Bs) : Bs := (l ++ beN n b.length) ++ b
def dbad (n x y k : Nat) : Bool := decide (k < x) || (decide (y < k) || decide (2 ^ (8 * n) ≤ k))
theorem wlist_go (w : World) (bw : Nat) (a : Option Addr) (c : Nat) (l : Bs) (bad : Bool) (n : Nat) (hn : n ≤ 4) (x y : Nat) (hx : x ≤ 4294967295) (hy : y ≤ 4294967295) (ab : Option Addr) (cb : Nat) (b : Bs) (ib : InB w [.box bw [.slice a (List.length l) c, .bool bad] 115, .vec a c 1 (bys l) 5] ab cb b) (hb : List.length l + n + List.length b ≤ 200000000000000) (hH : Heap w [.box bw [.slice a (List.length l) c, .bool bad] 115, .vec a c 1 (bys l) 5]) : Calls Try.prog 101 #[pt bw, ni n, ni x, ni y, .slice ab (List.length b) cb] w fun e w' => ∃ a' c', e = .returned (.tuple #[]) ∧ Ev w [.box bw [.slice a (List.length l) c, .bool bad] 115, .vec a c 1 (bys l) 5] w' [.box bw [.slice a' (List.length (wput n l b)) c', .bool (wbad n x y (List.length b) bad)] 115, .vec a' c' 1 (bys (wput n l b)) 5] := by
 have hbs := ib.small
 refine d_0 [(0, pt bw), (1, ni n), (2, ni x), (3, ni y), (4, .slice ab (List.length b) cb)] 52 Go.Proofs.Try.func101 Go.Proofs.Try.ntmps101 (hH) fun act0 En0 Hv0 => ?_
 refine wp_seq ?_
 refine region_cut (F := fun ac wo => ∃ (bd : Bool), Env ac 52 [(0, pt bw), (1, ni n), (2, ni x), (3, ni y), (4, .slice ab (List.length b) cb)] ∧ Ev w [.box bw [.slice a (List.length l) c, .bool bad] 115, .vec a c 1 (bys l) 5] wo [.box bw [.slice a (List.length l) c, .bool bd] 115, .vec a c 1 (bys l) 5] ∧ (bd = wbad n x y (List.length b) bad)) ?_ ?_
 ·
  refine region_from ?_
  refine d_k [0,1,2,3,4,10,13] [] 4 En0 fun ac1 En2 => ?_
  refine f_o ?_
  refine m_l 0 En2 Hv0 fun ac3 En4 => ?_
  refine d_k [0,1,2,3,4,10,15] [] 6 En4 fun ac5 En6 => ?_
  rcases Bool.eq_false_or_eq_true (bad) with hb7 | hb7
  ·
   have En8 := En6.fx (t := 15) (congrArg Value.bool hb7)
   have hp9 : bad = true := hb7
   refine d_k [0,1,2,3,4,34,36] [] 27 En8 fun ac10 En11 => ?_
   refine f_o ?_
   refine m_s 0 [.box bw [.slice a (List.length l) c, .bool true] 115, .vec a c 1 (bys l) 5] En11 Hv0 fun ac12 wo13 En14 Hv15 => ?_
   refine f_e ?_
   exact ⟨rfl, ⟨true, En14.sb, Hv15.pk [0, 1], (by first | exact wb1 (by assumption) | exact wb2 (by omega) | exact wb3 (by omega) | exact wb4 (by assumption) (by omega) (by omega))⟩⟩
  ·
   have En16 := En6.fx (t := 15) (congrArg Value.bool hb7)
   have hp17 : ¬ (bad = true) := Bool.eq_false_iff.1 hb7
   refine d_k [0,1,2,3,4,10,21] [] 12 En16 fun ac18 En19 => ?_
   rcases Bool.eq_false_or_eq_true (decide (((List.length b : Nat) : Int) < ((x : Nat) : Int))) with hb20 | hb20
   ·
    have En21 := En19.fx (t := 21) (congrArg Value.bool hb20)
    have hp22 : ((List.length b : Nat) : Int) < ((x : Nat) : Int) := of_decide_eq_true hb20
    refine d_k [0,1,2,3,4,34,36] [] 27 En21 fun ac23 En24 => ?_
    refine f_o ?_
    refine m_s 0 [.box bw [.slice a (List.length l) c, .bool true] 115, .vec a c 1 (bys l) 5] En24 Hv0 fun ac25 wo26 En27 Hv28 => ?_
    refine f_e ?_
    exact ⟨rfl, ⟨true, En27.sb, Hv28.pk [0, 1], (by first | exact wb1 (by assumption) | exact wb2 (by omega) | exact wb3 (by omega) | exact wb4 (by assumption) (by omega) (by omega))⟩⟩
   ·
    have En29 := En19.fx (t := 21) (congrArg Value.bool hb20)
    have hp30 : ¬ (((List.length b : Nat) : Int) < ((x : Nat) : Int)) := of_decide_eq_false hb20
    refine d_k [0,1,2,3,4,10,27] [] 18 En29 fun ac31 En32 => ?_
    rcases Bool.eq_false_or_eq_true (decide (((List.length b : Nat) : Int) > ((y : Nat) : Int))) with hb33 | hb33
    ·
     have En34 := En32.fx (t := 27) (congrArg Value.bool hb33)
     have hp35 : ((List.length b : Nat) : Int) > ((y : Nat) : Int) := of_decide_eq_true hb33
     refine d_k [0,1,2,3,4,34,36] [] 27 En34 fun ac36 En37 => ?_
     refine f_o ?_
     refine m_s 0 [.box bw [.slice a (List.length l) c, .bool true] 115, .vec a c 1 (bys l) 5] En37 Hv0 fun ac38 wo39 En40 Hv41 => ?_
     refine f_e ?_
     exact ⟨rfl, ⟨true, En40.sb, Hv41.pk [0, 1], (by first | exact wb1 (by assumption) | exact wb2 (by omega) | exact wb3 (by omega) | exact wb4 (by assumption) (by omega) (by omega))⟩⟩
    ·
     have En42 := En32.fx (t := 27) (congrArg Value.bool hb33)
     have hp43 : ¬ (((List.length b : Nat) : Int) > ((y : Nat) : Int)) := of_decide_eq_false hb33
     refine d_k [0,1,2,3,4,10,27,29,31] [(21, g_n (w_m 8 n))] 22 En42 fun ac44 En45 => ?_
     refine f_o ?_
     refine q_v En45 (Go.Dbr.run_shr_i64 (List.length b) .i64 (8 * n) (by omega) _) fun ac46 En47 => ?_
     refine d_k [0,1,2,3,4,34,36] [] 27 En47 fun ac48 En49 => ?_
     refine f_o ?_
     refine m_s 0 [.box bw [.slice a (List.length l) c, .bool (decide ((((List.length b) / 2 ^ (8 * n) : Nat) : Int) > (0 : Int)))] 115, .vec a c 1 (bys l) 5] En49 Hv0 fun ac50 wo51 En52 Hv53 => ?_
     refine f_e ?_
     exact ⟨rfl, ⟨(decide ((((List.length b) / 2 ^ (8 * n) : Nat) : Int) > (0 : Int))), En52.sb, Hv53.pk [0, 1], (by first | exact wb1 (by assumption) | exact wb2 (by omega) | exact wb3 (by omega) | exact wb4 (by assumption) (by omega) (by omega))⟩⟩
 ·
  rintro ac54 wo55 ⟨bd, En56, Hv57, hbd⟩
  refine then_normal ?_
  refine wp_seq ?_
  refine region_from ?_
  refine d_k [0,1,2,3,4,37,38,41] [(4, g_i .u64 (Go.Dbr.nat_to_u64 (a := ((List.length b : Nat) : Int)) (n := List.length b) rfl))] 5 En56 fun ac58 En59 => ?_
  refine f_o ?_
  refine c_l [0,1] (M := [.box bw [.slice a (List.length l) c, .bool bd] 115, .vec a c 1 (bys l) 5]) En59 Hv57 (fun hM62 => wnum_go _ bw a c l bd n (by omega) (UInt64.ofNat (List.length b)) (by first | omega | (simp; omega)) hM62) ?_
  rintro _ wo63 ⟨wa60, wc61, rfl, he64⟩
  refine ⟨_, _, [.box bw [.slice wa60 (List.length (l ++ beN n (UInt64.toNat (UInt64.ofNat (List.length b))))) wc61, .bool bd] 115, .vec wa60 wc61 1 (bys (l ++ beN n (UInt64.toNat (UInt64.ofNat (List.length b))))) 5], rfl, he64, by kernel_rfl, fun ac66 En67 Hv68 => ?_⟩
  refine f_e ?_
  refine then_normal ?_
  refine region_from ?_
  refine d_k [0,1,2,3,4,43,46] [] 4 En67 fun ac69 En70 => ?_
  refine f_o ?_
  refine m_l 0 En70 Hv68 fun ac71 En72 => ?_
  refine d_k [0,1,2,3,4,43,47,48] [] 6 En72 fun ac73 En74 => ?_
  refine f_o ?_
  have hsm75 := ib.small
  refine op_append (d := some 49) (t := 23) (tx := 23) (ty := 23) (k := 1) (p := List.length (l ++ beN n (UInt64.toNat (UInt64.ofNat (List.length b))))) (m := List.length b) (x := .slice ab (List.length b) cb) (bytes := 1) En74 (by kernel_rfl) Hv68 rfl (bys_len _) (Reads.src (size := 1) (tx := 23) (e' := 5) (by kernel_rfl) (ib.ev Hv68).reads (bys_len _) ib.nz (bys_one _)) (by kernel_rfl) (z := .int .u8 0) (by kernel_rfl) rfl (by decide) (by first | omega | (simp [beN_len]; done) | (simp [beN_len]; omega)) (by unfold maxLen; first | omega | (simp [beN_len]; done) | (simp [beN_len]; omega)) ?_
  intro ac80 wo81 ao76 cp77 En82 Hv83 hnz _
  clear hnz
  rw [← bys_append] at Hv83
  have ehz78 : (List.length (l ++ beN n (UInt64.toNat (UInt64.ofNat (List.length b))))) + (List.length b) = List.length ((l ++ beN n (UInt64.toNat (UInt64.ofNat (List.length b)))) ++ b) := (by first | (simp; done) | (simp; omega) | omega)
  rw [ehz78] at En82
  refine d_k [0,1,2,3,4,49,51] [] 9 En82 fun ac84 En85 => ?_
  refine f_o ?_
  refine m_s 0 [.box bw [.slice ao76 (List.length ((l ++ beN n (UInt64.toNat (UInt64.ofNat (List.length b)))) ++ b)) cp77, .bool bd] 115, .vec ao76 cp77 1 (bys ((l ++ beN n (UInt64.toNat (UInt64.ofNat (List.length b)))) ++ b)) 5] En85 Hv83 fun ac86 wo87 En88 Hv89 => ?_
  refine f_e ?_
  refine d_end0 En88 (by kernel_rfl) ?_
  rw [ofNat_id (by omega)] at Hv89
  subst hbd
  exact ⟨ao76, cp77, rfl, Hv89.pk [0, 1]⟩

theorem wdone_t (w : World) (bw : Nat) (a : Option Addr) (c : Nat) (l : Bs) (hH : Heap w [.box bw [.slice a (List.length l) c, .bool true] 115, .vec a c 1 (bys l) 5]) : Calls Try.prog 180 #[pt bw] w fun e w' => ∃ a' c', e = .returned (.slice a' (List.length (doneL true l)) c') ∧ Ev w [.box bw [.slice a (List.length l) c, .bool true] 115, .vec a c 1 (bys l) 5] w' [.vec a' c' 1 (bys (doneL true l)) 5] := by
 refine d_0 [(0, pt bw)] 11 Go.Proofs.Try.func180 Go.Proofs.Try.ntmps180 (hH) fun act0 En0 Hv0 => ?_
 refine d_s [0,2] [] En0 fun ac1 En2 => ?_
 refine wp_seq ?_
 refine wp_seq ?_
 refine region_from ?_
 refine d_k [0,2,5] [] 3 En2 fun ac3 En4 => ?_
 refine f_o ?_
 refine m_l 0 En4 Hv0 fun ac5 En6 => ?_
 refine f_e ?_
 refine then_normal ?_
 refine c_t En6 ?_
 refine d_s [0,2] [] En6 fun ac7 En8 => ?_
 refine wp_ret ?_
 refine then_ret ?_
 refine d_ret1 (t := 2) (v := .slice none 0 0) En8 (by kernel_rfl) (by kernel_rfl) ?_
 exact ⟨none, 0, rfl, (Ev.nil (sz := 1) (T := 5) Hv0).pk [2]⟩

theorem wdone_f (w : World) (bw : Nat) (a : Option Addr) (c : Nat) (l : Bs) (hH : Heap w [.box bw [.slice a (List.length l) c, .bool false] 115, .vec a c 1 (bys l) 5]) : Calls Try.prog 180 #[pt bw] w fun e w' => ∃ a' c', e = .returned (.slice a' (List.length (doneL false l)) c') ∧ Ev w [.box bw [.slice a (List.length l) c, .bool false] 115, .vec a c 1 (bys l) 5] w' [.vec a' c' 1 (bys (doneL false l)) 5] := by
 refine d_0 [(0, pt bw)] 11 Go.Proofs.Try.func180 Go.Proofs.Try.ntmps180 (hH) fun act0 En0 Hv0 => ?_
 refine d_s [0,2] [] En0 fun ac1 En2 => ?_
 refine wp_seq ?_
 refine wp_seq ?_
 refine region_from ?_
 refine d_k [0,2,5] [] 3 En2 fun ac3 En4 => ?_
 refine f_o ?_
 refine m_l 0 En4 Hv0 fun ac5 En6 => ?_
 refine f_e ?_
 refine then_normal ?_
 refine c_f En6 ?_
 refine wp_skip ?_
 refine then_normal ?_
 refine wp_seq ?_
 refine region_from ?_
 refine d_k [0,2,9] [] 3 En6 fun ac7 En8 => ?_
 refine f_o ?_
 refine m_l 0 En8 Hv0 fun ac9 En10 => ?_
 refine d_e [0,2] [] En10 fun ac11 En12 => ?_
 refine then_normal ?_
 refine wp_ret ?_
 refine d_ret1 (t := 2) (v := .slice a (List.length l) c) En12 (by kernel_rfl) (by kernel_rfl) ?_
 exact ⟨a, c, rfl, Hv0.pk [1]⟩

theorem wdone_go (w : World) (bw : Nat) (a : Option Addr) (c : Nat) (l : Bs) (bad : Bool) (hH : Heap w [.box bw [.slice a (List.length l) c, .bool bad] 115, .vec a c 1 (bys l) 5]) : Calls Try.prog 180 #[pt bw] w fun e w' => ∃ a' c', e = .returned (.slice a' (List.length (doneL bad l)) c') ∧ Ev w [.box bw [.slice a (List.length l) c, .bool bad] 115, .vec a c 1 (bys l) 5] w' [.vec a' c' 1 (bys (doneL bad l)) 5] := by
  cases bad
  · exact wdone_f w bw a c l hH
  · exact wdone_t w bw a c l hH

end Go.Proofs.Ytofecellbfhnjaa

/- Layer 17: frames. -/

namespace Go.Proofs.Ytofecellbfhnjaa
open Go.Dbr
set_option maxRecDepth 100000
set_option maxHeartbeats 2000000
set_option linter.unusedVariables false
set_option linter.unusedSimpArgs false

end Go.Proofs.Ytofecellbfhnjaa

/- Layer 17: the first message of a stream; the bytes that ask again. -/

namespace Go.Proofs.Ytofecellbfhnjaa
open Go.Dbr
set_option maxRecDepth 100000
set_option maxHeartbeats 2000000
set_option linter.unusedVariables false
set_option linter.unusedSimpArgs false

end Go.Proofs.Ytofecellbfhnjaa

/- Layer 17: parts are written as a list; a host's name; the head. -/

namespace Go.Proofs.Ytofecellbfhnjaa
open Go.Dbr
set_option maxRecDepth 100000
set_option maxHeartbeats 2000000
set_option linter.unusedVariables false
set_option linter.unusedSimpArgs false

abbrev RStr := List UInt8
abbrev fStr : RStr → List Value := (fun l : List UInt8 => [.string (bstr l)])
abbrev WS := Bs × Bool
/-- parts, one behind the other -/
def allM {β : Type} (F : WS → β → WS) (ps : List β) : WS := List.foldl F ([], false) ps
theorem allM_take {β γ : Type} {F : WS → β → WS} {f : γ → β} {xs : List γ} {i : Nat} {x : γ} (h : xs[i]? = some x) : allM F (List.take (i + 1) (List.map f xs)) = F (allM F (List.take i (List.map f xs))) (f x) := by
  rw [List.take_add_one, List.getElem?_map, h]
  show allM F (_ ++ [f x]) = _
  rw [allM, List.foldl_append]
  rfl
theorem allM_all {β γ : Type} {F : WS → β → WS} {f : γ → β} {xs : List γ} {i : Nat} (h : ¬ i < xs.length) : allM F (List.take i (List.map f xs)) = allM F (List.map f xs) := by
  rw [List.take_of_length_le (by rw [List.length_map]; omega)]
theorem wput_len (n : Nat) (l b : Bs) : (wput n l b).length = l.length + n + b.length := by rw [wput, List.length_append, List.length_append, beN_len]
theorem or_t {a b : Bool} (h : a = true) : true = (a || b) := by subst h; rfl
theorem or_f {a b : Bool} (h : ¬ a = true) : b = (a || b) := by rw [Bool.eq_false_iff.2 h]; rfl

def nmF (p : WS) (t : Bs) : WS := (wput 2 (p.1 ++ [0]) t, wbad 2 1 65535 t.length p.2)

theorem putname11 (w : World) (bw : Nat) (a : Option Addr) (c : Nat) (l : Bs) (bad : Bool) (t : Bs) (ht : List.length t ≤ 140737489403904) (hb : List.length l + 3 + List.length t ≤ 200000000000000) (hH : Heap w [.box bw [.slice a (List.length l) c, .bool bad] 115, .vec a c 1 (bys l) 5]) : Calls Try.prog 109 #[pt bw, .string (bstr t)] w fun e w' => ∃ a' c', e = .returned (.tuple #[]) ∧ Ev w [.box bw [.slice a (List.length l) c, .bool bad] 115, .vec a c 1 (bys l) 5] w' [.box bw [.slice a' (List.length ((nmF (l, bad) t).1)) c', .bool ((nmF (l, bad) t).2)] 115, .vec a' c' 1 (bys ((nmF (l, bad) t).1)) 5] := by
 refine d_0 [(0, pt bw), (1, .string (bstr t))] 17 Go.Proofs.Try.func109 Go.Proofs.Try.ntmps109 (hH) fun act0 En0 Hv0 => ?_
 refine wp_seq ?_
 refine region_from ?_
 refine d_k [0,1,4,7] [] 4 En0 fun ac1 En2 => ?_
 refine f_o ?_
 refine m_l 0 En2 Hv0 fun ac3 En4 => ?_
 refine f_o ?_
 refine op_lit (d := some 9) (t := 23) (T := 5) (m := 1) (parts := #[(0, .int .u8 0)]) (xs := bys [(0 : UInt8)]) (sz := 1) En4 (by kernel_rfl) (by kernel_rfl) rfl (by decide) Hv0 ?_
 intro ac6 wo7 bk5 En8 Hv9
 refine f_o ?_
 refine op_append (d := some 10) (t := 23) (tx := 23) (ty := 23) (k := 1) (p := List.length l) (m := 1) (x := .slice (some ⟨bk5, 0, none⟩) 1 1) (bytes := 1) En8 (by kernel_rfl) Hv9 rfl (bys_len _) (Reads.src (size := 1) (tx := 23) (e' := 5) (by kernel_rfl) (Hv9.heap.reads (k := 2) rfl) rfl (fun e => by cases e) (bys_one _)) (by kernel_rfl) (z := .int .u8 0) (by kernel_rfl) rfl (by decide) (by first | omega | (simp [beN_len]; done) | (simp [beN_len]; omega)) (by unfold maxLen; first | omega | (simp [beN_len]; done) | (simp [beN_len]; omega)) ?_
 intro ac14 wo15 ao10 cp11 En16 Hv17 hnz _
 clear hnz
 rw [← bys_append] at Hv17
 have ehz12 : (List.length l) + 1 = List.length (l ++ [(0 : UInt8)]) := (by first | (simp; done) | (simp; omega) | omega)
 rw [ehz12] at En16
 refine d_k [0,1,10,12] [] 9 En16 fun ac18 En19 => ?_
 refine f_o ?_
 refine m_s 0 [.box bw [.slice ao10 (List.length (l ++ [(0 : UInt8)])) cp11, .bool bad] 115, .vec ao10 cp11 1 (bys (l ++ [(0 : UInt8)])) 5, .vec (some ⟨bk5, 0, none⟩) 1 1 (bys [(0 : UInt8)]) 5] En19 Hv17 fun ac20 wo21 En22 Hv23 => ?_
 refine f_e ?_
 refine then_normal ?_
 refine region_from ?_
 refine d_k [0,13,14] [] 2 En22 fun ac24 En25 => ?_
 refine f_o ?_
 refine op_bytes (d := some 15) (src := 9) (dst := 23) (e := 5) (s := t) En25 (by kernel_rfl) (by kernel_rfl) (by kernel_rfl) (by kernel_rfl) Hv23 (by unfold maxLen; first | omega | (simp; omega)) ?_
 intro ac29 wo30 bk26 cp27 En31 Hv32 hcb28
 refine f_o ?_
 refine c_l [0,1] (M := [.box bw [.slice ao10 (List.length (l ++ [(0 : UInt8)])) cp11, .bool bad] 115, .vec ao10 cp11 1 (bys (l ++ [(0 : UInt8)])) 5]) En31 Hv32 (fun hM35 => wlist_go _ bw ao10 cp11 (l ++ [(0 : UInt8)]) bad 2 (by omega) 1 65535 (by omega) (by omega) (some ⟨bk26, 0, none⟩) cp27 t (bys_in Hv32.heap (k := 3) rfl [0, 1] (by kernel_rfl) rfl (by first | omega | (simp; done) | (simp; omega))) (by simp; omega) hM35) ?_
 rintro _ wo36 ⟨wa33, wc34, rfl, he37⟩
 refine ⟨_, _, [.box bw [.slice wa33 (List.length (wput 2 (l ++ [(0 : UInt8)]) t)) wc34, .bool (wbad 2 1 65535 (List.length t) bad)] 115, .vec wa33 wc34 1 (bys (wput 2 (l ++ [(0 : UInt8)]) t)) 5, .vec (some ⟨bk5, 0, none⟩) 1 1 (bys [(0 : UInt8)]) 5, .vec (some ⟨bk26, 0, none⟩) cp27 1 (bys t) 5], rfl, he37, by kernel_rfl, fun ac39 En40 Hv41 => ?_⟩
 refine f_e ?_
 refine d_end0 En40 (by kernel_rfl) ?_
 exact ⟨wa33, wc34, rfl, Hv41.pk [0, 1]⟩

theorem all_str (w : World) (bw : Nat) (a : Option Addr) (c : Nat) (l : Bs) (bad : Bool) (n : Nat) (hn : n ≤ 4) (x : Nat) (hx : x ≤ 4294967295) (al : Option Addr) (cl : Nat) (xs : List RStr) (il : InS fStr 16 (fun y : RStr => (List.length y ≤ 140737488351232)) w [.box bw [.slice a (List.length l) c, .bool bad] 115, .vec a c 1 (bys l) 5] al cl xs) (hfb : ∀ i, i ≤ List.length xs → List.length (allM nmF (List.take i (List.map (fun y : RStr => y) xs))).1 ≤ 140737489403904) (hb : List.length l + n + List.length (allM nmF (List.map (fun y : RStr => y) xs)).1 ≤ 200000000000000) (hH : Heap w [.box bw [.slice a (List.length l) c, .bool bad] 115, .vec a c 1 (bys l) 5]) : Calls Try.prog 108 #[pt bw, ni n, ni x, .slice al (List.length xs) cl, .func (.func 109) #[] #[]] w fun e w' => ∃ a' c', e = .returned (.tuple #[]) ∧ Ev w [.box bw [.slice a (List.length l) c, .bool bad] 115, .vec a c 1 (bys l) 5] w' [.box bw [.slice a' (List.length (wput n l (allM nmF (List.map (fun y : RStr => y) xs)).1)) c', .bool (wbad n x 16777215 (List.length (allM nmF (List.map (fun y : RStr => y) xs)).1) (bad || (allM nmF (List.map (fun y : RStr => y) xs)).2))] 115, .vec a' c' 1 (bys (wput n l (allM nmF (List.map (fun y : RStr => y) xs)).1)) 5] := by
 have hxs := il.small
 have hxc := il.cap
 refine d_0 [(0, pt bw), (1, ni n), (2, ni x), (3, .slice al (List.length xs) cl), (4, .func (.func 109) #[] #[])] 47 Go.Proofs.Try.func108 Go.Proofs.Try.ntmps108 (hH) fun act0 En0 Hv0 => ?_
 refine wp_seq ?_
 refine region_from ?_
 refine d_k [0,1,2,3,4,13] [] 1 En0 fun ac1 En2 => ?_
 refine f_o ?_
 refine m_m 115 [.slice none 0 0, .bool false] En2 Hv0 fun ac4 wo5 bk3 En6 Hv7 => ?_
 refine d_e [0,1,2,3,4,10] [] En6 fun ac8 En9 => ?_
 refine then_normal ?_
 refine wp_seq ?_
 refine wp_seq ?_
 refine d_r [0,1,2,4,10,15,16,17] [] En9 fun ac10 En11 => ?_
 refine then_normal ?_
 refine wp_block ?_
 have Hv12 : Ev w [.box bw [.slice a (List.length l) c, .bool bad] 115, .vec a c 1 (bys l) 5] wo5 [.box bw [.slice a (List.length l) c, .bool bad] 115, .vec a c 1 (bys l) 5, .box bk3 [.slice none 0 0, .bool false] 115, .vec none 0 1 (bys []) 5] := Ev.nil (sz := 1) (T := 5) Hv7
 refine loop_m (fun ms13 ac wo => ∃ (i : Nat) (wa : Option Addr) (wc : Nat) (m : Bs) (bd : Bool), ms13 = (List.length xs + 1 - i : Nat) ∧ Env ac 47 [(0, pt bw), (1, ni n), (2, ni x), (4, .func (.func 109) #[] #[]), (10, pt bk3), (15, .slice al (List.length xs) cl), (16, .int .i64 ((List.length xs : Nat) : Int)), (17, ni i)] ∧ Ev w [.box bw [.slice a (List.length l) c, .bool bad] 115, .vec a c 1 (bys l) 5] wo [.box bw [.slice a (List.length l) c, .bool bad] 115, .vec a c 1 (bys l) 5, .box bk3 [.slice wa (List.length m) wc, .bool bd] 115, .vec wa wc 1 (bys m) 5] ∧ ((m, bd) = allM nmF (List.take i (List.map (fun y : RStr => y) xs)))) ⟨_, 0, none, 0, [], false, rfl, En11.sb, Hv12.pk [0, 1, 2, 3], rfl⟩ ?_
 rintro mm19 ac15 wo16 ⟨i, wa, wc, m, bd, rfl, En17, Hv18, hfo⟩
 refine wp_seq ?_
 refine d_r [0,1,2,4,10,15,16,17,18] [] En17 fun ac20 En21 => ?_
 refine then_normal ?_
 refine wp_seq ?_
 refine c_d (((i : Nat) : Int) < ((List.length xs : Nat) : Int)) En21 (fun hc22 => ?_) (fun hc22 => ?_)
 ·
  refine wp_skip ?_
  refine then_normal ?_
  refine wp_seq ?_
  refine wp_block ?_
  refine wp_seq ?_
  have hb25 : i < List.length xs := (by omega)
  obtain ⟨adr23, had24⟩ := some_of il.nz hb25
  have hb26 : i < List.length xs := by omega
  obtain ⟨x28, hx27⟩ : ∃ x, (xs)[i]? = some x := ⟨_, List.getElem?_eq_getElem hb26⟩
  obtain s_x28 := il.each _ (List.mem_of_getElem? hx27)
  replace s_x28 : (List.length x28 ≤ 140737488351232) := s_x28
  refine region_from ?_
  refine f_o ?_
  refine q_v (x := Instr.indexAt 33 (.slice al (List.length xs) cl) (ni i)) (v := .pointer (some (Addr.add adr23 i))) En21 (Go.Dbr.run_indexsl (e := 9) (sz := 1) (j := i) (jo := i) had24 (by kernel_rfl) (by kernel_rfl) (by omega) hb25 (Nat.mul_one _) _) fun ac29 En30 => ?_
  refine f_o ?_
  refine op_loadf (d := some 20) (t := 9) (ad := adr23) (ao := al) (ys := List.flatMap fStr xs) (o := i) (v := .string (bstr x28)) En30 (by kernel_rfl) rfl (il.ro.ev Hv18).reads had24 ((flat_get1 (fun _ _ => rfl) hx27).trans rfl) (by kernel_rfl) ?_
  intro ac31 En32
  refine d_e [0,1,2,4,10,12,15,16,17] [] En32 fun ac33 En34 => ?_
  refine then_normal ?_
  have hnb := hfb (i + 1) (by omega)
  rw [allM_take hx27, ← hfo] at hnb
  have hnc := hnb
  simp only [nmF, wput_len, List.length_append, List.length_singleton] at hnc
  refine region_from ?_
  refine d_k [0,1,2,4,10,15,16,17,21,22,23] [] 3 En34 fun ac35 En36 => ?_
  refine f_o ?_
  refine c_l [2,3] (M := [.box bk3 [.slice wa (List.length m) wc, .bool bd] 115, .vec wa wc 1 (bys m) 5]) En36 Hv18 (fun hM39 => putname11 _ bk3 wa wc m bd x28 (by omega) (by omega) hM39) ?_
  rintro _ wo40 ⟨wa37, wc38, rfl, he41⟩
  refine ⟨_, _, [.box bk3 [.slice wa37 (List.length ((nmF (m, bd) x28).1)) wc38, .bool ((nmF (m, bd) x28).2)] 115, .vec wa37 wc38 1 (bys ((nmF (m, bd) x28).1)) 5, .box bw [.slice a (List.length l) c, .bool bad] 115, .vec a c 1 (bys l) 5], rfl, he41, by kernel_rfl, fun ac43 En44 Hv45 => ?_⟩
  refine f_e ?_
  refine block_normal ?_
  refine then_normal ?_
  refine d_r [0,1,2,4,10,15,16,17] [(0, g_n (w_a i 1))] En44 fun ac46 En47 => ?_
  refine then_normal ?_
  refine ⟨_, ⟨i + 1, wa37, wc38, ((nmF (m, bd) x28).1), ((nmF (m, bd) x28).2), rfl, En47.sb, Hv45.pk [2, 3, 0, 1], (by rw [allM_take hx27, ← hfo] <;> rfl)⟩, ?_⟩
  omega
 ·
  refine wp_exit ?_
  refine then_exit ?_
  refine then_exit ?_
  refine block_exit ?_
  refine then_normal ?_
  refine wp_seq ?_
  have hfe := allM_all (F := nmF) (f := (fun y : RStr => y)) (xs := xs) (i := i) (by omega)
  rw [← hfo] at hfe
  refine region_cut (F := fun ac wo => ∃ (b2 : Bool), Env ac 47 [(0, pt bw), (1, ni n), (2, ni x), (4, .func (.func 109) #[] #[]), (10, pt bk3), (15, .slice al (List.length xs) cl), (16, .int .i64 ((List.length xs : Nat) : Int)), (17, ni i)] ∧ Ev w [.box bw [.slice a (List.length l) c, .bool bad] 115, .vec a c 1 (bys l) 5] wo [.box bw [.slice a (List.length l) c, .bool b2] 115, .vec a c 1 (bys l) 5, .box bk3 [.slice wa (List.length m) wc, .bool bd] 115, .vec wa wc 1 (bys m) 5] ∧ (b2 = (bad || bd))) ?_ ?_
  ·
   refine region_from ?_
   refine d_k [0,1,2,4,10,15,16,17,26,29] [] 4 En21 fun ac48 En49 => ?_
   refine f_o ?_
   refine m_l 0 En49 Hv18 fun ac50 En51 => ?_
   refine d_k [0,1,2,4,10,15,16,17,26,31] [] 6 En51 fun ac52 En53 => ?_
   rcases Bool.eq_false_or_eq_true (bad) with hb54 | hb54
   ·
    have En55 := En53.fx (t := 31) (congrArg Value.bool hb54)
    have hp56 : bad = true := hb54
    refine d_k [0,1,2,4,10,15,16,17,36,38] [] 13 En55 fun ac57 En58 => ?_
    refine f_o ?_
    refine m_s 0 [.box bw [.slice a (List.length l) c, .bool true] 115, .vec a c 1 (bys l) 5, .box bk3 [.slice wa (List.length m) wc, .bool bd] 115, .vec wa wc 1 (bys m) 5] En58 Hv18 fun ac59 wo60 En61 Hv62 => ?_
    refine f_e ?_
    exact ⟨rfl, ⟨true, En61.sb, Hv62.pk [0, 1, 2, 3], (by first | exact or_t (by assumption) | exact or_f (by assumption))⟩⟩
   ·
    have En63 := En53.fx (t := 31) (congrArg Value.bool hb54)
    have hp64 : ¬ (bad = true) := Bool.eq_false_iff.1 hb54
    refine d_k [0,1,2,4,10,15,16,17,26,31,34] [] 9 En63 fun ac65 En66 => ?_
    refine f_o ?_
    refine m_l 2 En66 Hv18 fun ac67 En68 => ?_
    refine d_k [0,1,2,4,10,15,16,17,36,38] [] 13 En68 fun ac69 En70 => ?_
    refine f_o ?_
    refine m_s 0 [.box bw [.slice a (List.length l) c, .bool bd] 115, .vec a c 1 (bys l) 5, .box bk3 [.slice wa (List.length m) wc, .bool bd] 115, .vec wa wc 1 (bys m) 5] En70 Hv18 fun ac71 wo72 En73 Hv74 => ?_
    refine f_e ?_
    exact ⟨rfl, ⟨bd, En73.sb, Hv74.pk [0, 1, 2, 3], (by first | exact or_t (by assumption) | exact or_f (by assumption))⟩⟩
  ·
   rintro ac75 wo76 ⟨b2, En77, Hv78, hb2⟩
   refine then_normal ?_
   have hml := hfb (List.length xs) (Nat.le_refl _)
   rw [List.take_of_length_le (by rw [List.length_map]; exact Nat.le_refl _), ← hfe] at hml
   rw [← hfe] at hb
   refine region_from ?_
   refine d_k [0,4,10,15,16,17,39,40,41,44] [] 6 En77 fun ac79 En80 => ?_
   refine f_o ?_
   refine m_l 2 En80 Hv78 fun ac81 En82 => ?_
   refine f_o ?_
   refine c_l [0,1] (M := [.box bw [.slice a (List.length l) c, .bool b2] 115, .vec a c 1 (bys l) 5]) En82 Hv78 (fun hM85 => wlist_go _ bw a c l b2 n (by omega) x 16777215 (by omega) (by omega) wa wc m (bys_in Hv78.heap (k := 3) rfl [0, 1] (by kernel_rfl) rfl (by first | omega | (simp; done) | (simp; omega))) (by first | exact hb | omega) hM85) ?_
   rintro _ wo86 ⟨wa83, wc84, rfl, he87⟩
   refine ⟨_, _, [.box bw [.slice wa83 (List.length (wput n l m)) wc84, .bool (wbad n x 16777215 (List.length m) b2)] 115, .vec wa83 wc84 1 (bys (wput n l m)) 5, .box bk3 [.slice wa (List.length m) wc, .bool bd] 115, .vec wa wc 1 (bys m) 5], rfl, he87, by kernel_rfl, fun ac89 En90 Hv91 => ?_⟩
   refine f_e ?_
   refine d_end0 En90 (by kernel_rfl) ?_
   subst hb2
   rw [← hfe]
   exact ⟨wa83, wc84, rfl, Hv91.pk [0, 1]⟩

end Go.Proofs.Ytofecellbfhnjaa

/- Layer 17: a host's name; the head; what frames ask. -/


namespace Go.Proofs.Ytofecellbfhnjaa
open Go.Dbr
set_option maxRecDepth 100000
set_option maxHeartbeats 2000000
set_option linter.unusedVariables false
set_option linter.unusedSimpArgs false

theorem nm_1 (t : Bs) : allM nmF (List.map (fun y : RStr => y) [t]) = (wput 2 [0] t, wbad 2 1 65535 t.length false) := rfl
theorem nm_bd {t : Bs} (h : t.length ≤ 140737488351232) : ∀ i, i ≤ ([t] : List RStr).length → (allM nmF (List.take i (List.map (fun y : RStr => y) ([t] : List RStr)))).1.length ≤ 140737489403904
  | 0, _ => by show (0 : Nat) ≤ _; omega
  | 1, _ => by
    rw [show List.take 1 (List.map (fun y : RStr => y) ([t] : List RStr)) = List.map (fun y : RStr => y) [t] from rfl, nm_1, wput_len]
    simp only [List.length_singleton]
    omega
  | i + 2, h => by simp at h
/-- a host's name -/
def nmP (t : Bs) : Bs := doneL (wbad 2 0 16777215 (wput 2 [0] t).length (false || wbad 2 1 65535 t.length false)) (wput 2 [] (wput 2 [0] t))

theorem putname1 (w : World) (bw : Nat) (bt : Nat) (t : Bs) (ht : List.length t ≤ 140737488351232) (hH : Heap w [.box bw [.slice none 0 0, .bool false] 115, .vec none 0 1 (bys []) 5, .box bt [.string (bstr t)] 9]) : Calls Try.prog 107 #[pt bw, pt bt] w fun e w' => ∃ a' c', e = .returned (.tuple #[]) ∧ Ev w [.box bw [.slice none 0 0, .bool false] 115, .vec none 0 1 (bys []) 5, .box bt [.string (bstr t)] 9] w' [.box bw [.slice a' (List.length (wput 2 [] (allM nmF (List.map (fun y : RStr => y) ([t] : List (RStr)))).1)) c', .bool (wbad 2 0 16777215 (List.length (allM nmF (List.map (fun y : RStr => y) ([t] : List (RStr)))).1) (false || (allM nmF (List.map (fun y : RStr => y) ([t] : List (RStr)))).2))] 115, .vec a' c' 1 (bys (wput 2 [] (allM nmF (List.map (fun y : RStr => y) ([t] : List (RStr)))).1)) 5] := by
 refine d_0 [(0, pt bw), (1, pt bt)] 7 Go.Proofs.Try.func107 Go.Proofs.Try.ntmps107 (hH) fun act0 En0 Hv0 => ?_
 refine region_from ?_
 refine d_k [1,3] [] 1 En0 fun ac1 En2 => ?_
 refine f_o ?_
 refine m_l 2 En2 Hv0 fun ac3 En4 => ?_
 refine f_o ?_
 refine op_lit (d := some 5) (t := 33) (T := 9) (m := 1) (parts := #[(0, .string (bstr t))]) (xs := List.flatMap fStr ([t] : List (RStr))) (sz := 1) En4 (by kernel_rfl) (by kernel_rfl) rfl (by decide) Hv0 ?_
 intro ac6 wo7 bk5 En8 Hv9
 refine f_o ?_
 refine c_l [0,1] (M := [.box bw [.slice none 0 0, .bool false] 115, .vec none 0 1 (bys []) 5]) En8 Hv9 (fun hM12 => all_str _ bw none 0 [] false 2 (by omega) 0 (by omega) (some ⟨bk5, 0, none⟩) 1 ([t] : List (RStr)) (Hv9.heap.innS (k := 3) (f := fStr) (sz := 1) (by_ := 16) rfl (fun _ => rfl) (by decide) [0, 1] (by kernel_rfl) rfl (show 1 * 16 ≤ 140737488351232 by decide) (fun y hy => by obtain rfl := List.mem_singleton.1 hy; exact ht)) (nm_bd ht) (by rw [nm_1, wput_len]; simp; omega) hM12) ?_
 rintro _ wo13 ⟨wa10, wc11, rfl, he14⟩
 refine ⟨_, _, [.box bw [.slice wa10 (List.length (wput 2 [] (allM nmF (List.map (fun y : RStr => y) ([t] : List (RStr)))).1)) wc11, .bool (wbad 2 0 16777215 (List.length (allM nmF (List.map (fun y : RStr => y) ([t] : List (RStr)))).1) (false || (allM nmF (List.map (fun y : RStr => y) ([t] : List (RStr)))).2))] 115, .vec wa10 wc11 1 (bys (wput 2 [] (allM nmF (List.map (fun y : RStr => y) ([t] : List (RStr)))).1)) 5, .box bt [.string (bstr t)] 9, .vec (some ⟨bk5, 0, none⟩) 1 1 (List.flatMap fStr ([t] : List (RStr))) 9], rfl, he14, by kernel_rfl, fun ac16 En17 Hv18 => ?_⟩
 refine f_e ?_
 refine d_end0 En17 (by kernel_rfl) ?_
 exact ⟨wa10, wc11, rfl, Hv18.pk [0, 1]⟩

theorem put_name (w : World) (bt : Nat) (t : Bs) (ht : List.length t ≤ 140737488351232) (hH : Heap w [.box bt [.string (bstr t)] 9]) : Calls Try.prog 99 #[.func (.func 107) #[] #[pt bt]] w fun e w' => ∃ a' c', e = .returned (.slice a' (List.length (doneL (wbad 2 0 16777215 (List.length (allM nmF (List.map (fun y : RStr => y) ([t] : List (RStr)))).1) (false || (allM nmF (List.map (fun y : RStr => y) ([t] : List (RStr)))).2)) (wput 2 [] (allM nmF (List.map (fun y : RStr => y) ([t] : List (RStr)))).1))) c') ∧ Ev w [.box bt [.string (bstr t)] 9] w' [.vec a' c' 1 (bys (doneL (wbad 2 0 16777215 (List.length (allM nmF (List.map (fun y : RStr => y) ([t] : List (RStr)))).1) (false || (allM nmF (List.map (fun y : RStr => y) ([t] : List (RStr)))).2)) (wput 2 [] (allM nmF (List.map (fun y : RStr => y) ([t] : List (RStr)))).1))) 5] := by
 refine d_0 [(0, .func (.func 107) #[] #[pt bt])] 11 Go.Proofs.Try.func99 Go.Proofs.Try.ntmps99 (hH) fun act0 En0 Hv0 => ?_
 refine d_s [0,2] [] En0 fun ac1 En2 => ?_
 refine wp_seq ?_
 refine region_from ?_
 refine d_k [0,2,4] [] 1 En2 fun ac3 En4 => ?_
 refine f_o ?_
 refine m_m 115 [.slice none 0 0, .bool false] En4 Hv0 fun ac6 wo7 bk5 En8 Hv9 => ?_
 refine d_e [0,2,3] [] En8 fun ac10 En11 => ?_
 refine then_normal ?_
 refine wp_seq ?_
 refine region_from ?_
 refine d_k [2,3,6,7] [] 2 En11 fun ac12 En13 => ?_
 refine f_o ?_
 have Hv14 : Ev w [.box bt [.string (bstr t)] 9] wo7 [.box bt [.string (bstr t)] 9, .box bk5 [.slice none 0 0, .bool false] 115, .vec none 0 1 (bys []) 5] := Ev.nil (sz := 1) (T := 5) Hv9
 refine c_l [1,2,0] (M := [.box bk5 [.slice none 0 0, .bool false] 115, .vec none 0 1 (bys []) 5, .box bt [.string (bstr t)] 9]) En13 Hv14 (fun hM17 => putname1 _ bk5 bt t ht hM17) ?_
 rintro _ wo18 ⟨wa15, wc16, rfl, he19⟩
 refine ⟨_, _, [.box bk5 [.slice wa15 (List.length (wput 2 [] (allM nmF (List.map (fun y : RStr => y) ([t] : List (RStr)))).1)) wc16, .bool (wbad 2 0 16777215 (List.length (allM nmF (List.map (fun y : RStr => y) ([t] : List (RStr)))).1) (false || (allM nmF (List.map (fun y : RStr => y) ([t] : List (RStr)))).2))] 115, .vec wa15 wc16 1 (bys (wput 2 [] (allM nmF (List.map (fun y : RStr => y) ([t] : List (RStr)))).1)) 5], rfl, he19, by kernel_rfl, fun ac21 En22 Hv23 => ?_⟩
 refine f_e ?_
 refine then_normal ?_
 refine wp_seq ?_
 refine region_from ?_
 refine d_k [2,3,9] [] 1 En22 fun ac24 En25 => ?_
 refine f_o ?_
 refine c_l [0,1] (M := [.box bk5 [.slice wa15 (List.length (wput 2 [] (allM nmF (List.map (fun y : RStr => y) ([t] : List (RStr)))).1)) wc16, .bool (wbad 2 0 16777215 (List.length (allM nmF (List.map (fun y : RStr => y) ([t] : List (RStr)))).1) (false || (allM nmF (List.map (fun y : RStr => y) ([t] : List (RStr)))).2))] 115, .vec wa15 wc16 1 (bys (wput 2 [] (allM nmF (List.map (fun y : RStr => y) ([t] : List (RStr)))).1)) 5]) En25 Hv23 (fun hM28 => wdone_go _ bk5 wa15 wc16 (wput 2 [] (allM nmF (List.map (fun y : RStr => y) ([t] : List (RStr)))).1) (wbad 2 0 16777215 (List.length (allM nmF (List.map (fun y : RStr => y) ([t] : List (RStr)))).1) (false || (allM nmF (List.map (fun y : RStr => y) ([t] : List (RStr)))).2)) hM28) ?_
 rintro _ wo29 ⟨da26, dc27, rfl, he30⟩
 refine ⟨_, _, [.vec da26 dc27 1 (bys (doneL (wbad 2 0 16777215 (List.length (allM nmF (List.map (fun y : RStr => y) ([t] : List (RStr)))).1) (false || (allM nmF (List.map (fun y : RStr => y) ([t] : List (RStr)))).2)) (wput 2 [] (allM nmF (List.map (fun y : RStr => y) ([t] : List (RStr)))).1))) 5], rfl, he30, by kernel_rfl, fun ac32 En33 Hv34 => ?_⟩
 refine d_e [2,3] [] En33 fun ac35 En36 => ?_
 refine then_normal ?_
 refine wp_ret ?_
 refine d_ret1 (t := 2) (v := .slice da26 (List.length (doneL (wbad 2 0 16777215 (List.length (allM nmF (List.map (fun y : RStr => y) ([t] : List (RStr)))).1) (false || (allM nmF (List.map (fun y : RStr => y) ([t] : List (RStr)))).2)) (wput 2 [] (allM nmF (List.map (fun y : RStr => y) ([t] : List (RStr)))).1))) dc27) En36 (by kernel_rfl) (by kernel_rfl) ?_
 exact ⟨da26, dc27, rfl, Hv34.pk [0]⟩

theorem putname_go (w : World) (t : Bs) (ht : List.length t ≤ 140737488351232) : Calls Try.prog 17 #[.string (bstr t)] w fun e w' => ∃ a' c', e = .returned (.slice a' (List.length (nmP t)) c') ∧ Ev w [] w' [.vec a' c' 1 (bys (nmP t)) 5] := by
 refine d_0 [(0, .string (bstr t))] 5 Go.Proofs.Try.func17 Go.Proofs.Try.ntmps17 (Heap.nil _) fun act0 En0 Hv0 => ?_
 refine wp_seq ?_
 refine region_from ?_
 refine f_o ?_
 refine m_m 9 [.string (bstr t)] En0 Hv0 fun ac2 wo3 bk1 En4 Hv5 => ?_
 refine d_e [1,2] [] En4 fun ac6 En7 => ?_
 refine then_normal ?_
 refine wp_seq ?_
 refine region_from ?_
 refine d_k [2,3] [] 1 En7 fun ac8 En9 => ?_
 refine f_o ?_
 refine c_l [0] (M := [.box bk1 [.string (bstr t)] 9]) En9 Hv5 (fun hM12 => put_name _ bk1 t ht hM12) ?_
 rintro _ wo13 ⟨pa10, pc11, rfl, he14⟩
 refine ⟨_, _, [.vec pa10 pc11 1 (bys (nmP t)) 5], rfl, he14, by kernel_rfl, fun ac16 En17 Hv18 => ?_⟩
 refine d_e [2] [] En17 fun ac19 En20 => ?_
 refine then_normal ?_
 refine wp_ret ?_
 refine d_ret1 (t := 2) (v := .slice pa10 (List.length (nmP t)) pc11) En20 (by kernel_rfl) (by kernel_rfl) ?_
 exact ⟨pa10, pc11, rfl, Hv18.pk [0]⟩

theorem head_g : gotA (manyM u16M 2 2 [0, 0] false false) = 50 := by decide +kernel
theorem head_n : nmP [97, 46, 98] = [0, 6, 0, 0, 3, 97, 46, 98] := by decide +kernel

theorem head_ok (w : World) : Calls Try.prog 10 #[] w fun e w' => e = .returned (.bool true) ∧ Ev w [] w' [] := by
 refine d_0 [] 15 Go.Proofs.Try.func10 Go.Proofs.Try.ntmps10 (Heap.nil _) fun act0 En0 Hv0 => ?_
 refine d_s [0] [] En0 fun ac1 En2 => ?_
 refine wp_seq ?_
 refine region_from ?_
 refine f_o ?_
 refine op_lit (d := some 4) (t := 23) (T := 5) (m := 2) (parts := #[(0, .int .u8 0), (1, .int .u8 0)]) (xs := bys [(0 : UInt8), (0 : UInt8)]) (sz := 1) En2 (by kernel_rfl) (by kernel_rfl) rfl (by decide) Hv0 ?_
 intro ac4 wo5 bk3 En6 Hv7
 refine f_o ?_
 refine c_0 En6 Hv7 (getlist_go _ (some ⟨bk3, 0, none⟩) 2 2 [(0 : UInt8), (0 : UInt8)] (by first | rfl | (simp; done) | (simp; omega) | omega) (bys_in Hv7.heap (k := 0) rfl [] (by kernel_rfl) rfl (by first | omega | (simp; done) | (simp; omega)))) ?_
 rintro _ wo14 ⟨oa8, oc9, xs10, rfl, he15, hpu11, hf12⟩
 refine ⟨_, _, _, rfl, he15, rfl, fun ac17 En18 Hv19 => ?_⟩
 refine d_e [0,2] [] En18 fun ac20 En21 => ?_
 refine then_normal ?_
 refine wp_seq ?_
 refine region_from ?_
 refine f_o ?_
 refine c_0 En21 Hv19 (putname_go _ [97, 46, 98] (by first | assumption | decide | omega)) ?_
 rintro _ wo25 ⟨pa22, pc23, rfl, he26⟩
 refine ⟨_, _, _, rfl, he26, rfl, fun ac28 En29 Hv30 => ?_⟩
 refine f_o ?_
 refine op_str (d := some 9) (src := 23) (dst := 9) (e := 5) (ao := pa22) (cap := pc23) (p := List.length (nmP [97, 46, 98])) (bs := nmP [97, 46, 98]) En29 (by kernel_rfl) rfl (by kernel_rfl) (by kernel_rfl) (by kernel_rfl) (Hv30.heap.reads (k := 0) rfl) (bys_vnz Hv30.heap (k := 0) rfl) ?_
 intro ac31 En32
 refine d_e [0] [(2, g_v (show (.bool (ByteArray.toList (bstr (nmP [97, 46, 98])) == ByteArray.toList (bstr [0, 6, 0, 0, 3, 97, 46, 98])) : Value) = .bool true by rw [Go.Dbr.bstr_eq (nmP [97, 46, 98]) [0, 6, 0, 0, 3, 97, 46, 98], show ((nmP [97, 46, 98]) == [0, 6, 0, 0, 3, 97, 46, 98]) = true from (by rw [head_n]; exact beq_self_eq_true _)] <;> rfl)), (5, g_b (show (gotA (manyM u16M 2 2 [(0 : UInt8), (0 : UInt8)] false false) == (50 : Int)) = true from (by rw [head_g]; rfl)))] En32 fun ac33 En34 => ?_
 refine then_normal ?_
 refine wp_ret ?_
 refine d_ret1 (t := 0) (v := .bool true) En34 (by kernel_rfl) (by kernel_rfl) ?_
 exact ⟨rfl, Hv30.pk []⟩

end Go.Proofs.Ytofecellbfhnjaa

/- Layer 17: bytes, numbers, a host's name are read, by both. -/

namespace Go.Proofs.Ytofecellbfhnjaa
open Go.Dbr
set_option maxRecDepth 100000
set_option maxHeartbeats 2000000
set_option linter.unusedVariables false
set_option linter.unusedSimpArgs false

theorem bytes1_go (w : World) (br : Nat) (a : Option Addr) (c : Nat) (l : List UInt8) (s o : Bool) (i : InB w [.box br [.slice a (List.length l) c, .bool s, .bool o] 120] a c l) (hH : Heap w [.box br [.slice a (List.length l) c, .bool s, .bool o] 120]) : Calls Try.prog 155 #[pt br] w fun e w' => ∃ ta tc oa oc bl, e = .returned (.slice oa (List.length bl) oc) ∧ Ev w [.box br [.slice a (List.length l) c, .bool s, .bool o] 120] w' [.box br [.slice ta (List.length ((listM 1 1 255 l s o).2.1)) tc, .bool ((listM 1 1 255 l s o).2.2.1), .bool ((listM 1 1 255 l s o).2.2.2)] 120, .vec oa oc 1 (bys bl) 5] ∧ Sub a c l ta tc (listM 1 1 255 l s o).2.1 ∧ bl = (listM 1 1 255 l s o).1 := by
 refine d_0 [(0, pt br)] 5 Go.Proofs.Try.func155 Go.Proofs.Try.ntmps155 (hH) fun act0 En0 Hv0 => ?_
 refine d_s [0,2] [] En0 fun ac1 En2 => ?_
 refine wp_seq ?_
 refine region_from ?_
 refine d_k [2,3] [] 1 En2 fun ac3 En4 => ?_
 refine f_o ?_
 refine c_l [0] (M := [.box br [.slice a (List.length l) c, .bool s, .bool o] 120]) En4 Hv0 (fun hM10 => list_go _ br 1 (by omega) 1 255 (by omega) (by omega) a c l s o ((i.ev Hv0).pick [0] (by kernel_rfl)) hM10) ?_
 rintro _ wo11 ⟨ao5, cp6, ta7, tc8, rfl, he12, hs9⟩
 refine ⟨_, _, [.box br [.slice ta7 (List.length (lsR 1 1 255 l s)) tc8, .bool (lsS 1 1 255 l s), .bool o] 120, .vec ao5 cp6 1 (bys (lsO 1 1 255 l s)) 5], rfl, he12, by kernel_rfl, fun ac14 En15 Hv16 => ?_⟩
 refine d_e [2] [] En15 fun ac17 En18 => ?_
 refine then_normal ?_
 refine wp_ret ?_
 refine d_ret1 (t := 2) (v := .slice ao5 (List.length (lsO 1 1 255 l s)) cp6) En18 (by kernel_rfl) (by kernel_rfl) ?_
 exact ⟨ta7, tc8, ao5, cp6, (lsO 1 1 255 l s), rfl, Hv16.pk [0, 1], hs9, rfl⟩

theorem bytes2_go (w : World) (br : Nat) (a : Option Addr) (c : Nat) (l : List UInt8) (s o : Bool) (i : InB w [.box br [.slice a (List.length l) c, .bool s, .bool o] 120] a c l) (hH : Heap w [.box br [.slice a (List.length l) c, .bool s, .bool o] 120]) : Calls Try.prog 138 #[pt br] w fun e w' => ∃ ta tc oa oc bl, e = .returned (.slice oa (List.length bl) oc) ∧ Ev w [.box br [.slice a (List.length l) c, .bool s, .bool o] 120] w' [.box br [.slice ta (List.length ((listM 2 1 65535 l s o).2.1)) tc, .bool ((listM 2 1 65535 l s o).2.2.1), .bool ((listM 2 1 65535 l s o).2.2.2)] 120, .vec oa oc 1 (bys bl) 5] ∧ Sub a c l ta tc (listM 2 1 65535 l s o).2.1 ∧ bl = (listM 2 1 65535 l s o).1 := by
 refine d_0 [(0, pt br)] 5 Go.Proofs.Try.func138 Go.Proofs.Try.ntmps138 (hH) fun act0 En0 Hv0 => ?_
 refine d_s [0,2] [] En0 fun ac1 En2 => ?_
 refine wp_seq ?_
 refine region_from ?_
 refine d_k [2,3] [] 1 En2 fun ac3 En4 => ?_
 refine f_o ?_
 refine c_l [0] (M := [.box br [.slice a (List.length l) c, .bool s, .bool o] 120]) En4 Hv0 (fun hM10 => list_go _ br 2 (by omega) 1 65535 (by omega) (by omega) a c l s o ((i.ev Hv0).pick [0] (by kernel_rfl)) hM10) ?_
 rintro _ wo11 ⟨ao5, cp6, ta7, tc8, rfl, he12, hs9⟩
 refine ⟨_, _, [.box br [.slice ta7 (List.length (lsR 2 1 65535 l s)) tc8, .bool (lsS 2 1 65535 l s), .bool o] 120, .vec ao5 cp6 1 (bys (lsO 2 1 65535 l s)) 5], rfl, he12, by kernel_rfl, fun ac14 En15 Hv16 => ?_⟩
 refine d_e [2] [] En15 fun ac17 En18 => ?_
 refine then_normal ?_
 refine wp_ret ?_
 refine d_ret1 (t := 2) (v := .slice ao5 (List.length (lsO 2 1 65535 l s)) cp6) En18 (by kernel_rfl) (by kernel_rfl) ?_
 exact ⟨ta7, tc8, ao5, cp6, (lsO 2 1 65535 l s), rfl, Hv16.pk [0, 1], hs9, rfl⟩

theorem bytes3_go (w : World) (br : Nat) (a : Option Addr) (c : Nat) (l : List UInt8) (s o : Bool) (i : InB w [.box br [.slice a (List.length l) c, .bool s, .bool o] 120] a c l) (hH : Heap w [.box br [.slice a (List.length l) c, .bool s, .bool o] 120]) : Calls Try.prog 171 #[pt br] w fun e w' => ∃ ta tc oa oc bl, e = .returned (.slice oa (List.length bl) oc) ∧ Ev w [.box br [.slice a (List.length l) c, .bool s, .bool o] 120] w' [.box br [.slice ta (List.length ((listM 3 1 16777215 l s o).2.1)) tc, .bool ((listM 3 1 16777215 l s o).2.2.1), .bool ((listM 3 1 16777215 l s o).2.2.2)] 120, .vec oa oc 1 (bys bl) 5] ∧ Sub a c l ta tc (listM 3 1 16777215 l s o).2.1 ∧ bl = (listM 3 1 16777215 l s o).1 := by
 refine d_0 [(0, pt br)] 5 Go.Proofs.Try.func171 Go.Proofs.Try.ntmps171 (hH) fun act0 En0 Hv0 => ?_
 refine d_s [0,2] [] En0 fun ac1 En2 => ?_
 refine wp_seq ?_
 refine region_from ?_
 refine d_k [2,3] [] 1 En2 fun ac3 En4 => ?_
 refine f_o ?_
 refine c_l [0] (M := [.box br [.slice a (List.length l) c, .bool s, .bool o] 120]) En4 Hv0 (fun hM10 => list_go _ br 3 (by omega) 1 16777215 (by omega) (by omega) a c l s o ((i.ev Hv0).pick [0] (by kernel_rfl)) hM10) ?_
 rintro _ wo11 ⟨ao5, cp6, ta7, tc8, rfl, he12, hs9⟩
 refine ⟨_, _, [.box br [.slice ta7 (List.length (lsR 3 1 16777215 l s)) tc8, .bool (lsS 3 1 16777215 l s), .bool o] 120, .vec ao5 cp6 1 (bys (lsO 3 1 16777215 l s)) 5], rfl, he12, by kernel_rfl, fun ac14 En15 Hv16 => ?_⟩
 refine d_e [2] [] En15 fun ac17 En18 => ?_
 refine then_normal ?_
 refine wp_ret ?_
 refine d_ret1 (t := 2) (v := .slice ao5 (List.length (lsO 3 1 16777215 l s)) cp6) En18 (by kernel_rfl) (by kernel_rfl) ?_
 exact ⟨ta7, tc8, ao5, cp6, (lsO 3 1 16777215 l s), rfl, Hv16.pk [0, 1], hs9, rfl⟩

def nmO (l : Bs) (s : Bool) : Bs := tkR 1 (lsO 2 0 65535 l s) (lsS 2 0 65535 l s)
def nmT (l : Bs) (s : Bool) : Bool := tkS 1 (lsO 2 0 65535 l s) (lsS 2 0 65535 l s)
def nmM (l : Bs) (s o : Bool) : Bs × PS := (lsO 2 1 65535 (nmO l s) (nmT l s), lsR 2 0 65535 l s, (lsS 2 0 65535 l s || lsS 2 1 65535 (nmO l s) (nmT l s)) || decide (0 < (lsR 2 1 65535 (nmO l s) (nmT l s)).length), ((nbV 1 (lsO 2 0 65535 l s) (lsS 2 0 65535 l s) : Nat) : Int) != (0 : Int))
theorem or3_1 {a b c : Bool} (h : a = true) : ((a || b) || c) = true := by subst h; rfl
theorem or3_2 {a b c : Bool} (h : b = true) : ((a || b) || c) = true := by subst h; rw [Bool.or_true]; rfl
theorem or3_3 {a b : Bool} {n : Nat} (h : a = false) (h2 : b = false) : ((a || b) || decide (0 < n)) = decide (((n : Nat) : Int) > 0) := by
  subst h h2
  exact decide_eq_decide.2 (by omega)

theorem getname1 (w : World) (br : Nat) (a : Option Addr) (c : Nat) (l : List UInt8) (s o : Bool) (i : InB w [.box br [.slice a (List.length l) c, .bool s, .bool o] 120] a c l) (hH : Heap w [.box br [.slice a (List.length l) c, .bool s, .bool o] 120]) : Calls Try.prog 136 #[pt br] w fun e w' => ∃ ta tc bl, e = .returned (.string (bstr bl)) ∧ Ev w [.box br [.slice a (List.length l) c, .bool s, .bool o] 120] w' [.box br [.slice ta (List.length ((nmM l s o).2.1)) tc, .bool ((nmM l s o).2.2.1), .bool ((nmM l s o).2.2.2)] 120] ∧ Sub a c l ta tc (nmM l s o).2.1 ∧ bl = (nmM l s o).1 := by
 have hO32 := lsO_32 (n := 2) (x := 0) (y := 65535) (by decide) l s
 have hT32 := tkR_len 1 (lsO 2 0 65535 l s) (lsS 2 0 65535 l s)
 refine d_0 [(0, pt br)] 53 Go.Proofs.Try.func136 Go.Proofs.Try.ntmps136 (hH) fun act0 En0 Hv0 => ?_
 refine d_s [0,2] [] En0 fun ac1 En2 => ?_
 refine wp_seq ?_
 refine region_from ?_
 refine d_k [0,2,6] [] 1 En2 fun ac3 En4 => ?_
 refine f_o ?_
 refine c_l [0] (M := [.box br [.slice a (List.length l) c, .bool s, .bool o] 120]) En4 Hv0 (fun hM10 => list_go _ br 2 (by omega) 0 65535 (by omega) (by omega) a c l s o ((i.ev Hv0).pick [0] (by kernel_rfl)) hM10) ?_
 rintro _ wo11 ⟨ao5, cp6, ta7, tc8, rfl, he12, hs9⟩
 refine ⟨_, _, [.box br [.slice ta7 (List.length (lsR 2 0 65535 l s)) tc8, .bool (lsS 2 0 65535 l s), .bool o] 120, .vec ao5 cp6 1 (bys (lsO 2 0 65535 l s)) 5], rfl, he12, by kernel_rfl, fun ac14 En15 Hv16 => ?_⟩
 refine d_e [0,2,3] [] En15 fun ac17 En18 => ?_
 refine then_normal ?_
 refine wp_seq ?_
 refine region_from ?_
 refine d_k [0,2,8,11] [] 4 En18 fun ac19 En20 => ?_
 refine f_o ?_
 refine m_l 0 En20 Hv16 fun ac21 En22 => ?_
 refine d_k [0,2,13] [] 6 En22 fun ac23 En24 => ?_
 refine f_o ?_
 refine m_m 120 [.slice ao5 (List.length (lsO 2 0 65535 l s)) cp6, .bool (lsS 2 0 65535 l s), .bool false] En24 Hv16 fun ac26 wo27 bk25 En28 Hv29 => ?_
 refine d_e [0,2,4] [] En28 fun ac30 En31 => ?_
 refine then_normal ?_
 refine wp_seq ?_
 refine region_from ?_
 refine d_k [0,2,4,15,16] [] 2 En31 fun ac32 En33 => ?_
 refine f_o ?_
 refine c_l [2] (M := [.box bk25 [.slice ao5 (List.length (lsO 2 0 65535 l s)) cp6, .bool (lsS 2 0 65535 l s), .bool false] 120]) En33 Hv29 (fun hM37 => number_go _ bk25 1 (by omega) ao5 cp6 (lsO 2 0 65535 l s) (lsS 2 0 65535 l s) false (bys_in Hv29.heap (k := 1) rfl [2] (by kernel_rfl) rfl (by first | omega | (simp; done) | (simp; omega))) hM37) ?_
 rintro _ wo38 ⟨ta34, tc35, rfl, he39, hs36⟩
 refine ⟨_, _, [.box bk25 [.slice ta34 (List.length (tkR 1 (lsO 2 0 65535 l s) (lsS 2 0 65535 l s))) tc35, .bool (tkS 1 (lsO 2 0 65535 l s) (lsS 2 0 65535 l s)), .bool false] 120, .box br [.slice ta7 (List.length (lsR 2 0 65535 l s)) tc8, .bool (lsS 2 0 65535 l s), .bool o] 120, .vec ao5 cp6 1 (bys (lsO 2 0 65535 l s)) 5], rfl, he39, by kernel_rfl, fun ac41 En42 Hv43 => ?_⟩
 refine d_k [0,2,4,18,20] [] 6 En42 fun ac44 En45 => ?_
 refine f_o ?_
 refine m_s 0 [.box bk25 [.slice ta34 (List.length (tkR 1 (lsO 2 0 65535 l s) (lsS 2 0 65535 l s))) tc35, .bool (tkS 1 (lsO 2 0 65535 l s) (lsS 2 0 65535 l s)), .bool (((nbV 1 (lsO 2 0 65535 l s) (lsS 2 0 65535 l s) : Nat) : Int) != (0 : Int))] 120, .box br [.slice ta7 (List.length (lsR 2 0 65535 l s)) tc8, .bool (lsS 2 0 65535 l s), .bool o] 120, .vec ao5 cp6 1 (bys (lsO 2 0 65535 l s)) 5] En45 Hv43 fun ac46 wo47 En48 Hv49 => ?_
 refine f_e ?_
 refine then_normal ?_
 refine wp_seq ?_
 refine region_from ?_
 refine d_k [0,2,4,21] [] 1 En48 fun ac50 En51 => ?_
 refine f_o ?_
 refine c_l [0] (M := [.box bk25 [.slice ta34 (List.length (tkR 1 (lsO 2 0 65535 l s) (lsS 2 0 65535 l s))) tc35, .bool (tkS 1 (lsO 2 0 65535 l s) (lsS 2 0 65535 l s)), .bool (((nbV 1 (lsO 2 0 65535 l s) (lsS 2 0 65535 l s) : Nat) : Int) != (0 : Int))] 120]) En51 Hv49 (fun hM59 => bytes2_go _ bk25 ta34 tc35 (tkR 1 (lsO 2 0 65535 l s) (lsS 2 0 65535 l s)) (tkS 1 (lsO 2 0 65535 l s) (lsS 2 0 65535 l s)) (((nbV 1 (lsO 2 0 65535 l s) (lsS 2 0 65535 l s) : Nat) : Int) != (0 : Int)) (hs36 _ _ (bys_in Hv49.heap (k := 2) rfl [0] (by kernel_rfl) rfl (by first | omega | (simp; done) | (simp; omega)))) hM59) ?_
 rintro _ wo60 ⟨ta52, tc53, oa56, oc57, bl58, rfl, he61, hs54, hpu55⟩
 refine ⟨_, _, [.box bk25 [.slice ta52 (List.length ((listM 2 1 65535 (tkR 1 (lsO 2 0 65535 l s) (lsS 2 0 65535 l s)) (tkS 1 (lsO 2 0 65535 l s) (lsS 2 0 65535 l s)) (((nbV 1 (lsO 2 0 65535 l s) (lsS 2 0 65535 l s) : Nat) : Int) != (0 : Int))).2.1)) tc53, .bool ((listM 2 1 65535 (tkR 1 (lsO 2 0 65535 l s) (lsS 2 0 65535 l s)) (tkS 1 (lsO 2 0 65535 l s) (lsS 2 0 65535 l s)) (((nbV 1 (lsO 2 0 65535 l s) (lsS 2 0 65535 l s) : Nat) : Int) != (0 : Int))).2.2.1), .bool ((listM 2 1 65535 (tkR 1 (lsO 2 0 65535 l s) (lsS 2 0 65535 l s)) (tkS 1 (lsO 2 0 65535 l s) (lsS 2 0 65535 l s)) (((nbV 1 (lsO 2 0 65535 l s) (lsS 2 0 65535 l s) : Nat) : Int) != (0 : Int))).2.2.2)] 120, .vec oa56 oc57 1 (bys bl58) 5, .box br [.slice ta7 (List.length (lsR 2 0 65535 l s)) tc8, .bool (lsS 2 0 65535 l s), .bool o] 120, .vec ao5 cp6 1 (bys (lsO 2 0 65535 l s)) 5], rfl, he61, by kernel_rfl, fun ac63 En64 Hv65 => ?_⟩
 refine f_o ?_
 refine op_str (d := some 23) (src := 23) (dst := 9) (e := 5) (ao := oa56) (cap := oc57) (p := List.length bl58) (bs := bl58) En64 (by kernel_rfl) rfl (by kernel_rfl) (by kernel_rfl) (by kernel_rfl) (Hv65.heap.reads (k := 1) rfl) (bys_vnz Hv65.heap (k := 1) rfl) ?_
 intro ac66 En67
 refine d_e [0,2,4,5] [] En67 fun ac68 En69 => ?_
 refine then_normal ?_
 refine wp_seq ?_
 rcases Bool.eq_false_or_eq_true (lsS 2 0 65535 l s) with hb70 | hb70
 ·
  have hb70p : lsS 2 0 65535 l s = true := hb70
  refine r_c (fun ac wo => Env ac 53 [(0, pt br), (2, .string (bstr [])), (4, pt bk25), (5, .string (bstr bl58))] ∧ Ev w [.box br [.slice a (List.length l) c, .bool s, .bool o] 120] wo [.box bk25 [.slice ta52 (List.length ((listM 2 1 65535 (tkR 1 (lsO 2 0 65535 l s) (lsS 2 0 65535 l s)) (tkS 1 (lsO 2 0 65535 l s) (lsS 2 0 65535 l s)) (((nbV 1 (lsO 2 0 65535 l s) (lsS 2 0 65535 l s) : Nat) : Int) != (0 : Int))).2.1)) tc53, .bool ((listM 2 1 65535 (tkR 1 (lsO 2 0 65535 l s) (lsS 2 0 65535 l s)) (tkS 1 (lsO 2 0 65535 l s) (lsS 2 0 65535 l s)) (((nbV 1 (lsO 2 0 65535 l s) (lsS 2 0 65535 l s) : Nat) : Int) != (0 : Int))).2.2.1), .bool ((listM 2 1 65535 (tkR 1 (lsO 2 0 65535 l s) (lsS 2 0 65535 l s)) (tkS 1 (lsO 2 0 65535 l s) (lsS 2 0 65535 l s)) (((nbV 1 (lsO 2 0 65535 l s) (lsS 2 0 65535 l s) : Nat) : Int) != (0 : Int))).2.2.2)] 120, .box br [.slice ta7 (List.length (lsR 2 0 65535 l s)) tc8, .bool true, .bool ((listM 2 1 65535 (tkR 1 (lsO 2 0 65535 l s) (lsS 2 0 65535 l s)) (tkS 1 (lsO 2 0 65535 l s) (lsS 2 0 65535 l s)) (((nbV 1 (lsO 2 0 65535 l s) (lsS 2 0 65535 l s) : Nat) : Int) != (0 : Int))).2.2.2)] 120]) ?_ ?_
  ·
   refine h_s (fun wv => Ev w [.box br [.slice a (List.length l) c, .bool s, .bool o] 120] wv [.box bk25 [.slice ta52 (List.length ((listM 2 1 65535 (tkR 1 (lsO 2 0 65535 l s) (lsS 2 0 65535 l s)) (tkS 1 (lsO 2 0 65535 l s) (lsS 2 0 65535 l s)) (((nbV 1 (lsO 2 0 65535 l s) (lsS 2 0 65535 l s) : Nat) : Int) != (0 : Int))).2.1)) tc53, .bool ((listM 2 1 65535 (tkR 1 (lsO 2 0 65535 l s) (lsS 2 0 65535 l s)) (tkS 1 (lsO 2 0 65535 l s) (lsS 2 0 65535 l s)) (((nbV 1 (lsO 2 0 65535 l s) (lsS 2 0 65535 l s) : Nat) : Int) != (0 : Int))).2.2.1), .bool ((listM 2 1 65535 (tkR 1 (lsO 2 0 65535 l s) (lsS 2 0 65535 l s)) (tkS 1 (lsO 2 0 65535 l s) (lsS 2 0 65535 l s)) (((nbV 1 (lsO 2 0 65535 l s) (lsS 2 0 65535 l s) : Nat) : Int) != (0 : Int))).2.2.2)] 120, .box br [.slice ta7 (List.length (lsR 2 0 65535 l s)) tc8, .bool (lsS 2 0 65535 l s), .bool o] 120]) [26] 30 ?_
   have wo71 := Hv65.trans (Ev.drew Hv65.heap)
   refine q_s [0,1,2,3,4] [] 25 En69 (wo71.pk [0, 2]) fun ac140 En141 => ?_
   refine q_l 1 5 En141 (wo71.pk [0, 2]) fun ac142 En143 => ?_
   refine q_s [6] [] 23 En143 (wo71.pk [0, 2]) fun ac144 En145 => ?_
   have En146 := En145.fx (t := 29) (congrArg Value.bool hb70)
   have En147 := En146.fx (t := 30) (congrArg Value.bool hb70)
   refine q_s [7,8,9,10,11,12,13,14,15,16,17,18,19,20,21,22] [] 7 En147 (wo71.pk [0, 2]) fun ac148 En149 => ?_
   refine q_l 0 23 En149 (wo71.pk [0, 2]) fun ac150 En151 => ?_
   refine q_s [24,25] [] 4 En151 (wo71.pk [0, 2]) fun ac152 En153 => ?_
   refine q_t 26 ?_
   refine m_s 2 [.box bk25 [.slice ta52 (List.length ((listM 2 1 65535 (tkR 1 (lsO 2 0 65535 l s) (lsS 2 0 65535 l s)) (tkS 1 (lsO 2 0 65535 l s) (lsS 2 0 65535 l s)) (((nbV 1 (lsO 2 0 65535 l s) (lsS 2 0 65535 l s) : Nat) : Int) != (0 : Int))).2.1)) tc53, .bool ((listM 2 1 65535 (tkR 1 (lsO 2 0 65535 l s) (lsS 2 0 65535 l s)) (tkS 1 (lsO 2 0 65535 l s) (lsS 2 0 65535 l s)) (((nbV 1 (lsO 2 0 65535 l s) (lsS 2 0 65535 l s) : Nat) : Int) != (0 : Int))).2.2.1), .bool ((listM 2 1 65535 (tkR 1 (lsO 2 0 65535 l s) (lsS 2 0 65535 l s)) (tkS 1 (lsO 2 0 65535 l s) (lsS 2 0 65535 l s)) (((nbV 1 (lsO 2 0 65535 l s) (lsS 2 0 65535 l s) : Nat) : Int) != (0 : Int))).2.2.2)] 120, .vec oa56 oc57 1 (bys bl58) 5, .box br [.slice ta7 (List.length (lsR 2 0 65535 l s)) tc8, .bool true, .bool o] 120, .vec ao5 cp6 1 (bys (lsO 2 0 65535 l s)) 5] En153 wo71 fun ac154 wo155 En156 Hv157 => ?_
   refine ⟨q_y, ?_⟩
   refine q_n [27,28] [] 1 En156 fun ac158 En159 => ?_
   refine q_t 29 ?_
   refine m_s 2 [.box bk25 [.slice ta52 (List.length ((listM 2 1 65535 (tkR 1 (lsO 2 0 65535 l s) (lsS 2 0 65535 l s)) (tkS 1 (lsO 2 0 65535 l s) (lsS 2 0 65535 l s)) (((nbV 1 (lsO 2 0 65535 l s) (lsS 2 0 65535 l s) : Nat) : Int) != (0 : Int))).2.1)) tc53, .bool ((listM 2 1 65535 (tkR 1 (lsO 2 0 65535 l s) (lsS 2 0 65535 l s)) (tkS 1 (lsO 2 0 65535 l s) (lsS 2 0 65535 l s)) (((nbV 1 (lsO 2 0 65535 l s) (lsS 2 0 65535 l s) : Nat) : Int) != (0 : Int))).2.2.1), .bool ((listM 2 1 65535 (tkR 1 (lsO 2 0 65535 l s) (lsS 2 0 65535 l s)) (tkS 1 (lsO 2 0 65535 l s) (lsS 2 0 65535 l s)) (((nbV 1 (lsO 2 0 65535 l s) (lsS 2 0 65535 l s) : Nat) : Int) != (0 : Int))).2.2.2)] 120, .vec oa56 oc57 1 (bys bl58) 5, .box br [.slice ta7 (List.length (lsR 2 0 65535 l s)) tc8, .bool true, .bool ((listM 2 1 65535 (tkR 1 (lsO 2 0 65535 l s) (lsS 2 0 65535 l s)) (tkS 1 (lsO 2 0 65535 l s) (lsS 2 0 65535 l s)) (((nbV 1 (lsO 2 0 65535 l s) (lsS 2 0 65535 l s) : Nat) : Int) != (0 : Int))).2.2.2)] 120, .vec ao5 cp6 1 (bys (lsO 2 0 65535 l s)) 5] En159 Hv157 fun ac160 wo161 En162 Hv163 => ?_
   refine ⟨q_y, ?_⟩
   exact h_e ⟨En162.sb, Hv163.pk [0, 2]⟩
  rintro ac164 wo165 ⟨En166, Hv167⟩
  refine then_normal ?_
  refine d_s [0,2,4] [] En166 fun ac168 En169 => ?_
  refine wp_ret ?_
  refine d_ret1 (t := 2) (v := .string (bstr bl58)) En169 (by kernel_rfl) (by kernel_rfl) ?_
  have e1 : ((lsS 2 0 65535 l s || lsS 2 1 65535 (nmO l s) (nmT l s)) || decide (0 < (lsR 2 1 65535 (nmO l s) (nmT l s)).length)) = true := by first | exact or3_1 (by assumption) | exact or3_2 (by assumption) | exact or3_3 (by assumption) (by assumption)
  have hfin : Ev w [.box br [.slice a (List.length l) c, .bool s, .bool o] 120] wo165 [.box br [.slice ta7 (List.length (lsR 2 0 65535 l s)) tc8, .bool ((lsS 2 0 65535 l s || lsS 2 1 65535 (nmO l s) (nmT l s)) || decide (0 < (lsR 2 1 65535 (nmO l s) (nmT l s)).length)), .bool ((listM 2 1 65535 (tkR 1 (lsO 2 0 65535 l s) (lsS 2 0 65535 l s)) (tkS 1 (lsO 2 0 65535 l s) (lsS 2 0 65535 l s)) (((nbV 1 (lsO 2 0 65535 l s) (lsS 2 0 65535 l s) : Nat) : Int) != (0 : Int))).2.2.2)] 120] := by rw [e1]; exact Hv167.pk [1]
  exact ⟨ta7, tc8, bl58, rfl, hfin, hs9, hpu55⟩
 ·
  have hb70p : ¬ (lsS 2 0 65535 l s = true) := Bool.eq_false_iff.1 hb70
  rcases Bool.eq_false_or_eq_true ((listM 2 1 65535 (tkR 1 (lsO 2 0 65535 l s) (lsS 2 0 65535 l s)) (tkS 1 (lsO 2 0 65535 l s) (lsS 2 0 65535 l s)) (((nbV 1 (lsO 2 0 65535 l s) (lsS 2 0 65535 l s) : Nat) : Int) != (0 : Int))).2.2.1) with hb170 | hb170
  ·
   have hb170p : (listM 2 1 65535 (tkR 1 (lsO 2 0 65535 l s) (lsS 2 0 65535 l s)) (tkS 1 (lsO 2 0 65535 l s) (lsS 2 0 65535 l s)) (((nbV 1 (lsO 2 0 65535 l s) (lsS 2 0 65535 l s) : Nat) : Int) != (0 : Int))).2.2.1 = true := hb170
   refine r_c (fun ac wo => Env ac 53 [(0, pt br), (2, .string (bstr [])), (4, pt bk25), (5, .string (bstr bl58))] ∧ Ev w [.box br [.slice a (List.length l) c, .bool s, .bool o] 120] wo [.box bk25 [.slice ta52 (List.length ((listM 2 1 65535 (tkR 1 (lsO 2 0 65535 l s) (lsS 2 0 65535 l s)) (tkS 1 (lsO 2 0 65535 l s) (lsS 2 0 65535 l s)) (((nbV 1 (lsO 2 0 65535 l s) (lsS 2 0 65535 l s) : Nat) : Int) != (0 : Int))).2.1)) tc53, .bool ((listM 2 1 65535 (tkR 1 (lsO 2 0 65535 l s) (lsS 2 0 65535 l s)) (tkS 1 (lsO 2 0 65535 l s) (lsS 2 0 65535 l s)) (((nbV 1 (lsO 2 0 65535 l s) (lsS 2 0 65535 l s) : Nat) : Int) != (0 : Int))).2.2.1), .bool ((listM 2 1 65535 (tkR 1 (lsO 2 0 65535 l s) (lsS 2 0 65535 l s)) (tkS 1 (lsO 2 0 65535 l s) (lsS 2 0 65535 l s)) (((nbV 1 (lsO 2 0 65535 l s) (lsS 2 0 65535 l s) : Nat) : Int) != (0 : Int))).2.2.2)] 120, .box br [.slice ta7 (List.length (lsR 2 0 65535 l s)) tc8, .bool true, .bool ((listM 2 1 65535 (tkR 1 (lsO 2 0 65535 l s) (lsS 2 0 65535 l s)) (tkS 1 (lsO 2 0 65535 l s) (lsS 2 0 65535 l s)) (((nbV 1 (lsO 2 0 65535 l s) (lsS 2 0 65535 l s) : Nat) : Int) != (0 : Int))).2.2.2)] 120]) ?_ ?_
   ·
    refine h_s (fun wv => Ev w [.box br [.slice a (List.length l) c, .bool s, .bool o] 120] wv [.box bk25 [.slice ta52 (List.length ((listM 2 1 65535 (tkR 1 (lsO 2 0 65535 l s) (lsS 2 0 65535 l s)) (tkS 1 (lsO 2 0 65535 l s) (lsS 2 0 65535 l s)) (((nbV 1 (lsO 2 0 65535 l s) (lsS 2 0 65535 l s) : Nat) : Int) != (0 : Int))).2.1)) tc53, .bool ((listM 2 1 65535 (tkR 1 (lsO 2 0 65535 l s) (lsS 2 0 65535 l s)) (tkS 1 (lsO 2 0 65535 l s) (lsS 2 0 65535 l s)) (((nbV 1 (lsO 2 0 65535 l s) (lsS 2 0 65535 l s) : Nat) : Int) != (0 : Int))).2.2.1), .bool ((listM 2 1 65535 (tkR 1 (lsO 2 0 65535 l s) (lsS 2 0 65535 l s)) (tkS 1 (lsO 2 0 65535 l s) (lsS 2 0 65535 l s)) (((nbV 1 (lsO 2 0 65535 l s) (lsS 2 0 65535 l s) : Nat) : Int) != (0 : Int))).2.2.2)] 120, .box br [.slice ta7 (List.length (lsR 2 0 65535 l s)) tc8, .bool (lsS 2 0 65535 l s), .bool o] 120]) [26] 30 ?_
    have wo171 := Hv65.trans (Ev.drew Hv65.heap)
    refine q_s [0,1,2,3,4] [] 25 En69 (wo171.pk [0, 2]) fun ac288 En289 => ?_
    refine q_l 1 5 En289 (wo171.pk [0, 2]) fun ac290 En291 => ?_
    refine q_s [6] [] 23 En291 (wo171.pk [0, 2]) fun ac292 En293 => ?_
    have En294 := En293.fx (t := 29) (congrArg Value.bool hb70)
    have En295 := En294.fx (t := 30) (congrArg Value.bool hb70)
    refine q_s [7,8,9] [] 20 En295 (wo171.pk [0, 2]) fun ac296 En297 => ?_
    refine q_l 0 10 En297 (wo171.pk [0, 2]) fun ac298 En299 => ?_
    refine q_s [11,12] [] 17 En299 (wo171.pk [0, 2]) fun ac300 En301 => ?_
    have En302 := En301.fx (t := 34) (congrArg Value.bool hb170)
    have En303 := En302.fx (t := 35) (congrArg Value.bool hb170)
    have En304 := En303.fx (t := 36) (congrArg Value.bool hb170)
    refine q_s [13,14,15,16,17,18,19,20,21,22] [] 7 En304 (wo171.pk [0, 2]) fun ac305 En306 => ?_
    refine q_l 0 23 En306 (wo171.pk [0, 2]) fun ac307 En308 => ?_
    refine q_s [24,25] [] 4 En308 (wo171.pk [0, 2]) fun ac309 En310 => ?_
    refine q_t 26 ?_
    refine m_s 2 [.box bk25 [.slice ta52 (List.length ((listM 2 1 65535 (tkR 1 (lsO 2 0 65535 l s) (lsS 2 0 65535 l s)) (tkS 1 (lsO 2 0 65535 l s) (lsS 2 0 65535 l s)) (((nbV 1 (lsO 2 0 65535 l s) (lsS 2 0 65535 l s) : Nat) : Int) != (0 : Int))).2.1)) tc53, .bool ((listM 2 1 65535 (tkR 1 (lsO 2 0 65535 l s) (lsS 2 0 65535 l s)) (tkS 1 (lsO 2 0 65535 l s) (lsS 2 0 65535 l s)) (((nbV 1 (lsO 2 0 65535 l s) (lsS 2 0 65535 l s) : Nat) : Int) != (0 : Int))).2.2.1), .bool ((listM 2 1 65535 (tkR 1 (lsO 2 0 65535 l s) (lsS 2 0 65535 l s)) (tkS 1 (lsO 2 0 65535 l s) (lsS 2 0 65535 l s)) (((nbV 1 (lsO 2 0 65535 l s) (lsS 2 0 65535 l s) : Nat) : Int) != (0 : Int))).2.2.2)] 120, .vec oa56 oc57 1 (bys bl58) 5, .box br [.slice ta7 (List.length (lsR 2 0 65535 l s)) tc8, .bool true, .bool o] 120, .vec ao5 cp6 1 (bys (lsO 2 0 65535 l s)) 5] En310 wo171 fun ac311 wo312 En313 Hv314 => ?_
    refine ⟨q_y, ?_⟩
    refine q_n [27,28] [] 1 En313 fun ac315 En316 => ?_
    refine q_t 29 ?_
    refine m_s 2 [.box bk25 [.slice ta52 (List.length ((listM 2 1 65535 (tkR 1 (lsO 2 0 65535 l s) (lsS 2 0 65535 l s)) (tkS 1 (lsO 2 0 65535 l s) (lsS 2 0 65535 l s)) (((nbV 1 (lsO 2 0 65535 l s) (lsS 2 0 65535 l s) : Nat) : Int) != (0 : Int))).2.1)) tc53, .bool ((listM 2 1 65535 (tkR 1 (lsO 2 0 65535 l s) (lsS 2 0 65535 l s)) (tkS 1 (lsO 2 0 65535 l s) (lsS 2 0 65535 l s)) (((nbV 1 (lsO 2 0 65535 l s) (lsS 2 0 65535 l s) : Nat) : Int) != (0 : Int))).2.2.1), .bool ((listM 2 1 65535 (tkR 1 (lsO 2 0 65535 l s) (lsS 2 0 65535 l s)) (tkS 1 (lsO 2 0 65535 l s) (lsS 2 0 65535 l s)) (((nbV 1 (lsO 2 0 65535 l s) (lsS 2 0 65535 l s) : Nat) : Int) != (0 : Int))).2.2.2)] 120, .vec oa56 oc57 1 (bys bl58) 5, .box br [.slice ta7 (List.length (lsR 2 0 65535 l s)) tc8, .bool true, .bool ((listM 2 1 65535 (tkR 1 (lsO 2 0 65535 l s) (lsS 2 0 65535 l s)) (tkS 1 (lsO 2 0 65535 l s) (lsS 2 0 65535 l s)) (((nbV 1 (lsO 2 0 65535 l s) (lsS 2 0 65535 l s) : Nat) : Int) != (0 : Int))).2.2.2)] 120, .vec ao5 cp6 1 (bys (lsO 2 0 65535 l s)) 5] En316 Hv314 fun ac317 wo318 En319 Hv320 => ?_
    refine ⟨q_y, ?_⟩
    exact h_e ⟨En319.sb, Hv320.pk [0, 2]⟩
   rintro ac321 wo322 ⟨En323, Hv324⟩
   refine then_normal ?_
   refine d_s [0,2,4] [] En323 fun ac325 En326 => ?_
   refine wp_ret ?_
   refine d_ret1 (t := 2) (v := .string (bstr bl58)) En326 (by kernel_rfl) (by kernel_rfl) ?_
   have e1 : ((lsS 2 0 65535 l s || lsS 2 1 65535 (nmO l s) (nmT l s)) || decide (0 < (lsR 2 1 65535 (nmO l s) (nmT l s)).length)) = true := by first | exact or3_1 (by assumption) | exact or3_2 (by assumption) | exact or3_3 (by assumption) (by assumption)
   have hfin : Ev w [.box br [.slice a (List.length l) c, .bool s, .bool o] 120] wo322 [.box br [.slice ta7 (List.length (lsR 2 0 65535 l s)) tc8, .bool ((lsS 2 0 65535 l s || lsS 2 1 65535 (nmO l s) (nmT l s)) || decide (0 < (lsR 2 1 65535 (nmO l s) (nmT l s)).length)), .bool ((listM 2 1 65535 (tkR 1 (lsO 2 0 65535 l s) (lsS 2 0 65535 l s)) (tkS 1 (lsO 2 0 65535 l s) (lsS 2 0 65535 l s)) (((nbV 1 (lsO 2 0 65535 l s) (lsS 2 0 65535 l s) : Nat) : Int) != (0 : Int))).2.2.2)] 120] := by rw [e1]; exact Hv324.pk [1]
   exact ⟨ta7, tc8, bl58, rfl, hfin, hs9, hpu55⟩
  ·
   have hb170p : ¬ ((listM 2 1 65535 (tkR 1 (lsO 2 0 65535 l s) (lsS 2 0 65535 l s)) (tkS 1 (lsO 2 0 65535 l s) (lsS 2 0 65535 l s)) (((nbV 1 (lsO 2 0 65535 l s) (lsS 2 0 65535 l s) : Nat) : Int) != (0 : Int))).2.2.1 = true) := Bool.eq_false_iff.1 hb170
   refine r_c (fun ac wo => Env ac 53 [(0, pt br), (2, .string (bstr [])), (4, pt bk25), (5, .string (bstr bl58))] ∧ Ev w [.box br [.slice a (List.length l) c, .bool s, .bool o] 120] wo [.box bk25 [.slice ta52 (List.length ((listM 2 1 65535 (tkR 1 (lsO 2 0 65535 l s) (lsS 2 0 65535 l s)) (tkS 1 (lsO 2 0 65535 l s) (lsS 2 0 65535 l s)) (((nbV 1 (lsO 2 0 65535 l s) (lsS 2 0 65535 l s) : Nat) : Int) != (0 : Int))).2.1)) tc53, .bool ((listM 2 1 65535 (tkR 1 (lsO 2 0 65535 l s) (lsS 2 0 65535 l s)) (tkS 1 (lsO 2 0 65535 l s) (lsS 2 0 65535 l s)) (((nbV 1 (lsO 2 0 65535 l s) (lsS 2 0 65535 l s) : Nat) : Int) != (0 : Int))).2.2.1), .bool ((listM 2 1 65535 (tkR 1 (lsO 2 0 65535 l s) (lsS 2 0 65535 l s)) (tkS 1 (lsO 2 0 65535 l s) (lsS 2 0 65535 l s)) (((nbV 1 (lsO 2 0 65535 l s) (lsS 2 0 65535 l s) : Nat) : Int) != (0 : Int))).2.2.2)] 120, .box br [.slice ta7 (List.length (lsR 2 0 65535 l s)) tc8, .bool (decide (((List.length ((listM 2 1 65535 (tkR 1 (lsO 2 0 65535 l s) (lsS 2 0 65535 l s)) (tkS 1 (lsO 2 0 65535 l s) (lsS 2 0 65535 l s)) (((nbV 1 (lsO 2 0 65535 l s) (lsS 2 0 65535 l s) : Nat) : Int) != (0 : Int))).2.1) : Nat) : Int) > (0 : Int))), .bool ((listM 2 1 65535 (tkR 1 (lsO 2 0 65535 l s) (lsS 2 0 65535 l s)) (tkS 1 (lsO 2 0 65535 l s) (lsS 2 0 65535 l s)) (((nbV 1 (lsO 2 0 65535 l s) (lsS 2 0 65535 l s) : Nat) : Int) != (0 : Int))).2.2.2)] 120]) ?_ ?_
   ·
    refine h_s (fun wv => Ev w [.box br [.slice a (List.length l) c, .bool s, .bool o] 120] wv [.box bk25 [.slice ta52 (List.length ((listM 2 1 65535 (tkR 1 (lsO 2 0 65535 l s) (lsS 2 0 65535 l s)) (tkS 1 (lsO 2 0 65535 l s) (lsS 2 0 65535 l s)) (((nbV 1 (lsO 2 0 65535 l s) (lsS 2 0 65535 l s) : Nat) : Int) != (0 : Int))).2.1)) tc53, .bool ((listM 2 1 65535 (tkR 1 (lsO 2 0 65535 l s) (lsS 2 0 65535 l s)) (tkS 1 (lsO 2 0 65535 l s) (lsS 2 0 65535 l s)) (((nbV 1 (lsO 2 0 65535 l s) (lsS 2 0 65535 l s) : Nat) : Int) != (0 : Int))).2.2.1), .bool ((listM 2 1 65535 (tkR 1 (lsO 2 0 65535 l s) (lsS 2 0 65535 l s)) (tkS 1 (lsO 2 0 65535 l s) (lsS 2 0 65535 l s)) (((nbV 1 (lsO 2 0 65535 l s) (lsS 2 0 65535 l s) : Nat) : Int) != (0 : Int))).2.2.2)] 120, .box br [.slice ta7 (List.length (lsR 2 0 65535 l s)) tc8, .bool (lsS 2 0 65535 l s), .bool o] 120]) [26] 30 ?_
    have wo327 := Hv65.trans (Ev.drew Hv65.heap)
    refine q_s [0,1,2,3,4] [] 25 En69 (wo327.pk [0, 2]) fun ac476 En477 => ?_
    refine q_l 1 5 En477 (wo327.pk [0, 2]) fun ac478 En479 => ?_
    refine q_s [6] [] 23 En479 (wo327.pk [0, 2]) fun ac480 En481 => ?_
    have En482 := En481.fx (t := 29) (congrArg Value.bool hb70)
    have En483 := En482.fx (t := 30) (congrArg Value.bool hb70)
    refine q_s [7,8,9] [] 20 En483 (wo327.pk [0, 2]) fun ac484 En485 => ?_
    refine q_l 0 10 En485 (wo327.pk [0, 2]) fun ac486 En487 => ?_
    refine q_s [11,12] [] 17 En487 (wo327.pk [0, 2]) fun ac488 En489 => ?_
    have En490 := En489.fx (t := 34) (congrArg Value.bool hb170)
    have En491 := En490.fx (t := 35) (congrArg Value.bool hb170)
    have En492 := En491.fx (t := 36) (congrArg Value.bool hb170)
    refine q_s [13,14,15] [] 14 En492 (wo327.pk [0, 2]) fun ac493 En494 => ?_
    refine q_l 0 16 En494 (wo327.pk [0, 2]) fun ac495 En496 => ?_
    refine q_s [17,18,19,20,21,22] [] 7 En496 (wo327.pk [0, 2]) fun ac497 En498 => ?_
    refine q_l 0 23 En498 (wo327.pk [0, 2]) fun ac499 En500 => ?_
    refine q_s [24,25] [] 4 En500 (wo327.pk [0, 2]) fun ac501 En502 => ?_
    refine q_t 26 ?_
    refine m_s 2 [.box bk25 [.slice ta52 (List.length ((listM 2 1 65535 (tkR 1 (lsO 2 0 65535 l s) (lsS 2 0 65535 l s)) (tkS 1 (lsO 2 0 65535 l s) (lsS 2 0 65535 l s)) (((nbV 1 (lsO 2 0 65535 l s) (lsS 2 0 65535 l s) : Nat) : Int) != (0 : Int))).2.1)) tc53, .bool ((listM 2 1 65535 (tkR 1 (lsO 2 0 65535 l s) (lsS 2 0 65535 l s)) (tkS 1 (lsO 2 0 65535 l s) (lsS 2 0 65535 l s)) (((nbV 1 (lsO 2 0 65535 l s) (lsS 2 0 65535 l s) : Nat) : Int) != (0 : Int))).2.2.1), .bool ((listM 2 1 65535 (tkR 1 (lsO 2 0 65535 l s) (lsS 2 0 65535 l s)) (tkS 1 (lsO 2 0 65535 l s) (lsS 2 0 65535 l s)) (((nbV 1 (lsO 2 0 65535 l s) (lsS 2 0 65535 l s) : Nat) : Int) != (0 : Int))).2.2.2)] 120, .vec oa56 oc57 1 (bys bl58) 5, .box br [.slice ta7 (List.length (lsR 2 0 65535 l s)) tc8, .bool (decide (((List.length ((listM 2 1 65535 (tkR 1 (lsO 2 0 65535 l s) (lsS 2 0 65535 l s)) (tkS 1 (lsO 2 0 65535 l s) (lsS 2 0 65535 l s)) (((nbV 1 (lsO 2 0 65535 l s) (lsS 2 0 65535 l s) : Nat) : Int) != (0 : Int))).2.1) : Nat) : Int) > (0 : Int))), .bool o] 120, .vec ao5 cp6 1 (bys (lsO 2 0 65535 l s)) 5] En502 wo327 fun ac503 wo504 En505 Hv506 => ?_
    refine ⟨q_y, ?_⟩
    refine q_n [27,28] [] 1 En505 fun ac507 En508 => ?_
    refine q_t 29 ?_
    refine m_s 2 [.box bk25 [.slice ta52 (List.length ((listM 2 1 65535 (tkR 1 (lsO 2 0 65535 l s) (lsS 2 0 65535 l s)) (tkS 1 (lsO 2 0 65535 l s) (lsS 2 0 65535 l s)) (((nbV 1 (lsO 2 0 65535 l s) (lsS 2 0 65535 l s) : Nat) : Int) != (0 : Int))).2.1)) tc53, .bool ((listM 2 1 65535 (tkR 1 (lsO 2 0 65535 l s) (lsS 2 0 65535 l s)) (tkS 1 (lsO 2 0 65535 l s) (lsS 2 0 65535 l s)) (((nbV 1 (lsO 2 0 65535 l s) (lsS 2 0 65535 l s) : Nat) : Int) != (0 : Int))).2.2.1), .bool ((listM 2 1 65535 (tkR 1 (lsO 2 0 65535 l s) (lsS 2 0 65535 l s)) (tkS 1 (lsO 2 0 65535 l s) (lsS 2 0 65535 l s)) (((nbV 1 (lsO 2 0 65535 l s) (lsS 2 0 65535 l s) : Nat) : Int) != (0 : Int))).2.2.2)] 120, .vec oa56 oc57 1 (bys bl58) 5, .box br [.slice ta7 (List.length (lsR 2 0 65535 l s)) tc8, .bool (decide (((List.length ((listM 2 1 65535 (tkR 1 (lsO 2 0 65535 l s) (lsS 2 0 65535 l s)) (tkS 1 (lsO 2 0 65535 l s) (lsS 2 0 65535 l s)) (((nbV 1 (lsO 2 0 65535 l s) (lsS 2 0 65535 l s) : Nat) : Int) != (0 : Int))).2.1) : Nat) : Int) > (0 : Int))), .bool ((listM 2 1 65535 (tkR 1 (lsO 2 0 65535 l s) (lsS 2 0 65535 l s)) (tkS 1 (lsO 2 0 65535 l s) (lsS 2 0 65535 l s)) (((nbV 1 (lsO 2 0 65535 l s) (lsS 2 0 65535 l s) : Nat) : Int) != (0 : Int))).2.2.2)] 120, .vec ao5 cp6 1 (bys (lsO 2 0 65535 l s)) 5] En508 Hv506 fun ac509 wo510 En511 Hv512 => ?_
    refine ⟨q_y, ?_⟩
    exact h_e ⟨En511.sb, Hv512.pk [0, 2]⟩
   rintro ac513 wo514 ⟨En515, Hv516⟩
   refine then_normal ?_
   refine d_s [0,2,4] [] En515 fun ac517 En518 => ?_
   refine wp_ret ?_
   refine d_ret1 (t := 2) (v := .string (bstr bl58)) En518 (by kernel_rfl) (by kernel_rfl) ?_
   have e1 : ((lsS 2 0 65535 l s || lsS 2 1 65535 (nmO l s) (nmT l s)) || decide (0 < (lsR 2 1 65535 (nmO l s) (nmT l s)).length)) = decide (((List.length ((listM 2 1 65535 (tkR 1 (lsO 2 0 65535 l s) (lsS 2 0 65535 l s)) (tkS 1 (lsO 2 0 65535 l s) (lsS 2 0 65535 l s)) (((nbV 1 (lsO 2 0 65535 l s) (lsS 2 0 65535 l s) : Nat) : Int) != (0 : Int))).2.1) : Nat) : Int) > (0 : Int)) := by first | exact or3_1 (by assumption) | exact or3_2 (by assumption) | exact or3_3 (by assumption) (by assumption)
   have hfin : Ev w [.box br [.slice a (List.length l) c, .bool s, .bool o] 120] wo514 [.box br [.slice ta7 (List.length (lsR 2 0 65535 l s)) tc8, .bool ((lsS 2 0 65535 l s || lsS 2 1 65535 (nmO l s) (nmT l s)) || decide (0 < (lsR 2 1 65535 (nmO l s) (nmT l s)).length)), .bool ((listM 2 1 65535 (tkR 1 (lsO 2 0 65535 l s) (lsS 2 0 65535 l s)) (tkS 1 (lsO 2 0 65535 l s) (lsS 2 0 65535 l s)) (((nbV 1 (lsO 2 0 65535 l s) (lsS 2 0 65535 l s) : Nat) : Int) != (0 : Int))).2.2.2)] 120] := by rw [e1]; exact Hv516.pk [1]
   exact ⟨ta7, tc8, bl58, rfl, hfin, hs9, hpu55⟩

theorem got_getname (w : World) (a : Option Addr) (c : Nat) (l : Bs) (i : InB w [] a c l) : Calls Try.prog 135 #[.slice a (List.length l) c, .func (.func 136) #[] #[]] w fun e w' => ∃ bl, e = .returned (.tuple #[.string (bstr bl), .int .i64 (gotA (nmM l false false))]) ∧ Ev w [] w' [] ∧ bl = gotV [] (nmM l false false) := by
 refine d_0 [(0, .slice a (List.length l) c), (1, .func (.func 136) #[] #[])] 36 Go.Proofs.Try.func135 Go.Proofs.Try.ntmps135 (Heap.nil _) fun act0 En0 Hv0 => ?_
 refine d_s [0,1,4,5] [] En0 fun ac1 En2 => ?_
 refine d_s [0,1,4,5,6] [] En2 fun ac3 En4 => ?_
 refine wp_seq ?_
 refine region_from ?_
 refine d_k [1,4,5,6,10] [] 2 En4 fun ac5 En6 => ?_
 refine f_o ?_
 refine m_m 120 [.slice a (List.length l) c, .bool false, .bool false] En6 Hv0 fun ac8 wo9 bk7 En10 Hv11 => ?_
 refine d_e [1,4,5,6,7] [] En10 fun ac12 En13 => ?_
 refine then_normal ?_
 refine wp_seq ?_
 refine region_from ?_
 refine d_k [4,5,6,7,12,13] [] 2 En13 fun ac14 En15 => ?_
 refine f_o ?_
 refine c_l [0] (M := [.box bk7 [.slice a (List.length l) c, .bool false, .bool false] 120]) En15 Hv11 (fun hM21 => getname1 _ bk7 a c l false false ((i.ev Hv11).pick [0] (by kernel_rfl)) hM21) ?_
 rintro _ wo22 ⟨ta16, tc17, bl20, rfl, he23, hs18, hpu19⟩
 refine ⟨_, _, [.box bk7 [.slice ta16 (List.length ((nmM l false false).2.1)) tc17, .bool ((nmM l false false).2.2.1), .bool ((nmM l false false).2.2.2)] 120], rfl, he23, by kernel_rfl, fun ac25 En26 Hv27 => ?_⟩
 refine d_e [4,5,6,7,8] [] En26 fun ac28 En29 => ?_
 refine then_normal ?_
 refine wp_seq ?_
 refine wp_block ?_
 refine wp_seq ?_
 refine region_from ?_
 refine d_k [4,5,6,7,8,18] [] 3 En29 fun ac30 En31 => ?_
 refine f_o ?_
 refine m_l 0 En31 Hv27 fun ac32 En33 => ?_
 refine d_k [4,5,6,7,8,20] [] 5 En33 fun ac34 En35 => ?_
 rcases Bool.eq_false_or_eq_true ((nmM l false false).2.2.1) with hb36 | hb36
 ·
  have En37 := En35.fx (t := 20) (congrArg Value.bool hb36)
  have hp38 : (nmM l false false).2.2.1 = true := hb36
  refine d_e [4,5,6,7,8,15] [] En37 fun ac39 En40 => ?_
  refine then_normal ?_
  refine c_t En40 ?_
  refine d_s [4,5,6,7,8] [] En40 fun ac41 En42 => ?_
  refine wp_ret ?_
  refine block_ret ?_
  refine then_ret ?_
  refine d_ret2 (t := 4) (u := 5) (v := .string (bstr [])) (x := .int .i64 50) En42 (by kernel_rfl) (by kernel_rfl) (by kernel_rfl) ?_
  have eA : gotA (nmM l false false) = 50 := Eq.symm (by first | exact end_1 (by assumption) | exact end_2 (by omega) | exact end_3 (by assumption) (by omega) (by assumption))
  rw [gotV_n eA (by decide), eA]
  exact ⟨[], rfl, Hv27.pk [], rfl⟩
 ·
  have En43 := En35.fx (t := 20) (congrArg Value.bool hb36)
  have hp44 : ¬ ((nmM l false false).2.2.1 = true) := Bool.eq_false_iff.1 hb36
  refine d_k [4,5,6,7,8,20,23] [] 8 En43 fun ac45 En46 => ?_
  refine f_o ?_
  refine m_l 0 En46 Hv27 fun ac47 En48 => ?_
  refine d_e [4,5,6,7,8,15] [] En48 fun ac49 En50 => ?_
  refine then_normal ?_
  refine c_d (((List.length ((nmM l false false).2.1) : Nat) : Int) > (0 : Int)) En50 (fun hc51 => ?_) (fun hc51 => ?_)
  ·
   refine d_s [4,5,6,7,8] [] En50 fun ac52 En53 => ?_
   refine wp_ret ?_
   refine block_ret ?_
   refine then_ret ?_
   refine d_ret2 (t := 4) (u := 5) (v := .string (bstr [])) (x := .int .i64 50) En53 (by kernel_rfl) (by kernel_rfl) (by kernel_rfl) ?_
   have eA : gotA (nmM l false false) = 50 := Eq.symm (by first | exact end_1 (by assumption) | exact end_2 (by omega) | exact end_3 (by assumption) (by omega) (by assumption))
   rw [gotV_n eA (by decide), eA]
   exact ⟨[], rfl, Hv27.pk [], rfl⟩
  ·
   refine wp_seq ?_
   refine region_from ?_
   refine d_k [4,5,6,7,8,32] [] 3 En50 fun ac54 En55 => ?_
   refine f_o ?_
   refine m_l 0 En55 Hv27 fun ac56 En57 => ?_
   refine d_e [4,5,6,7,8,29] [] En57 fun ac58 En59 => ?_
   refine then_normal ?_
   refine cond_at En59 (t := (nmM l false false).2.2.2) (by kernel_rfl) (fun hc60 => ?_) (fun hc60 => ?_)
   ·
    replace hc60 : (nmM l false false).2.2.2 = true := hc60
    refine d_s [4,5,6,7,8] [] En59 fun ac61 En62 => ?_
    refine wp_ret ?_
    refine block_ret ?_
    refine then_ret ?_
    refine d_ret2 (t := 4) (u := 5) (v := .string (bstr [])) (x := .int .i64 47) En62 (by kernel_rfl) (by kernel_rfl) (by kernel_rfl) ?_
    have eA : gotA (nmM l false false) = 47 := Eq.symm (by first | exact end_1 (by assumption) | exact end_2 (by omega) | exact end_3 (by assumption) (by omega) (by assumption))
    rw [gotV_n eA (by decide), eA]
    exact ⟨[], rfl, Hv27.pk [], rfl⟩
   ·
    replace hc60 : ¬ ((nmM l false false).2.2.2 = true) := Bool.eq_false_iff.1 hc60
    refine wp_skip ?_
    refine block_normal ?_
    refine then_normal ?_
    refine d_s [4,5,6,7] [] En59 fun ac63 En64 => ?_
    refine wp_ret ?_
    refine d_ret2 (t := 4) (u := 5) (v := .string (bstr bl20)) (x := .int .i64 0) En64 (by kernel_rfl) (by kernel_rfl) (by kernel_rfl) ?_
    have eA : gotA (nmM l false false) = 0 := (end_4 (by assumption) (by omega) (by assumption)).symm
    rw [gotV_0 eA, eA]
    exact ⟨bl20, rfl, Hv27.pk [], hpu19⟩

theorem getname_go (w : World) (aq : Option Addr) (nq cq : Nat) (lq : List UInt8) (eq : nq = List.length lq) (iq : InB w [] aq cq lq) : Calls Try.prog 41 #[.slice aq nq cq] w fun e w' => ∃ bl, e = .returned (.tuple #[.string (bstr bl), .int .i64 (gotA (nmM lq false false))]) ∧ Ev w [] w' [] ∧ bl = gotV [] (nmM lq false false) := by
 subst eq
 refine d_0 [(0, .slice aq (List.length lq) cq)] 8 Go.Proofs.Try.func41 Go.Proofs.Try.ntmps41 (Heap.nil _) fun act0 En0 Hv0 => ?_
 refine d_s [0,2,3] [] En0 fun ac1 En2 => ?_
 refine wp_seq ?_
 refine region_from ?_
 refine d_k [2,3,4] [] 1 En2 fun ac3 En4 => ?_
 refine f_o ?_
 refine c_0 En4 Hv0 (got_getname _ aq cq lq ((iq.ev Hv0).pick [] (by kernel_rfl))) ?_
 rintro _ wo8 ⟨bl5, rfl, he9, hpu6⟩
 refine ⟨_, _, _, rfl, he9, rfl, fun ac11 En12 Hv13 => ?_⟩
 refine d_e [2,3] [] En12 fun ac14 En15 => ?_
 refine then_normal ?_
 refine wp_ret ?_
 refine d_ret2 (t := 2) (u := 3) (v := .string (bstr bl5)) (x := .int .i64 (gotA (nmM lq false false))) En15 (by kernel_rfl) (by kernel_rfl) (by kernel_rfl) ?_
 exact ⟨bl5, rfl, Hv13.pk [], hpu6⟩

end Go.Proofs.Ytofecellbfhnjaa

/- Layer 17: the document reads bytes, numbers, a host's name. -/

namespace Go.Proofs.Ytofecellbfhnjaa
open Go.Dbr
set_option maxRecDepth 100000
set_option maxHeartbeats 2000000
set_option linter.unusedVariables false
set_option linter.unusedSimpArgs false

end Go.Proofs.Ytofecellbfhnjaa
