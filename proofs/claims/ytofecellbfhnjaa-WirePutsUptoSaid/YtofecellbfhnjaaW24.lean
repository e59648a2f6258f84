/- Layer 17: parts are written by the program, of each kind. -/
import Derived.Test.YtofecellbfhnjaaW18
import Derived.Test.YtofecellbfhnjaaW11
namespace Go.Proofs.Ytofecellbfhnjaa
open Go.Dbr
set_option maxRecDepth 100000
set_option maxHeartbeats 2000000
set_option linter.unusedVariables false
set_option linter.unusedSimpArgs false

def u16F (p : WS) (v : UInt16) : WS := (p.1 ++ beN 2 v.toNat, p.2)
def alF (p : WS) (t : Bs) : WS := (wput 1 p.1 t, wbad 1 1 255 t.length p.2)
def shF (p : WS) (x : UInt16 × Bs) : WS := (wput 2 (p.1 ++ beN 2 x.1.toNat) x.2, wbad 2 1 65535 x.2.length p.2)
def k1F (p : WS) (x : PK) : WS := (wput 2 p.1 x.1 ++ beN 4 x.2.1.toNat, wbad 2 1 65535 x.1.length p.2)
def k2F (p : WS) (x : PK) : WS := (wput 1 p.1 x.2.2, wbad 1 32 255 x.2.2.length p.2)
/-- whatever is written of the first ones is no more than a slice may hold -/
def allB {β : Type} (F : WS → β → WS) (ps : List β) : Prop := ∀ i, (allM F (List.take i ps)).1.length ≤ 16777216
theorem allB_all {β : Type} {F : WS → β → WS} {ps : List β} (h : allB F ps) : (allM F ps).1.length ≤ 16777216 := by
  have := h ps.length
  rwa [List.take_length] at this
theorem u16_64 (v : UInt16) : v.toUInt64.toNat = v.toNat := by simp
theorem u32_64 (v : UInt32) : v.toUInt64.toNat = v.toNat := by simp

theorem wu16_go (w : World) (bw : Nat) (a : Option Addr) (c : Nat) (l : Bs) (bad : Bool) (v : UInt16) (hb : List.length l + 2 ≤ 200000000000000) (hH : Heap w [.box bw [.slice a (List.length l) c, .bool bad] 115, .vec a c 1 (bys l) 5]) : Calls Try.prog 113 #[pt bw, uv16 v] w fun e w' => ∃ a' c', e = .returned (.tuple #[]) ∧ Ev w [.box bw [.slice a (List.length l) c, .bool bad] 115, .vec a c 1 (bys l) 5] w' [.box bw [.slice a' (List.length ((u16F (l, bad) v).1)) c', .bool ((u16F (l, bad) v).2)] 115, .vec a' c' 1 (bys ((u16F (l, bad) v).1)) 5] := by
 refine d_0 [(0, pt bw), (1, uv16 v)] 8 Go.Proofs.Try.func113 Go.Proofs.Try.ntmps113 (hH) fun act0 En0 Hv0 => ?_
 refine region_from ?_
 refine d_k [4,6] [(2, g_i .u64 (Go.Dbr.u16_to_u64 (x := v) rfl))] 3 En0 fun ac1 En2 => ?_
 refine f_o ?_
 refine c_l [0,1] (M := [.box bw [.slice a (List.length l) c, .bool bad] 115, .vec a c 1 (bys l) 5]) En2 Hv0 (fun hM5 => wnum_go _ bw a c l bad 2 (by omega) (UInt16.toUInt64 v) (by first | omega | (simp; omega)) hM5) ?_
 rintro _ wo6 ⟨wa3, wc4, rfl, he7⟩
 refine ⟨_, _, [.box bw [.slice wa3 (List.length (l ++ beN 2 (UInt64.toNat (UInt16.toUInt64 v)))) wc4, .bool bad] 115, .vec wa3 wc4 1 (bys (l ++ beN 2 (UInt64.toNat (UInt16.toUInt64 v)))) 5], rfl, he7, by kernel_rfl, fun ac9 En10 Hv11 => ?_⟩
 refine f_e ?_
 refine d_end0 En10 (by kernel_rfl) ?_
 rw [u16_64] at Hv11
 exact ⟨wa3, wc4, rfl, Hv11.pk [0, 1]⟩

theorem walpn_go (w : World) (bw : Nat) (a : Option Addr) (c : Nat) (l : Bs) (bad : Bool) (t : Bs) (ht : List.length t ≤ 140737488351232) (hb : List.length l + 1 + List.length t ≤ 200000000000000) (hH : Heap w [.box bw [.slice a (List.length l) c, .bool bad] 115, .vec a c 1 (bys l) 5]) : Calls Try.prog 117 #[pt bw, .string (bstr t)] w fun e w' => ∃ a' c', e = .returned (.tuple #[]) ∧ Ev w [.box bw [.slice a (List.length l) c, .bool bad] 115, .vec a c 1 (bys l) 5] w' [.box bw [.slice a' (List.length ((alF (l, bad) t).1)) c', .bool ((alF (l, bad) t).2)] 115, .vec a' c' 1 (bys ((alF (l, bad) t).1)) 5] := by
 refine d_0 [(0, pt bw), (1, .string (bstr t))] 8 Go.Proofs.Try.func117 Go.Proofs.Try.ntmps117 (hH) fun act0 En0 Hv0 => ?_
 refine region_from ?_
 refine d_k [4,5] [] 2 En0 fun ac1 En2 => ?_
 refine f_o ?_
 refine op_bytes (d := some 6) (src := 9) (dst := 23) (e := 5) (s := t) En2 (by kernel_rfl) (by kernel_rfl) (by kernel_rfl) (by kernel_rfl) Hv0 (by unfold maxLen; first | omega | (simp; omega)) ?_
 intro ac6 wo7 bk3 cp4 En8 Hv9 hcb5
 refine f_o ?_
 refine c_l [0,1] (M := [.box bw [.slice a (List.length l) c, .bool bad] 115, .vec a c 1 (bys l) 5]) En8 Hv9 (fun hM12 => wlist_go _ bw a c l bad 1 (by omega) 1 255 (by omega) (by omega) (some ⟨bk3, 0, none⟩) cp4 t (bys_in Hv9.heap (k := 2) rfl [0, 1] (by kernel_rfl) rfl (by first | omega | (simp; done) | (simp; omega))) (by first | omega | (simp [wput_len, beN_len]; done) | (simp [wput_len, beN_len]; omega)) hM12) ?_
 rintro _ wo13 ⟨wa10, wc11, rfl, he14⟩
 refine ⟨_, _, [.box bw [.slice wa10 (List.length (wput 1 l t)) wc11, .bool (wbad 1 1 255 (List.length t) bad)] 115, .vec wa10 wc11 1 (bys (wput 1 l t)) 5, .vec (some ⟨bk3, 0, none⟩) cp4 1 (bys t) 5], rfl, he14, by kernel_rfl, fun ac16 En17 Hv18 => ?_⟩
 refine f_e ?_
 refine d_end0 En17 (by kernel_rfl) ?_
 exact ⟨wa10, wc11, rfl, Hv18.pk [0, 1]⟩

theorem wshare_go (w : World) (bw : Nat) (a : Option Addr) (c : Nat) (l : Bs) (bad : Bool) (g : UInt16) (ab : Option Addr) (cb : Nat) (b : Bs) (ib : InB w [.box bw [.slice a (List.length l) c, .bool bad] 115, .vec a c 1 (bys l) 5] ab cb b) (hb : List.length l + 4 + List.length b ≤ 200000000000000) (hH : Heap w [.box bw [.slice a (List.length l) c, .bool bad] 115, .vec a c 1 (bys l) 5]) : Calls Try.prog 121 #[pt bw, .agg #[uv16 g, .slice ab (List.length b) cb]] w fun e w' => ∃ a' c', e = .returned (.tuple #[]) ∧ Ev w [.box bw [.slice a (List.length l) c, .bool bad] 115, .vec a c 1 (bys l) 5] w' [.box bw [.slice a' (List.length ((shF (l, bad) (g, b)).1)) c', .bool ((shF (l, bad) (g, b)).2)] 115, .vec a' c' 1 (bys ((shF (l, bad) (g, b)).1)) 5] := by
 have hbs := ib.small
 have hl1 : List.length (u16F (l, bad) g).1 = List.length l + 2 := by rw [u16F, List.length_append, beN_len]
 refine d_0 [(0, pt bw), (1, .agg #[uv16 g, .slice ab (List.length b) cb])] 12 Go.Proofs.Try.func121 Go.Proofs.Try.ntmps121 (hH) fun act0 En0 Hv0 => ?_
 refine wp_seq ?_
 refine region_from ?_
 refine f_o ?_
 refine m_m 49 [uv16 g, .slice ab (List.length b) cb] En0 Hv0 fun ac2 wo3 bk1 En4 Hv5 => ?_
 refine f_e ?_
 refine then_normal ?_
 refine wp_seq ?_
 refine region_from ?_
 refine d_k [0,3,4,5] [] 2 En4 fun ac6 En7 => ?_
 refine f_o ?_
 refine m_l 2 En7 Hv5 fun ac8 En9 => ?_
 refine f_o ?_
 refine c_l [0,1] (M := [.box bw [.slice a (List.length l) c, .bool bad] 115, .vec a c 1 (bys l) 5]) En9 Hv5 (fun hM12 => wu16_go _ bw a c l bad g (by first | omega | (simp [wput_len, beN_len]; done) | (simp [wput_len, beN_len]; omega)) hM12) ?_
 rintro _ wo13 ⟨wa10, wc11, rfl, he14⟩
 refine ⟨_, _, [.box bw [.slice wa10 (List.length ((u16F (l, bad) g).1)) wc11, .bool ((u16F (l, bad) g).2)] 115, .vec wa10 wc11 1 (bys ((u16F (l, bad) g).1)) 5, .box bk1 [uv16 g, .slice ab (List.length b) cb] 49], rfl, he14, by kernel_rfl, fun ac16 En17 Hv18 => ?_⟩
 refine f_e ?_
 refine then_normal ?_
 refine region_from ?_
 refine d_k [0,3,8,9] [] 2 En17 fun ac19 En20 => ?_
 refine f_o ?_
 refine m_l 2 En20 Hv18 fun ac21 En22 => ?_
 refine f_o ?_
 refine c_l [0,1] (M := [.box bw [.slice wa10 (List.length ((u16F (l, bad) g).1)) wc11, .bool ((u16F (l, bad) g).2)] 115, .vec wa10 wc11 1 (bys ((u16F (l, bad) g).1)) 5]) En22 Hv18 (fun hM25 => wlist_go _ bw wa10 wc11 ((u16F (l, bad) g).1) ((u16F (l, bad) g).2) 2 (by omega) 1 65535 (by omega) (by omega) ab cb b ((ib.ev Hv18).pick [0, 1] (by kernel_rfl)) (by first | omega | (simp [wput_len, beN_len]; done) | (simp [wput_len, beN_len]; omega)) hM25) ?_
 rintro _ wo26 ⟨wa23, wc24, rfl, he27⟩
 refine ⟨_, _, [.box bw [.slice wa23 (List.length (wput 2 ((u16F (l, bad) g).1) b)) wc24, .bool (wbad 2 1 65535 (List.length b) ((u16F (l, bad) g).2))] 115, .vec wa23 wc24 1 (bys (wput 2 ((u16F (l, bad) g).1) b)) 5, .box bk1 [uv16 g, .slice ab (List.length b) cb] 49], rfl, he27, by kernel_rfl, fun ac29 En30 Hv31 => ?_⟩
 refine f_e ?_
 refine d_end0 En30 (by kernel_rfl) ?_
 exact ⟨wa23, wc24, rfl, Hv31.pk [0, 1]⟩

theorem wpsk1_go (w : World) (bw : Nat) (a : Option Addr) (c : Nat) (l : Bs) (bad : Bool) (at1 : Option Addr) (ct : Nat) (t : Bs) (it : InB w [.box bw [.slice a (List.length l) c, .bool bad] 115, .vec a c 1 (bys l) 5] at1 ct t) (g : UInt32) (ab : Option Addr) (cb : Nat) (b : Bs) (ib : InB w [.box bw [.slice a (List.length l) c, .bool bad] 115, .vec a c 1 (bys l) 5] ab cb b) (hb : List.length l + 6 + List.length t ≤ 200000000000000) (hH : Heap w [.box bw [.slice a (List.length l) c, .bool bad] 115, .vec a c 1 (bys l) 5]) : Calls Try.prog 125 #[pt bw, .agg #[.slice at1 (List.length t) ct, uv32 g, .slice ab (List.length b) cb]] w fun e w' => ∃ a' c', e = .returned (.tuple #[]) ∧ Ev w [.box bw [.slice a (List.length l) c, .bool bad] 115, .vec a c 1 (bys l) 5] w' [.box bw [.slice a' (List.length ((k1F (l, bad) (t, g, b)).1)) c', .bool ((k1F (l, bad) (t, g, b)).2)] 115, .vec a' c' 1 (bys ((k1F (l, bad) (t, g, b)).1)) 5] := by
 have hbs := it.small
 have hl1 := wput_len 2 l t
 refine d_0 [(0, pt bw), (1, .agg #[.slice at1 (List.length t) ct, uv32 g, .slice ab (List.length b) cb])] 13 Go.Proofs.Try.func125 Go.Proofs.Try.ntmps125 (hH) fun act0 En0 Hv0 => ?_
 refine wp_seq ?_
 refine region_from ?_
 refine f_o ?_
 refine m_m 140 [.slice at1 (List.length t) ct, uv32 g, .slice ab (List.length b) cb] En0 Hv0 fun ac2 wo3 bk1 En4 Hv5 => ?_
 refine f_e ?_
 refine then_normal ?_
 refine wp_seq ?_
 refine region_from ?_
 refine d_k [0,3,4,5] [] 2 En4 fun ac6 En7 => ?_
 refine f_o ?_
 refine m_l 2 En7 Hv5 fun ac8 En9 => ?_
 refine f_o ?_
 refine c_l [0,1] (M := [.box bw [.slice a (List.length l) c, .bool bad] 115, .vec a c 1 (bys l) 5]) En9 Hv5 (fun hM12 => wlist_go _ bw a c l bad 2 (by omega) 1 65535 (by omega) (by omega) at1 ct t ((it.ev Hv5).pick [0, 1] (by kernel_rfl)) (by first | omega | (simp [wput_len, beN_len]; done) | (simp [wput_len, beN_len]; omega)) hM12) ?_
 rintro _ wo13 ⟨wa10, wc11, rfl, he14⟩
 refine ⟨_, _, [.box bw [.slice wa10 (List.length (wput 2 l t)) wc11, .bool (wbad 2 1 65535 (List.length t) bad)] 115, .vec wa10 wc11 1 (bys (wput 2 l t)) 5, .box bk1 [.slice at1 (List.length t) ct, uv32 g, .slice ab (List.length b) cb] 140], rfl, he14, by kernel_rfl, fun ac16 En17 Hv18 => ?_⟩
 refine f_e ?_
 refine then_normal ?_
 refine region_from ?_
 refine d_k [0,3,8,9] [] 2 En17 fun ac19 En20 => ?_
 refine f_o ?_
 refine m_l 2 En20 Hv18 fun ac21 En22 => ?_
 refine d_k [0,3,8,11] [(3, g_i .u64 (Go.Dbr.u32_to_u64 (x := g) rfl))] 4 En22 fun ac23 En24 => ?_
 refine f_o ?_
 refine c_l [0,1] (M := [.box bw [.slice wa10 (List.length (wput 2 l t)) wc11, .bool (wbad 2 1 65535 (List.length t) bad)] 115, .vec wa10 wc11 1 (bys (wput 2 l t)) 5]) En24 Hv18 (fun hM27 => wnum_go _ bw wa10 wc11 (wput 2 l t) (wbad 2 1 65535 (List.length t) bad) 4 (by omega) (UInt32.toUInt64 g) (by first | omega | (simp; omega)) hM27) ?_
 rintro _ wo28 ⟨wa25, wc26, rfl, he29⟩
 refine ⟨_, _, [.box bw [.slice wa25 (List.length ((wput 2 l t) ++ beN 4 (UInt64.toNat (UInt32.toUInt64 g)))) wc26, .bool (wbad 2 1 65535 (List.length t) bad)] 115, .vec wa25 wc26 1 (bys ((wput 2 l t) ++ beN 4 (UInt64.toNat (UInt32.toUInt64 g)))) 5, .box bk1 [.slice at1 (List.length t) ct, uv32 g, .slice ab (List.length b) cb] 140], rfl, he29, by kernel_rfl, fun ac31 En32 Hv33 => ?_⟩
 refine f_e ?_
 refine d_end0 En32 (by kernel_rfl) ?_
 rw [u32_64] at Hv33
 exact ⟨wa25, wc26, rfl, Hv33.pk [0, 1]⟩

theorem wpsk2_go (w : World) (bw : Nat) (a : Option Addr) (c : Nat) (l : Bs) (bad : Bool) (at1 : Option Addr) (ct : Nat) (t : Bs) (it : InB w [.box bw [.slice a (List.length l) c, .bool bad] 115, .vec a c 1 (bys l) 5] at1 ct t) (g : UInt32) (ab : Option Addr) (cb : Nat) (b : Bs) (ib : InB w [.box bw [.slice a (List.length l) c, .bool bad] 115, .vec a c 1 (bys l) 5] ab cb b) (hb : List.length l + 1 + List.length b ≤ 200000000000000) (hH : Heap w [.box bw [.slice a (List.length l) c, .bool bad] 115, .vec a c 1 (bys l) 5]) : Calls Try.prog 127 #[pt bw, .agg #[.slice at1 (List.length t) ct, uv32 g, .slice ab (List.length b) cb]] w fun e w' => ∃ a' c', e = .returned (.tuple #[]) ∧ Ev w [.box bw [.slice a (List.length l) c, .bool bad] 115, .vec a c 1 (bys l) 5] w' [.box bw [.slice a' (List.length ((k2F (l, bad) (t, g, b)).1)) c', .bool ((k2F (l, bad) (t, g, b)).2)] 115, .vec a' c' 1 (bys ((k2F (l, bad) (t, g, b)).1)) 5] := by
 have hbs := ib.small
 refine d_0 [(0, pt bw), (1, .agg #[.slice at1 (List.length t) ct, uv32 g, .slice ab (List.length b) cb])] 8 Go.Proofs.Try.func127 Go.Proofs.Try.ntmps127 (hH) fun act0 En0 Hv0 => ?_
 refine wp_seq ?_
 refine region_from ?_
 refine f_o ?_
 refine m_m 140 [.slice at1 (List.length t) ct, uv32 g, .slice ab (List.length b) cb] En0 Hv0 fun ac2 wo3 bk1 En4 Hv5 => ?_
 refine f_e ?_
 refine then_normal ?_
 refine region_from ?_
 refine d_k [4,5] [] 2 En4 fun ac6 En7 => ?_
 refine f_o ?_
 refine m_l 2 En7 Hv5 fun ac8 En9 => ?_
 refine f_o ?_
 refine c_l [0,1] (M := [.box bw [.slice a (List.length l) c, .bool bad] 115, .vec a c 1 (bys l) 5]) En9 Hv5 (fun hM12 => wlist_go _ bw a c l bad 1 (by omega) 32 255 (by omega) (by omega) ab cb b ((ib.ev Hv5).pick [0, 1] (by kernel_rfl)) (by first | omega | (simp [wput_len, beN_len]; done) | (simp [wput_len, beN_len]; omega)) hM12) ?_
 rintro _ wo13 ⟨wa10, wc11, rfl, he14⟩
 refine ⟨_, _, [.box bw [.slice wa10 (List.length (wput 1 l b)) wc11, .bool (wbad 1 32 255 (List.length b) bad)] 115, .vec wa10 wc11 1 (bys (wput 1 l b)) 5, .box bk1 [.slice at1 (List.length t) ct, uv32 g, .slice ab (List.length b) cb] 140], rfl, he14, by kernel_rfl, fun ac16 En17 Hv18 => ?_⟩
 refine f_e ?_
 refine d_end0 En17 (by kernel_rfl) ?_
 exact ⟨wa10, wc11, rfl, Hv18.pk [0, 1]⟩

end Go.Proofs.Ytofecellbfhnjaa
