/- Layer 6: codes under a key: the walk. -/
import Derived.Test.YtbpihljkkkeijaaDoorM1
import Derived.Test.YtbpihljkkkeijaaDoorS17
namespace Go.Proofs.YtbpihljkkkeijaaDoor
open Go.Dbr
set_option maxRecDepth 100000
set_option maxHeartbeats 2000000
set_option linter.unusedVariables false
set_option linter.unusedSimpArgs false

theorem keyed_go (w : World) (h : Int) (hh : h = 1 ∨ h = 2 ∨ h = 3) (ak : Option Addr) (nk ck : Nat) (lk : List UInt8) (ek : nk = List.length lk) (ik : InB w [] ak ck lk) (gk32 : InU32 w [] (some ⟨0, 0, none⟩) 64 K32) (gk64 : InU64 w [] (some ⟨1, 0, none⟩) 80 K64) : Calls Tryd.prog 40 #[.int .i64 h, .slice ak nk ck] w fun e w' => ∃ bi bo d1 d2 a1 c1 a2 c2, e = .returned (.func (.func 46) #[] #[pt bi, pt bo]) ∧ Ev w [] w' [.box bi [pt d1] 31, .box bo [pt d2] 31, .box d1 (([.int .i64 h] : List Value) ++ ((u32s (S32 h (inK h lk))) ++ ((u64s (S64 h (inK h lk))) ++ ([.slice a1 (List.length (restH h (inK h lk))) c1, uv64 (UInt64.ofNat (List.length (inK h lk)))] : List Value)))) 58, .vec a1 c1 1 (bys (restH h (inK h lk))) 5, .box d2 (([.int .i64 h] : List Value) ++ ((u32s (S32 h (outK h lk))) ++ ((u64s (S64 h (outK h lk))) ++ ([.slice a2 (List.length (restH h (outK h lk))) c2, uv64 (UInt64.ofNat (List.length (outK h lk)))] : List Value)))) 58, .vec a2 c2 1 (bys (restH h (outK h lk))) 5] := by
 subst ek
 have hs := ik.small
 have hck := ik.cap
 have hbg := block_ge hh
 refine d_0 [(0, .int .i64 h), (1, .slice ak (List.length lk) ck)] 48 Go.Proofs.Tryd.func40 Go.Proofs.Tryd.ntmps40 (Heap.nil _) fun act0 En0 Hv0 => ?_
 refine wp_seq ?_
 refine d_r [0,1,4] [] En0 fun ac1 En2 => ?_
 refine then_normal ?_
 refine wp_seq ?_
 refine region_from ?_
 refine d_k [0,1,4,10] [] 1 En2 fun ac3 En4 => ?_
 refine f_o ?_
 refine c_p En4 Hv0 (block_go _ h) fun ac9 wo6 En10 Hv11 => ?_
 refine d_e [0,1,4,5] [] En10 fun ac12 En13 => ?_
 refine then_normal ?_
 refine wp_seq ?_
 refine wp_seq ?_
 refine d_r [0,1,4,5,15] [] En13 fun ac14 En15 => ?_
 refine then_normal ?_
 refine c_d (((List.length lk : Nat) : Int) > ((blockOf h : Nat) : Int)) En15 (fun hc16 => ?_) (fun hc16 => ?_)
 ·
  refine region_from ?_
  refine d_k [0,1,4,5,16,17] [] 2 En15 fun ac17 En18 => ?_
  refine f_o ?_
  refine op_lit (d := some 18) (t := 30) (T := 23) (m := 1) (parts := #[(0, .slice ak (List.length lk) ck)]) (xs := [.slice ak (List.length lk) ck]) (sz := 1) En18 (by kernel_rfl) (by kernel_rfl) rfl (by decide) Hv11 ?_
  intro ac20 wo21 bk19 En22 Hv23
  refine f_o ?_
  refine c_0 En22 Hv23 (of_all _ h hh (some ⟨bk19, 0, none⟩) 1 1 ([⟨ak, ck, lk⟩] : List (Sl UInt8)) (by first | rfl | (simp; done) | (simp; omega) | omega) ⟨Hv23.heap.ro (k := 0) rfl [] (by kernel_rfl) rfl, (fun e => by cases e), (by simp), (by simp), (List.forall_mem_cons.2 ⟨((ik.ev Hv23).pick [] (by kernel_rfl)), (fun x h => absurd h List.not_mem_nil)⟩)⟩ ((gk32.ev Hv23).pick [] (by kernel_rfl)) ((gk64.ev Hv23).pick [] (by kernel_rfl))) ?_
  rintro _ wo26 ⟨aoq24, coq24, rfl, he27⟩
  refine ⟨_, _, _, rfl, he27, rfl, fun ac29 En30 Hv31 => ?_⟩
  refine d_e [0,1,4,5] [] En30 fun ac32 En33 => ?_
  have hfe : sumF h (List.flatMap (fun s : Sl UInt8 => s.l) ([⟨ak, ck, lk⟩] : List (Sl UInt8))) = sumF h lk := by simp
  rw [hfe] at Hv31
  rw [hfe] at En33
  have hsl := sumF_len hh lk
  refine then_normal ?_
  refine wp_seq ?_
  refine region_from ?_
  refine d_k [0,1,4,5,20] [] 1 En33 fun ac34 En35 => ?_
  refine f_o ?_
  refine c_0 En35 Hv31 (new_dig _ h hh) ?_
  rintro _ wo38 ⟨bq36, rfl, he39⟩
  refine ⟨_, _, _, rfl, he39, rfl, fun ac41 En42 Hv43 => ?_⟩
  refine d_k [0,1,4,5,21,22] [] 3 En42 fun ac44 En45 => ?_
  refine f_o ?_
  refine c_0 En45 Hv43 (new_dig _ h hh) ?_
  rintro _ wo48 ⟨bq46, rfl, he49⟩
  refine ⟨_, _, _, rfl, he49, rfl, fun ac51 En52 Hv53 => ?_⟩
  refine f_o ?_
  refine m_z 31 [.pointer none] En52 Hv53 fun ac55 wo56 bk54 En57 Hv58 => ?_
  refine f_o ?_
  refine m_z 31 [.pointer none] En57 Hv58 fun ac60 wo61 bk59 En62 Hv63 => ?_
  refine f_o ?_
  refine m_s 6 [.box bq46 (([.int .i64 h] : List Value) ++ ((u32s (S32 h ([] : List UInt8))) ++ ((u64s (S64 h ([] : List UInt8))) ++ ([.slice none (List.length (restH h ([] : List UInt8))) 0, uv64 (UInt64.ofNat (List.length ([] : List UInt8)))] : List Value)))) 58, .vec none 0 1 (bys (restH h ([] : List UInt8))) 5, .box bq36 (([.int .i64 h] : List Value) ++ ((u32s (S32 h ([] : List UInt8))) ++ ((u64s (S64 h ([] : List UInt8))) ++ ([.slice none (List.length (restH h ([] : List UInt8))) 0, uv64 (UInt64.ofNat (List.length ([] : List UInt8)))] : List Value)))) 58, .vec none 0 1 (bys (restH h ([] : List UInt8))) 5, .vec aoq24 coq24 1 (bys (sumF h lk)) 5, .vec (some ⟨bk19, 0, none⟩) 1 1 [.slice ak (List.length lk) ck] 23, .box bk54 [pt bq36] 31, .box bk59 [.pointer none] 31] En62 Hv63 fun ac64 wo65 En66 Hv67 => ?_
  refine f_o ?_
  refine m_s 7 [.box bq46 (([.int .i64 h] : List Value) ++ ((u32s (S32 h ([] : List UInt8))) ++ ((u64s (S64 h ([] : List UInt8))) ++ ([.slice none (List.length (restH h ([] : List UInt8))) 0, uv64 (UInt64.ofNat (List.length ([] : List UInt8)))] : List Value)))) 58, .vec none 0 1 (bys (restH h ([] : List UInt8))) 5, .box bq36 (([.int .i64 h] : List Value) ++ ((u32s (S32 h ([] : List UInt8))) ++ ((u64s (S64 h ([] : List UInt8))) ++ ([.slice none (List.length (restH h ([] : List UInt8))) 0, uv64 (UInt64.ofNat (List.length ([] : List UInt8)))] : List Value)))) 58, .vec none 0 1 (bys (restH h ([] : List UInt8))) 5, .vec aoq24 coq24 1 (bys (sumF h lk)) 5, .vec (some ⟨bk19, 0, none⟩) 1 1 [.slice ak (List.length lk) ck] 23, .box bk54 [pt bq36] 31, .box bk59 [pt bq46] 31] En66 Hv67 fun ac68 wo69 En70 Hv71 => ?_
  refine f_e ?_
  refine then_normal ?_
  refine wp_seq ?_
  refine wp_seq ?_
  refine d_r [0,1,4,5,6,7,24,25] [] En70 fun ac72 En73 => ?_
  refine then_normal ?_
  refine wp_block ?_
  refine loop_m (fun ms74 ac wo => ∃ (i : Nat) (r1 : Option Addr) (q1 : Nat) (r2 : Option Addr) (q2 : Nat), ms74 = (blockOf h - i : Nat) ∧ Env ac 48 [(0, .int .i64 h), (1, .slice aoq24 (List.length (sumF h lk)) coq24), (4, .nilFunc), (5, ni (blockOf h)), (6, pt bk54), (7, pt bk59), (24, ni (blockOf h)), (25, ni i)] ∧ Ev w [] wo [.box bq36 (([.int .i64 h] : List Value) ++ ((u32s (S32 h (xk (sumF h lk) 54 i))) ++ ((u64s (S64 h (xk (sumF h lk) 54 i))) ++ ([.slice r1 (List.length (restH h (xk (sumF h lk) 54 i))) q1, uv64 (UInt64.ofNat (List.length (xk (sumF h lk) 54 i)))] : List Value)))) 58, .vec r1 q1 1 (bys (restH h (xk (sumF h lk) 54 i))) 5, .box bq46 (([.int .i64 h] : List Value) ++ ((u32s (S32 h (xk (sumF h lk) 92 i))) ++ ((u64s (S64 h (xk (sumF h lk) 92 i))) ++ ([.slice r2 (List.length (restH h (xk (sumF h lk) 92 i))) q2, uv64 (UInt64.ofNat (List.length (xk (sumF h lk) 92 i)))] : List Value)))) 58, .vec r2 q2 1 (bys (restH h (xk (sumF h lk) 92 i))) 5, .vec aoq24 coq24 1 (bys (sumF h lk)) 5, .box bk54 [pt bq36] 31, .box bk59 [pt bq46] 31] ∧ (i ≤ blockOf h)) ⟨_, 0, none, 0, none, 0, rfl, En73.sb, Hv71.pk [2, 1, 0, 3, 4, 6, 7], by omega⟩ ?_
  rintro mm80 ac76 wo77 ⟨i, r1, q1, r2, q2, rfl, En78, Hv79, hi⟩
  refine wp_seq ?_
  refine d_r [0,1,4,5,6,7,24,25,26] [] En78 fun ac81 En82 => ?_
  refine then_normal ?_
  refine wp_seq ?_
  refine c_d (((i : Nat) : Int) < ((blockOf h : Nat) : Int)) En82 (fun hc83 => ?_) (fun hc83 => ?_)
  ·
   refine wp_skip ?_
   refine then_normal ?_
   refine wp_seq ?_
   refine wp_block ?_
   refine wp_seq ?_
   refine d_r [0,1,4,5,6,7,8,24,25] [] En82 fun ac84 En85 => ?_
   refine then_normal ?_
   refine wp_seq ?_
   refine d_r [0,1,4,5,6,7,8,9,24,25] [] En85 fun ac86 En87 => ?_
   refine then_normal ?_
   refine wp_seq ?_
   refine wp_seq ?_
   refine d_r [0,1,4,5,6,7,8,9,24,25,31] [] En87 fun ac88 En89 => ?_
   refine then_normal ?_
   refine region_cut (F := fun ac wo => ∃ (cc : UInt8), Env ac 48 [(0, .int .i64 h), (1, .slice aoq24 (List.length (sumF h lk)) coq24), (4, .nilFunc), (5, ni (blockOf h)), (6, pt bk54), (7, pt bk59), (8, ni i), (9, bv cc), (24, ni (blockOf h)), (25, ni i)] ∧ Ev w [] wo [.box bq36 (([.int .i64 h] : List Value) ++ ((u32s (S32 h (xk (sumF h lk) 54 i))) ++ ((u64s (S64 h (xk (sumF h lk) 54 i))) ++ ([.slice r1 (List.length (restH h (xk (sumF h lk) 54 i))) q1, uv64 (UInt64.ofNat (List.length (xk (sumF h lk) 54 i)))] : List Value)))) 58, .vec r1 q1 1 (bys (restH h (xk (sumF h lk) 54 i))) 5, .box bq46 (([.int .i64 h] : List Value) ++ ((u32s (S32 h (xk (sumF h lk) 92 i))) ++ ((u64s (S64 h (xk (sumF h lk) 92 i))) ++ ([.slice r2 (List.length (restH h (xk (sumF h lk) 92 i))) q2, uv64 (UInt64.ofNat (List.length (xk (sumF h lk) 92 i)))] : List Value)))) 58, .vec r2 q2 1 (bys (restH h (xk (sumF h lk) 92 i))) 5, .vec aoq24 coq24 1 (bys (sumF h lk)) 5, .box bk54 [pt bq36] 31, .box bk59 [pt bq46] 31] ∧ (cc = List.getD (sumF h lk) i 0)) ?_ ?_
   ·
    refine c_d (((i : Nat) : Int) < ((List.length (sumF h lk) : Nat) : Int)) En89 (fun hc90 => ?_) (fun hc90 => ?_)
    ·
     have hb93 : i < List.length (sumF h lk) := (by omega)
     obtain ⟨adr91, had92⟩ := some_of (bys_vnz Hv79.heap (k := 4) rfl) hb93
     refine region_from ?_
     refine d_k [0,1,4,5,6,7,8,9,24,25,32,33] [] 2 En89 fun ac94 En95 => ?_
     refine f_o ?_
     refine q_v (x := Instr.indexAt 23 (.slice aoq24 (List.length (sumF h lk)) coq24) (ni i)) (v := .pointer (some (Addr.add adr91 i))) En95 (Go.Dbr.run_indexsl (e := 5) (sz := 1) (j := i) (jo := i) had92 (by kernel_rfl) (by kernel_rfl) (by omega) hb93 (Nat.mul_one _) _) fun ac96 En97 => ?_
     refine f_o ?_
     have hb98 : i < List.length (sumF h lk) := by omega
     refine op_loadel (d := some 35) (t := 5) (ad := adr91) (ao := aoq24) (xs := bys (sumF h lk)) (j := i) (v := bv (List.getD (sumF h lk) i 0)) En97 (by kernel_rfl) (Hv79.heap.reads (k := 4) rfl) had92 (bys_getD hb98) (by kernel_rfl) ?_
     intro ac99 En100
     refine d_e [0,1,4,5,6,7,8,9,24,25] [] En100 fun ac101 En102 => ?_
     exact ⟨rfl, ⟨(List.getD (sumF h lk) i 0), En102.sb, Hv79.pk [0, 1, 2, 3, 4, 5, 6], by first | rfl | exact (getD_over (by omega)).symm⟩⟩
    ·
     refine wp_skip ?_
     exact ⟨rfl, ⟨(0 : UInt8), En89.sb, Hv79.pk [0, 1, 2, 3, 4, 5, 6], by first | rfl | exact (getD_over (by omega)).symm⟩⟩
   ·
    rintro ac103 wo104 ⟨cc, En105, Hv106, hcc⟩
    refine then_normal ?_
    refine wp_seq ?_
    have hrl11 := restH_lt h (xk (sumF h lk) 54 i)
    refine region_from ?_
    refine f_o ?_
    refine m_l 5 En105 Hv106 fun ac107 En108 => ?_
    refine d_k [0,1,4,5,6,7,8,9,24,25,36,38] [(2, g_i .u8 (Go.Dbr.u8_xor (x := cc) (y := (54 : UInt8)) rfl rfl))] 3 En108 fun ac109 En110 => ?_
    refine f_o ?_
    refine op_lit (d := some 39) (t := 23) (T := 5) (m := 1) (parts := #[(0, bv (cc ^^^ (54 : UInt8)))]) (xs := bys [cc ^^^ (54 : UInt8)]) (sz := 1) En110 (by kernel_rfl) (by kernel_rfl) rfl (by decide) Hv106 ?_
    intro ac112 wo113 bk111 En114 Hv115
    refine f_o ?_
    refine c_l [0,1] (M := [.box bq36 (([.int .i64 h] : List Value) ++ ((u32s (S32 h (xk (sumF h lk) 54 i))) ++ ((u64s (S64 h (xk (sumF h lk) 54 i))) ++ ([.slice r1 (List.length (restH h (xk (sumF h lk) 54 i))) q1, uv64 (UInt64.ofNat (List.length (xk (sumF h lk) 54 i)))] : List Value)))) 58, .vec r1 q1 1 (bys (restH h (xk (sumF h lk) 54 i))) 5]) En114 Hv115 (fun hM117 => write_go _ bq36 h hh (xk (sumF h lk) 54 i) r1 q1 (some ⟨bk111, 0, none⟩) 1 1 [cc ^^^ (54 : UInt8)] (by first | rfl | (simp; done) | (simp; omega) | omega) (bys_in Hv115.heap (k := 7) rfl [0, 1] (by kernel_rfl) rfl (by first | omega | (simp; done) | (simp; omega))) (by first | omega | (simp only [List.length_cons, List.length_nil]; omega)) ((gk32.ev Hv115).pick [0, 1] (by kernel_rfl)) ((gk64.ev Hv115).pick [0, 1] (by kernel_rfl)) hM117) ?_
    rintro _ wo118 ⟨aoq116, coq116, rfl, he119⟩
    refine ⟨_, _, [.box bq36 (([.int .i64 h] : List Value) ++ ((u32s (S32 h ((xk (sumF h lk) 54 i) ++ [cc ^^^ (54 : UInt8)]))) ++ ((u64s (S64 h ((xk (sumF h lk) 54 i) ++ [cc ^^^ (54 : UInt8)]))) ++ ([.slice aoq116 (List.length (restH h ((xk (sumF h lk) 54 i) ++ [cc ^^^ (54 : UInt8)]))) coq116, uv64 (UInt64.ofNat (List.length ((xk (sumF h lk) 54 i) ++ [cc ^^^ (54 : UInt8)])))] : List Value)))) 58, .vec aoq116 coq116 1 (bys (restH h ((xk (sumF h lk) 54 i) ++ [cc ^^^ (54 : UInt8)]))) 5, .box bq46 (([.int .i64 h] : List Value) ++ ((u32s (S32 h (xk (sumF h lk) 92 i))) ++ ((u64s (S64 h (xk (sumF h lk) 92 i))) ++ ([.slice r2 (List.length (restH h (xk (sumF h lk) 92 i))) q2, uv64 (UInt64.ofNat (List.length (xk (sumF h lk) 92 i)))] : List Value)))) 58, .vec r2 q2 1 (bys (restH h (xk (sumF h lk) 92 i))) 5, .vec aoq24 coq24 1 (bys (sumF h lk)) 5, .box bk54 [pt bq36] 31, .box bk59 [pt bq46] 31, .vec (some ⟨bk111, 0, none⟩) 1 1 (bys [cc ^^^ (54 : UInt8)]) 5], rfl, he119, by kernel_rfl, fun ac121 En122 Hv123 => ?_⟩
    refine f_e ?_
    have hx0 : (xk (sumF h lk) 54 i) ++ [cc ^^^ (54 : UInt8)] = xk (sumF h lk) 54 (i + 1) := by rw [hcc]; exact (xk_succ _ _ _).symm
    rw [hx0] at Hv123
    refine then_normal ?_
    have hrl12 := restH_lt h (xk (sumF h lk) 92 i)
    refine region_from ?_
    refine f_o ?_
    refine m_l 6 En122 Hv123 fun ac124 En125 => ?_
    refine d_k [0,1,4,5,6,7,8,9,24,25,41,43] [(2, g_i .u8 (Go.Dbr.u8_xor (x := cc) (y := (92 : UInt8)) rfl rfl))] 3 En125 fun ac126 En127 => ?_
    refine f_o ?_
    refine op_lit (d := some 44) (t := 23) (T := 5) (m := 1) (parts := #[(0, bv (cc ^^^ (92 : UInt8)))]) (xs := bys [cc ^^^ (92 : UInt8)]) (sz := 1) En127 (by kernel_rfl) (by kernel_rfl) rfl (by decide) Hv123 ?_
    intro ac129 wo130 bk128 En131 Hv132
    refine f_o ?_
    refine c_l [2,3] (M := [.box bq46 (([.int .i64 h] : List Value) ++ ((u32s (S32 h (xk (sumF h lk) 92 i))) ++ ((u64s (S64 h (xk (sumF h lk) 92 i))) ++ ([.slice r2 (List.length (restH h (xk (sumF h lk) 92 i))) q2, uv64 (UInt64.ofNat (List.length (xk (sumF h lk) 92 i)))] : List Value)))) 58, .vec r2 q2 1 (bys (restH h (xk (sumF h lk) 92 i))) 5]) En131 Hv132 (fun hM134 => write_go _ bq46 h hh (xk (sumF h lk) 92 i) r2 q2 (some ⟨bk128, 0, none⟩) 1 1 [cc ^^^ (92 : UInt8)] (by first | rfl | (simp; done) | (simp; omega) | omega) (bys_in Hv132.heap (k := 8) rfl [2, 3] (by kernel_rfl) rfl (by first | omega | (simp; done) | (simp; omega))) (by first | omega | (simp only [List.length_cons, List.length_nil]; omega)) ((gk32.ev Hv132).pick [2, 3] (by kernel_rfl)) ((gk64.ev Hv132).pick [2, 3] (by kernel_rfl)) hM134) ?_
    rintro _ wo135 ⟨aoq133, coq133, rfl, he136⟩
    refine ⟨_, _, [.box bq46 (([.int .i64 h] : List Value) ++ ((u32s (S32 h ((xk (sumF h lk) 92 i) ++ [cc ^^^ (92 : UInt8)]))) ++ ((u64s (S64 h ((xk (sumF h lk) 92 i) ++ [cc ^^^ (92 : UInt8)]))) ++ ([.slice aoq133 (List.length (restH h ((xk (sumF h lk) 92 i) ++ [cc ^^^ (92 : UInt8)]))) coq133, uv64 (UInt64.ofNat (List.length ((xk (sumF h lk) 92 i) ++ [cc ^^^ (92 : UInt8)])))] : List Value)))) 58, .vec aoq133 coq133 1 (bys (restH h ((xk (sumF h lk) 92 i) ++ [cc ^^^ (92 : UInt8)]))) 5, .box bq36 (([.int .i64 h] : List Value) ++ ((u32s (S32 h (xk (sumF h lk) 54 (i + 1)))) ++ ((u64s (S64 h (xk (sumF h lk) 54 (i + 1)))) ++ ([.slice aoq116 (List.length (restH h (xk (sumF h lk) 54 (i + 1)))) coq116, uv64 (UInt64.ofNat (List.length (xk (sumF h lk) 54 (i + 1))))] : List Value)))) 58, .vec aoq116 coq116 1 (bys (restH h (xk (sumF h lk) 54 (i + 1)))) 5, .vec aoq24 coq24 1 (bys (sumF h lk)) 5, .box bk54 [pt bq36] 31, .box bk59 [pt bq46] 31, .vec (some ⟨bk111, 0, none⟩) 1 1 (bys [cc ^^^ (54 : UInt8)]) 5, .vec (some ⟨bk128, 0, none⟩) 1 1 (bys [cc ^^^ (92 : UInt8)]) 5], rfl, he136, by kernel_rfl, fun ac138 En139 Hv140 => ?_⟩
    refine f_e ?_
    have hx1 : (xk (sumF h lk) 92 i) ++ [cc ^^^ (92 : UInt8)] = xk (sumF h lk) 92 (i + 1) := by rw [hcc]; exact (xk_succ _ _ _).symm
    rw [hx1] at Hv140
    refine block_normal ?_
    refine then_normal ?_
    refine d_r [0,1,4,5,6,7,8,9,24,25] [(0, g_n (w_a i 1))] En139 fun ac141 En142 => ?_
    refine then_normal ?_
    refine ⟨_, ⟨i + 1, aoq116, coq116, aoq133, coq133, rfl, En142.sb, Hv140.pk [2, 3, 0, 1, 4, 5, 6], by omega⟩, ?_⟩
    omega
  ·
   refine wp_exit ?_
   refine then_exit ?_
   refine then_exit ?_
   refine block_exit ?_
   refine then_normal ?_
   refine wp_seq ?_
   refine d_r [0,1,4,5,6,7,24,25] [] En82 fun ac143 En144 => ?_
   refine then_normal ?_
   refine wp_ret ?_
   refine d_ret1 (t := 4) (v := .func (.func 46) #[] #[pt bk54, pt bk59]) En144 (by kernel_rfl) (by kernel_rfl) ?_
   have hib : i = blockOf h := by omega
   subst hib
   have Hf145 : Ev w [] wo77 [.box bk54 [pt bq36] 31, .box bk59 [pt bq46] 31, .box bq36 (([.int .i64 h] : List Value) ++ ((u32s (S32 h (xk (sumF h lk) 54 (blockOf h)))) ++ ((u64s (S64 h (xk (sumF h lk) 54 (blockOf h)))) ++ ([.slice r1 (List.length (restH h (xk (sumF h lk) 54 (blockOf h)))) q1, uv64 (UInt64.ofNat (List.length (xk (sumF h lk) 54 (blockOf h))))] : List Value)))) 58, .vec r1 q1 1 (bys (restH h (xk (sumF h lk) 54 (blockOf h)))) 5, .box bq46 (([.int .i64 h] : List Value) ++ ((u32s (S32 h (xk (sumF h lk) 92 (blockOf h)))) ++ ((u64s (S64 h (xk (sumF h lk) 92 (blockOf h)))) ++ ([.slice r2 (List.length (restH h (xk (sumF h lk) 92 (blockOf h)))) q2, uv64 (UInt64.ofNat (List.length (xk (sumF h lk) 92 (blockOf h))))] : List Value)))) 58, .vec r2 q2 1 (bys (restH h (xk (sumF h lk) 92 (blockOf h)))) 5] := Hv79.pk [5, 6, 0, 1, 2, 3]
   have hkk : keyOf h lk = sumF h lk := key_long (by omega)
   rw [← hkk] at Hf145
   exact ⟨_, _, _, _, _, _, _, _, rfl, Hf145⟩
 ·
  refine wp_skip ?_
  refine then_normal ?_
  refine wp_seq ?_
  refine region_from ?_
  refine d_k [0,1,4,5,20] [] 1 En15 fun ac146 En147 => ?_
  refine f_o ?_
  refine c_0 En147 Hv11 (new_dig _ h hh) ?_
  rintro _ wo150 ⟨bq148, rfl, he151⟩
  refine ⟨_, _, _, rfl, he151, rfl, fun ac153 En154 Hv155 => ?_⟩
  refine d_k [0,1,4,5,21,22] [] 3 En154 fun ac156 En157 => ?_
  refine f_o ?_
  refine c_0 En157 Hv155 (new_dig _ h hh) ?_
  rintro _ wo160 ⟨bq158, rfl, he161⟩
  refine ⟨_, _, _, rfl, he161, rfl, fun ac163 En164 Hv165 => ?_⟩
  refine f_o ?_
  refine m_z 31 [.pointer none] En164 Hv165 fun ac167 wo168 bk166 En169 Hv170 => ?_
  refine f_o ?_
  refine m_z 31 [.pointer none] En169 Hv170 fun ac172 wo173 bk171 En174 Hv175 => ?_
  refine f_o ?_
  refine m_s 4 [.box bq158 (([.int .i64 h] : List Value) ++ ((u32s (S32 h ([] : List UInt8))) ++ ((u64s (S64 h ([] : List UInt8))) ++ ([.slice none (List.length (restH h ([] : List UInt8))) 0, uv64 (UInt64.ofNat (List.length ([] : List UInt8)))] : List Value)))) 58, .vec none 0 1 (bys (restH h ([] : List UInt8))) 5, .box bq148 (([.int .i64 h] : List Value) ++ ((u32s (S32 h ([] : List UInt8))) ++ ((u64s (S64 h ([] : List UInt8))) ++ ([.slice none (List.length (restH h ([] : List UInt8))) 0, uv64 (UInt64.ofNat (List.length ([] : List UInt8)))] : List Value)))) 58, .vec none 0 1 (bys (restH h ([] : List UInt8))) 5, .box bk166 [pt bq148] 31, .box bk171 [.pointer none] 31] En174 Hv175 fun ac176 wo177 En178 Hv179 => ?_
  refine f_o ?_
  refine m_s 5 [.box bq158 (([.int .i64 h] : List Value) ++ ((u32s (S32 h ([] : List UInt8))) ++ ((u64s (S64 h ([] : List UInt8))) ++ ([.slice none (List.length (restH h ([] : List UInt8))) 0, uv64 (UInt64.ofNat (List.length ([] : List UInt8)))] : List Value)))) 58, .vec none 0 1 (bys (restH h ([] : List UInt8))) 5, .box bq148 (([.int .i64 h] : List Value) ++ ((u32s (S32 h ([] : List UInt8))) ++ ((u64s (S64 h ([] : List UInt8))) ++ ([.slice none (List.length (restH h ([] : List UInt8))) 0, uv64 (UInt64.ofNat (List.length ([] : List UInt8)))] : List Value)))) 58, .vec none 0 1 (bys (restH h ([] : List UInt8))) 5, .box bk166 [pt bq148] 31, .box bk171 [pt bq158] 31] En178 Hv179 fun ac180 wo181 En182 Hv183 => ?_
  refine f_e ?_
  refine then_normal ?_
  refine wp_seq ?_
  refine wp_seq ?_
  refine d_r [0,1,4,5,6,7,24,25] [] En182 fun ac184 En185 => ?_
  refine then_normal ?_
  refine wp_block ?_
  refine loop_m (fun ms186 ac wo => ∃ (i : Nat) (r1 : Option Addr) (q1 : Nat) (r2 : Option Addr) (q2 : Nat), ms186 = (blockOf h - i : Nat) ∧ Env ac 48 [(0, .int .i64 h), (1, .slice ak (List.length lk) ck), (4, .nilFunc), (5, ni (blockOf h)), (6, pt bk166), (7, pt bk171), (24, ni (blockOf h)), (25, ni i)] ∧ Ev w [] wo [.box bq148 (([.int .i64 h] : List Value) ++ ((u32s (S32 h (xk lk 54 i))) ++ ((u64s (S64 h (xk lk 54 i))) ++ ([.slice r1 (List.length (restH h (xk lk 54 i))) q1, uv64 (UInt64.ofNat (List.length (xk lk 54 i)))] : List Value)))) 58, .vec r1 q1 1 (bys (restH h (xk lk 54 i))) 5, .box bq158 (([.int .i64 h] : List Value) ++ ((u32s (S32 h (xk lk 92 i))) ++ ((u64s (S64 h (xk lk 92 i))) ++ ([.slice r2 (List.length (restH h (xk lk 92 i))) q2, uv64 (UInt64.ofNat (List.length (xk lk 92 i)))] : List Value)))) 58, .vec r2 q2 1 (bys (restH h (xk lk 92 i))) 5, .box bk166 [pt bq148] 31, .box bk171 [pt bq158] 31] ∧ (i ≤ blockOf h)) ⟨_, 0, none, 0, none, 0, rfl, En185.sb, Hv183.pk [2, 1, 0, 3, 4, 5], by omega⟩ ?_
  rintro mm192 ac188 wo189 ⟨i, r1, q1, r2, q2, rfl, En190, Hv191, hi⟩
  refine wp_seq ?_
  refine d_r [0,1,4,5,6,7,24,25,26] [] En190 fun ac193 En194 => ?_
  refine then_normal ?_
  refine wp_seq ?_
  refine c_d (((i : Nat) : Int) < ((blockOf h : Nat) : Int)) En194 (fun hc195 => ?_) (fun hc195 => ?_)
  ·
   refine wp_skip ?_
   refine then_normal ?_
   refine wp_seq ?_
   refine wp_block ?_
   refine wp_seq ?_
   refine d_r [0,1,4,5,6,7,8,24,25] [] En194 fun ac196 En197 => ?_
   refine then_normal ?_
   refine wp_seq ?_
   refine d_r [0,1,4,5,6,7,8,9,24,25] [] En197 fun ac198 En199 => ?_
   refine then_normal ?_
   refine wp_seq ?_
   refine wp_seq ?_
   refine d_r [0,1,4,5,6,7,8,9,24,25,31] [] En199 fun ac200 En201 => ?_
   refine then_normal ?_
   refine region_cut (F := fun ac wo => ∃ (cc : UInt8), Env ac 48 [(0, .int .i64 h), (1, .slice ak (List.length lk) ck), (4, .nilFunc), (5, ni (blockOf h)), (6, pt bk166), (7, pt bk171), (8, ni i), (9, bv cc), (24, ni (blockOf h)), (25, ni i)] ∧ Ev w [] wo [.box bq148 (([.int .i64 h] : List Value) ++ ((u32s (S32 h (xk lk 54 i))) ++ ((u64s (S64 h (xk lk 54 i))) ++ ([.slice r1 (List.length (restH h (xk lk 54 i))) q1, uv64 (UInt64.ofNat (List.length (xk lk 54 i)))] : List Value)))) 58, .vec r1 q1 1 (bys (restH h (xk lk 54 i))) 5, .box bq158 (([.int .i64 h] : List Value) ++ ((u32s (S32 h (xk lk 92 i))) ++ ((u64s (S64 h (xk lk 92 i))) ++ ([.slice r2 (List.length (restH h (xk lk 92 i))) q2, uv64 (UInt64.ofNat (List.length (xk lk 92 i)))] : List Value)))) 58, .vec r2 q2 1 (bys (restH h (xk lk 92 i))) 5, .box bk166 [pt bq148] 31, .box bk171 [pt bq158] 31] ∧ (cc = List.getD lk i 0)) ?_ ?_
   ·
    refine c_d (((i : Nat) : Int) < ((List.length lk : Nat) : Int)) En201 (fun hc202 => ?_) (fun hc202 => ?_)
    ·
     have hb205 : i < List.length lk := (by omega)
     obtain ⟨adr203, had204⟩ := some_of ik.nz hb205
     refine region_from ?_
     refine d_k [0,1,4,5,6,7,8,9,24,25,32,33] [] 2 En201 fun ac206 En207 => ?_
     refine f_o ?_
     refine q_v (x := Instr.indexAt 23 (.slice ak (List.length lk) ck) (ni i)) (v := .pointer (some (Addr.add adr203 i))) En207 (Go.Dbr.run_indexsl (e := 5) (sz := 1) (j := i) (jo := i) had204 (by kernel_rfl) (by kernel_rfl) (by omega) hb205 (Nat.mul_one _) _) fun ac208 En209 => ?_
     refine f_o ?_
     have hb210 : i < List.length lk := by omega
     refine op_loadel (d := some 35) (t := 5) (ad := adr203) (ao := ak) (xs := bys lk) (j := i) (v := bv (List.getD lk i 0)) En209 (by kernel_rfl) (ik.ev Hv191).reads had204 (bys_getD hb210) (by kernel_rfl) ?_
     intro ac211 En212
     refine d_e [0,1,4,5,6,7,8,9,24,25] [] En212 fun ac213 En214 => ?_
     exact ⟨rfl, ⟨(List.getD lk i 0), En214.sb, Hv191.pk [0, 1, 2, 3, 4, 5], by first | rfl | exact (getD_over (by omega)).symm⟩⟩
    ·
     refine wp_skip ?_
     exact ⟨rfl, ⟨(0 : UInt8), En201.sb, Hv191.pk [0, 1, 2, 3, 4, 5], by first | rfl | exact (getD_over (by omega)).symm⟩⟩
   ·
    rintro ac215 wo216 ⟨cc, En217, Hv218, hcc⟩
    refine then_normal ?_
    refine wp_seq ?_
    have hrl11 := restH_lt h (xk lk 54 i)
    refine region_from ?_
    refine f_o ?_
    refine m_l 4 En217 Hv218 fun ac219 En220 => ?_
    refine d_k [0,1,4,5,6,7,8,9,24,25,36,38] [(2, g_i .u8 (Go.Dbr.u8_xor (x := cc) (y := (54 : UInt8)) rfl rfl))] 3 En220 fun ac221 En222 => ?_
    refine f_o ?_
    refine op_lit (d := some 39) (t := 23) (T := 5) (m := 1) (parts := #[(0, bv (cc ^^^ (54 : UInt8)))]) (xs := bys [cc ^^^ (54 : UInt8)]) (sz := 1) En222 (by kernel_rfl) (by kernel_rfl) rfl (by decide) Hv218 ?_
    intro ac224 wo225 bk223 En226 Hv227
    refine f_o ?_
    refine c_l [0,1] (M := [.box bq148 (([.int .i64 h] : List Value) ++ ((u32s (S32 h (xk lk 54 i))) ++ ((u64s (S64 h (xk lk 54 i))) ++ ([.slice r1 (List.length (restH h (xk lk 54 i))) q1, uv64 (UInt64.ofNat (List.length (xk lk 54 i)))] : List Value)))) 58, .vec r1 q1 1 (bys (restH h (xk lk 54 i))) 5]) En226 Hv227 (fun hM229 => write_go _ bq148 h hh (xk lk 54 i) r1 q1 (some ⟨bk223, 0, none⟩) 1 1 [cc ^^^ (54 : UInt8)] (by first | rfl | (simp; done) | (simp; omega) | omega) (bys_in Hv227.heap (k := 6) rfl [0, 1] (by kernel_rfl) rfl (by first | omega | (simp; done) | (simp; omega))) (by first | omega | (simp only [List.length_cons, List.length_nil]; omega)) ((gk32.ev Hv227).pick [0, 1] (by kernel_rfl)) ((gk64.ev Hv227).pick [0, 1] (by kernel_rfl)) hM229) ?_
    rintro _ wo230 ⟨aoq228, coq228, rfl, he231⟩
    refine ⟨_, _, [.box bq148 (([.int .i64 h] : List Value) ++ ((u32s (S32 h ((xk lk 54 i) ++ [cc ^^^ (54 : UInt8)]))) ++ ((u64s (S64 h ((xk lk 54 i) ++ [cc ^^^ (54 : UInt8)]))) ++ ([.slice aoq228 (List.length (restH h ((xk lk 54 i) ++ [cc ^^^ (54 : UInt8)]))) coq228, uv64 (UInt64.ofNat (List.length ((xk lk 54 i) ++ [cc ^^^ (54 : UInt8)])))] : List Value)))) 58, .vec aoq228 coq228 1 (bys (restH h ((xk lk 54 i) ++ [cc ^^^ (54 : UInt8)]))) 5, .box bq158 (([.int .i64 h] : List Value) ++ ((u32s (S32 h (xk lk 92 i))) ++ ((u64s (S64 h (xk lk 92 i))) ++ ([.slice r2 (List.length (restH h (xk lk 92 i))) q2, uv64 (UInt64.ofNat (List.length (xk lk 92 i)))] : List Value)))) 58, .vec r2 q2 1 (bys (restH h (xk lk 92 i))) 5, .box bk166 [pt bq148] 31, .box bk171 [pt bq158] 31, .vec (some ⟨bk223, 0, none⟩) 1 1 (bys [cc ^^^ (54 : UInt8)]) 5], rfl, he231, by kernel_rfl, fun ac233 En234 Hv235 => ?_⟩
    refine f_e ?_
    have hx0 : (xk lk 54 i) ++ [cc ^^^ (54 : UInt8)] = xk lk 54 (i + 1) := by rw [hcc]; exact (xk_succ _ _ _).symm
    rw [hx0] at Hv235
    refine then_normal ?_
    have hrl12 := restH_lt h (xk lk 92 i)
    refine region_from ?_
    refine f_o ?_
    refine m_l 5 En234 Hv235 fun ac236 En237 => ?_
    refine d_k [0,1,4,5,6,7,8,9,24,25,41,43] [(2, g_i .u8 (Go.Dbr.u8_xor (x := cc) (y := (92 : UInt8)) rfl rfl))] 3 En237 fun ac238 En239 => ?_
    refine f_o ?_
    refine op_lit (d := some 44) (t := 23) (T := 5) (m := 1) (parts := #[(0, bv (cc ^^^ (92 : UInt8)))]) (xs := bys [cc ^^^ (92 : UInt8)]) (sz := 1) En239 (by kernel_rfl) (by kernel_rfl) rfl (by decide) Hv235 ?_
    intro ac241 wo242 bk240 En243 Hv244
    refine f_o ?_
    refine c_l [2,3] (M := [.box bq158 (([.int .i64 h] : List Value) ++ ((u32s (S32 h (xk lk 92 i))) ++ ((u64s (S64 h (xk lk 92 i))) ++ ([.slice r2 (List.length (restH h (xk lk 92 i))) q2, uv64 (UInt64.ofNat (List.length (xk lk 92 i)))] : List Value)))) 58, .vec r2 q2 1 (bys (restH h (xk lk 92 i))) 5]) En243 Hv244 (fun hM246 => write_go _ bq158 h hh (xk lk 92 i) r2 q2 (some ⟨bk240, 0, none⟩) 1 1 [cc ^^^ (92 : UInt8)] (by first | rfl | (simp; done) | (simp; omega) | omega) (bys_in Hv244.heap (k := 7) rfl [2, 3] (by kernel_rfl) rfl (by first | omega | (simp; done) | (simp; omega))) (by first | omega | (simp only [List.length_cons, List.length_nil]; omega)) ((gk32.ev Hv244).pick [2, 3] (by kernel_rfl)) ((gk64.ev Hv244).pick [2, 3] (by kernel_rfl)) hM246) ?_
    rintro _ wo247 ⟨aoq245, coq245, rfl, he248⟩
    refine ⟨_, _, [.box bq158 (([.int .i64 h] : List Value) ++ ((u32s (S32 h ((xk lk 92 i) ++ [cc ^^^ (92 : UInt8)]))) ++ ((u64s (S64 h ((xk lk 92 i) ++ [cc ^^^ (92 : UInt8)]))) ++ ([.slice aoq245 (List.length (restH h ((xk lk 92 i) ++ [cc ^^^ (92 : UInt8)]))) coq245, uv64 (UInt64.ofNat (List.length ((xk lk 92 i) ++ [cc ^^^ (92 : UInt8)])))] : List Value)))) 58, .vec aoq245 coq245 1 (bys (restH h ((xk lk 92 i) ++ [cc ^^^ (92 : UInt8)]))) 5, .box bq148 (([.int .i64 h] : List Value) ++ ((u32s (S32 h (xk lk 54 (i + 1)))) ++ ((u64s (S64 h (xk lk 54 (i + 1)))) ++ ([.slice aoq228 (List.length (restH h (xk lk 54 (i + 1)))) coq228, uv64 (UInt64.ofNat (List.length (xk lk 54 (i + 1))))] : List Value)))) 58, .vec aoq228 coq228 1 (bys (restH h (xk lk 54 (i + 1)))) 5, .box bk166 [pt bq148] 31, .box bk171 [pt bq158] 31, .vec (some ⟨bk223, 0, none⟩) 1 1 (bys [cc ^^^ (54 : UInt8)]) 5, .vec (some ⟨bk240, 0, none⟩) 1 1 (bys [cc ^^^ (92 : UInt8)]) 5], rfl, he248, by kernel_rfl, fun ac250 En251 Hv252 => ?_⟩
    refine f_e ?_
    have hx1 : (xk lk 92 i) ++ [cc ^^^ (92 : UInt8)] = xk lk 92 (i + 1) := by rw [hcc]; exact (xk_succ _ _ _).symm
    rw [hx1] at Hv252
    refine block_normal ?_
    refine then_normal ?_
    refine d_r [0,1,4,5,6,7,8,9,24,25] [(0, g_n (w_a i 1))] En251 fun ac253 En254 => ?_
    refine then_normal ?_
    refine ⟨_, ⟨i + 1, aoq228, coq228, aoq245, coq245, rfl, En254.sb, Hv252.pk [2, 3, 0, 1, 4, 5], by omega⟩, ?_⟩
    omega
  ·
   refine wp_exit ?_
   refine then_exit ?_
   refine then_exit ?_
   refine block_exit ?_
   refine then_normal ?_
   refine wp_seq ?_
   refine d_r [0,1,4,5,6,7,24,25] [] En194 fun ac255 En256 => ?_
   refine then_normal ?_
   refine wp_ret ?_
   refine d_ret1 (t := 4) (v := .func (.func 46) #[] #[pt bk166, pt bk171]) En256 (by kernel_rfl) (by kernel_rfl) ?_
   have hib : i = blockOf h := by omega
   subst hib
   have Hf257 : Ev w [] wo189 [.box bk166 [pt bq148] 31, .box bk171 [pt bq158] 31, .box bq148 (([.int .i64 h] : List Value) ++ ((u32s (S32 h (xk lk 54 (blockOf h)))) ++ ((u64s (S64 h (xk lk 54 (blockOf h)))) ++ ([.slice r1 (List.length (restH h (xk lk 54 (blockOf h)))) q1, uv64 (UInt64.ofNat (List.length (xk lk 54 (blockOf h))))] : List Value)))) 58, .vec r1 q1 1 (bys (restH h (xk lk 54 (blockOf h)))) 5, .box bq158 (([.int .i64 h] : List Value) ++ ((u32s (S32 h (xk lk 92 (blockOf h)))) ++ ((u64s (S64 h (xk lk 92 (blockOf h)))) ++ ([.slice r2 (List.length (restH h (xk lk 92 (blockOf h)))) q2, uv64 (UInt64.ofNat (List.length (xk lk 92 (blockOf h))))] : List Value)))) 58, .vec r2 q2 1 (bys (restH h (xk lk 92 (blockOf h)))) 5] := Hv191.pk [4, 5, 0, 1, 2, 3]
   have hkk : keyOf h lk = lk := key_short (by omega)
   rw [← hkk] at Hf257
   exact ⟨_, _, _, _, _, _, _, _, rfl, Hf257⟩

end Go.Proofs.YtbpihljkkkeijaaDoor
