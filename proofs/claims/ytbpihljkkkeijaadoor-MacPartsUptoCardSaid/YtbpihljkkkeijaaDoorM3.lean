/- Layer 6: codes of parts: the walk. -/
import Derived.Test.YtbpihljkkkeijaaDoorM2
namespace Go.Proofs.YtbpihljkkkeijaaDoor
open Go.Dbr
set_option maxRecDepth 100000
set_option maxHeartbeats 2000000
set_option linter.unusedVariables false
set_option linter.unusedSimpArgs false

theorem code_go (w : World) (bi bo d1 d2 : Nat) (h : Int) (hh : h = 1 ∨ h = 2 ∨ h = 3) (k1 k2 : List UInt8) (a1 : Option Addr) (c1 : Nat) (a2 : Option Addr) (c2 : Nat) (ax : Option Addr) (nx cx : Nat) (lx : List (Sl UInt8)) (ex : nx = List.length lx) (ix : InS (fun s : Sl UInt8 => s.f) 24 (fun x : Sl UInt8 => InB w [.box bi [pt d1] 31, .box bo [pt d2] 31, .box d1 (([.int .i64 h] : List Value) ++ ((u32s (S32 h k1)) ++ ((u64s (S64 h k1)) ++ ([.slice a1 (List.length (restH h k1)) c1, uv64 (UInt64.ofNat (List.length k1))] : List Value)))) 58, .vec a1 c1 1 (bys (restH h k1)) 5, .box d2 (([.int .i64 h] : List Value) ++ ((u32s (S32 h k2)) ++ ((u64s (S64 h k2)) ++ ([.slice a2 (List.length (restH h k2)) c2, uv64 (UInt64.ofNat (List.length k2))] : List Value)))) 58, .vec a2 c2 1 (bys (restH h k2)) 5] x.a x.c x.l) w [.box bi [pt d1] 31, .box bo [pt d2] 31, .box d1 (([.int .i64 h] : List Value) ++ ((u32s (S32 h k1)) ++ ((u64s (S64 h k1)) ++ ([.slice a1 (List.length (restH h k1)) c1, uv64 (UInt64.ofNat (List.length k1))] : List Value)))) 58, .vec a1 c1 1 (bys (restH h k1)) 5, .box d2 (([.int .i64 h] : List Value) ++ ((u32s (S32 h k2)) ++ ((u64s (S64 h k2)) ++ ([.slice a2 (List.length (restH h k2)) c2, uv64 (UInt64.ofNat (List.length k2))] : List Value)))) 58, .vec a2 c2 1 (bys (restH h k2)) 5] ax cx lx) (gk32 : InU32 w [.box bi [pt d1] 31, .box bo [pt d2] 31, .box d1 (([.int .i64 h] : List Value) ++ ((u32s (S32 h k1)) ++ ((u64s (S64 h k1)) ++ ([.slice a1 (List.length (restH h k1)) c1, uv64 (UInt64.ofNat (List.length k1))] : List Value)))) 58, .vec a1 c1 1 (bys (restH h k1)) 5, .box d2 (([.int .i64 h] : List Value) ++ ((u32s (S32 h k2)) ++ ((u64s (S64 h k2)) ++ ([.slice a2 (List.length (restH h k2)) c2, uv64 (UInt64.ofNat (List.length k2))] : List Value)))) 58, .vec a2 c2 1 (bys (restH h k2)) 5] (some ⟨0, 0, none⟩) 64 K32) (gk64 : InU64 w [.box bi [pt d1] 31, .box bo [pt d2] 31, .box d1 (([.int .i64 h] : List Value) ++ ((u32s (S32 h k1)) ++ ((u64s (S64 h k1)) ++ ([.slice a1 (List.length (restH h k1)) c1, uv64 (UInt64.ofNat (List.length k1))] : List Value)))) 58, .vec a1 c1 1 (bys (restH h k1)) 5, .box d2 (([.int .i64 h] : List Value) ++ ((u32s (S32 h k2)) ++ ((u64s (S64 h k2)) ++ ([.slice a2 (List.length (restH h k2)) c2, uv64 (UInt64.ofNat (List.length k2))] : List Value)))) 58, .vec a2 c2 1 (bys (restH h k2)) 5] (some ⟨1, 0, none⟩) 80 K64) (hH : Heap w [.box bi [pt d1] 31, .box bo [pt d2] 31, .box d1 (([.int .i64 h] : List Value) ++ ((u32s (S32 h k1)) ++ ((u64s (S64 h k1)) ++ ([.slice a1 (List.length (restH h k1)) c1, uv64 (UInt64.ofNat (List.length k1))] : List Value)))) 58, .vec a1 c1 1 (bys (restH h k1)) 5, .box d2 (([.int .i64 h] : List Value) ++ ((u32s (S32 h k2)) ++ ((u64s (S64 h k2)) ++ ([.slice a2 (List.length (restH h k2)) c2, uv64 (UInt64.ofNat (List.length k2))] : List Value)))) 58, .vec a2 c2 1 (bys (restH h k2)) 5]) : Calls Tryd.prog 46 #[.slice ax nx cx, pt bi, pt bo] w fun e w' => ∃ ao co, e = .returned (.slice ao (List.length (sumF h (k2 ++ sumF h (k1 ++ (List.flatMap (fun s : Sl UInt8 => s.l) lx))))) co) ∧ Ev w [.box bi [pt d1] 31, .box bo [pt d2] 31, .box d1 (([.int .i64 h] : List Value) ++ ((u32s (S32 h k1)) ++ ((u64s (S64 h k1)) ++ ([.slice a1 (List.length (restH h k1)) c1, uv64 (UInt64.ofNat (List.length k1))] : List Value)))) 58, .vec a1 c1 1 (bys (restH h k1)) 5, .box d2 (([.int .i64 h] : List Value) ++ ((u32s (S32 h k2)) ++ ((u64s (S64 h k2)) ++ ([.slice a2 (List.length (restH h k2)) c2, uv64 (UInt64.ofNat (List.length k2))] : List Value)))) 58, .vec a2 c2 1 (bys (restH h k2)) 5] w' [.box bi [pt d1] 31, .box bo [pt d2] 31, .box d1 (([.int .i64 h] : List Value) ++ ((u32s (S32 h k1)) ++ ((u64s (S64 h k1)) ++ ([.slice a1 (List.length (restH h k1)) c1, uv64 (UInt64.ofNat (List.length k1))] : List Value)))) 58, .vec a1 c1 1 (bys (restH h k1)) 5, .box d2 (([.int .i64 h] : List Value) ++ ((u32s (S32 h k2)) ++ ((u64s (S64 h k2)) ++ ([.slice a2 (List.length (restH h k2)) c2, uv64 (UInt64.ofNat (List.length k2))] : List Value)))) 58, .vec a2 c2 1 (bys (restH h k2)) 5, .vec ao co 1 (bys (sumF h (k2 ++ sumF h (k1 ++ (List.flatMap (fun s : Sl UInt8 => s.l) lx))))) 5] := by
 subst ex
 have hs := ix.small
 have hc2 := ix.cap
 refine d_0 [(0, .slice ax (List.length lx) cx), (1, pt bi), (2, pt bo)] 29 Go.Proofs.Tryd.func46 Go.Proofs.Tryd.ntmps46 (hH) fun act0 En0 Hv0 => ?_
 refine wp_seq ?_
 refine d_r [0,1,2,4] [] En0 fun ac1 En2 => ?_
 refine then_normal ?_
 refine wp_seq ?_
 refine r_c (fun ac wo => ∃ (bq72 : _) (aoq72 : _) (coq72 : _) (bq80 : _) (aoq80 : _) (coq80 : _), Env ac 29 [(0, .slice ax (List.length lx) cx), (4, .slice none 0 0), (5, pt bq72), (6, pt bq80)] ∧ Ev w [.box bi [pt d1] 31, .box bo [pt d2] 31, .box d1 (([.int .i64 h] : List Value) ++ ((u32s (S32 h k1)) ++ ((u64s (S64 h k1)) ++ ([.slice a1 (List.length (restH h k1)) c1, uv64 (UInt64.ofNat (List.length k1))] : List Value)))) 58, .vec a1 c1 1 (bys (restH h k1)) 5, .box d2 (([.int .i64 h] : List Value) ++ ((u32s (S32 h k2)) ++ ((u64s (S64 h k2)) ++ ([.slice a2 (List.length (restH h k2)) c2, uv64 (UInt64.ofNat (List.length k2))] : List Value)))) 58, .vec a2 c2 1 (bys (restH h k2)) 5] wo [.box d2 (([.int .i64 h] : List Value) ++ ((u32s (S32 h k2)) ++ ((u64s (S64 h k2)) ++ ([.slice a2 (List.length (restH h k2)) c2, uv64 (UInt64.ofNat (List.length k2))] : List Value)))) 58, .vec a2 c2 1 (bys (restH h k2)) 5, .box bq80 (([.int .i64 h] : List Value) ++ ((u32s (S32 h k2)) ++ ((u64s (S64 h k2)) ++ ([.slice aoq80 (List.length (restH h k2)) coq80, uv64 (UInt64.ofNat (List.length k2))] : List Value)))) 58, .vec aoq80 coq80 1 (bys (restH h k2)) 5, .box d1 (([.int .i64 h] : List Value) ++ ((u32s (S32 h k1)) ++ ((u64s (S64 h k1)) ++ ([.slice a1 (List.length (restH h k1)) c1, uv64 (UInt64.ofNat (List.length k1))] : List Value)))) 58, .vec a1 c1 1 (bys (restH h k1)) 5, .box bq72 (([.int .i64 h] : List Value) ++ ((u32s (S32 h k1)) ++ ((u64s (S64 h k1)) ++ ([.slice aoq72 (List.length (restH h k1)) coq72, uv64 (UInt64.ofNat (List.length k1))] : List Value)))) 58, .vec aoq72 coq72 1 (bys (restH h k1)) 5, .box bi [pt d1] 31, .box bo [pt d2] 31]) ?_ ?_
 ·
  refine h_s (fun wv => Ev w [.box bi [pt d1] 31, .box bo [pt d2] 31, .box d1 (([.int .i64 h] : List Value) ++ ((u32s (S32 h k1)) ++ ((u64s (S64 h k1)) ++ ([.slice a1 (List.length (restH h k1)) c1, uv64 (UInt64.ofNat (List.length k1))] : List Value)))) 58, .vec a1 c1 1 (bys (restH h k1)) 5, .box d2 (([.int .i64 h] : List Value) ++ ((u32s (S32 h k2)) ++ ((u64s (S64 h k2)) ++ ([.slice a2 (List.length (restH h k2)) c2, uv64 (UInt64.ofNat (List.length k2))] : List Value)))) 58, .vec a2 c2 1 (bys (restH h k2)) 5] wv [.box bi [pt d1] 31, .box bo [pt d2] 31]) [] 6 ?_
  have wo3 := Hv0.trans (Ev.drew Hv0.heap)
  refine q_l 0 0 En2 (wo3.pk [0, 1]) fun ac90 En91 => ?_
  refine q_l 1 2 En91 (wo3.pk [0, 1]) fun ac92 En93 => ?_
  refine q_t 1 ?_
  refine c_l [2,3] (M := [.box d1 (([.int .i64 h] : List Value) ++ ((u32s (S32 h k1)) ++ ((u64s (S64 h k1)) ++ ([.slice a1 (List.length (restH h k1)) c1, uv64 (UInt64.ofNat (List.length k1))] : List Value)))) 58, .vec a1 c1 1 (bys (restH h k1)) 5]) En93 wo3 (fun hM95 => clone_go _ d1 h k1 a1 c1 hM95) ?_
  rintro _ wo96 ⟨bq94, aoq94, coq94, rfl, he97⟩
  refine ⟨_, _, [.box d1 (([.int .i64 h] : List Value) ++ ((u32s (S32 h k1)) ++ ((u64s (S64 h k1)) ++ ([.slice a1 (List.length (restH h k1)) c1, uv64 (UInt64.ofNat (List.length k1))] : List Value)))) 58, .vec a1 c1 1 (bys (restH h k1)) 5, .box bq94 (([.int .i64 h] : List Value) ++ ((u32s (S32 h k1)) ++ ((u64s (S64 h k1)) ++ ([.slice aoq94 (List.length (restH h k1)) coq94, uv64 (UInt64.ofNat (List.length k1))] : List Value)))) 58, .vec aoq94 coq94 1 (bys (restH h k1)) 5, .box bi [pt d1] 31, .box bo [pt d2] 31, .box d2 (([.int .i64 h] : List Value) ++ ((u32s (S32 h k2)) ++ ((u64s (S64 h k2)) ++ ([.slice a2 (List.length (restH h k2)) c2, uv64 (UInt64.ofNat (List.length k2))] : List Value)))) 58, .vec a2 c2 1 (bys (restH h k2)) 5], rfl, he97, by kernel_rfl, fun ac99 En100 Hv101 => ?_⟩
  refine ⟨fun _ => Hv101.pk [4, 5], ?_⟩
  refine q_t 3 ?_
  refine c_l [6,7] (M := [.box d2 (([.int .i64 h] : List Value) ++ ((u32s (S32 h k2)) ++ ((u64s (S64 h k2)) ++ ([.slice a2 (List.length (restH h k2)) c2, uv64 (UInt64.ofNat (List.length k2))] : List Value)))) 58, .vec a2 c2 1 (bys (restH h k2)) 5]) En100 Hv101 (fun hM103 => clone_go _ d2 h k2 a2 c2 hM103) ?_
  rintro _ wo104 ⟨bq102, aoq102, coq102, rfl, he105⟩
  refine ⟨_, _, [.box d2 (([.int .i64 h] : List Value) ++ ((u32s (S32 h k2)) ++ ((u64s (S64 h k2)) ++ ([.slice a2 (List.length (restH h k2)) c2, uv64 (UInt64.ofNat (List.length k2))] : List Value)))) 58, .vec a2 c2 1 (bys (restH h k2)) 5, .box bq102 (([.int .i64 h] : List Value) ++ ((u32s (S32 h k2)) ++ ((u64s (S64 h k2)) ++ ([.slice aoq102 (List.length (restH h k2)) coq102, uv64 (UInt64.ofNat (List.length k2))] : List Value)))) 58, .vec aoq102 coq102 1 (bys (restH h k2)) 5, .box d1 (([.int .i64 h] : List Value) ++ ((u32s (S32 h k1)) ++ ((u64s (S64 h k1)) ++ ([.slice a1 (List.length (restH h k1)) c1, uv64 (UInt64.ofNat (List.length k1))] : List Value)))) 58, .vec a1 c1 1 (bys (restH h k1)) 5, .box bq94 (([.int .i64 h] : List Value) ++ ((u32s (S32 h k1)) ++ ((u64s (S64 h k1)) ++ ([.slice aoq94 (List.length (restH h k1)) coq94, uv64 (UInt64.ofNat (List.length k1))] : List Value)))) 58, .vec aoq94 coq94 1 (bys (restH h k1)) 5, .box bi [pt d1] 31, .box bo [pt d2] 31], rfl, he105, by kernel_rfl, fun ac107 En108 Hv109 => ?_⟩
  refine ⟨fun _ => Hv109.pk [8, 9], ?_⟩
  refine q_s [4,5] [] 0 En108 (Hv109.pk [8, 9]) fun ac110 En111 => ?_
  exact h_e ⟨bq94, aoq94, coq94, bq102, aoq102, coq102, En111.sb, Hv109.pk [0, 1, 2, 3, 4, 5, 6, 7, 8, 9]⟩
 rintro ac112 wo113 ⟨bq72, aoq72, coq72, bq80, aoq80, coq80, En114, Hv115⟩
 refine then_normal ?_
 refine wp_seq ?_
 refine wp_seq ?_
 refine d_r [4,5,6,13,14,15] [] En114 fun ac116 En117 => ?_
 refine then_normal ?_
 refine wp_block ?_
 refine loop_m (fun ms118 ac wo => ∃ (k : Nat) (al : List UInt8) (ar : Option Addr) (cr : Nat), ms118 = (List.length lx - k : Nat) ∧ Env ac 29 [(4, .slice none 0 0), (5, pt bq72), (6, pt bq80), (13, .slice ax (List.length lx) cx), (14, ni (List.length lx)), (15, ni k)] ∧ Ev w [.box bi [pt d1] 31, .box bo [pt d2] 31, .box d1 (([.int .i64 h] : List Value) ++ ((u32s (S32 h k1)) ++ ((u64s (S64 h k1)) ++ ([.slice a1 (List.length (restH h k1)) c1, uv64 (UInt64.ofNat (List.length k1))] : List Value)))) 58, .vec a1 c1 1 (bys (restH h k1)) 5, .box d2 (([.int .i64 h] : List Value) ++ ((u32s (S32 h k2)) ++ ((u64s (S64 h k2)) ++ ([.slice a2 (List.length (restH h k2)) c2, uv64 (UInt64.ofNat (List.length k2))] : List Value)))) 58, .vec a2 c2 1 (bys (restH h k2)) 5] wo [.box bq72 (([.int .i64 h] : List Value) ++ ((u32s (S32 h al)) ++ ((u64s (S64 h al)) ++ ([.slice ar (List.length (restH h al)) cr, uv64 (UInt64.ofNat (List.length al))] : List Value)))) 58, .vec ar cr 1 (bys (restH h al)) 5, .box d2 (([.int .i64 h] : List Value) ++ ((u32s (S32 h k2)) ++ ((u64s (S64 h k2)) ++ ([.slice a2 (List.length (restH h k2)) c2, uv64 (UInt64.ofNat (List.length k2))] : List Value)))) 58, .vec a2 c2 1 (bys (restH h k2)) 5, .box bq80 (([.int .i64 h] : List Value) ++ ((u32s (S32 h k2)) ++ ((u64s (S64 h k2)) ++ ([.slice aoq80 (List.length (restH h k2)) coq80, uv64 (UInt64.ofNat (List.length k2))] : List Value)))) 58, .vec aoq80 coq80 1 (bys (restH h k2)) 5, .box d1 (([.int .i64 h] : List Value) ++ ((u32s (S32 h k1)) ++ ((u64s (S64 h k1)) ++ ([.slice a1 (List.length (restH h k1)) c1, uv64 (UInt64.ofNat (List.length k1))] : List Value)))) 58, .vec a1 c1 1 (bys (restH h k1)) 5, .box bi [pt d1] 31, .box bo [pt d2] 31] ∧ (k ≤ List.length lx) ∧ (al = k1 ++ (List.flatMap (fun s : Sl UInt8 => s.l) (List.take k lx)))) ⟨_, 0, k1, aoq72, coq72, rfl, En117.sb, Hv115.pk [6, 7, 0, 1, 2, 3, 4, 5, 8, 9], by omega, by simp⟩ ?_
 rintro mm124 ac120 wo121 ⟨k, al, ar, cr, rfl, En122, Hv123, hk, hal⟩
 refine wp_seq ?_
 refine d_r [4,5,6,13,14,15,16] [] En122 fun ac125 En126 => ?_
 refine then_normal ?_
 refine wp_seq ?_
 refine c_d (((k : Nat) : Int) < ((List.length lx : Nat) : Int)) En126 (fun hc127 => ?_) (fun hc127 => ?_)
 ·
  refine wp_skip ?_
  refine then_normal ?_
  refine wp_seq ?_
  refine wp_block ?_
  refine wp_seq ?_
  have hb130 : k < List.length lx := (by omega)
  obtain ⟨adr128, had129⟩ := some_of ix.nz hb130
  have hb131 : k < List.length lx := by omega
  obtain ⟨⟨a_x133, c_x133, x133⟩, hx132⟩ : ∃ x, (lx)[k]? = some x := ⟨_, List.getElem?_eq_getElem hb131⟩
  obtain i_x133 := ix.each _ (List.mem_of_getElem? hx132)
  replace i_x133 : InB w [.box bi [pt d1] 31, .box bo [pt d2] 31, .box d1 (([.int .i64 h] : List Value) ++ ((u32s (S32 h k1)) ++ ((u64s (S64 h k1)) ++ ([.slice a1 (List.length (restH h k1)) c1, uv64 (UInt64.ofNat (List.length k1))] : List Value)))) 58, .vec a1 c1 1 (bys (restH h k1)) 5, .box d2 (([.int .i64 h] : List Value) ++ ((u32s (S32 h k2)) ++ ((u64s (S64 h k2)) ++ ([.slice a2 (List.length (restH h k2)) c2, uv64 (UInt64.ofNat (List.length k2))] : List Value)))) 58, .vec a2 c2 1 (bys (restH h k2)) 5] a_x133 c_x133 x133 := i_x133
  refine region_from ?_
  refine f_o ?_
  refine q_v (x := Instr.indexAt 30 (.slice ax (List.length lx) cx) (ni k)) (v := .pointer (some (Addr.add adr128 k))) En126 (Go.Dbr.run_indexsl (e := 23) (sz := 1) (j := k) (jo := k) had129 (by kernel_rfl) (by kernel_rfl) (by omega) hb130 (Nat.mul_one _) _) fun ac134 En135 => ?_
  refine f_o ?_
  refine op_loadf (d := some 18) (t := 23) (ad := adr128) (ao := ax) (ys := List.flatMap (fun s : Sl UInt8 => s.f) lx) (o := k) (v := .slice a_x133 (List.length x133) c_x133) En135 (by kernel_rfl) rfl (ix.ro.ev Hv123).reads had129 ((flat_get1 (fun _ _ => rfl) hx132).trans rfl) (by kernel_rfl) ?_
  intro ac136 En137
  refine d_e [4,5,6,8,13,14,15] [] En137 fun ac138 En139 => ?_
  refine then_normal ?_
  have hrl := restH_lt h al
  have hxs := (ix.each _ (List.mem_of_getElem? hx132)).small
  simp only at hxs
  refine region_from ?_
  refine d_k [4,5,6,13,14,15,19,20] [] 2 En139 fun ac140 En141 => ?_
  refine f_o ?_
  refine c_l [0,1] (M := [.box bq72 (([.int .i64 h] : List Value) ++ ((u32s (S32 h al)) ++ ((u64s (S64 h al)) ++ ([.slice ar (List.length (restH h al)) cr, uv64 (UInt64.ofNat (List.length al))] : List Value)))) 58, .vec ar cr 1 (bys (restH h al)) 5]) En141 Hv123 (fun hM143 => write_go _ bq72 h hh al ar cr a_x133 (List.length x133) c_x133 x133 (by first | rfl | (simp; done) | (simp; omega) | omega) ((i_x133.ev Hv123).pick [0, 1] (by kernel_rfl)) (by first | omega | (simp only [List.length_cons, List.length_nil]; omega)) ((gk32.ev Hv123).pick [0, 1] (by kernel_rfl)) ((gk64.ev Hv123).pick [0, 1] (by kernel_rfl)) hM143) ?_
  rintro _ wo144 ⟨aoq142, coq142, rfl, he145⟩
  refine ⟨_, _, [.box bq72 (([.int .i64 h] : List Value) ++ ((u32s (S32 h (al ++ x133))) ++ ((u64s (S64 h (al ++ x133))) ++ ([.slice aoq142 (List.length (restH h (al ++ x133))) coq142, uv64 (UInt64.ofNat (List.length (al ++ x133)))] : List Value)))) 58, .vec aoq142 coq142 1 (bys (restH h (al ++ x133))) 5, .box d2 (([.int .i64 h] : List Value) ++ ((u32s (S32 h k2)) ++ ((u64s (S64 h k2)) ++ ([.slice a2 (List.length (restH h k2)) c2, uv64 (UInt64.ofNat (List.length k2))] : List Value)))) 58, .vec a2 c2 1 (bys (restH h k2)) 5, .box bq80 (([.int .i64 h] : List Value) ++ ((u32s (S32 h k2)) ++ ((u64s (S64 h k2)) ++ ([.slice aoq80 (List.length (restH h k2)) coq80, uv64 (UInt64.ofNat (List.length k2))] : List Value)))) 58, .vec aoq80 coq80 1 (bys (restH h k2)) 5, .box d1 (([.int .i64 h] : List Value) ++ ((u32s (S32 h k1)) ++ ((u64s (S64 h k1)) ++ ([.slice a1 (List.length (restH h k1)) c1, uv64 (UInt64.ofNat (List.length k1))] : List Value)))) 58, .vec a1 c1 1 (bys (restH h k1)) 5, .box bi [pt d1] 31, .box bo [pt d2] 31], rfl, he145, by kernel_rfl, fun ac147 En148 Hv149 => ?_⟩
  refine f_e ?_
  refine block_normal ?_
  refine then_normal ?_
  refine d_r [4,5,6,13,14,15] [(0, g_n (w_a k 1))] En148 fun ac150 En151 => ?_
  refine then_normal ?_
  refine ⟨_, ⟨k + 1, al ++ x133, aoq142, coq142, rfl, En151.sb, Hv149.pk [0, 1, 2, 3, 4, 5, 6, 7, 8, 9], by omega, by rw [flat_take_succ hx132, hal, List.append_assoc]⟩, ?_⟩
  omega
 ·
  refine wp_exit ?_
  refine then_exit ?_
  refine then_exit ?_
  refine block_exit ?_
  refine then_normal ?_
  refine wp_seq ?_
  have hkk : k = List.length lx := by omega
  have hae : al = k1 ++ (List.flatMap (fun s : Sl UInt8 => s.l) lx) := by rw [hal, hkk, List.take_length]
  have hr2 := restH_lt h k2
  have hsl := sumF_len hh al
  have hs64 := size_le h
  refine region_from ?_
  refine d_k [4,5,6,13,14,15,23,24] [] 2 En126 fun ac152 En153 => ?_
  refine f_o ?_
  refine c_l [0,1] (M := [.box bq72 (([.int .i64 h] : List Value) ++ ((u32s (S32 h al)) ++ ((u64s (S64 h al)) ++ ([.slice ar (List.length (restH h al)) cr, uv64 (UInt64.ofNat (List.length al))] : List Value)))) 58, .vec ar cr 1 (bys (restH h al)) 5]) En153 Hv123 (fun hM155 => sum_go _ bq72 h hh al ar cr ((gk32.ev Hv123).pick [0, 1] (by kernel_rfl)) ((gk64.ev Hv123).pick [0, 1] (by kernel_rfl)) hM155) ?_
  rintro _ wo156 ⟨aoq154, coq154, rfl, he157⟩
  refine ⟨_, _, [.box bq72 (([.int .i64 h] : List Value) ++ ((u32s (S32 h al)) ++ ((u64s (S64 h al)) ++ ([.slice ar (List.length (restH h al)) cr, uv64 (UInt64.ofNat (List.length al))] : List Value)))) 58, .vec ar cr 1 (bys (restH h al)) 5, .vec aoq154 coq154 1 (bys (sumF h al)) 5, .box d2 (([.int .i64 h] : List Value) ++ ((u32s (S32 h k2)) ++ ((u64s (S64 h k2)) ++ ([.slice a2 (List.length (restH h k2)) c2, uv64 (UInt64.ofNat (List.length k2))] : List Value)))) 58, .vec a2 c2 1 (bys (restH h k2)) 5, .box bq80 (([.int .i64 h] : List Value) ++ ((u32s (S32 h k2)) ++ ((u64s (S64 h k2)) ++ ([.slice aoq80 (List.length (restH h k2)) coq80, uv64 (UInt64.ofNat (List.length k2))] : List Value)))) 58, .vec aoq80 coq80 1 (bys (restH h k2)) 5, .box d1 (([.int .i64 h] : List Value) ++ ((u32s (S32 h k1)) ++ ((u64s (S64 h k1)) ++ ([.slice a1 (List.length (restH h k1)) c1, uv64 (UInt64.ofNat (List.length k1))] : List Value)))) 58, .vec a1 c1 1 (bys (restH h k1)) 5, .box bi [pt d1] 31, .box bo [pt d2] 31], rfl, he157, by kernel_rfl, fun ac159 En160 Hv161 => ?_⟩
  refine f_o ?_
  refine c_l [5,6] (M := [.box bq80 (([.int .i64 h] : List Value) ++ ((u32s (S32 h k2)) ++ ((u64s (S64 h k2)) ++ ([.slice aoq80 (List.length (restH h k2)) coq80, uv64 (UInt64.ofNat (List.length k2))] : List Value)))) 58, .vec aoq80 coq80 1 (bys (restH h k2)) 5]) En160 Hv161 (fun hM163 => write_go _ bq80 h hh k2 aoq80 coq80 aoq154 (List.length (sumF h al)) coq154 (sumF h al) (by first | rfl | (simp; done) | (simp; omega) | omega) (bys_in Hv161.heap (k := 2) rfl [5, 6] (by kernel_rfl) rfl (by first | omega | (simp; done) | (simp; omega))) (by first | omega | (simp only [List.length_cons, List.length_nil]; omega)) ((gk32.ev Hv161).pick [5, 6] (by kernel_rfl)) ((gk64.ev Hv161).pick [5, 6] (by kernel_rfl)) hM163) ?_
  rintro _ wo164 ⟨aoq162, coq162, rfl, he165⟩
  refine ⟨_, _, [.box bq80 (([.int .i64 h] : List Value) ++ ((u32s (S32 h (k2 ++ (sumF h al)))) ++ ((u64s (S64 h (k2 ++ (sumF h al)))) ++ ([.slice aoq162 (List.length (restH h (k2 ++ (sumF h al)))) coq162, uv64 (UInt64.ofNat (List.length (k2 ++ (sumF h al))))] : List Value)))) 58, .vec aoq162 coq162 1 (bys (restH h (k2 ++ (sumF h al)))) 5, .box bq72 (([.int .i64 h] : List Value) ++ ((u32s (S32 h al)) ++ ((u64s (S64 h al)) ++ ([.slice ar (List.length (restH h al)) cr, uv64 (UInt64.ofNat (List.length al))] : List Value)))) 58, .vec ar cr 1 (bys (restH h al)) 5, .vec aoq154 coq154 1 (bys (sumF h al)) 5, .box d2 (([.int .i64 h] : List Value) ++ ((u32s (S32 h k2)) ++ ((u64s (S64 h k2)) ++ ([.slice a2 (List.length (restH h k2)) c2, uv64 (UInt64.ofNat (List.length k2))] : List Value)))) 58, .vec a2 c2 1 (bys (restH h k2)) 5, .box d1 (([.int .i64 h] : List Value) ++ ((u32s (S32 h k1)) ++ ((u64s (S64 h k1)) ++ ([.slice a1 (List.length (restH h k1)) c1, uv64 (UInt64.ofNat (List.length k1))] : List Value)))) 58, .vec a1 c1 1 (bys (restH h k1)) 5, .box bi [pt d1] 31, .box bo [pt d2] 31], rfl, he165, by kernel_rfl, fun ac167 En168 Hv169 => ?_⟩
  refine f_e ?_
  refine then_normal ?_
  refine wp_seq ?_
  refine region_from ?_
  refine d_k [4,5,6,13,14,15,27] [] 1 En168 fun ac170 En171 => ?_
  refine f_o ?_
  refine c_l [0,1] (M := [.box bq80 (([.int .i64 h] : List Value) ++ ((u32s (S32 h (k2 ++ (sumF h al)))) ++ ((u64s (S64 h (k2 ++ (sumF h al)))) ++ ([.slice aoq162 (List.length (restH h (k2 ++ (sumF h al)))) coq162, uv64 (UInt64.ofNat (List.length (k2 ++ (sumF h al))))] : List Value)))) 58, .vec aoq162 coq162 1 (bys (restH h (k2 ++ (sumF h al)))) 5]) En171 Hv169 (fun hM173 => sum_go _ bq80 h hh (k2 ++ (sumF h al)) aoq162 coq162 ((gk32.ev Hv169).pick [0, 1] (by kernel_rfl)) ((gk64.ev Hv169).pick [0, 1] (by kernel_rfl)) hM173) ?_
  rintro _ wo174 ⟨aoq172, coq172, rfl, he175⟩
  refine ⟨_, _, [.box bq80 (([.int .i64 h] : List Value) ++ ((u32s (S32 h (k2 ++ (sumF h al)))) ++ ((u64s (S64 h (k2 ++ (sumF h al)))) ++ ([.slice aoq162 (List.length (restH h (k2 ++ (sumF h al)))) coq162, uv64 (UInt64.ofNat (List.length (k2 ++ (sumF h al))))] : List Value)))) 58, .vec aoq162 coq162 1 (bys (restH h (k2 ++ (sumF h al)))) 5, .vec aoq172 coq172 1 (bys (sumF h (k2 ++ (sumF h al)))) 5, .box bq72 (([.int .i64 h] : List Value) ++ ((u32s (S32 h al)) ++ ((u64s (S64 h al)) ++ ([.slice ar (List.length (restH h al)) cr, uv64 (UInt64.ofNat (List.length al))] : List Value)))) 58, .vec ar cr 1 (bys (restH h al)) 5, .vec aoq154 coq154 1 (bys (sumF h al)) 5, .box d2 (([.int .i64 h] : List Value) ++ ((u32s (S32 h k2)) ++ ((u64s (S64 h k2)) ++ ([.slice a2 (List.length (restH h k2)) c2, uv64 (UInt64.ofNat (List.length k2))] : List Value)))) 58, .vec a2 c2 1 (bys (restH h k2)) 5, .box d1 (([.int .i64 h] : List Value) ++ ((u32s (S32 h k1)) ++ ((u64s (S64 h k1)) ++ ([.slice a1 (List.length (restH h k1)) c1, uv64 (UInt64.ofNat (List.length k1))] : List Value)))) 58, .vec a1 c1 1 (bys (restH h k1)) 5, .box bi [pt d1] 31, .box bo [pt d2] 31], rfl, he175, by kernel_rfl, fun ac177 En178 Hv179 => ?_⟩
  refine d_e [4,5,6,13,14,15] [] En178 fun ac180 En181 => ?_
  refine then_normal ?_
  refine wp_ret ?_
  refine d_ret1 (t := 4) (v := .slice aoq172 (List.length (sumF h (k2 ++ (sumF h al)))) coq172) En181 (by kernel_rfl) (by kernel_rfl) ?_
  have Hf182 := Hv179.pk [10, 11, 8, 9, 6, 7, 2] (M := [.box bi [pt d1] 31, .box bo [pt d2] 31, .box d1 (([.int .i64 h] : List Value) ++ ((u32s (S32 h k1)) ++ ((u64s (S64 h k1)) ++ ([.slice a1 (List.length (restH h k1)) c1, uv64 (UInt64.ofNat (List.length k1))] : List Value)))) 58, .vec a1 c1 1 (bys (restH h k1)) 5, .box d2 (([.int .i64 h] : List Value) ++ ((u32s (S32 h k2)) ++ ((u64s (S64 h k2)) ++ ([.slice a2 (List.length (restH h k2)) c2, uv64 (UInt64.ofNat (List.length k2))] : List Value)))) 58, .vec a2 c2 1 (bys (restH h k2)) 5, .vec aoq172 coq172 1 (bys (sumF h (k2 ++ (sumF h al)))) 5])
  rw [hae] at Hf182
  exact ⟨_, _, by rw [hae], Hf182⟩

end Go.Proofs.YtbpihljkkkeijaaDoor
