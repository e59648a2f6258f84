/- Layer 9: streams. -/
import Derived.Test.YtnahplggflhdaaaC4
namespace Go.Proofs.Ytnahplggflhdaaa
open Go.Dbr
set_option maxRecDepth 100000
set_option maxHeartbeats 2000000
set_option linter.unusedVariables false
set_option linter.unusedSimpArgs false

/-- the stream's byte at a place -/
def ksAt (key : List UInt8) (c : UInt32) (nonce : List UInt8) (i : Nat) : UInt8 := List.getD (blockF key (c + UInt32.ofNat (i / 64)) nonce) (i % 64) 0
def strF (key : List UInt8) (c : UInt32) (nonce b : List UInt8) (i : Nat) : UInt8 := List.getD b i 0 ^^^ ksAt key c nonce i
def streamF (key : List UInt8) (c : UInt32) (nonce b : List UInt8) : List UInt8 := (List.range b.length).map (strF key c nonce b)
theorem streamF_len (key : List UInt8) (c : UInt32) (nonce b : List UInt8) : (streamF key c nonce b).length = b.length := by simp [streamF]
theorem getD_range_map {f : Nat → UInt8} {n i : Nat} (h : i < n) : List.getD ((List.range n).map f) i 0 = f i := by simp [List.getD, h]
theorem stream_twice (key : List UInt8) (c : UInt32) (nonce b : List UInt8) : streamF key c nonce (streamF key c nonce b) = b := by
  symm
  unfold streamF
  rw [List.length_map, List.length_range]
  refine eq_range_map 0 rfl fun j hj => ?_
  unfold strF
  rw [getD_range_map hj, UInt8.xor_assoc, UInt8.xor_self, UInt8.xor_zero]
theorem count_next (c : UInt32) (q : Nat) : c + UInt32.ofNat q + 1 = c + UInt32.ofNat (q + 1) := by
  rw [UInt32.ofNat_add, ← UInt32.add_assoc]
  rfl
theorem min_eq {a : Int} {n : Nat} (h : a = ((n : Nat) : Int)) : (if a < (64 : Int) then a else (64 : Int)) = ((min 64 n : Nat) : Int) := by subst h; split <;> omega

theorem stream_go (w : World) (lk : List UInt8) (hk : List.length lk = 32) (c : UInt32) (ln : List UInt8) (hn : List.length ln = 12) (ax : Option Addr) (nx cx : Nat) (lx : List UInt8) (ex : nx = List.length lx) (ix : InB w [] ax cx lx) : Calls Try.prog 9 #[.agg (List.toArray (bys lk)), uv32 c, .agg (List.toArray (bys ln)), .slice ax nx cx] w fun e w' => ∃ ao co, e = .returned (.slice ao (List.length (streamF lk c ln lx)) co) ∧ Ev w [] w' [.vec ao co 1 (bys (streamF lk c ln lx)) 5] := by
 subst ex
 have hs := ix.small
 have hcx := ix.cap
 refine d_start [(0, .agg (List.toArray (bys lk))), (1, uv32 c), (2, .agg (List.toArray (bys ln))), (3, .slice ax (List.length lx) cx)] 48 Go.Proofs.Try.func9 Go.Proofs.Try.ntmps9 rfl (by kernel_rfl) (by kernel_rfl) ?_
 intro act0 En0
 have Hv0 : Ev w [] w [] := Ev.refl (Heap.nil _)
 refine wp_seq ?_
 refine region_from ?_
 refine from_op (by kernel_rfl) ?_
 refine op_newbox (d := some 4) (T := 22) (v := .agg (List.toArray (bys lk))) (cs := bys lk) En0 (by kernel_rfl) rfl Hv0 ?_
 intro ac2 wo3 bk1 En4 Hv5
 refine from_op (by kernel_rfl) ?_
 refine op_newbox (d := some 6) (T := 24) (v := .agg (List.toArray (bys ln))) (cs := bys ln) En4 (by kernel_rfl) rfl Hv5 ?_
 intro ac7 wo8 bk6 En9 Hv10
 refine d_pures [(1, uv32 c), (3, .slice ax (List.length lx) cx), (4, pt bk1), (6, pt bk6), (8, .slice none 0 0)] [.slice none 0 0] 3 En9 (by kernel_rfl) (by kernel_rfl) rfl ?_
 intro ac11 En12
 refine from_end (by kernel_rfl) ?_
 refine then_normal ?_
 refine wp_seq ?_
 refine region_from ?_
 refine d_pures [(1, uv32 c), (4, pt bk1), (6, pt bk6), (8, .slice none 0 0), (13, .slice ax (List.length lx) cx)] [.slice ax (List.length lx) cx] 1 En12 (by kernel_rfl) (by kernel_rfl) rfl ?_
 intro ac13 En14
 refine from_op (by kernel_rfl) ?_
 have Hv15 : Ev w [] wo8 [.box bk1 (bys lk) 22, .box bk6 (bys ln) 24, .vec none 0 1 (bys []) 5] := Ev.nil (sz := 1) (T := 5) Hv10
 have hsm16 := ix.small
 refine op_append (d := some 14) (t := 25) (tx := 25) (ty := 25) (k := 2) (p := 0) (m := List.length lx) (x := .slice ax (List.length lx) cx) (bytes := 1) En14 (by kernel_rfl) Hv15 rfl (bys_lenn (by simp)) (Reads.src (size := 1) (tx := 25) (e' := 5) (by kernel_rfl) (ix.ev Hv15).reads (bys_len _) ix.nz (bys_one _)) (by kernel_rfl) (z := .int .u8 0) (by kernel_rfl) rfl (by decide) (by omega) (by unfold maxLen; omega) ?_
 intro ac21 wo22 ao17 cp18 En23 Hv24 _ _
 rw [bys_nil_append] at Hv24
 have ehz19 : 0 + (List.length lx) = List.length lx := (by first | (simp; done) | (simp; omega) | omega)
 rw [ehz19] at En23
 refine d_pures [(1, uv32 c), (4, pt bk1), (6, pt bk6), (8, .slice none 0 0), (9, .slice ao17 (List.length lx) cp18)] [.slice ao17 (List.length lx) cp18] 3 En23 (by kernel_rfl) (by kernel_rfl) rfl ?_
 intro ac25 En26
 refine from_end (by kernel_rfl) ?_
 refine then_normal ?_
 refine wp_seq ?_
 refine wp_seq ?_
 refine region_from ?_
 refine d_pures [(1, uv32 c), (4, pt bk1), (6, pt bk6), (8, .slice none 0 0), (9, .slice ao17 (List.length lx) cp18), (10, .int .i64 0)] [.int .i64 0] 1 En26 (by kernel_rfl) (by kernel_rfl) rfl ?_
 intro ac27 En28
 refine from_end (by kernel_rfl) ?_
 refine then_normal ?_
 refine wp_block ?_
 refine loop_m (fun ms29 ac wo => ∃ (q : Nat) (o : List UInt8) (cnt : UInt32), ms29 = (List.length lx + 64 - 64 * q : Nat) ∧ Env ac 48 [(1, uv32 cnt), (4, pt bk1), (6, pt bk6), (8, .slice none 0 0), (9, .slice ao17 (List.length lx) cp18), (10, .int .i64 ((64 * q : Nat) : Int))] ∧ Ev w [] wo [.vec ao17 cp18 1 (bys o) 5, .box bk1 (bys lk) 22, .box bk6 (bys ln) 24] ∧ (64 * q < List.length lx + 64) ∧ (List.length o = List.length lx) ∧ (cnt = c + UInt32.ofNat q) ∧ (∀ j, j < List.length lx → List.getD o j 0 = if j < 64 * q then strF lk c ln lx j else List.getD lx j 0)) ⟨_, 0, lx, c, rfl, En28.sub (by kernel_rfl), Hv24.pick [2, 0, 1] (by kernel_rfl) (by decide), by omega, rfl, by simp, fun j hj => by rw [if_neg (by omega)]⟩ ?_
 rintro mm35 ac31 wo32 ⟨q, o, cnt, rfl, En33, Hv34, hq, ho, hc, hp⟩
 refine wp_seq ?_
 refine wp_seq ?_
 refine region_from ?_
 refine d_pures [(1, uv32 cnt), (4, pt bk1), (6, pt bk6), (8, .slice none 0 0), (9, .slice ao17 (List.length lx) cp18), (10, .int .i64 ((64 * q : Nat) : Int)), (18, .bool (decide (((64 * q : Nat) : Int) < ((List.length lx : Nat) : Int))))] [.int .i64 ((64 * q : Nat) : Int), .slice ao17 (List.length lx) cp18, .int .i64 ((List.length lx : Nat) : Int), .bool (decide (((64 * q : Nat) : Int) < ((List.length lx : Nat) : Int)))] 4 En33 (by kernel_rfl) (by kernel_rfl) rfl ?_
 intro ac36 En37
 refine from_end (by kernel_rfl) ?_
 refine then_normal ?_
 refine cond_at En37 (t := decide (((64 * q : Nat) : Int) < ((List.length lx : Nat) : Int))) (by kernel_rfl) (fun hc38 => ?_) (fun hc38 => ?_)
 ·
  replace hc38 : ((64 * q : Nat) : Int) < ((List.length lx : Nat) : Int) := of_decide_eq_true hc38
  refine wp_skip ?_
  refine then_normal ?_
  refine wp_seq ?_
  refine wp_block ?_
  refine wp_seq ?_
  refine region_from ?_
  refine from_op (by kernel_rfl) ?_
  refine op_loadaggbox (d := some 21) (t := 22) (b := bk1) (off := 0) (k := 1) (m := 32) (xs := bys lk) En37 (by kernel_rfl) Hv34 rfl (load_whole (bys_lenh hk)) (bys_lenh hk) (by kernel_rfl) (by kernel_rfl) ?_
  intro ac39 En40
  refine d_pures [(1, uv32 cnt), (4, pt bk1), (6, pt bk6), (8, .slice none 0 0), (9, .slice ao17 (List.length lx) cp18), (10, .int .i64 ((64 * q : Nat) : Int)), (21, .agg (List.toArray (bys lk))), (22, uv32 cnt)] [uv32 cnt] 2 En40 (by kernel_rfl) (by kernel_rfl) rfl ?_
  intro ac41 En42
  refine from_op (by kernel_rfl) ?_
  refine op_loadaggbox (d := some 23) (t := 24) (b := bk6) (off := 0) (k := 2) (m := 12) (xs := bys ln) En42 (by kernel_rfl) Hv34 rfl (load_whole (bys_lenh hn)) (bys_lenh hn) (by kernel_rfl) (by kernel_rfl) ?_
  intro ac43 En44
  refine from_op (by kernel_rfl) ?_
  have hM45 : Heap wo32 [] := Hv34.heap.pick [] (by kernel_rfl) (by decide)
  refine op_call (d := some 24) (f := 11) (args := #[.agg (List.toArray (bys lk)), uv32 cnt, .agg (List.toArray (bys ln))]) En44 (by kernel_rfl) ((block_go _ lk hk cnt ln hn).mono ?_)
  rintro _ wo47 ⟨rfl, he50⟩
  refine ⟨_, rfl, ?_⟩
  intro ac46 En48
  have Hv49 : Ev w [] wo47 [.vec ao17 cp18 1 (bys o) 5, .box bk1 (bys lk) 22, .box bk6 (bys ln) 24] := Hv34.trans (Ev.call (R := [.vec ao17 cp18 1 (bys o) 5, .box bk1 (bys lk) 22, .box bk6 (bys ln) 24]) Hv34.heap [0, 1, 2] (by kernel_rfl) (by decide) he50)
  clear hM45 he50
  refine from_op (by kernel_rfl) ?_
  refine op_alloc (d := some 11) (T := 28) (x := .tuple #[]) (z := .agg (List.toArray (bys (List.replicate 64 0)))) (cs := bys (List.replicate 64 0)) En48 (by kernel_rfl) (by kernel_rfl) (by kernel_rfl) Hv49 ?_
  intro ac52 wo53 bk51 En54 Hv55
  refine from_op (by kernel_rfl) ?_
  refine op_storeaggbox (d := none) (t := 28) (b := bk51) (off := 0) (k := 3) (m := 64) (xs := bys (blockF lk cnt ln)) (v := .agg (List.toArray (bys (blockF lk cnt ln)))) (cs' := bys (blockF lk cnt ln)) En54 (by kernel_rfl) Hv55 rfl rfl (bys_lenh (blockF_len _ _ _)) (by rw [(bys_lenh (List.length_replicate))]; decide) (by kernel_rfl) (bys_one _) (store_whole (bys_lenh (List.length_replicate))) (L' := [.vec ao17 cp18 1 (bys o) 5, .box bk1 (bys lk) 22, .box bk6 (bys ln) 24, .box bk51 (bys (blockF lk cnt ln)) 28]) rfl ?_
  intro ac56 wo57  En58 Hv59
  refine from_end (by kernel_rfl) ?_
  refine then_normal ?_
  refine wp_seq ?_
  refine region_from ?_
  refine d_pures [(1, uv32 cnt), (4, pt bk1), (6, pt bk6), (8, .slice none 0 0), (9, .slice ao17 (List.length lx) cp18), (10, .int .i64 ((64 * q : Nat) : Int)), (11, pt bk51), (26, .int .u32 (IntKind.wrap .u32 (((UInt32.toNat cnt : Nat) : Int) + (1 : Int))))] [uv32 cnt, .int .u32 (IntKind.wrap .u32 (((UInt32.toNat cnt : Nat) : Int) + (1 : Int)))] 2 En58 (by kernel_rfl) (by kernel_rfl) rfl ?_
  intro ac60 En61
  rw [Go.Dbr.u32_add (a := ((UInt32.toNat cnt : Nat) : Int)) (b := (1 : Int)) (x := cnt) (y := (1 : UInt32)) rfl rfl] at En61
  refine d_pures [(1, .int .u32 ((UInt32.toNat (cnt + (1 : UInt32)) : Nat) : Int)), (4, pt bk1), (6, pt bk6), (8, .slice none 0 0), (9, .slice ao17 (List.length lx) cp18), (10, .int .i64 ((64 * q : Nat) : Int)), (11, pt bk51)] [.int .u32 ((UInt32.toNat (cnt + (1 : UInt32)) : Nat) : Int)] 3 En61 (by kernel_rfl) (by kernel_rfl) rfl ?_
  intro ac62 En63
  refine from_end (by kernel_rfl) ?_
  refine then_normal ?_
  refine wp_seq ?_
  refine region_from ?_
  refine d_pures [(1, .int .u32 ((UInt32.toNat (cnt + (1 : UInt32)) : Nat) : Int)), (4, pt bk1), (6, pt bk6), (8, .slice none 0 0), (9, .slice ao17 (List.length lx) cp18), (10, .int .i64 ((64 * q : Nat) : Int)), (11, pt bk51), (30, .int .i64 (IntKind.wrap .i64 (((List.length lx : Nat) : Int) - ((64 * q : Nat) : Int))))] [.slice ao17 (List.length lx) cp18, .int .i64 ((List.length lx : Nat) : Int), .int .i64 ((64 * q : Nat) : Int), .int .i64 (IntKind.wrap .i64 (((List.length lx : Nat) : Int) - ((64 * q : Nat) : Int)))] 4 En63 (by kernel_rfl) (by kernel_rfl) rfl ?_
  intro ac64 En65
  rw [Go.Dbr.wr64 (e := ((List.length lx : Nat) : Int) - ((64 * q : Nat) : Int)) (x := ((List.length lx - 64 * q : Nat) : Int)) (by omega) (by omega) (by omega)] at En65
  refine d_pures [(1, .int .u32 ((UInt32.toNat (cnt + (1 : UInt32)) : Nat) : Int)), (4, pt bk1), (6, pt bk6), (8, .slice none 0 0), (9, .slice ao17 (List.length lx) cp18), (10, .int .i64 ((64 * q : Nat) : Int)), (11, pt bk51), (31, .int .i64 (if ((List.length lx - 64 * q : Nat) : Int) < (64 : Int) then ((List.length lx - 64 * q : Nat) : Int) else (64 : Int)))] [.int .i64 (if ((List.length lx - 64 * q : Nat) : Int) < (64 : Int) then ((List.length lx - 64 * q : Nat) : Int) else (64 : Int))] 5 En65 (by kernel_rfl) (by kernel_rfl) rfl ?_
  intro ac66 En67
  rw [show (if ((List.length lx - 64 * q : Nat) : Int) < (64 : Int) then ((List.length lx - 64 * q : Nat) : Int) else (64 : Int)) = ((min 64 (List.length lx - 64 * q) : Nat) : Int) from min_eq rfl] at En67
  refine d_pures [(1, .int .u32 ((UInt32.toNat (cnt + (1 : UInt32)) : Nat) : Int)), (4, pt bk1), (6, pt bk6), (8, .slice none 0 0), (9, .slice ao17 (List.length lx) cp18), (10, .int .i64 ((64 * q : Nat) : Int)), (11, pt bk51), (31, .int .i64 ((min 64 (List.length lx - 64 * q) : Nat) : Int)), (32, .int .i64 0)] [.int .i64 0] 6 En67 (by kernel_rfl) (by kernel_rfl) rfl ?_
  intro ac68 En69
  refine from_end (by kernel_rfl) ?_
  refine then_normal ?_
  refine wp_block ?_
  refine loop_m (fun ms70 ac wo => ∃ (k : Nat) (o2 : List UInt8), ms70 = (64 - k : Nat) ∧ Env ac 48 [(1, .int .u32 ((UInt32.toNat (cnt + (1 : UInt32)) : Nat) : Int)), (4, pt bk1), (6, pt bk6), (8, .slice none 0 0), (9, .slice ao17 (List.length lx) cp18), (10, .int .i64 ((64 * q : Nat) : Int)), (11, pt bk51), (31, .int .i64 ((min 64 (List.length lx - 64 * q) : Nat) : Int)), (32, ni k)] ∧ Ev w [] wo [.vec ao17 cp18 1 (bys o2) 5, .box bk1 (bys lk) 22, .box bk6 (bys ln) 24, .box bk51 (bys (blockF lk cnt ln)) 28] ∧ (k ≤ min 64 (List.length lx - 64 * q)) ∧ (List.length o2 = List.length lx) ∧ (∀ j, j < List.length lx → List.getD o2 j 0 = if j < 64 * q + k then strF lk c ln lx j else List.getD lx j 0)) ⟨_, 0, o, rfl, En69.sub (by kernel_rfl), Hv59.pick [0, 1, 2, 3] (by kernel_rfl) (by decide), by omega, ho, fun j hj => by rw [hp j hj]; rfl⟩ ?_
  rintro mm76 ac72 wo73 ⟨k, o2, rfl, En74, Hv75, hk2, ho2, hp2⟩
  refine wp_seq ?_
  refine region_from ?_
  refine d_pures [(1, .int .u32 ((UInt32.toNat (cnt + (1 : UInt32)) : Nat) : Int)), (4, pt bk1), (6, pt bk6), (8, .slice none 0 0), (9, .slice ao17 (List.length lx) cp18), (10, .int .i64 ((64 * q : Nat) : Int)), (11, pt bk51), (31, .int .i64 ((min 64 (List.length lx - 64 * q) : Nat) : Int)), (32, ni k), (33, .bool (decide (((k : Nat) : Int) < ((min 64 (List.length lx - 64 * q) : Nat) : Int))))] [.bool (decide (((k : Nat) : Int) < ((min 64 (List.length lx - 64 * q) : Nat) : Int)))] 1 En74 (by kernel_rfl) (by kernel_rfl) rfl ?_
  intro ac77 En78
  refine from_end (by kernel_rfl) ?_
  refine then_normal ?_
  refine wp_seq ?_
  refine cond_at En78 (t := decide (((k : Nat) : Int) < ((min 64 (List.length lx - 64 * q) : Nat) : Int))) (by kernel_rfl) (fun hc79 => ?_) (fun hc79 => ?_)
  ·
   replace hc79 : ((k : Nat) : Int) < ((min 64 (List.length lx - 64 * q) : Nat) : Int) := of_decide_eq_true hc79
   refine wp_skip ?_
   refine then_normal ?_
   refine wp_seq ?_
   refine wp_block ?_
   refine wp_seq ?_
   refine region_from ?_
   refine d_pures [(1, .int .u32 ((UInt32.toNat (cnt + (1 : UInt32)) : Nat) : Int)), (4, pt bk1), (6, pt bk6), (8, .slice none 0 0), (9, .slice ao17 (List.length lx) cp18), (10, .int .i64 ((64 * q : Nat) : Int)), (11, pt bk51), (12, ni k), (31, .int .i64 ((min 64 (List.length lx - 64 * q) : Nat) : Int)), (32, ni k)] [ni k, ni k] 2 En78 (by kernel_rfl) (by kernel_rfl) rfl ?_
   intro ac80 En81
   refine from_end (by kernel_rfl) ?_
   refine then_normal ?_
   refine region_cut (F := fun ac wo => Env ac 48 [(1, .int .u32 ((UInt32.toNat (cnt + (1 : UInt32)) : Nat) : Int)), (4, pt bk1), (6, pt bk6), (8, .slice none 0 0), (9, .slice ao17 (List.length lx) cp18), (10, .int .i64 ((64 * q : Nat) : Int)), (11, pt bk51), (31, .int .i64 ((min 64 (List.length lx - 64 * q) : Nat) : Int)), (32, ni k)] ∧ Ev w [] wo [.vec ao17 cp18 1 (bys (List.set o2 ((64 * q) + k) ((List.getD o2 ((64 * q) + k) 0) ^^^ (List.getD (blockF lk cnt ln) k 0)))) 5, .box bk1 (bys lk) 22, .box bk6 (bys ln) 24, .box bk51 (bys (blockF lk cnt ln)) 28]) ?_ ?_
   ·
    refine h_start (fun wv => Ev w [] wv [.vec ao17 cp18 1 (bys o2) 5, .box bk51 (bys (blockF lk cnt ln)) 28]) [11] (by kernel_rfl) 12 (by kernel_rfl) ?_
    have wo82 := Hv75.trans (Ev.drew Hv75.heap)
    refine h_pureR (d := some 35) En81 (v := .slice ao17 (List.length lx) cp18) 0 (by kernel_rfl) (by kernel_rfl) rfl (fun _ => wo82.pick [0, 3] (by kernel_rfl) (by decide)) ?_
    intro ac168 En169
    refine h_pureR (d := some 36) En169 (v := .int .i64 ((64 * q : Nat) : Int)) 1 (by kernel_rfl) (by kernel_rfl) rfl (fun _ => wo82.pick [0, 3] (by kernel_rfl) (by decide)) ?_
    intro ac170 En171
    refine h_pureR (d := some 37) En171 (v := ni k) 2 (by kernel_rfl) (by kernel_rfl) rfl (fun _ => wo82.pick [0, 3] (by kernel_rfl) (by decide)) ?_
    intro ac172 En173
    refine h_pureR (d := some 38) En173 (v := .int .i64 (IntKind.wrap .i64 (((64 * q : Nat) : Int) + ((k : Nat) : Int)))) 3 (by kernel_rfl) (by kernel_rfl) rfl (fun _ => wo82.pick [0, 3] (by kernel_rfl) (by decide)) ?_
    intro ac174 En175
    rw [Go.Dbr.wr64 (e := ((64 * q : Nat) : Int) + ((k : Nat) : Int)) (x := (((64 * q) + k : Nat) : Int)) (by omega) (by omega) (by omega)] at En175
    have hb178 : (64 * q) + k < List.length lx := (by omega)
    obtain ⟨adr176, had177⟩ := some_of (fun e => by have h := (bys_vnz wo82.heap (k := 0) rfl) e; first | omega | (simp at h; omega)) hb178
    refine h_free (d := some 39) (s := nv (Instr.indexAt 25 (.slice ao17 (List.length lx) cp18) (.int .i64 (((64 * q) + k : Nat) : Int)))) En175 (v := .pointer (some (Addr.add adr176 ((64 * q) + k)))) 4 (by kernel_rfl) (fun _ => run_nv (Go.Dbr.run_indexsl (e := 5) (sz := 1) (j := (64 * q) + k) (jo := (64 * q) + k) had177 (by kernel_rfl) (by kernel_rfl) (by omega) hb178 (Nat.mul_one _) _)) (by kernel_rfl) rfl (fun _ => wo82.pick [0, 3] (by kernel_rfl) (by decide)) ?_
    intro ac179 En180
    have hb181 : (64 * q) + k < List.length o2 := by omega
    refine h_read (d := some 40) (s := nv (Instr.loadAt 5 (.pointer (some (Addr.add adr176 ((64 * q) + k)))))) En180 (v := .int .u8 ((UInt8.toNat (List.getD o2 ((64 * q) + k) 0) : Nat) : Int)) 5 (by kernel_rfl) (fun w hS => run_nv (run_loadel (ad := adr176) (o := (64 * q) + k) rfl (hS.heap.reads (k := 0) rfl) had177 (bys_getD hb181) (by kernel_rfl))) (by kernel_rfl) rfl (wo82.pick [0, 3] (by kernel_rfl) (by decide)) ?_
    intro ac182 En183
    refine h_pureR (d := some 41) En183 (v := ni k) 6 (by kernel_rfl) (by kernel_rfl) rfl (fun _ => wo82.pick [0, 3] (by kernel_rfl) (by decide)) ?_
    intro ac184 En185
    refine h_free (d := some 42) (s := nv (Instr.indexAt 28 (pt bk51) (ni k))) En185 (v := .pointer (some ⟨bk51, k, none⟩)) 7 (by kernel_rfl) (fun _ => run_nv (Go.Dbr.run_indexarr (e := 5) (sz := 1) (m := 64) (j := k) (o := k) (by kernel_rfl) (by kernel_rfl) (by omega) (by omega) (by omega) _)) (by kernel_rfl) rfl (fun _ => wo82.pick [0, 3] (by kernel_rfl) (by decide)) ?_
    intro ac186 En187
    have hb188 : k < List.length (blockF lk cnt ln) := by rw [(blockF_len _ _ _)]; omega
    refine h_read (d := some 43) (s := nv (Instr.loadAt 5 (.pointer (some ⟨bk51, k, none⟩)))) En187 (v := .int .u8 ((UInt8.toNat (List.getD (blockF lk cnt ln) k 0) : Nat) : Int)) 8 (by kernel_rfl) (fun w hS => run_nv (run_load1 (by kernel_rfl) (hS.heap.cell (k := 1) rfl (bys_getD hb188)))) (by kernel_rfl) rfl (wo82.pick [0, 3] (by kernel_rfl) (by decide)) ?_
    intro ac189 En190
    refine h_pureR (d := some 44) En190 (v := .int .u8 (IntKind.wrap .u8 ((BitVec.ofInt (IntKind.bits .u8) ((UInt8.toNat (List.getD o2 ((64 * q) + k) 0) : Nat) : Int) ^^^ BitVec.ofInt (IntKind.bits .u8) ((UInt8.toNat (List.getD (blockF lk cnt ln) k 0) : Nat) : Int)).toNat : Int))) 9 (by kernel_rfl) (by kernel_rfl) rfl (fun _ => wo82.pick [0, 3] (by kernel_rfl) (by decide)) ?_
    intro ac191 En192
    rw [Go.Dbr.u8_xor (a := ((UInt8.toNat (List.getD o2 ((64 * q) + k) 0) : Nat) : Int)) (b := ((UInt8.toNat (List.getD (blockF lk cnt ln) k 0) : Nat) : Int)) (x := List.getD o2 ((64 * q) + k) 0) (y := List.getD (blockF lk cnt ln) k 0) rfl rfl] at En192
    have hb195 : (64 * q) + k < List.length lx := (by omega)
    obtain ⟨adr193, had194⟩ := some_of (fun e => by have h := (bys_vnz wo82.heap (k := 0) rfl) e; first | omega | (simp at h; omega)) hb195
    refine h_free (d := some 45) (s := nv (Instr.indexAt 25 (.slice ao17 (List.length lx) cp18) (.int .i64 (((64 * q) + k : Nat) : Int)))) En192 (v := .pointer (some (Addr.add adr193 ((64 * q) + k)))) 10 (by kernel_rfl) (fun _ => run_nv (Go.Dbr.run_indexsl (e := 5) (sz := 1) (j := (64 * q) + k) (jo := (64 * q) + k) had194 (by kernel_rfl) (by kernel_rfl) (by omega) hb195 (Nat.mul_one _) _)) (by kernel_rfl) rfl (fun _ => wo82.pick [0, 3] (by kernel_rfl) (by decide)) ?_
    intro ac196 En197
    refine h_at 11 (by kernel_rfl) rfl ?_
    refine op_storeel (d := none) (t := 5) (ad := adr193) (ao := ao17) (k := 0) (cap := cp18) (sz := 1) (j := (64 * q) + k) (xs := bys o2) (v := bv ((List.getD o2 ((64 * q) + k) 0) ^^^ (List.getD (blockF lk cnt ln) k 0))) En197 (by kernel_rfl) wo82 rfl had194 (by rw [bys_length]; omega) (by kernel_rfl) rfl ?_
    intro ac198 wo199  En200 Hv201
    rw [bys_set] at Hv201
    refine ⟨not_yet (by kernel_rfl), ?_⟩
    exact h_end (by kernel_rfl) ⟨En200.sub (by kernel_rfl), Hv201.pick [0, 1, 2, 3] (by kernel_rfl) (by decide)⟩
   rintro ac202 wo203 ⟨En204, Hv205⟩
   refine block_normal ?_
   refine then_normal ?_
   refine region_from ?_
   refine d_pures [(1, .int .u32 ((UInt32.toNat (cnt + (1 : UInt32)) : Nat) : Int)), (4, pt bk1), (6, pt bk6), (8, .slice none 0 0), (9, .slice ao17 (List.length lx) cp18), (10, .int .i64 ((64 * q : Nat) : Int)), (11, pt bk51), (31, .int .i64 ((min 64 (List.length lx - 64 * q) : Nat) : Int)), (32, ni k), (46, .int .i64 (IntKind.wrap .i64 (((k : Nat) : Int) + (1 : Int))))] [.int .i64 (IntKind.wrap .i64 (((k : Nat) : Int) + (1 : Int)))] 1 En204 (by kernel_rfl) (by kernel_rfl) rfl ?_
   intro ac206 En207
   rw [Go.Dbr.wr64 (e := ((k : Nat) : Int) + (1 : Int)) (x := ((k + 1 : Nat) : Int)) (by omega) (by omega) (by omega)] at En207
   refine d_pures [(1, .int .u32 ((UInt32.toNat (cnt + (1 : UInt32)) : Nat) : Int)), (4, pt bk1), (6, pt bk6), (8, .slice none 0 0), (9, .slice ao17 (List.length lx) cp18), (10, .int .i64 ((64 * q : Nat) : Int)), (11, pt bk51), (31, .int .i64 ((min 64 (List.length lx - 64 * q) : Nat) : Int)), (32, .int .i64 ((k + 1 : Nat) : Int))] [.int .i64 ((k + 1 : Nat) : Int)] 2 En207 (by kernel_rfl) (by kernel_rfl) rfl ?_
   intro ac208 En209
   refine from_end (by kernel_rfl) ?_
   refine then_normal ?_
   refine ⟨_, ⟨k + 1, List.set o2 ((64 * q) + k) ((List.getD o2 ((64 * q) + k) 0) ^^^ (List.getD (blockF lk cnt ln) k 0)), rfl, En209.sub (by kernel_rfl), Hv205.pick [0, 1, 2, 3] (by kernel_rfl) (by decide), by omega, by simp [ho2], fun j hj => by rw [getD_set]; by_cases h1 : 64 * q + k = j; subst h1; rw [if_pos ⟨rfl, by omega⟩, if_pos (by omega), hp2 _ hj, if_neg (by omega)]; unfold strF ksAt; rw [show (64 * q + k) / 64 = q by omega, show (64 * q + k) % 64 = k by omega, hc]; rw [if_neg (fun z => h1 z.1), hp2 j hj]; by_cases h2 : j < 64 * q + k; rw [if_pos h2, if_pos (by omega)]; rw [if_neg h2, if_neg (by omega)]⟩, ?_⟩
   omega
  ·
   replace hc79 : ¬ (((k : Nat) : Int) < ((min 64 (List.length lx - 64 * q) : Nat) : Int)) := of_decide_eq_false hc79
   refine wp_exit ?_
   refine then_exit ?_
   refine then_exit ?_
   refine block_exit ?_
   refine block_normal ?_
   refine then_normal ?_
   refine region_from ?_
   refine d_pures [(1, .int .u32 ((UInt32.toNat (cnt + (1 : UInt32)) : Nat) : Int)), (4, pt bk1), (6, pt bk6), (8, .slice none 0 0), (9, .slice ao17 (List.length lx) cp18), (10, .int .i64 ((64 * q : Nat) : Int)), (11, pt bk51), (20, .int .i64 (IntKind.wrap .i64 (((64 * q : Nat) : Int) + (64 : Int)))), (31, .int .i64 ((min 64 (List.length lx - 64 * q) : Nat) : Int)), (32, ni k)] [.int .i64 ((64 * q : Nat) : Int), .int .i64 (IntKind.wrap .i64 (((64 * q : Nat) : Int) + (64 : Int)))] 2 En78 (by kernel_rfl) (by kernel_rfl) rfl ?_
   intro ac210 En211
   rw [Go.Dbr.wr64 (e := ((64 * q : Nat) : Int) + (64 : Int)) (x := (((64 * q) + 64 : Nat) : Int)) (by omega) (by omega) (by omega)] at En211
   refine d_pures [(1, .int .u32 ((UInt32.toNat (cnt + (1 : UInt32)) : Nat) : Int)), (4, pt bk1), (6, pt bk6), (8, .slice none 0 0), (9, .slice ao17 (List.length lx) cp18), (10, .int .i64 (((64 * q) + 64 : Nat) : Int)), (11, pt bk51), (31, .int .i64 ((min 64 (List.length lx - 64 * q) : Nat) : Int)), (32, ni k)] [.int .i64 (((64 * q) + 64 : Nat) : Int)] 3 En211 (by kernel_rfl) (by kernel_rfl) rfl ?_
   intro ac212 En213
   refine from_end (by kernel_rfl) ?_
   refine then_normal ?_
   refine ⟨_, ⟨q + 1, o2, cnt + 1, rfl, En213.sub (by kernel_rfl), Hv75.pick [0, 1, 2] (by kernel_rfl) (by decide), by omega, ho2, by rw [hc]; exact count_next _ _, fun j hj => by rw [hp2 j hj]; by_cases h1 : j < 64 * q + k; rw [if_pos h1, if_pos (by omega)]; rw [if_neg h1, if_neg (by omega)]⟩, ?_⟩
   omega
 ·
  replace hc38 : ¬ (((64 * q : Nat) : Int) < ((List.length lx : Nat) : Int)) := of_decide_eq_false hc38
  refine wp_exit ?_
  refine then_exit ?_
  refine then_exit ?_
  refine block_exit ?_
  refine then_normal ?_
  refine wp_seq ?_
  refine region_from ?_
  refine d_pures [(1, uv32 cnt), (4, pt bk1), (6, pt bk6), (8, .slice ao17 (List.length lx) cp18), (9, .slice ao17 (List.length lx) cp18), (10, .int .i64 ((64 * q : Nat) : Int))] [.slice ao17 (List.length lx) cp18, .slice ao17 (List.length lx) cp18] 2 En37 (by kernel_rfl) (by kernel_rfl) rfl ?_
  intro ac214 En215
  refine from_end (by kernel_rfl) ?_
  refine then_normal ?_
  refine wp_ret ?_
  refine d_ret1 (t := 8) (v := .slice ao17 (List.length lx) cp18) En215 (by kernel_rfl) (by kernel_rfl) ?_
  have eo : o = streamF lk c ln lx := eq_range_map 0 ho (fun j hj => by rw [hp j hj, if_pos (by omega)])
  have el : List.length lx = List.length (streamF lk c ln lx) := (streamF_len _ _ _ _).symm
  have Hf216 := Hv34.pick [0] (by kernel_rfl) (by decide) (M := [.vec ao17 cp18 1 (bys o) 5])
  rw [eo] at Hf216
  exact ⟨_, _, by rw [el], Hf216⟩

theorem snoc_map {f : Nat → UInt8} (i : Nat) : (List.range i).map f ++ [f i] = (List.range (i + 1)).map f := by rw [List.range_succ, List.map_append]; rfl
theorem next_count {i : Nat} (h : i % 64 = 0) : (i + 1 + 63) / 64 = (i + 63) / 64 + 1 ∧ (i + 63) / 64 = i / 64 := by omega
theorem same_count {i : Nat} (h : ¬ i % 64 = 0) : (i + 1 + 63) / 64 = (i + 63) / 64 := by omega

theorem stream_ref (w : World) (lk : List UInt8) (hk : List.length lk = 32) (c : UInt32) (ln : List UInt8) (hn : List.length ln = 12) (ax : Option Addr) (nx cx : Nat) (lx : List UInt8) (ex : nx = List.length lx) (ix : InB w [] ax cx lx) : Calls Try.prog 10 #[.agg (List.toArray (bys lk)), uv32 c, .agg (List.toArray (bys ln)), .slice ax nx cx] w fun e w' => ∃ ao co, e = .returned (.slice ao (List.length (streamF lk c ln lx)) co) ∧ Ev w [] w' [.vec ao co 1 (bys (streamF lk c ln lx)) 5] := by
 subst ex
 have hs := ix.small
 have hcx := ix.cap
 refine d_start [(0, .agg (List.toArray (bys lk))), (1, uv32 c), (2, .agg (List.toArray (bys ln))), (3, .slice ax (List.length lx) cx)] 40 Go.Proofs.Try.func10 Go.Proofs.Try.ntmps10 rfl (by kernel_rfl) (by kernel_rfl) ?_
 intro act0 En0
 have Hv0 : Ev w [] w [] := Ev.refl (Heap.nil _)
 refine wp_seq ?_
 refine region_from ?_
 refine from_op (by kernel_rfl) ?_
 refine op_newbox (d := some 4) (T := 22) (v := .agg (List.toArray (bys lk))) (cs := bys lk) En0 (by kernel_rfl) rfl Hv0 ?_
 intro ac2 wo3 bk1 En4 Hv5
 refine from_op (by kernel_rfl) ?_
 refine op_newbox (d := some 6) (T := 24) (v := .agg (List.toArray (bys ln))) (cs := bys ln) En4 (by kernel_rfl) rfl Hv5 ?_
 intro ac7 wo8 bk6 En9 Hv10
 refine d_pures [(1, uv32 c), (3, .slice ax (List.length lx) cx), (4, pt bk1), (6, pt bk6), (8, .slice none 0 0)] [.slice none 0 0] 3 En9 (by kernel_rfl) (by kernel_rfl) rfl ?_
 intro ac11 En12
 refine from_end (by kernel_rfl) ?_
 refine then_normal ?_
 refine wp_seq ?_
 refine region_from ?_
 refine d_pures [(1, uv32 c), (3, .slice ax (List.length lx) cx), (4, pt bk1), (6, pt bk6), (8, .slice none 0 0), (9, .slice none 0 0)] [.slice none 0 0] 1 En12 (by kernel_rfl) (by kernel_rfl) rfl ?_
 intro ac13 En14
 refine from_end (by kernel_rfl) ?_
 refine then_normal ?_
 refine wp_seq ?_
 refine region_from ?_
 refine from_op (by kernel_rfl) ?_
 refine op_alloc (d := some 10) (T := 28) (x := .tuple #[]) (z := .agg (List.toArray (bys (List.replicate 64 0)))) (cs := bys (List.replicate 64 0)) En14 (by kernel_rfl) (by kernel_rfl) (by kernel_rfl) Hv10 ?_
 intro ac16 wo17 bk15 En18 Hv19
 refine from_end (by kernel_rfl) ?_
 refine then_normal ?_
 refine wp_seq ?_
 refine wp_seq ?_
 refine region_from ?_
 refine d_pures [(1, uv32 c), (3, .slice ax (List.length lx) cx), (4, pt bk1), (6, pt bk6), (8, .slice none 0 0), (9, .slice none 0 0), (10, pt bk15), (11, .int .i64 0)] [.int .i64 0] 1 En18 (by kernel_rfl) (by kernel_rfl) rfl ?_
 intro ac20 En21
 refine from_end (by kernel_rfl) ?_
 refine then_normal ?_
 refine wp_block ?_
 have Hv22 := Ev.nil (sz := 1) (T := 5) Hv19
 refine loop_m (fun ms23 ac wo => ∃ (i : Nat) (av : Option Addr) (cv : Nat) (v : List UInt8) (xb : List UInt8) (cnt : UInt32), ms23 = (List.length lx - i : Nat) ∧ Env ac 40 [(1, uv32 cnt), (3, .slice ax (List.length lx) cx), (4, pt bk1), (6, pt bk6), (8, .slice none 0 0), (9, .slice av (List.length v) cv), (10, pt bk15), (11, ni i)] ∧ Ev w [] wo [.vec av cv 1 (bys v) 5, .box bk1 (bys lk) 22, .box bk6 (bys ln) 24, .box bk15 (bys xb) 28] ∧ (i ≤ List.length lx) ∧ (v = (List.range i).map (strF lk c ln lx)) ∧ (List.length xb = 64) ∧ (cnt = c + UInt32.ofNat ((i + 63) / 64)) ∧ (¬ i % 64 = 0 → xb = blockF lk (c + UInt32.ofNat (i / 64)) ln)) ⟨_, 0, none, 0, [], List.replicate 64 0, c, rfl, En21.sub (by kernel_rfl), Hv22.pick [3, 0, 1, 2] (by kernel_rfl) (by decide), by omega, rfl, (List.length_replicate), by simp, fun h => absurd rfl h⟩ ?_
 rintro mm29 ac25 wo26 ⟨i, av, cv, v, xb, cnt, rfl, En27, Hv28, hi, hv, hxb, hc, hx⟩
 refine wp_seq ?_
 refine wp_seq ?_
 refine region_from ?_
 refine d_pures [(1, uv32 cnt), (3, .slice ax (List.length lx) cx), (4, pt bk1), (6, pt bk6), (8, .slice none 0 0), (9, .slice av (List.length v) cv), (10, pt bk15), (11, ni i), (15, .bool (decide (((i : Nat) : Int) < ((List.length lx : Nat) : Int))))] [ni i, .slice ax (List.length lx) cx, .int .i64 ((List.length lx : Nat) : Int), .bool (decide (((i : Nat) : Int) < ((List.length lx : Nat) : Int)))] 4 En27 (by kernel_rfl) (by kernel_rfl) rfl ?_
 intro ac30 En31
 refine from_end (by kernel_rfl) ?_
 refine then_normal ?_
 refine cond_at En31 (t := decide (((i : Nat) : Int) < ((List.length lx : Nat) : Int))) (by kernel_rfl) (fun hc32 => ?_) (fun hc32 => ?_)
 ·
  replace hc32 : ((i : Nat) : Int) < ((List.length lx : Nat) : Int) := of_decide_eq_true hc32
  refine wp_skip ?_
  refine then_normal ?_
  refine wp_seq ?_
  refine wp_block ?_
  refine wp_seq ?_
  refine wp_seq ?_
  refine region_from ?_
  refine d_pures [(1, uv32 cnt), (3, .slice ax (List.length lx) cx), (4, pt bk1), (6, pt bk6), (8, .slice none 0 0), (9, .slice av (List.length v) cv), (10, pt bk15), (11, ni i), (19, .int .i64 (Int.tmod ((i : Nat) : Int) (64 : Int)))] [ni i, .int .i64 (Int.tmod ((i : Nat) : Int) (64 : Int))] 2 En31 (by kernel_rfl) (by kernel_rfl) rfl ?_
  intro ac33 En34
  rw [show Int.tmod ((i : Nat) : Int) (64 : Int) = ((i % 64 : Nat) : Int) from Go.Dbr.i64_rem_nat (a := ((i : Nat) : Int)) (n := i) (m := 64) rfl (by omega)] at En34
  refine d_pures [(1, uv32 cnt), (3, .slice ax (List.length lx) cx), (4, pt bk1), (6, pt bk6), (8, .slice none 0 0), (9, .slice av (List.length v) cv), (10, pt bk15), (11, ni i), (20, .bool (((i % 64 : Nat) : Int) == (0 : Int)))] [.bool (((i % 64 : Nat) : Int) == (0 : Int))] 3 En34 (by kernel_rfl) (by kernel_rfl) rfl ?_
  intro ac35 En36
  refine from_end (by kernel_rfl) ?_
  refine then_normal ?_
  refine region_cut (F := fun ac wo => ∃ (x3 : List UInt8) (c4 : UInt32), Env ac 40 [(1, uv32 c4), (3, .slice ax (List.length lx) cx), (4, pt bk1), (6, pt bk6), (8, .slice none 0 0), (9, .slice av (List.length v) cv), (10, pt bk15), (11, ni i)] ∧ Ev w [] wo [.vec av cv 1 (bys v) 5, .box bk1 (bys lk) 22, .box bk6 (bys ln) 24, .box bk15 (bys x3) 28] ∧ (List.length x3 = 64) ∧ (c4 = c + UInt32.ofNat ((i + 1 + 63) / 64)) ∧ (x3 = blockF lk (c + UInt32.ofNat (i / 64)) ln)) ?_ ?_
  ·
   refine cond_at En36 (t := ((i % 64 : Nat) : Int) == (0 : Int)) (by kernel_rfl) (fun hc37 => ?_) (fun hc37 => ?_)
   ·
    replace hc37 : ((i % 64 : Nat) : Int) = (0 : Int) := eq_of_beq hc37
    refine wp_seq ?_
    refine region_from ?_
    refine from_op (by kernel_rfl) ?_
    refine op_loadaggbox (d := some 21) (t := 22) (b := bk1) (off := 0) (k := 1) (m := 32) (xs := bys lk) En36 (by kernel_rfl) Hv28 rfl (load_whole (bys_lenh hk)) (bys_lenh hk) (by kernel_rfl) (by kernel_rfl) ?_
    intro ac38 En39
    refine d_pures [(1, uv32 cnt), (3, .slice ax (List.length lx) cx), (4, pt bk1), (6, pt bk6), (8, .slice none 0 0), (9, .slice av (List.length v) cv), (10, pt bk15), (11, ni i), (21, .agg (List.toArray (bys lk))), (22, uv32 cnt)] [uv32 cnt] 2 En39 (by kernel_rfl) (by kernel_rfl) rfl ?_
    intro ac40 En41
    refine from_op (by kernel_rfl) ?_
    refine op_loadaggbox (d := some 23) (t := 24) (b := bk6) (off := 0) (k := 2) (m := 12) (xs := bys ln) En41 (by kernel_rfl) Hv28 rfl (load_whole (bys_lenh hn)) (bys_lenh hn) (by kernel_rfl) (by kernel_rfl) ?_
    intro ac42 En43
    refine from_op (by kernel_rfl) ?_
    have hM44 : Heap wo26 [] := Hv28.heap.pick [] (by kernel_rfl) (by decide)
    refine op_call (d := some 24) (f := 12) (args := #[.agg (List.toArray (bys lk)), uv32 cnt, .agg (List.toArray (bys ln))]) En43 (by kernel_rfl) ((block_ref _ lk hk cnt ln hn).mono ?_)
    rintro _ wo46 ⟨rfl, he49⟩
    refine ⟨_, rfl, ?_⟩
    intro ac45 En47
    have Hv48 : Ev w [] wo46 [.vec av cv 1 (bys v) 5, .box bk1 (bys lk) 22, .box bk6 (bys ln) 24, .box bk15 (bys xb) 28] := Hv28.trans (Ev.call (R := [.vec av cv 1 (bys v) 5, .box bk1 (bys lk) 22, .box bk6 (bys ln) 24, .box bk15 (bys xb) 28]) Hv28.heap [0, 1, 2, 3] (by kernel_rfl) (by decide) he49)
    clear hM44 he49
    refine from_op (by kernel_rfl) ?_
    refine op_storeaggbox (d := none) (t := 28) (b := bk15) (off := 0) (k := 3) (m := 64) (xs := bys (blockF lk cnt ln)) (v := .agg (List.toArray (bys (blockF lk cnt ln)))) (cs' := bys (blockF lk cnt ln)) En47 (by kernel_rfl) Hv48 rfl rfl (bys_lenh (blockF_len _ _ _)) (by rw [(bys_lenh hxb)]; decide) (by kernel_rfl) (bys_one _) (store_whole (bys_lenh hxb)) (L' := [.vec av cv 1 (bys v) 5, .box bk1 (bys lk) 22, .box bk6 (bys ln) 24, .box bk15 (bys (blockF lk cnt ln)) 28]) rfl ?_
    intro ac50 wo51  En52 Hv53
    refine from_end (by kernel_rfl) ?_
    refine then_normal ?_
    refine region_from ?_
    refine d_pures [(1, uv32 cnt), (3, .slice ax (List.length lx) cx), (4, pt bk1), (6, pt bk6), (8, .slice none 0 0), (9, .slice av (List.length v) cv), (10, pt bk15), (11, ni i), (26, .int .u32 (IntKind.wrap .u32 (((UInt32.toNat cnt : Nat) : Int) + (1 : Int))))] [uv32 cnt, .int .u32 (IntKind.wrap .u32 (((UInt32.toNat cnt : Nat) : Int) + (1 : Int)))] 2 En52 (by kernel_rfl) (by kernel_rfl) rfl ?_
    intro ac54 En55
    rw [Go.Dbr.u32_add (a := ((UInt32.toNat cnt : Nat) : Int)) (b := (1 : Int)) (x := cnt) (y := (1 : UInt32)) rfl rfl] at En55
    refine d_pures [(1, .int .u32 ((UInt32.toNat (cnt + (1 : UInt32)) : Nat) : Int)), (3, .slice ax (List.length lx) cx), (4, pt bk1), (6, pt bk6), (8, .slice none 0 0), (9, .slice av (List.length v) cv), (10, pt bk15), (11, ni i)] [.int .u32 ((UInt32.toNat (cnt + (1 : UInt32)) : Nat) : Int)] 3 En55 (by kernel_rfl) (by kernel_rfl) rfl ?_
    intro ac56 En57
    refine from_end (by kernel_rfl) ?_
    exact ⟨rfl, ⟨(blockF lk cnt ln), (cnt + (1 : UInt32)), En57.sub (by kernel_rfl), Hv53.pick [0, 1, 2, 3] (by kernel_rfl) (by decide), (blockF_len _ _ _), by rw [hc, count_next, (next_count (i := i) (by omega)).1], by rw [hc, (next_count (i := i) (by omega)).2]⟩⟩
   ·
    replace hc37 : ¬ (((i % 64 : Nat) : Int) = (0 : Int)) := ne_of_beq_false hc37
    refine wp_skip ?_
    exact ⟨rfl, ⟨xb, cnt, En36.sub (by kernel_rfl), Hv28.pick [0, 1, 2, 3] (by kernel_rfl) (by decide), hxb, by rw [hc, same_count (i := i) (by omega)], hx (by omega)⟩⟩
  ·
   rintro ac58 wo59 ⟨x3, c4, En60, Hv61, hx3l, hc4, hx3⟩
   refine then_normal ?_
   refine region_cut (F := fun ac wo => ∃ (ao156 : Option Addr) (cp157 : Nat), Env ac 40 [(1, uv32 c4), (3, .slice ax (List.length lx) cx), (4, pt bk1), (6, pt bk6), (8, .slice none 0 0), (9, .slice ao156 (List.length (v ++ [(List.getD lx i 0) ^^^ (List.getD x3 (i % 64) 0)])) cp157), (10, pt bk15), (11, ni i)] ∧ Ev w [] wo [.vec ao156 cp157 1 (bys (v ++ [(List.getD lx i 0) ^^^ (List.getD x3 (i % 64) 0)])) 5, .box bk1 (bys lk) 22, .box bk6 (bys ln) 24, .box bk15 (bys x3) 28]) ?_ ?_
   ·
    refine h_start (fun wv => Ev w [] wv [.box bk15 (bys x3) 28]) [] (by kernel_rfl) 13 (by kernel_rfl) ?_
    have wo62 := Hv61.trans (Ev.drew Hv61.heap)
    refine h_pureR (d := some 27) En60 (v := .slice av (List.length v) cv) 0 (by kernel_rfl) (by kernel_rfl) rfl (fun _ => wo62.pick [3] (by kernel_rfl) (by decide)) ?_
    intro ac166 En167
    refine h_pureR (d := some 28) En167 (v := .slice ax (List.length lx) cx) 1 (by kernel_rfl) (by kernel_rfl) rfl (fun _ => wo62.pick [3] (by kernel_rfl) (by decide)) ?_
    intro ac168 En169
    refine h_pureR (d := some 29) En169 (v := ni i) 2 (by kernel_rfl) (by kernel_rfl) rfl (fun _ => wo62.pick [3] (by kernel_rfl) (by decide)) ?_
    intro ac170 En171
    have hb174 : i < List.length lx := (by omega)
    obtain ⟨adr172, had173⟩ := some_of ix.nz hb174
    refine h_free (d := some 30) (s := nv (Instr.indexAt 25 (.slice ax (List.length lx) cx) (ni i))) En171 (v := .pointer (some (Addr.add adr172 i))) 3 (by kernel_rfl) (fun _ => run_nv (Go.Dbr.run_indexsl (e := 5) (sz := 1) (j := i) (jo := i) had173 (by kernel_rfl) (by kernel_rfl) (by omega) hb174 (Nat.mul_one _) _)) (by kernel_rfl) rfl (fun _ => wo62.pick [3] (by kernel_rfl) (by decide)) ?_
    intro ac175 En176
    have hb177 : i < List.length lx := by omega
    refine h_read (d := some 31) (s := nv (Instr.loadAt 5 (.pointer (some (Addr.add adr172 i))))) En176 (v := .int .u8 ((UInt8.toNat (List.getD lx i 0) : Nat) : Int)) 4 (by kernel_rfl) (fun w hS => run_nv (run_loadel (ad := adr172) (o := i) rfl (ix.ev hS).reads had173 (bys_getD hb177) (by kernel_rfl))) (by kernel_rfl) rfl (wo62.pick [3] (by kernel_rfl) (by decide)) ?_
    intro ac178 En179
    refine h_pureR (d := some 32) En179 (v := ni i) 5 (by kernel_rfl) (by kernel_rfl) rfl (fun _ => wo62.pick [3] (by kernel_rfl) (by decide)) ?_
    intro ac180 En181
    refine h_pureR (d := some 33) En181 (v := .int .i64 (Int.tmod ((i : Nat) : Int) (64 : Int))) 6 (by kernel_rfl) (by kernel_rfl) rfl (fun _ => wo62.pick [3] (by kernel_rfl) (by decide)) ?_
    intro ac182 En183
    rw [show Int.tmod ((i : Nat) : Int) (64 : Int) = ((i % 64 : Nat) : Int) from Go.Dbr.i64_rem_nat (a := ((i : Nat) : Int)) (n := i) (m := 64) rfl (by omega)] at En183
    refine h_free (d := some 34) (s := nv (Instr.indexAt 28 (pt bk15) (.int .i64 ((i % 64 : Nat) : Int)))) En183 (v := .pointer (some ⟨bk15, i % 64, none⟩)) 7 (by kernel_rfl) (fun _ => run_nv (Go.Dbr.run_indexarr (e := 5) (sz := 1) (m := 64) (j := i % 64) (o := i % 64) (by kernel_rfl) (by kernel_rfl) (by omega) (by omega) (by omega) _)) (by kernel_rfl) rfl (fun _ => wo62.pick [3] (by kernel_rfl) (by decide)) ?_
    intro ac184 En185
    have hb186 : i % 64 < List.length x3 := by rw [hx3l]; omega
    refine h_read (d := some 35) (s := nv (Instr.loadAt 5 (.pointer (some ⟨bk15, i % 64, none⟩)))) En185 (v := .int .u8 ((UInt8.toNat (List.getD x3 (i % 64) 0) : Nat) : Int)) 8 (by kernel_rfl) (fun w hS => run_nv (run_load1 (by kernel_rfl) (hS.heap.cell (k := 0) rfl (bys_getD hb186)))) (by kernel_rfl) rfl (wo62.pick [3] (by kernel_rfl) (by decide)) ?_
    intro ac187 En188
    refine h_pureR (d := some 36) En188 (v := .int .u8 (IntKind.wrap .u8 ((BitVec.ofInt (IntKind.bits .u8) ((UInt8.toNat (List.getD lx i 0) : Nat) : Int) ^^^ BitVec.ofInt (IntKind.bits .u8) ((UInt8.toNat (List.getD x3 (i % 64) 0) : Nat) : Int)).toNat : Int))) 9 (by kernel_rfl) (by kernel_rfl) rfl (fun _ => wo62.pick [3] (by kernel_rfl) (by decide)) ?_
    intro ac189 En190
    rw [Go.Dbr.u8_xor (a := ((UInt8.toNat (List.getD lx i 0) : Nat) : Int)) (b := ((UInt8.toNat (List.getD x3 (i % 64) 0) : Nat) : Int)) (x := List.getD lx i 0) (y := List.getD x3 (i % 64) 0) rfl rfl] at En190
    refine h_at 10 (by kernel_rfl) rfl ?_
    refine op_lit (d := some 37) (t := 25) (T := 5) (m := 1) (parts := #[(0, .int .u8 ((UInt8.toNat ((List.getD lx i 0) ^^^ (List.getD x3 (i % 64) 0)) : Nat) : Int))]) (xs := bys [(List.getD lx i 0) ^^^ (List.getD x3 (i % 64) 0)]) (sz := 1) En190 (by kernel_rfl) (by kernel_rfl) rfl (by decide) wo62 ?_
    intro ac192 wo193 bk191 En194 Hv195
    refine ⟨fun _ => Hv195.pick [3] (by kernel_rfl) (by decide), ?_⟩
    refine h_at 11 (by kernel_rfl) rfl ?_
    have hvl : List.length v = i := by rw [hv]; simp
    refine op_append (d := some 38) (t := 25) (tx := 25) (ty := 25) (k := 0) (p := List.length v) (m := 1) (x := .slice (some ⟨bk191, 0, none⟩) 1 1) (bytes := 1) En194 (by kernel_rfl) Hv195 rfl (bys_len _) (Reads.src (size := 1) (tx := 25) (e' := 5) (by kernel_rfl) (Hv195.heap.reads (k := 4) rfl) rfl (fun e => by cases e) (bys_one _)) (by kernel_rfl) (z := .int .u8 0) (by kernel_rfl) rfl (by decide) (by omega) (by unfold maxLen; omega) ?_
    intro ac200 wo201 ao196 cp197 En202 Hv203 _ _
    rw [← bys_append] at Hv203
    have ehz198 : (List.length v) + 1 = List.length (v ++ [(List.getD lx i 0) ^^^ (List.getD x3 (i % 64) 0)]) := (by first | (simp; done) | (simp; omega) | omega)
    rw [ehz198] at En202
    refine ⟨fun _ => Hv203.pick [3] (by kernel_rfl) (by decide), ?_⟩
    refine h_pureR (d := some 9) En202 (v := .slice ao196 (List.length (v ++ [(List.getD lx i 0) ^^^ (List.getD x3 (i % 64) 0)])) cp197) 12 (by kernel_rfl) (by kernel_rfl) rfl (fun _ => Hv203.pick [3] (by kernel_rfl) (by decide)) ?_
    intro ac204 En205
    exact h_end (by kernel_rfl) ⟨ao196, cp197, En205.sub (by kernel_rfl), Hv203.pick [0, 1, 2, 3] (by kernel_rfl) (by decide)⟩
   rintro ac206 wo207 ⟨ao156, cp157, En208, Hv209⟩
   refine block_normal ?_
   refine then_normal ?_
   refine region_from ?_
   refine d_pures [(1, uv32 c4), (3, .slice ax (List.length lx) cx), (4, pt bk1), (6, pt bk6), (8, .slice none 0 0), (9, .slice ao156 (List.length (v ++ [(List.getD lx i 0) ^^^ (List.getD x3 (i % 64) 0)])) cp157), (10, pt bk15), (11, ni i), (17, .int .i64 (IntKind.wrap .i64 (((i : Nat) : Int) + (1 : Int))))] [ni i, .int .i64 (IntKind.wrap .i64 (((i : Nat) : Int) + (1 : Int)))] 2 En208 (by kernel_rfl) (by kernel_rfl) rfl ?_
   intro ac210 En211
   rw [Go.Dbr.wr64 (e := ((i : Nat) : Int) + (1 : Int)) (x := ((i + 1 : Nat) : Int)) (by omega) (by omega) (by omega)] at En211
   refine d_pures [(1, uv32 c4), (3, .slice ax (List.length lx) cx), (4, pt bk1), (6, pt bk6), (8, .slice none 0 0), (9, .slice ao156 (List.length (v ++ [(List.getD lx i 0) ^^^ (List.getD x3 (i % 64) 0)])) cp157), (10, pt bk15), (11, .int .i64 ((i + 1 : Nat) : Int))] [.int .i64 ((i + 1 : Nat) : Int)] 3 En211 (by kernel_rfl) (by kernel_rfl) rfl ?_
   intro ac212 En213
   refine from_end (by kernel_rfl) ?_
   refine then_normal ?_
   refine ⟨_, ⟨i + 1, ao156, cp157, (v ++ [(List.getD lx i 0) ^^^ (List.getD x3 (i % 64) 0)]), x3, c4, rfl, En213.sub (by kernel_rfl), Hv209.pick [0, 1, 2, 3] (by kernel_rfl) (by decide), by omega, by rw [← snoc_map, hv]; unfold strF ksAt; rw [show i / 64 = i / 64 from rfl, hx3], hx3l, hc4, fun h => by rw [hx3, show (i + 1) / 64 = i / 64 by omega]⟩, ?_⟩
   omega
 ·
  replace hc32 : ¬ (((i : Nat) : Int) < ((List.length lx : Nat) : Int)) := of_decide_eq_false hc32
  refine wp_exit ?_
  refine then_exit ?_
  refine then_exit ?_
  refine block_exit ?_
  refine then_normal ?_
  refine wp_seq ?_
  refine region_from ?_
  refine d_pures [(1, uv32 cnt), (3, .slice ax (List.length lx) cx), (4, pt bk1), (6, pt bk6), (8, .slice av (List.length v) cv), (9, .slice av (List.length v) cv), (10, pt bk15), (11, ni i)] [.slice av (List.length v) cv, .slice av (List.length v) cv] 2 En31 (by kernel_rfl) (by kernel_rfl) rfl ?_
  intro ac214 En215
  refine from_end (by kernel_rfl) ?_
  refine then_normal ?_
  refine wp_ret ?_
  refine d_ret1 (t := 8) (v := .slice av (List.length v) cv) En215 (by kernel_rfl) (by kernel_rfl) ?_
  have hii : i = List.length lx := by omega
  have ev : v = streamF lk c ln lx := by rw [hv, hii]; rfl
  have Hf216 := Hv28.pick [0] (by kernel_rfl) (by decide) (M := [.vec av cv 1 (bys v) 5])
  rw [ev] at Hf216
  exact ⟨_, _, by rw [ev], Hf216⟩

end Go.Proofs.Ytnahplggflhdaaa
