/- Layer 9: Open. -/
import Derived.Test.YtnahplggflhdaaaP10
namespace Go.Proofs.Ytnahplggflhdaaa
open Go.Dbr
set_option maxRecDepth 100000
set_option maxHeartbeats 2000000
set_option linter.unusedVariables false
set_option linter.unusedSimpArgs false

theorem open_short_go (w : World) (lk : List UInt8) (hk : List.length lk = 32) (ln : List UInt8) (hn : List.length ln = 12) (aa : Option Addr) (na ca : Nat) (la : List UInt8) (ea : na = List.length la) (ia : InB w [] aa ca la) (ax : Option Addr) (nx cx : Nat) (lx : List UInt8) (ex : nx = List.length lx) (ix : InB w [] ax cx lx) (hB : List.length la + List.length lx ≤ 1099511627776) (h16 : List.length lx < 16) : Calls Try.prog 16 #[.agg (List.toArray (bys lk)), .agg (List.toArray (bys ln)), .slice aa na ca, .slice ax nx cx] w fun e w' => e = .returned (.tuple #[.slice none 0 0, .int .i64 91]) ∧ Ev w [] w' [] := by
 subst ea
 subst ex
 have hsa := ia.small
 have hca := ia.cap
 have hsx := ix.small
 have hcx := ix.cap
 refine d_start [(0, .agg (List.toArray (bys lk))), (1, .agg (List.toArray (bys ln))), (2, .slice aa (List.length la) ca), (3, .slice ax (List.length lx) cx)] 36 Go.Proofs.Try.func16 Go.Proofs.Try.ntmps16 rfl (by kernel_rfl) (by kernel_rfl) ?_
 intro act0 En0
 have Hv0 : Ev w [] w [] := Ev.refl (Heap.nil _)
 refine wp_seq ?_
 refine region_from ?_
 refine from_op (by kernel_rfl) ?_
 refine op_newbox (d := some 4) (T := 22) (v := .agg (List.toArray (bys lk))) (cs := bys lk) En0 (by kernel_rfl) rfl Hv0 ?_
 intro ac2 wo3 bk1 En4 Hv5
 refine from_op (by kernel_rfl) ?_
 refine op_newbox (d := some 5) (T := 24) (v := .agg (List.toArray (bys ln))) (cs := bys ln) En4 (by kernel_rfl) rfl Hv5 ?_
 intro ac7 wo8 bk6 En9 Hv10
 refine d_pures [(2, .slice aa (List.length la) ca), (3, .slice ax (List.length lx) cx), (4, pt bk1), (5, pt bk6), (8, .slice none 0 0), (9, .int .i64 0)] [.slice none 0 0, .int .i64 0] 4 En9 (by kernel_rfl) (by kernel_rfl) rfl ?_
 intro ac11 En12
 refine from_end (by kernel_rfl) ?_
 refine then_normal ?_
 refine wp_seq ?_
 refine region_from ?_
 refine d_pures [(2, .slice aa (List.length la) ca), (3, .slice ax (List.length lx) cx), (4, pt bk1), (5, pt bk6), (8, .slice none 0 0), (9, .int .i64 0), (13, .int .i64 (IntKind.wrap .i64 (((List.length lx : Nat) : Int) - (16 : Int))))] [.slice ax (List.length lx) cx, .int .i64 ((List.length lx : Nat) : Int), .int .i64 (IntKind.wrap .i64 (((List.length lx : Nat) : Int) - (16 : Int)))] 3 En12 (by kernel_rfl) (by kernel_rfl) rfl ?_
 intro ac13 En14
 rw [Go.Dbr.wr64 (e := ((List.length lx : Nat) : Int) - (16 : Int)) (x := ((List.length lx : Nat) : Int) - (16 : Int)) (by omega) (by omega) (by omega)] at En14
 refine d_pures [(2, .slice aa (List.length la) ca), (3, .slice ax (List.length lx) cx), (4, pt bk1), (5, pt bk6), (8, .slice none 0 0), (9, .int .i64 0), (10, .int .i64 (((List.length lx : Nat) : Int) - (16 : Int)))] [.int .i64 (((List.length lx : Nat) : Int) - (16 : Int))] 4 En14 (by kernel_rfl) (by kernel_rfl) rfl ?_
 intro ac15 En16
 refine from_end (by kernel_rfl) ?_
 refine then_normal ?_
 refine wp_seq ?_
 refine wp_seq ?_
 refine region_cut (F := fun ac wo => Env ac 36 [(3, .slice ax (List.length lx) cx), (4, pt bk1), (5, pt bk6), (8, .slice none 0 0), (9, .int .i64 0), (10, .int .i64 (((List.length lx : Nat) : Int) - (16 : Int))), (29, .bool true)] ∧ Ev w [] wo [.box bk1 (bys lk) 22, .box bk6 (bys ln) 24]) ?_ ?_
 ·
  refine draw_any (by kernel_rfl) 16 (by kernel_rfl) ?_
  have wo17 := Hv10.trans (Ev.drew Hv10.heap)
  refine any_pureR (d := some 14) En16 (v := .int .i64 (((List.length lx : Nat) : Int) - (16 : Int))) 0 (by kernel_rfl) (by kernel_rfl) rfl ?_
  intro ac50 En51
  refine any_pureR (d := some 15) En51 (v := .bool (decide (((List.length lx : Nat) : Int) - (16 : Int) < (0 : Int)))) 1 (by kernel_rfl) (by kernel_rfl) rfl ?_
  intro ac52 En53
  rw [show (decide (((List.length lx : Nat) : Int) - (16 : Int) < (0 : Int))) = true from decide_eq_true (by omega)] at En53
  refine any_pureR (d := some 16) En53 (v := .bool true) 2 (by kernel_rfl) (by kernel_rfl) rfl ?_
  intro ac54 En55
  refine any_skip (d := some 17) En55 3 (by kernel_rfl) (by kernel_rfl) rfl ?_
  intro ac56 En57
  refine any_skip (d := some 18) En57 4 (by kernel_rfl) (by kernel_rfl) rfl ?_
  intro ac58 En59
  refine any_skip (d := some 19) En59 5 (by kernel_rfl) (by kernel_rfl) rfl ?_
  intro ac60 En61
  refine any_skip (d := some 20) En61 6 (by kernel_rfl) (by kernel_rfl) rfl ?_
  intro ac62 En63
  refine any_skip (d := some 21) En63 7 (by kernel_rfl) (by kernel_rfl) rfl ?_
  intro ac64 En65
  refine any_skip (d := some 22) En65 8 (by kernel_rfl) (by kernel_rfl) rfl ?_
  intro ac66 En67
  refine any_skip (d := some 23) En67 9 (by kernel_rfl) (by kernel_rfl) rfl ?_
  intro ac68 En69
  refine any_skip (d := some 24) En69 10 (by kernel_rfl) (by kernel_rfl) rfl ?_
  intro ac70 En71
  refine any_skip (d := some 25) En71 11 (by kernel_rfl) (by kernel_rfl) rfl ?_
  intro ac72 En73
  refine any_skip (d := some 26) En73 12 (by kernel_rfl) (by kernel_rfl) rfl ?_
  intro ac74 En75
  refine any_skip (d := some 27) En75 13 (by kernel_rfl) (by kernel_rfl) rfl ?_
  intro ac76 En77
  refine any_skip (d := some 28) En77 14 (by kernel_rfl) (by kernel_rfl) rfl ?_
  intro ac78 En79
  refine any_pureR (d := some 29) En79 (v := .bool true) 15 (by kernel_rfl) (by kernel_rfl) rfl ?_
  intro ac80 En81
  exact any_end (by kernel_rfl) ⟨En81.sub (by kernel_rfl), wo17.pick [0, 1] (by kernel_rfl) (by decide)⟩
 rintro ac82 wo83 ⟨En84, Hv85⟩
 refine then_normal ?_
 refine cond_true En84 (t := true) (by kernel_rfl) rfl ?_
 refine wp_seq ?_
 refine region_from ?_
 refine d_pures [(3, .slice ax (List.length lx) cx), (4, pt bk1), (5, pt bk6), (8, .slice none 0 0), (9, .int .i64 91), (10, .int .i64 (((List.length lx : Nat) : Int) - (16 : Int)))] [.slice none 0 0, .int .i64 91] 2 En84 (by kernel_rfl) (by kernel_rfl) rfl ?_
 intro ac86 En87
 refine from_end (by kernel_rfl) ?_
 refine then_normal ?_
 refine wp_ret ?_
 refine then_ret ?_
 refine d_ret2 (t := 8) (u := 9) (v := .slice none 0 0) (x := .int .i64 91) En87 (by kernel_rfl) (by kernel_rfl) (by kernel_rfl) ?_
 exact ⟨rfl, Hv85.pick [] (by kernel_rfl) (by decide)⟩

theorem open_bad_go (w : World) (lk : List UInt8) (hk : List.length lk = 32) (ln : List UInt8) (hn : List.length ln = 12) (aa : Option Addr) (na ca : Nat) (la : List UInt8) (ea : na = List.length la) (ia : InB w [] aa ca la) (ax : Option Addr) (nx cx : Nat) (lx : List UInt8) (ex : nx = List.length lx) (ix : InB w [] ax cx lx) (hB : List.length la + List.length lx ≤ 1099511627776) (h16 : 16 ≤ List.length lx) (hok : ¬ (tagF lk ln la (List.take (List.length lx - 16) lx) = List.drop (List.length lx - 16) lx)) : Calls Try.prog 16 #[.agg (List.toArray (bys lk)), .agg (List.toArray (bys ln)), .slice aa na ca, .slice ax nx cx] w fun e w' => e = .returned (.tuple #[.slice none 0 0, .int .i64 91]) ∧ Ev w [] w' [] := by
 subst ea
 subst ex
 have hsa := ia.small
 have hca := ia.cap
 have hsx := ix.small
 have hcx := ix.cap
 have hlt : List.length (List.take (List.length lx - 16) lx) = List.length lx - 16 := by rw [List.length_take]; omega
 have htl := tagF_len lk ln la (List.take (List.length lx - 16) lx)
 have hld : List.length (List.drop (List.length lx - 16) lx) ≤ 2000000000000 := by rw [List.length_drop]; omega
 refine d_start [(0, .agg (List.toArray (bys lk))), (1, .agg (List.toArray (bys ln))), (2, .slice aa (List.length la) ca), (3, .slice ax (List.length lx) cx)] 36 Go.Proofs.Try.func16 Go.Proofs.Try.ntmps16 rfl (by kernel_rfl) (by kernel_rfl) ?_
 intro act0 En0
 have Hv0 : Ev w [] w [] := Ev.refl (Heap.nil _)
 refine wp_seq ?_
 refine region_from ?_
 refine from_op (by kernel_rfl) ?_
 refine op_newbox (d := some 4) (T := 22) (v := .agg (List.toArray (bys lk))) (cs := bys lk) En0 (by kernel_rfl) rfl Hv0 ?_
 intro ac2 wo3 bk1 En4 Hv5
 refine from_op (by kernel_rfl) ?_
 refine op_newbox (d := some 5) (T := 24) (v := .agg (List.toArray (bys ln))) (cs := bys ln) En4 (by kernel_rfl) rfl Hv5 ?_
 intro ac7 wo8 bk6 En9 Hv10
 refine d_pures [(2, .slice aa (List.length la) ca), (3, .slice ax (List.length lx) cx), (4, pt bk1), (5, pt bk6), (8, .slice none 0 0), (9, .int .i64 0)] [.slice none 0 0, .int .i64 0] 4 En9 (by kernel_rfl) (by kernel_rfl) rfl ?_
 intro ac11 En12
 refine from_end (by kernel_rfl) ?_
 refine then_normal ?_
 refine wp_seq ?_
 refine region_from ?_
 refine d_pures [(2, .slice aa (List.length la) ca), (3, .slice ax (List.length lx) cx), (4, pt bk1), (5, pt bk6), (8, .slice none 0 0), (9, .int .i64 0), (13, .int .i64 (IntKind.wrap .i64 (((List.length lx : Nat) : Int) - (16 : Int))))] [.slice ax (List.length lx) cx, .int .i64 ((List.length lx : Nat) : Int), .int .i64 (IntKind.wrap .i64 (((List.length lx : Nat) : Int) - (16 : Int)))] 3 En12 (by kernel_rfl) (by kernel_rfl) rfl ?_
 intro ac13 En14
 rw [Go.Dbr.wr64 (e := ((List.length lx : Nat) : Int) - (16 : Int)) (x := ((List.length lx - 16 : Nat) : Int)) (by omega) (by omega) (by omega)] at En14
 refine d_pures [(2, .slice aa (List.length la) ca), (3, .slice ax (List.length lx) cx), (4, pt bk1), (5, pt bk6), (8, .slice none 0 0), (9, .int .i64 0), (10, .int .i64 ((List.length lx - 16 : Nat) : Int))] [.int .i64 ((List.length lx - 16 : Nat) : Int)] 4 En14 (by kernel_rfl) (by kernel_rfl) rfl ?_
 intro ac15 En16
 refine from_end (by kernel_rfl) ?_
 refine then_normal ?_
 refine wp_seq ?_
 refine wp_seq ?_
 refine region_cut (F := fun ac wo => Env ac 36 [(3, .slice ax (List.length lx) cx), (4, pt bk1), (5, pt bk6), (8, .slice none 0 0), (9, .int .i64 0), (10, .int .i64 ((List.length lx - 16 : Nat) : Int)), (29, .bool (!((tagF lk ln la (List.take (List.length lx - 16) lx)) == (List.drop (List.length lx - 16) lx))))] ∧ Ev w [] wo [.box bk1 (bys lk) 22, .box bk6 (bys ln) 24]) ?_ ?_
 ·
  refine h_start (fun wv => Ev w [] wv [.box bk1 (bys lk) 22, .box bk6 (bys ln) 24]) [] (by kernel_rfl) 16 (by kernel_rfl) ?_
  have wo17 := Hv10.trans (Ev.drew Hv10.heap)
  refine h_name fun G hG => ?_
  have nd288 : ∀ (ac : Act) (wo : World) (bq225 : _), Env ac 36 [(3, .slice ax (List.length lx) cx), (4, pt bk1), (5, pt bk6), (8, .slice none 0 0), (9, .int .i64 0), (10, .int .i64 ((List.length lx - 16 : Nat) : Int)), (16, .bool false), (23, .slice (some ⟨bq225, 0, none⟩) 16 16), (24, .slice ax (List.length lx) cx), (25, .int .i64 ((List.length lx - 16 : Nat) : Int))] → Ev w [] wo [.box bq225 (bys (tagF lk ln la (List.take (List.length lx - 16) lx))) 31, .box bk1 (bys lk) 22, .box bk6 (bys ln) 24] → G 4 #[true, true, true, true, true, true, true, true, true, true, true, true, false, false, false, false] ac wo := by
   intro ac289 wo290 bq225 En291 Hv292
   refine h_from hG ?_
   refine h_at 12 (by kernel_rfl) rfl ?_
   have hcap293 := ix.cap
   refine op_slice (d := some 26) (t := 25) (e := 5) (sz := 1) (len := List.length lx) (cap := cx) (lo := List.length lx - 16) (hi := List.length lx) (ao := ax) (lov := (some (.int .i64 ((List.length lx - 16 : Nat) : Int)))) (hiv := none) En291 (by kernel_rfl) (by kernel_rfl) (by kernel_rfl) (by omega) (by omega) (.inr ⟨.i64, rfl⟩) (.inl ⟨rfl, rfl⟩) ?_
   intro ac294 En295
   refine ⟨fun _ => Hv292.pick [1, 2] (by kernel_rfl) (by decide), ?_⟩
   refine h_at 13 (by kernel_rfl) rfl ?_
   have hM296 : Heap wo290 [] := Hv292.heap.pick [] (by kernel_rfl) (by decide)
   refine op_call (d := some 27) (f := 31) (args := #[.slice (some ⟨bq225, 0, none⟩) 16 16, .slice (cutAt ax cx (List.length lx - 16) 1) ((List.length lx) - (List.length lx - 16)) (cx - (List.length lx - 16))]) En295 (by kernel_rfl) ((same_go _ (some ⟨bq225, 0, none⟩) 16 16 (tagF lk ln la (List.take (List.length lx - 16) lx)) (by first | rfl | (simp; done) | (simp; omega) | omega) (bys_inbox (Hv292.heap.roBox (k := 0) (m := 16) rfl (load_whole (bys_lenh (tagF_len _ _ _ _))) [] (by kernel_rfl) rfl) (tagF_len _ _ _ _) (by decide)) (cutAt ax cx (List.length lx - 16) 1) ((List.length lx) - (List.length lx - 16)) (cx - (List.length lx - 16)) (List.drop (List.length lx - 16) lx) (by first | rfl | (simp; done) | (simp; omega) | omega) (((ix.ev Hv292).pick [] (by kernel_rfl)).drop (List.length lx - 16) (by omega))).mono ?_)
   rintro _ wo298 ⟨rfl, he301⟩
   refine ⟨_, rfl, ?_⟩
   intro ac297 En299
   have Hv300 : Ev w [] wo298 [.box bq225 (bys (tagF lk ln la (List.take (List.length lx - 16) lx))) 31, .box bk1 (bys lk) 22, .box bk6 (bys ln) 24] := Hv292.trans (Ev.call (R := [.box bq225 (bys (tagF lk ln la (List.take (List.length lx - 16) lx))) 31, .box bk1 (bys lk) 22, .box bk6 (bys ln) 24]) Hv292.heap [0, 1, 2] (by kernel_rfl) (by decide) he301)
   clear hM296 he301
   refine ⟨fun _ => Hv300.pick [1, 2] (by kernel_rfl) (by decide), ?_⟩
   refine h_pureR (d := some 28) En299 (v := .bool (!((tagF lk ln la (List.take (List.length lx - 16) lx)) == (List.drop (List.length lx - 16) lx)))) 14 (by kernel_rfl) (by kernel_rfl) rfl (fun _ => Hv300.pick [1, 2] (by kernel_rfl) (by decide)) ?_
   intro ac302 En303
   refine h_pureR (d := some 29) En303 (v := .bool (!((tagF lk ln la (List.take (List.length lx - 16) lx)) == (List.drop (List.length lx - 16) lx)))) 15 (by kernel_rfl) (by kernel_rfl) rfl (fun _ => Hv300.pick [1, 2] (by kernel_rfl) (by decide)) ?_
   intro ac304 En305
   exact h_end (by kernel_rfl) ⟨En305.sub (by kernel_rfl), Hv300.pick [1, 2] (by kernel_rfl) (by decide)⟩
  have nd306 : ∀ (ac : Act) (wo : World), Env ac 36 [(3, .slice ax (List.length lx) cx), (4, pt bk1), (5, pt bk6), (8, .slice none 0 0), (9, .int .i64 0), (10, .int .i64 ((List.length lx - 16 : Nat) : Int)), (16, .bool false), (17, .agg (List.toArray (bys lk))), (18, .agg (List.toArray (bys ln))), (19, .slice aa (List.length la) ca), (22, .slice ax (List.length lx - 16) cx), (26, .slice (cutAt ax cx (List.length lx - 16) 1) ((List.length lx) - (List.length lx - 16)) (cx - (List.length lx - 16)))] → Ev w [] wo [.box bk1 (bys lk) 22, .box bk6 (bys ln) 24] → G 4 #[true, true, true, true, true, true, true, true, true, false, true, true, true, false, false, false] ac wo := by
   intro ac307 wo308 En309 Hv310
   refine h_from hG ?_
   refine h_at 9 (by kernel_rfl) rfl ?_
   have hM312 : Heap wo308 [] := Hv310.heap.pick [] (by kernel_rfl) (by decide)
   refine op_call (d := some 23) (f := 30) (args := #[.agg (List.toArray (bys lk)), .agg (List.toArray (bys ln)), .slice aa (List.length la) ca, .slice ax (List.length lx - 16) cx]) En309 (by kernel_rfl) ((tag_go _ lk hk ln hn aa (List.length la) ca la (by first | rfl | (simp; done) | (simp; omega) | omega) ((ia.ev Hv310).pick [] (by kernel_rfl)) ax (List.length lx - 16) cx (List.take (List.length lx - 16) lx) (by first | rfl | (simp; done) | (simp; omega) | omega) (((ix.ev Hv310).pick [] (by kernel_rfl)).take (List.length lx - 16)) (by first | omega | (simp; omega))).mono ?_)
   rintro _ wo314 ⟨bq311, rfl, he317⟩
   refine ⟨_, rfl, ?_⟩
   intro ac313 En315
   have Hv316 : Ev w [] wo314 [.box bq311 (bys (tagF lk ln la (List.take (List.length lx - 16) lx))) 31, .box bk1 (bys lk) 22, .box bk6 (bys ln) 24] := Hv310.trans (Ev.call (R := [.box bk1 (bys lk) 22, .box bk6 (bys ln) 24]) Hv310.heap [0, 1] (by kernel_rfl) (by decide) he317)
   clear hM312 he317
   refine ⟨fun _ => Hv316.pick [1, 2] (by kernel_rfl) (by decide), ?_⟩
   refine h_at 13 (by kernel_rfl) rfl ?_
   have hM318 : Heap wo314 [] := Hv316.heap.pick [] (by kernel_rfl) (by decide)
   refine op_call (d := some 27) (f := 31) (args := #[.slice (some ⟨bq311, 0, none⟩) 16 16, .slice (cutAt ax cx (List.length lx - 16) 1) ((List.length lx) - (List.length lx - 16)) (cx - (List.length lx - 16))]) En315 (by kernel_rfl) ((same_go _ (some ⟨bq311, 0, none⟩) 16 16 (tagF lk ln la (List.take (List.length lx - 16) lx)) (by first | rfl | (simp; done) | (simp; omega) | omega) (bys_inbox (Hv316.heap.roBox (k := 0) (m := 16) rfl (load_whole (bys_lenh (tagF_len _ _ _ _))) [] (by kernel_rfl) rfl) (tagF_len _ _ _ _) (by decide)) (cutAt ax cx (List.length lx - 16) 1) ((List.length lx) - (List.length lx - 16)) (cx - (List.length lx - 16)) (List.drop (List.length lx - 16) lx) (by first | rfl | (simp; done) | (simp; omega) | omega) (((ix.ev Hv316).pick [] (by kernel_rfl)).drop (List.length lx - 16) (by omega))).mono ?_)
   rintro _ wo320 ⟨rfl, he323⟩
   refine ⟨_, rfl, ?_⟩
   intro ac319 En321
   have Hv322 : Ev w [] wo320 [.box bq311 (bys (tagF lk ln la (List.take (List.length lx - 16) lx))) 31, .box bk1 (bys lk) 22, .box bk6 (bys ln) 24] := Hv316.trans (Ev.call (R := [.box bq311 (bys (tagF lk ln la (List.take (List.length lx - 16) lx))) 31, .box bk1 (bys lk) 22, .box bk6 (bys ln) 24]) Hv316.heap [0, 1, 2] (by kernel_rfl) (by decide) he323)
   clear hM318 he323
   refine ⟨fun _ => Hv322.pick [1, 2] (by kernel_rfl) (by decide), ?_⟩
   refine h_pureR (d := some 28) En321 (v := .bool (!((tagF lk ln la (List.take (List.length lx - 16) lx)) == (List.drop (List.length lx - 16) lx)))) 14 (by kernel_rfl) (by kernel_rfl) rfl (fun _ => Hv322.pick [1, 2] (by kernel_rfl) (by decide)) ?_
   intro ac324 En325
   refine h_pureR (d := some 29) En325 (v := .bool (!((tagF lk ln la (List.take (List.length lx - 16) lx)) == (List.drop (List.length lx - 16) lx)))) 15 (by kernel_rfl) (by kernel_rfl) rfl (fun _ => Hv322.pick [1, 2] (by kernel_rfl) (by decide)) ?_
   intro ac326 En327
   exact h_end (by kernel_rfl) ⟨En327.sub (by kernel_rfl), Hv322.pick [1, 2] (by kernel_rfl) (by decide)⟩
  have nd328 : ∀ (ac : Act) (wo : World), Env ac 36 [(3, .slice ax (List.length lx) cx), (4, pt bk1), (5, pt bk6), (8, .slice none 0 0), (9, .int .i64 0), (10, .int .i64 ((List.length lx - 16 : Nat) : Int)), (16, .bool false), (17, .agg (List.toArray (bys lk))), (18, .agg (List.toArray (bys ln))), (19, .slice aa (List.length la) ca), (22, .slice ax (List.length lx - 16) cx), (24, .slice ax (List.length lx) cx), (25, .int .i64 ((List.length lx - 16 : Nat) : Int))] → Ev w [] wo [.box bk1 (bys lk) 22, .box bk6 (bys ln) 24] → G 5 #[true, true, true, true, true, true, true, true, true, false, true, true, false, false, false, false] ac wo := by
   intro ac329 wo330 En331 Hv332
   refine h_from hG ?_
   refine h_ways [9, 12] (by kernel_rfl) rfl ?_
   refine ⟨?_, ?_, trivial⟩
   ·
    rintro _ rfl
    have hM334 : Heap wo330 [] := Hv332.heap.pick [] (by kernel_rfl) (by decide)
    refine op_call (d := some 23) (f := 30) (args := #[.agg (List.toArray (bys lk)), .agg (List.toArray (bys ln)), .slice aa (List.length la) ca, .slice ax (List.length lx - 16) cx]) En331 (by kernel_rfl) ((tag_go _ lk hk ln hn aa (List.length la) ca la (by first | rfl | (simp; done) | (simp; omega) | omega) ((ia.ev Hv332).pick [] (by kernel_rfl)) ax (List.length lx - 16) cx (List.take (List.length lx - 16) lx) (by first | rfl | (simp; done) | (simp; omega) | omega) (((ix.ev Hv332).pick [] (by kernel_rfl)).take (List.length lx - 16)) (by first | omega | (simp; omega))).mono ?_)
    rintro _ wo336 ⟨bq333, rfl, he339⟩
    refine ⟨_, rfl, ?_⟩
    intro ac335 En337
    have Hv338 : Ev w [] wo336 [.box bq333 (bys (tagF lk ln la (List.take (List.length lx - 16) lx))) 31, .box bk1 (bys lk) 22, .box bk6 (bys ln) 24] := Hv332.trans (Ev.call (R := [.box bk1 (bys lk) 22, .box bk6 (bys ln) 24]) Hv332.heap [0, 1] (by kernel_rfl) (by decide) he339)
    clear hM334 he339
    refine ⟨fun _ => Hv338.pick [1, 2] (by kernel_rfl) (by decide), ?_⟩
    exact h_to hG (by kernel_rfl) (nd288 _ _ bq333 (En337.sub (by kernel_rfl)) (Hv338.pick [0, 1, 2] (by kernel_rfl) (by decide)))
   ·
    rintro _ rfl
    have hcap340 := ix.cap
    refine op_slice (d := some 26) (t := 25) (e := 5) (sz := 1) (len := List.length lx) (cap := cx) (lo := List.length lx - 16) (hi := List.length lx) (ao := ax) (lov := (some (.int .i64 ((List.length lx - 16 : Nat) : Int)))) (hiv := none) En331 (by kernel_rfl) (by kernel_rfl) (by kernel_rfl) (by omega) (by omega) (.inr ⟨.i64, rfl⟩) (.inl ⟨rfl, rfl⟩) ?_
    intro ac341 En342
    refine ⟨fun _ => Hv332.pick [0, 1] (by kernel_rfl) (by decide), ?_⟩
    exact h_to hG (by kernel_rfl) (nd306 _ _ (En342.sub (by kernel_rfl)) (Hv332.pick [0, 1] (by kernel_rfl) (by decide)))
  have nd343 : ∀ (ac : Act) (wo : World), Env ac 36 [(3, .slice ax (List.length lx) cx), (4, pt bk1), (5, pt bk6), (8, .slice none 0 0), (9, .int .i64 0), (10, .int .i64 ((List.length lx - 16 : Nat) : Int)), (16, .bool false), (17, .agg (List.toArray (bys lk))), (18, .agg (List.toArray (bys ln))), (19, .slice aa (List.length la) ca), (20, .slice ax (List.length lx) cx), (21, .int .i64 ((List.length lx - 16 : Nat) : Int)), (26, .slice (cutAt ax cx (List.length lx - 16) 1) ((List.length lx) - (List.length lx - 16)) (cx - (List.length lx - 16)))] → Ev w [] wo [.box bk1 (bys lk) 22, .box bk6 (bys ln) 24] → G 5 #[true, true, true, true, true, true, true, true, false, false, true, true, true, false, false, false] ac wo := by
   intro ac344 wo345 En346 Hv347
   refine h_from hG ?_
   refine h_at 8 (by kernel_rfl) rfl ?_
   have hcap348 := ix.cap
   refine op_slice0 (d := some 22) (t := 25) (e := 5) (sz := 1) (len := List.length lx) (cap := cx) (hi := List.length lx - 16) (ao := ax) (lov := none) (hiv := (some (.int .i64 ((List.length lx - 16 : Nat) : Int)))) En346 (by kernel_rfl) (by kernel_rfl) (by kernel_rfl) (by omega) (.inl ⟨rfl, rfl⟩) (.inr ⟨.i64, rfl⟩) ?_
   intro ac349 En350
   refine ⟨fun _ => Hv347.pick [0, 1] (by kernel_rfl) (by decide), ?_⟩
   refine h_at 9 (by kernel_rfl) rfl ?_
   have hM352 : Heap wo345 [] := Hv347.heap.pick [] (by kernel_rfl) (by decide)
   refine op_call (d := some 23) (f := 30) (args := #[.agg (List.toArray (bys lk)), .agg (List.toArray (bys ln)), .slice aa (List.length la) ca, .slice ax (List.length lx - 16) cx]) En350 (by kernel_rfl) ((tag_go _ lk hk ln hn aa (List.length la) ca la (by first | rfl | (simp; done) | (simp; omega) | omega) ((ia.ev Hv347).pick [] (by kernel_rfl)) ax (List.length lx - 16) cx (List.take (List.length lx - 16) lx) (by first | rfl | (simp; done) | (simp; omega) | omega) (((ix.ev Hv347).pick [] (by kernel_rfl)).take (List.length lx - 16)) (by first | omega | (simp; omega))).mono ?_)
   rintro _ wo354 ⟨bq351, rfl, he357⟩
   refine ⟨_, rfl, ?_⟩
   intro ac353 En355
   have Hv356 : Ev w [] wo354 [.box bq351 (bys (tagF lk ln la (List.take (List.length lx - 16) lx))) 31, .box bk1 (bys lk) 22, .box bk6 (bys ln) 24] := Hv347.trans (Ev.call (R := [.box bk1 (bys lk) 22, .box bk6 (bys ln) 24]) Hv347.heap [0, 1] (by kernel_rfl) (by decide) he357)
   clear hM352 he357
   refine ⟨fun _ => Hv356.pick [1, 2] (by kernel_rfl) (by decide), ?_⟩
   refine h_at 13 (by kernel_rfl) rfl ?_
   have hM358 : Heap wo354 [] := Hv356.heap.pick [] (by kernel_rfl) (by decide)
   refine op_call (d := some 27) (f := 31) (args := #[.slice (some ⟨bq351, 0, none⟩) 16 16, .slice (cutAt ax cx (List.length lx - 16) 1) ((List.length lx) - (List.length lx - 16)) (cx - (List.length lx - 16))]) En355 (by kernel_rfl) ((same_go _ (some ⟨bq351, 0, none⟩) 16 16 (tagF lk ln la (List.take (List.length lx - 16) lx)) (by first | rfl | (simp; done) | (simp; omega) | omega) (bys_inbox (Hv356.heap.roBox (k := 0) (m := 16) rfl (load_whole (bys_lenh (tagF_len _ _ _ _))) [] (by kernel_rfl) rfl) (tagF_len _ _ _ _) (by decide)) (cutAt ax cx (List.length lx - 16) 1) ((List.length lx) - (List.length lx - 16)) (cx - (List.length lx - 16)) (List.drop (List.length lx - 16) lx) (by first | rfl | (simp; done) | (simp; omega) | omega) (((ix.ev Hv356).pick [] (by kernel_rfl)).drop (List.length lx - 16) (by omega))).mono ?_)
   rintro _ wo360 ⟨rfl, he363⟩
   refine ⟨_, rfl, ?_⟩
   intro ac359 En361
   have Hv362 : Ev w [] wo360 [.box bq351 (bys (tagF lk ln la (List.take (List.length lx - 16) lx))) 31, .box bk1 (bys lk) 22, .box bk6 (bys ln) 24] := Hv356.trans (Ev.call (R := [.box bq351 (bys (tagF lk ln la (List.take (List.length lx - 16) lx))) 31, .box bk1 (bys lk) 22, .box bk6 (bys ln) 24]) Hv356.heap [0, 1, 2] (by kernel_rfl) (by decide) he363)
   clear hM358 he363
   refine ⟨fun _ => Hv362.pick [1, 2] (by kernel_rfl) (by decide), ?_⟩
   refine h_pureR (d := some 28) En361 (v := .bool (!((tagF lk ln la (List.take (List.length lx - 16) lx)) == (List.drop (List.length lx - 16) lx)))) 14 (by kernel_rfl) (by kernel_rfl) rfl (fun _ => Hv362.pick [1, 2] (by kernel_rfl) (by decide)) ?_
   intro ac364 En365
   refine h_pureR (d := some 29) En365 (v := .bool (!((tagF lk ln la (List.take (List.length lx - 16) lx)) == (List.drop (List.length lx - 16) lx)))) 15 (by kernel_rfl) (by kernel_rfl) rfl (fun _ => Hv362.pick [1, 2] (by kernel_rfl) (by decide)) ?_
   intro ac366 En367
   exact h_end (by kernel_rfl) ⟨En367.sub (by kernel_rfl), Hv362.pick [1, 2] (by kernel_rfl) (by decide)⟩
  refine h_from hG ?_
  refine h_pureR (d := some 14) En16 (v := .int .i64 ((List.length lx - 16 : Nat) : Int)) 0 (by kernel_rfl) (by kernel_rfl) rfl (fun _ => wo17.pick [0, 1] (by kernel_rfl) (by decide)) ?_
  intro ac368 En369
  refine h_pureR (d := some 15) En369 (v := .bool (decide (((List.length lx - 16 : Nat) : Int) < (0 : Int)))) 1 (by kernel_rfl) (by kernel_rfl) rfl (fun _ => wo17.pick [0, 1] (by kernel_rfl) (by decide)) ?_
  intro ac370 En371
  rw [show (decide (((List.length lx - 16 : Nat) : Int) < (0 : Int))) = false from decide_eq_false (by omega)] at En371
  refine h_pureR (d := some 16) En371 (v := .bool false) 2 (by kernel_rfl) (by kernel_rfl) rfl (fun _ => wo17.pick [0, 1] (by kernel_rfl) (by decide)) ?_
  intro ac372 En373
  refine h_read (d := some 17) (s := nv (Instr.loadAt 22 (pt bk1))) En373 (v := .agg (List.toArray (bys lk))) 3 (by kernel_rfl) (fun w hS => run_nv (run_loadAgg2 (m := 32) (cs := bys lk) (bys_lenh hk) (by kernel_rfl) (by kernel_rfl) (hS.heap.cells (k := 0) (off := 0) (m := 32) rfl (load_whole (bys_lenh hk))))) (by kernel_rfl) rfl (wo17.pick [0, 1] (by kernel_rfl) (by decide)) ?_
  intro ac374 En375
  refine h_read (d := some 18) (s := nv (Instr.loadAt 24 (pt bk6))) En375 (v := .agg (List.toArray (bys ln))) 4 (by kernel_rfl) (fun w hS => run_nv (run_loadAgg2 (m := 12) (cs := bys ln) (bys_lenh hn) (by kernel_rfl) (by kernel_rfl) (hS.heap.cells (k := 1) (off := 0) (m := 12) rfl (load_whole (bys_lenh hn))))) (by kernel_rfl) rfl (wo17.pick [0, 1] (by kernel_rfl) (by decide)) ?_
  intro ac376 En377
  refine h_pureR (d := some 19) En377 (v := .slice aa (List.length la) ca) 5 (by kernel_rfl) (by kernel_rfl) rfl (fun _ => wo17.pick [0, 1] (by kernel_rfl) (by decide)) ?_
  intro ac378 En379
  refine h_pureR (d := some 20) En379 (v := .slice ax (List.length lx) cx) 6 (by kernel_rfl) (by kernel_rfl) rfl (fun _ => wo17.pick [0, 1] (by kernel_rfl) (by decide)) ?_
  intro ac380 En381
  refine h_pureR (d := some 21) En381 (v := .int .i64 ((List.length lx - 16 : Nat) : Int)) 7 (by kernel_rfl) (by kernel_rfl) rfl (fun _ => wo17.pick [0, 1] (by kernel_rfl) (by decide)) ?_
  intro ac382 En383
  refine h_pureR (d := some 24) En383 (v := .slice ax (List.length lx) cx) 10 (by kernel_rfl) (by kernel_rfl) rfl (fun _ => wo17.pick [0, 1] (by kernel_rfl) (by decide)) ?_
  intro ac384 En385
  refine h_pureR (d := some 25) En385 (v := .int .i64 ((List.length lx - 16 : Nat) : Int)) 11 (by kernel_rfl) (by kernel_rfl) rfl (fun _ => wo17.pick [0, 1] (by kernel_rfl) (by decide)) ?_
  intro ac386 En387
  refine h_ways [8, 12] (by kernel_rfl) rfl ?_
  refine ⟨?_, ?_, trivial⟩
  ·
   rintro _ rfl
   have hcap388 := ix.cap
   refine op_slice0 (d := some 22) (t := 25) (e := 5) (sz := 1) (len := List.length lx) (cap := cx) (hi := List.length lx - 16) (ao := ax) (lov := none) (hiv := (some (.int .i64 ((List.length lx - 16 : Nat) : Int)))) En387 (by kernel_rfl) (by kernel_rfl) (by kernel_rfl) (by omega) (.inl ⟨rfl, rfl⟩) (.inr ⟨.i64, rfl⟩) ?_
   intro ac389 En390
   refine ⟨fun _ => wo17.pick [0, 1] (by kernel_rfl) (by decide), ?_⟩
   exact h_to hG (by kernel_rfl) (nd328 _ _ (En390.sub (by kernel_rfl)) (wo17.pick [0, 1] (by kernel_rfl) (by decide)))
  ·
   rintro _ rfl
   have hcap391 := ix.cap
   refine op_slice (d := some 26) (t := 25) (e := 5) (sz := 1) (len := List.length lx) (cap := cx) (lo := List.length lx - 16) (hi := List.length lx) (ao := ax) (lov := (some (.int .i64 ((List.length lx - 16 : Nat) : Int)))) (hiv := none) En387 (by kernel_rfl) (by kernel_rfl) (by kernel_rfl) (by omega) (by omega) (.inr ⟨.i64, rfl⟩) (.inl ⟨rfl, rfl⟩) ?_
   intro ac392 En393
   refine ⟨fun _ => wo17.pick [0, 1] (by kernel_rfl) (by decide), ?_⟩
   exact h_to hG (by kernel_rfl) (nd343 _ _ (En393.sub (by kernel_rfl)) (wo17.pick [0, 1] (by kernel_rfl) (by decide)))
 rintro ac394 wo395 ⟨En396, Hv397⟩
 refine then_normal ?_
 refine cond_at En396 (t := !((tagF lk ln la (List.take (List.length lx - 16) lx)) == (List.drop (List.length lx - 16) lx))) (by kernel_rfl) (fun hc398 => ?_) (fun hc398 => ?_)
 ·
  replace hc398 : ¬ ((tagF lk ln la (List.take (List.length lx - 16) lx)) = (List.drop (List.length lx - 16) lx)) := by simpa using hc398
  refine wp_seq ?_
  refine region_from ?_
  refine d_pures [(3, .slice ax (List.length lx) cx), (4, pt bk1), (5, pt bk6), (8, .slice none 0 0), (9, .int .i64 91), (10, .int .i64 ((List.length lx - 16 : Nat) : Int))] [.slice none 0 0, .int .i64 91] 2 En396 (by kernel_rfl) (by kernel_rfl) rfl ?_
  intro ac399 En400
  refine from_end (by kernel_rfl) ?_
  refine then_normal ?_
  refine wp_ret ?_
  refine then_ret ?_
  refine d_ret2 (t := 8) (u := 9) (v := .slice none 0 0) (x := .int .i64 91) En400 (by kernel_rfl) (by kernel_rfl) (by kernel_rfl) ?_
  exact ⟨rfl, Hv397.pick [] (by kernel_rfl) (by decide)⟩
 ·
  replace hc398 : (tagF lk ln la (List.take (List.length lx - 16) lx)) = (List.drop (List.length lx - 16) lx) := by simpa using hc398
  first | exact absurd hok hc398 | exact absurd hc398 hok

theorem open_ok_go (w : World) (lk : List UInt8) (hk : List.length lk = 32) (ln : List UInt8) (hn : List.length ln = 12) (aa : Option Addr) (na ca : Nat) (la : List UInt8) (ea : na = List.length la) (ia : InB w [] aa ca la) (ax : Option Addr) (nx cx : Nat) (lx : List UInt8) (ex : nx = List.length lx) (ix : InB w [] ax cx lx) (hB : List.length la + List.length lx ≤ 1099511627776) (h16 : 16 ≤ List.length lx) (hok : tagF lk ln la (List.take (List.length lx - 16) lx) = List.drop (List.length lx - 16) lx) : Calls Try.prog 16 #[.agg (List.toArray (bys lk)), .agg (List.toArray (bys ln)), .slice aa na ca, .slice ax nx cx] w fun e w' => ∃ ao co, e = .returned (.tuple #[.slice ao (List.length (streamF lk 1 ln (List.take (List.length lx - 16) lx))) co, .int .i64 0]) ∧ Ev w [] w' [.vec ao co 1 (bys (streamF lk 1 ln (List.take (List.length lx - 16) lx))) 5] := by
 subst ea
 subst ex
 have hsa := ia.small
 have hca := ia.cap
 have hsx := ix.small
 have hcx := ix.cap
 have hlt : List.length (List.take (List.length lx - 16) lx) = List.length lx - 16 := by rw [List.length_take]; omega
 have htl := tagF_len lk ln la (List.take (List.length lx - 16) lx)
 have hld : List.length (List.drop (List.length lx - 16) lx) ≤ 2000000000000 := by rw [List.length_drop]; omega
 refine d_start [(0, .agg (List.toArray (bys lk))), (1, .agg (List.toArray (bys ln))), (2, .slice aa (List.length la) ca), (3, .slice ax (List.length lx) cx)] 36 Go.Proofs.Try.func16 Go.Proofs.Try.ntmps16 rfl (by kernel_rfl) (by kernel_rfl) ?_
 intro act0 En0
 have Hv0 : Ev w [] w [] := Ev.refl (Heap.nil _)
 refine wp_seq ?_
 refine region_from ?_
 refine from_op (by kernel_rfl) ?_
 refine op_newbox (d := some 4) (T := 22) (v := .agg (List.toArray (bys lk))) (cs := bys lk) En0 (by kernel_rfl) rfl Hv0 ?_
 intro ac2 wo3 bk1 En4 Hv5
 refine from_op (by kernel_rfl) ?_
 refine op_newbox (d := some 5) (T := 24) (v := .agg (List.toArray (bys ln))) (cs := bys ln) En4 (by kernel_rfl) rfl Hv5 ?_
 intro ac7 wo8 bk6 En9 Hv10
 refine d_pures [(2, .slice aa (List.length la) ca), (3, .slice ax (List.length lx) cx), (4, pt bk1), (5, pt bk6), (8, .slice none 0 0), (9, .int .i64 0)] [.slice none 0 0, .int .i64 0] 4 En9 (by kernel_rfl) (by kernel_rfl) rfl ?_
 intro ac11 En12
 refine from_end (by kernel_rfl) ?_
 refine then_normal ?_
 refine wp_seq ?_
 refine region_from ?_
 refine d_pures [(2, .slice aa (List.length la) ca), (3, .slice ax (List.length lx) cx), (4, pt bk1), (5, pt bk6), (8, .slice none 0 0), (9, .int .i64 0), (13, .int .i64 (IntKind.wrap .i64 (((List.length lx : Nat) : Int) - (16 : Int))))] [.slice ax (List.length lx) cx, .int .i64 ((List.length lx : Nat) : Int), .int .i64 (IntKind.wrap .i64 (((List.length lx : Nat) : Int) - (16 : Int)))] 3 En12 (by kernel_rfl) (by kernel_rfl) rfl ?_
 intro ac13 En14
 rw [Go.Dbr.wr64 (e := ((List.length lx : Nat) : Int) - (16 : Int)) (x := ((List.length lx - 16 : Nat) : Int)) (by omega) (by omega) (by omega)] at En14
 refine d_pures [(2, .slice aa (List.length la) ca), (3, .slice ax (List.length lx) cx), (4, pt bk1), (5, pt bk6), (8, .slice none 0 0), (9, .int .i64 0), (10, .int .i64 ((List.length lx - 16 : Nat) : Int))] [.int .i64 ((List.length lx - 16 : Nat) : Int)] 4 En14 (by kernel_rfl) (by kernel_rfl) rfl ?_
 intro ac15 En16
 refine from_end (by kernel_rfl) ?_
 refine then_normal ?_
 refine wp_seq ?_
 refine wp_seq ?_
 refine region_cut (F := fun ac wo => Env ac 36 [(3, .slice ax (List.length lx) cx), (4, pt bk1), (5, pt bk6), (8, .slice none 0 0), (9, .int .i64 0), (10, .int .i64 ((List.length lx - 16 : Nat) : Int)), (29, .bool (!((tagF lk ln la (List.take (List.length lx - 16) lx)) == (List.drop (List.length lx - 16) lx))))] ∧ Ev w [] wo [.box bk1 (bys lk) 22, .box bk6 (bys ln) 24]) ?_ ?_
 ·
  refine h_start (fun wv => Ev w [] wv [.box bk1 (bys lk) 22, .box bk6 (bys ln) 24]) [] (by kernel_rfl) 16 (by kernel_rfl) ?_
  have wo17 := Hv10.trans (Ev.drew Hv10.heap)
  refine h_name fun G hG => ?_
  have nd288 : ∀ (ac : Act) (wo : World) (bq225 : _), Env ac 36 [(3, .slice ax (List.length lx) cx), (4, pt bk1), (5, pt bk6), (8, .slice none 0 0), (9, .int .i64 0), (10, .int .i64 ((List.length lx - 16 : Nat) : Int)), (16, .bool false), (23, .slice (some ⟨bq225, 0, none⟩) 16 16), (24, .slice ax (List.length lx) cx), (25, .int .i64 ((List.length lx - 16 : Nat) : Int))] → Ev w [] wo [.box bq225 (bys (tagF lk ln la (List.take (List.length lx - 16) lx))) 31, .box bk1 (bys lk) 22, .box bk6 (bys ln) 24] → G 4 #[true, true, true, true, true, true, true, true, true, true, true, true, false, false, false, false] ac wo := by
   intro ac289 wo290 bq225 En291 Hv292
   refine h_from hG ?_
   refine h_at 12 (by kernel_rfl) rfl ?_
   have hcap293 := ix.cap
   refine op_slice (d := some 26) (t := 25) (e := 5) (sz := 1) (len := List.length lx) (cap := cx) (lo := List.length lx - 16) (hi := List.length lx) (ao := ax) (lov := (some (.int .i64 ((List.length lx - 16 : Nat) : Int)))) (hiv := none) En291 (by kernel_rfl) (by kernel_rfl) (by kernel_rfl) (by omega) (by omega) (.inr ⟨.i64, rfl⟩) (.inl ⟨rfl, rfl⟩) ?_
   intro ac294 En295
   refine ⟨fun _ => Hv292.pick [1, 2] (by kernel_rfl) (by decide), ?_⟩
   refine h_at 13 (by kernel_rfl) rfl ?_
   have hM296 : Heap wo290 [] := Hv292.heap.pick [] (by kernel_rfl) (by decide)
   refine op_call (d := some 27) (f := 31) (args := #[.slice (some ⟨bq225, 0, none⟩) 16 16, .slice (cutAt ax cx (List.length lx - 16) 1) ((List.length lx) - (List.length lx - 16)) (cx - (List.length lx - 16))]) En295 (by kernel_rfl) ((same_go _ (some ⟨bq225, 0, none⟩) 16 16 (tagF lk ln la (List.take (List.length lx - 16) lx)) (by first | rfl | (simp; done) | (simp; omega) | omega) (bys_inbox (Hv292.heap.roBox (k := 0) (m := 16) rfl (load_whole (bys_lenh (tagF_len _ _ _ _))) [] (by kernel_rfl) rfl) (tagF_len _ _ _ _) (by decide)) (cutAt ax cx (List.length lx - 16) 1) ((List.length lx) - (List.length lx - 16)) (cx - (List.length lx - 16)) (List.drop (List.length lx - 16) lx) (by first | rfl | (simp; done) | (simp; omega) | omega) (((ix.ev Hv292).pick [] (by kernel_rfl)).drop (List.length lx - 16) (by omega))).mono ?_)
   rintro _ wo298 ⟨rfl, he301⟩
   refine ⟨_, rfl, ?_⟩
   intro ac297 En299
   have Hv300 : Ev w [] wo298 [.box bq225 (bys (tagF lk ln la (List.take (List.length lx - 16) lx))) 31, .box bk1 (bys lk) 22, .box bk6 (bys ln) 24] := Hv292.trans (Ev.call (R := [.box bq225 (bys (tagF lk ln la (List.take (List.length lx - 16) lx))) 31, .box bk1 (bys lk) 22, .box bk6 (bys ln) 24]) Hv292.heap [0, 1, 2] (by kernel_rfl) (by decide) he301)
   clear hM296 he301
   refine ⟨fun _ => Hv300.pick [1, 2] (by kernel_rfl) (by decide), ?_⟩
   refine h_pureR (d := some 28) En299 (v := .bool (!((tagF lk ln la (List.take (List.length lx - 16) lx)) == (List.drop (List.length lx - 16) lx)))) 14 (by kernel_rfl) (by kernel_rfl) rfl (fun _ => Hv300.pick [1, 2] (by kernel_rfl) (by decide)) ?_
   intro ac302 En303
   refine h_pureR (d := some 29) En303 (v := .bool (!((tagF lk ln la (List.take (List.length lx - 16) lx)) == (List.drop (List.length lx - 16) lx)))) 15 (by kernel_rfl) (by kernel_rfl) rfl (fun _ => Hv300.pick [1, 2] (by kernel_rfl) (by decide)) ?_
   intro ac304 En305
   exact h_end (by kernel_rfl) ⟨En305.sub (by kernel_rfl), Hv300.pick [1, 2] (by kernel_rfl) (by decide)⟩
  have nd306 : ∀ (ac : Act) (wo : World), Env ac 36 [(3, .slice ax (List.length lx) cx), (4, pt bk1), (5, pt bk6), (8, .slice none 0 0), (9, .int .i64 0), (10, .int .i64 ((List.length lx - 16 : Nat) : Int)), (16, .bool false), (17, .agg (List.toArray (bys lk))), (18, .agg (List.toArray (bys ln))), (19, .slice aa (List.length la) ca), (22, .slice ax (List.length lx - 16) cx), (26, .slice (cutAt ax cx (List.length lx - 16) 1) ((List.length lx) - (List.length lx - 16)) (cx - (List.length lx - 16)))] → Ev w [] wo [.box bk1 (bys lk) 22, .box bk6 (bys ln) 24] → G 4 #[true, true, true, true, true, true, true, true, true, false, true, true, true, false, false, false] ac wo := by
   intro ac307 wo308 En309 Hv310
   refine h_from hG ?_
   refine h_at 9 (by kernel_rfl) rfl ?_
   have hM312 : Heap wo308 [] := Hv310.heap.pick [] (by kernel_rfl) (by decide)
   refine op_call (d := some 23) (f := 30) (args := #[.agg (List.toArray (bys lk)), .agg (List.toArray (bys ln)), .slice aa (List.length la) ca, .slice ax (List.length lx - 16) cx]) En309 (by kernel_rfl) ((tag_go _ lk hk ln hn aa (List.length la) ca la (by first | rfl | (simp; done) | (simp; omega) | omega) ((ia.ev Hv310).pick [] (by kernel_rfl)) ax (List.length lx - 16) cx (List.take (List.length lx - 16) lx) (by first | rfl | (simp; done) | (simp; omega) | omega) (((ix.ev Hv310).pick [] (by kernel_rfl)).take (List.length lx - 16)) (by first | omega | (simp; omega))).mono ?_)
   rintro _ wo314 ⟨bq311, rfl, he317⟩
   refine ⟨_, rfl, ?_⟩
   intro ac313 En315
   have Hv316 : Ev w [] wo314 [.box bq311 (bys (tagF lk ln la (List.take (List.length lx - 16) lx))) 31, .box bk1 (bys lk) 22, .box bk6 (bys ln) 24] := Hv310.trans (Ev.call (R := [.box bk1 (bys lk) 22, .box bk6 (bys ln) 24]) Hv310.heap [0, 1] (by kernel_rfl) (by decide) he317)
   clear hM312 he317
   refine ⟨fun _ => Hv316.pick [1, 2] (by kernel_rfl) (by decide), ?_⟩
   refine h_at 13 (by kernel_rfl) rfl ?_
   have hM318 : Heap wo314 [] := Hv316.heap.pick [] (by kernel_rfl) (by decide)
   refine op_call (d := some 27) (f := 31) (args := #[.slice (some ⟨bq311, 0, none⟩) 16 16, .slice (cutAt ax cx (List.length lx - 16) 1) ((List.length lx) - (List.length lx - 16)) (cx - (List.length lx - 16))]) En315 (by kernel_rfl) ((same_go _ (some ⟨bq311, 0, none⟩) 16 16 (tagF lk ln la (List.take (List.length lx - 16) lx)) (by first | rfl | (simp; done) | (simp; omega) | omega) (bys_inbox (Hv316.heap.roBox (k := 0) (m := 16) rfl (load_whole (bys_lenh (tagF_len _ _ _ _))) [] (by kernel_rfl) rfl) (tagF_len _ _ _ _) (by decide)) (cutAt ax cx (List.length lx - 16) 1) ((List.length lx) - (List.length lx - 16)) (cx - (List.length lx - 16)) (List.drop (List.length lx - 16) lx) (by first | rfl | (simp; done) | (simp; omega) | omega) (((ix.ev Hv316).pick [] (by kernel_rfl)).drop (List.length lx - 16) (by omega))).mono ?_)
   rintro _ wo320 ⟨rfl, he323⟩
   refine ⟨_, rfl, ?_⟩
   intro ac319 En321
   have Hv322 : Ev w [] wo320 [.box bq311 (bys (tagF lk ln la (List.take (List.length lx - 16) lx))) 31, .box bk1 (bys lk) 22, .box bk6 (bys ln) 24] := Hv316.trans (Ev.call (R := [.box bq311 (bys (tagF lk ln la (List.take (List.length lx - 16) lx))) 31, .box bk1 (bys lk) 22, .box bk6 (bys ln) 24]) Hv316.heap [0, 1, 2] (by kernel_rfl) (by decide) he323)
   clear hM318 he323
   refine ⟨fun _ => Hv322.pick [1, 2] (by kernel_rfl) (by decide), ?_⟩
   refine h_pureR (d := some 28) En321 (v := .bool (!((tagF lk ln la (List.take (List.length lx - 16) lx)) == (List.drop (List.length lx - 16) lx)))) 14 (by kernel_rfl) (by kernel_rfl) rfl (fun _ => Hv322.pick [1, 2] (by kernel_rfl) (by decide)) ?_
   intro ac324 En325
   refine h_pureR (d := some 29) En325 (v := .bool (!((tagF lk ln la (List.take (List.length lx - 16) lx)) == (List.drop (List.length lx - 16) lx)))) 15 (by kernel_rfl) (by kernel_rfl) rfl (fun _ => Hv322.pick [1, 2] (by kernel_rfl) (by decide)) ?_
   intro ac326 En327
   exact h_end (by kernel_rfl) ⟨En327.sub (by kernel_rfl), Hv322.pick [1, 2] (by kernel_rfl) (by decide)⟩
  have nd328 : ∀ (ac : Act) (wo : World), Env ac 36 [(3, .slice ax (List.length lx) cx), (4, pt bk1), (5, pt bk6), (8, .slice none 0 0), (9, .int .i64 0), (10, .int .i64 ((List.length lx - 16 : Nat) : Int)), (16, .bool false), (17, .agg (List.toArray (bys lk))), (18, .agg (List.toArray (bys ln))), (19, .slice aa (List.length la) ca), (22, .slice ax (List.length lx - 16) cx), (24, .slice ax (List.length lx) cx), (25, .int .i64 ((List.length lx - 16 : Nat) : Int))] → Ev w [] wo [.box bk1 (bys lk) 22, .box bk6 (bys ln) 24] → G 5 #[true, true, true, true, true, true, true, true, true, false, true, true, false, false, false, false] ac wo := by
   intro ac329 wo330 En331 Hv332
   refine h_from hG ?_
   refine h_ways [9, 12] (by kernel_rfl) rfl ?_
   refine ⟨?_, ?_, trivial⟩
   ·
    rintro _ rfl
    have hM334 : Heap wo330 [] := Hv332.heap.pick [] (by kernel_rfl) (by decide)
    refine op_call (d := some 23) (f := 30) (args := #[.agg (List.toArray (bys lk)), .agg (List.toArray (bys ln)), .slice aa (List.length la) ca, .slice ax (List.length lx - 16) cx]) En331 (by kernel_rfl) ((tag_go _ lk hk ln hn aa (List.length la) ca la (by first | rfl | (simp; done) | (simp; omega) | omega) ((ia.ev Hv332).pick [] (by kernel_rfl)) ax (List.length lx - 16) cx (List.take (List.length lx - 16) lx) (by first | rfl | (simp; done) | (simp; omega) | omega) (((ix.ev Hv332).pick [] (by kernel_rfl)).take (List.length lx - 16)) (by first | omega | (simp; omega))).mono ?_)
    rintro _ wo336 ⟨bq333, rfl, he339⟩
    refine ⟨_, rfl, ?_⟩
    intro ac335 En337
    have Hv338 : Ev w [] wo336 [.box bq333 (bys (tagF lk ln la (List.take (List.length lx - 16) lx))) 31, .box bk1 (bys lk) 22, .box bk6 (bys ln) 24] := Hv332.trans (Ev.call (R := [.box bk1 (bys lk) 22, .box bk6 (bys ln) 24]) Hv332.heap [0, 1] (by kernel_rfl) (by decide) he339)
    clear hM334 he339
    refine ⟨fun _ => Hv338.pick [1, 2] (by kernel_rfl) (by decide), ?_⟩
    exact h_to hG (by kernel_rfl) (nd288 _ _ bq333 (En337.sub (by kernel_rfl)) (Hv338.pick [0, 1, 2] (by kernel_rfl) (by decide)))
   ·
    rintro _ rfl
    have hcap340 := ix.cap
    refine op_slice (d := some 26) (t := 25) (e := 5) (sz := 1) (len := List.length lx) (cap := cx) (lo := List.length lx - 16) (hi := List.length lx) (ao := ax) (lov := (some (.int .i64 ((List.length lx - 16 : Nat) : Int)))) (hiv := none) En331 (by kernel_rfl) (by kernel_rfl) (by kernel_rfl) (by omega) (by omega) (.inr ⟨.i64, rfl⟩) (.inl ⟨rfl, rfl⟩) ?_
    intro ac341 En342
    refine ⟨fun _ => Hv332.pick [0, 1] (by kernel_rfl) (by decide), ?_⟩
    exact h_to hG (by kernel_rfl) (nd306 _ _ (En342.sub (by kernel_rfl)) (Hv332.pick [0, 1] (by kernel_rfl) (by decide)))
  have nd343 : ∀ (ac : Act) (wo : World), Env ac 36 [(3, .slice ax (List.length lx) cx), (4, pt bk1), (5, pt bk6), (8, .slice none 0 0), (9, .int .i64 0), (10, .int .i64 ((List.length lx - 16 : Nat) : Int)), (16, .bool false), (17, .agg (List.toArray (bys lk))), (18, .agg (List.toArray (bys ln))), (19, .slice aa (List.length la) ca), (20, .slice ax (List.length lx) cx), (21, .int .i64 ((List.length lx - 16 : Nat) : Int)), (26, .slice (cutAt ax cx (List.length lx - 16) 1) ((List.length lx) - (List.length lx - 16)) (cx - (List.length lx - 16)))] → Ev w [] wo [.box bk1 (bys lk) 22, .box bk6 (bys ln) 24] → G 5 #[true, true, true, true, true, true, true, true, false, false, true, true, true, false, false, false] ac wo := by
   intro ac344 wo345 En346 Hv347
   refine h_from hG ?_
   refine h_at 8 (by kernel_rfl) rfl ?_
   have hcap348 := ix.cap
   refine op_slice0 (d := some 22) (t := 25) (e := 5) (sz := 1) (len := List.length lx) (cap := cx) (hi := List.length lx - 16) (ao := ax) (lov := none) (hiv := (some (.int .i64 ((List.length lx - 16 : Nat) : Int)))) En346 (by kernel_rfl) (by kernel_rfl) (by kernel_rfl) (by omega) (.inl ⟨rfl, rfl⟩) (.inr ⟨.i64, rfl⟩) ?_
   intro ac349 En350
   refine ⟨fun _ => Hv347.pick [0, 1] (by kernel_rfl) (by decide), ?_⟩
   refine h_at 9 (by kernel_rfl) rfl ?_
   have hM352 : Heap wo345 [] := Hv347.heap.pick [] (by kernel_rfl) (by decide)
   refine op_call (d := some 23) (f := 30) (args := #[.agg (List.toArray (bys lk)), .agg (List.toArray (bys ln)), .slice aa (List.length la) ca, .slice ax (List.length lx - 16) cx]) En350 (by kernel_rfl) ((tag_go _ lk hk ln hn aa (List.length la) ca la (by first | rfl | (simp; done) | (simp; omega) | omega) ((ia.ev Hv347).pick [] (by kernel_rfl)) ax (List.length lx - 16) cx (List.take (List.length lx - 16) lx) (by first | rfl | (simp; done) | (simp; omega) | omega) (((ix.ev Hv347).pick [] (by kernel_rfl)).take (List.length lx - 16)) (by first | omega | (simp; omega))).mono ?_)
   rintro _ wo354 ⟨bq351, rfl, he357⟩
   refine ⟨_, rfl, ?_⟩
   intro ac353 En355
   have Hv356 : Ev w [] wo354 [.box bq351 (bys (tagF lk ln la (List.take (List.length lx - 16) lx))) 31, .box bk1 (bys lk) 22, .box bk6 (bys ln) 24] := Hv347.trans (Ev.call (R := [.box bk1 (bys lk) 22, .box bk6 (bys ln) 24]) Hv347.heap [0, 1] (by kernel_rfl) (by decide) he357)
   clear hM352 he357
   refine ⟨fun _ => Hv356.pick [1, 2] (by kernel_rfl) (by decide), ?_⟩
   refine h_at 13 (by kernel_rfl) rfl ?_
   have hM358 : Heap wo354 [] := Hv356.heap.pick [] (by kernel_rfl) (by decide)
   refine op_call (d := some 27) (f := 31) (args := #[.slice (some ⟨bq351, 0, none⟩) 16 16, .slice (cutAt ax cx (List.length lx - 16) 1) ((List.length lx) - (List.length lx - 16)) (cx - (List.length lx - 16))]) En355 (by kernel_rfl) ((same_go _ (some ⟨bq351, 0, none⟩) 16 16 (tagF lk ln la (List.take (List.length lx - 16) lx)) (by first | rfl | (simp; done) | (simp; omega) | omega) (bys_inbox (Hv356.heap.roBox (k := 0) (m := 16) rfl (load_whole (bys_lenh (tagF_len _ _ _ _))) [] (by kernel_rfl) rfl) (tagF_len _ _ _ _) (by decide)) (cutAt ax cx (List.length lx - 16) 1) ((List.length lx) - (List.length lx - 16)) (cx - (List.length lx - 16)) (List.drop (List.length lx - 16) lx) (by first | rfl | (simp; done) | (simp; omega) | omega) (((ix.ev Hv356).pick [] (by kernel_rfl)).drop (List.length lx - 16) (by omega))).mono ?_)
   rintro _ wo360 ⟨rfl, he363⟩
   refine ⟨_, rfl, ?_⟩
   intro ac359 En361
   have Hv362 : Ev w [] wo360 [.box bq351 (bys (tagF lk ln la (List.take (List.length lx - 16) lx))) 31, .box bk1 (bys lk) 22, .box bk6 (bys ln) 24] := Hv356.trans (Ev.call (R := [.box bq351 (bys (tagF lk ln la (List.take (List.length lx - 16) lx))) 31, .box bk1 (bys lk) 22, .box bk6 (bys ln) 24]) Hv356.heap [0, 1, 2] (by kernel_rfl) (by decide) he363)
   clear hM358 he363
   refine ⟨fun _ => Hv362.pick [1, 2] (by kernel_rfl) (by decide), ?_⟩
   refine h_pureR (d := some 28) En361 (v := .bool (!((tagF lk ln la (List.take (List.length lx - 16) lx)) == (List.drop (List.length lx - 16) lx)))) 14 (by kernel_rfl) (by kernel_rfl) rfl (fun _ => Hv362.pick [1, 2] (by kernel_rfl) (by decide)) ?_
   intro ac364 En365
   refine h_pureR (d := some 29) En365 (v := .bool (!((tagF lk ln la (List.take (List.length lx - 16) lx)) == (List.drop (List.length lx - 16) lx)))) 15 (by kernel_rfl) (by kernel_rfl) rfl (fun _ => Hv362.pick [1, 2] (by kernel_rfl) (by decide)) ?_
   intro ac366 En367
   exact h_end (by kernel_rfl) ⟨En367.sub (by kernel_rfl), Hv362.pick [1, 2] (by kernel_rfl) (by decide)⟩
  refine h_from hG ?_
  refine h_pureR (d := some 14) En16 (v := .int .i64 ((List.length lx - 16 : Nat) : Int)) 0 (by kernel_rfl) (by kernel_rfl) rfl (fun _ => wo17.pick [0, 1] (by kernel_rfl) (by decide)) ?_
  intro ac368 En369
  refine h_pureR (d := some 15) En369 (v := .bool (decide (((List.length lx - 16 : Nat) : Int) < (0 : Int)))) 1 (by kernel_rfl) (by kernel_rfl) rfl (fun _ => wo17.pick [0, 1] (by kernel_rfl) (by decide)) ?_
  intro ac370 En371
  rw [show (decide (((List.length lx - 16 : Nat) : Int) < (0 : Int))) = false from decide_eq_false (by omega)] at En371
  refine h_pureR (d := some 16) En371 (v := .bool false) 2 (by kernel_rfl) (by kernel_rfl) rfl (fun _ => wo17.pick [0, 1] (by kernel_rfl) (by decide)) ?_
  intro ac372 En373
  refine h_read (d := some 17) (s := nv (Instr.loadAt 22 (pt bk1))) En373 (v := .agg (List.toArray (bys lk))) 3 (by kernel_rfl) (fun w hS => run_nv (run_loadAgg2 (m := 32) (cs := bys lk) (bys_lenh hk) (by kernel_rfl) (by kernel_rfl) (hS.heap.cells (k := 0) (off := 0) (m := 32) rfl (load_whole (bys_lenh hk))))) (by kernel_rfl) rfl (wo17.pick [0, 1] (by kernel_rfl) (by decide)) ?_
  intro ac374 En375
  refine h_read (d := some 18) (s := nv (Instr.loadAt 24 (pt bk6))) En375 (v := .agg (List.toArray (bys ln))) 4 (by kernel_rfl) (fun w hS => run_nv (run_loadAgg2 (m := 12) (cs := bys ln) (bys_lenh hn) (by kernel_rfl) (by kernel_rfl) (hS.heap.cells (k := 1) (off := 0) (m := 12) rfl (load_whole (bys_lenh hn))))) (by kernel_rfl) rfl (wo17.pick [0, 1] (by kernel_rfl) (by decide)) ?_
  intro ac376 En377
  refine h_pureR (d := some 19) En377 (v := .slice aa (List.length la) ca) 5 (by kernel_rfl) (by kernel_rfl) rfl (fun _ => wo17.pick [0, 1] (by kernel_rfl) (by decide)) ?_
  intro ac378 En379
  refine h_pureR (d := some 20) En379 (v := .slice ax (List.length lx) cx) 6 (by kernel_rfl) (by kernel_rfl) rfl (fun _ => wo17.pick [0, 1] (by kernel_rfl) (by decide)) ?_
  intro ac380 En381
  refine h_pureR (d := some 21) En381 (v := .int .i64 ((List.length lx - 16 : Nat) : Int)) 7 (by kernel_rfl) (by kernel_rfl) rfl (fun _ => wo17.pick [0, 1] (by kernel_rfl) (by decide)) ?_
  intro ac382 En383
  refine h_pureR (d := some 24) En383 (v := .slice ax (List.length lx) cx) 10 (by kernel_rfl) (by kernel_rfl) rfl (fun _ => wo17.pick [0, 1] (by kernel_rfl) (by decide)) ?_
  intro ac384 En385
  refine h_pureR (d := some 25) En385 (v := .int .i64 ((List.length lx - 16 : Nat) : Int)) 11 (by kernel_rfl) (by kernel_rfl) rfl (fun _ => wo17.pick [0, 1] (by kernel_rfl) (by decide)) ?_
  intro ac386 En387
  refine h_ways [8, 12] (by kernel_rfl) rfl ?_
  refine ⟨?_, ?_, trivial⟩
  ·
   rintro _ rfl
   have hcap388 := ix.cap
   refine op_slice0 (d := some 22) (t := 25) (e := 5) (sz := 1) (len := List.length lx) (cap := cx) (hi := List.length lx - 16) (ao := ax) (lov := none) (hiv := (some (.int .i64 ((List.length lx - 16 : Nat) : Int)))) En387 (by kernel_rfl) (by kernel_rfl) (by kernel_rfl) (by omega) (.inl ⟨rfl, rfl⟩) (.inr ⟨.i64, rfl⟩) ?_
   intro ac389 En390
   refine ⟨fun _ => wo17.pick [0, 1] (by kernel_rfl) (by decide), ?_⟩
   exact h_to hG (by kernel_rfl) (nd328 _ _ (En390.sub (by kernel_rfl)) (wo17.pick [0, 1] (by kernel_rfl) (by decide)))
  ·
   rintro _ rfl
   have hcap391 := ix.cap
   refine op_slice (d := some 26) (t := 25) (e := 5) (sz := 1) (len := List.length lx) (cap := cx) (lo := List.length lx - 16) (hi := List.length lx) (ao := ax) (lov := (some (.int .i64 ((List.length lx - 16 : Nat) : Int)))) (hiv := none) En387 (by kernel_rfl) (by kernel_rfl) (by kernel_rfl) (by omega) (by omega) (.inr ⟨.i64, rfl⟩) (.inl ⟨rfl, rfl⟩) ?_
   intro ac392 En393
   refine ⟨fun _ => wo17.pick [0, 1] (by kernel_rfl) (by decide), ?_⟩
   exact h_to hG (by kernel_rfl) (nd343 _ _ (En393.sub (by kernel_rfl)) (wo17.pick [0, 1] (by kernel_rfl) (by decide)))
 rintro ac394 wo395 ⟨En396, Hv397⟩
 refine then_normal ?_
 refine cond_at En396 (t := !((tagF lk ln la (List.take (List.length lx - 16) lx)) == (List.drop (List.length lx - 16) lx))) (by kernel_rfl) (fun hc398 => ?_) (fun hc398 => ?_)
 ·
  replace hc398 : ¬ ((tagF lk ln la (List.take (List.length lx - 16) lx)) = (List.drop (List.length lx - 16) lx)) := by simpa using hc398
  first | exact absurd hok hc398 | exact absurd hc398 hok
 ·
  replace hc398 : (tagF lk ln la (List.take (List.length lx - 16) lx)) = (List.drop (List.length lx - 16) lx) := by simpa using hc398
  refine wp_skip ?_
  refine then_normal ?_
  refine wp_seq ?_
  refine region_cut (F := fun ac wo => ∃ (aoq476 : _) (coq476 : _), Env ac 36 [(3, .slice ax (List.length lx) cx), (4, pt bk1), (5, pt bk6), (8, .slice aoq476 (List.length (streamF lk (1 : UInt32) ln (List.take (List.length lx - 16) lx))) coq476), (9, .int .i64 0), (10, .int .i64 ((List.length lx - 16 : Nat) : Int))] ∧ Ev w [] wo [.vec aoq476 coq476 1 (bys (streamF lk (1 : UInt32) ln (List.take (List.length lx - 16) lx))) 5, .box bk1 (bys lk) 22, .box bk6 (bys ln) 24]) ?_ ?_
  ·
   refine h_start (fun wv => Ev w [] wv [.box bk1 (bys lk) 22, .box bk6 (bys ln) 24]) [] (by kernel_rfl) 8 (by kernel_rfl) ?_
   have wo399 := Hv397.trans (Ev.drew Hv397.heap)
   refine h_read (d := some 30) (s := nv (Instr.loadAt 22 (pt bk1))) En396 (v := .agg (List.toArray (bys lk))) 0 (by kernel_rfl) (fun w hS => run_nv (run_loadAgg2 (m := 32) (cs := bys lk) (bys_lenh hk) (by kernel_rfl) (by kernel_rfl) (hS.heap.cells (k := 0) (off := 0) (m := 32) rfl (load_whole (bys_lenh hk))))) (by kernel_rfl) rfl (wo399.pick [0, 1] (by kernel_rfl) (by decide)) ?_
   intro ac487 En488
   refine h_read (d := some 31) (s := nv (Instr.loadAt 24 (pt bk6))) En488 (v := .agg (List.toArray (bys ln))) 1 (by kernel_rfl) (fun w hS => run_nv (run_loadAgg2 (m := 12) (cs := bys ln) (bys_lenh hn) (by kernel_rfl) (by kernel_rfl) (hS.heap.cells (k := 1) (off := 0) (m := 12) rfl (load_whole (bys_lenh hn))))) (by kernel_rfl) rfl (wo399.pick [0, 1] (by kernel_rfl) (by decide)) ?_
   intro ac489 En490
   refine h_pureR (d := some 32) En490 (v := .slice ax (List.length lx) cx) 2 (by kernel_rfl) (by kernel_rfl) rfl (fun _ => wo399.pick [0, 1] (by kernel_rfl) (by decide)) ?_
   intro ac491 En492
   refine h_pureR (d := some 33) En492 (v := .int .i64 ((List.length lx - 16 : Nat) : Int)) 3 (by kernel_rfl) (by kernel_rfl) rfl (fun _ => wo399.pick [0, 1] (by kernel_rfl) (by decide)) ?_
   intro ac493 En494
   refine h_at 4 (by kernel_rfl) rfl ?_
   have hcap495 := ix.cap
   refine op_slice0 (d := some 34) (t := 25) (e := 5) (sz := 1) (len := List.length lx) (cap := cx) (hi := List.length lx - 16) (ao := ax) (lov := none) (hiv := (some (.int .i64 ((List.length lx - 16 : Nat) : Int)))) En494 (by kernel_rfl) (by kernel_rfl) (by kernel_rfl) (by omega) (.inl ⟨rfl, rfl⟩) (.inr ⟨.i64, rfl⟩) ?_
   intro ac496 En497
   refine ⟨fun _ => wo399.pick [0, 1] (by kernel_rfl) (by decide), ?_⟩
   refine h_at 5 (by kernel_rfl) rfl ?_
   have hM499 : Heap wo395.drew [] := wo399.heap.pick [] (by kernel_rfl) (by decide)
   refine op_call (d := some 35) (f := 9) (args := #[.agg (List.toArray (bys lk)), .int .u32 1, .agg (List.toArray (bys ln)), .slice ax (List.length lx - 16) cx]) En497 (by kernel_rfl) ((stream_go _ lk hk (1 : UInt32) ln hn ax (List.length lx - 16) cx (List.take (List.length lx - 16) lx) (by first | rfl | (simp; done) | (simp; omega) | omega) (((ix.ev wo399).pick [] (by kernel_rfl)).take (List.length lx - 16))).mono ?_)
   rintro _ wo501 ⟨aoq498, coq498, rfl, he504⟩
   refine ⟨_, rfl, ?_⟩
   intro ac500 En502
   have Hv503 : Ev w [] wo501 [.vec aoq498 coq498 1 (bys (streamF lk (1 : UInt32) ln (List.take (List.length lx - 16) lx))) 5, .box bk1 (bys lk) 22, .box bk6 (bys ln) 24] := wo399.trans (Ev.call (R := [.box bk1 (bys lk) 22, .box bk6 (bys ln) 24]) wo399.heap [0, 1] (by kernel_rfl) (by decide) he504)
   clear hM499 he504
   refine ⟨fun _ => Hv503.pick [1, 2] (by kernel_rfl) (by decide), ?_⟩
   refine h_pureR (d := some 8) En502 (v := .slice aoq498 (List.length (streamF lk (1 : UInt32) ln (List.take (List.length lx - 16) lx))) coq498) 6 (by kernel_rfl) (by kernel_rfl) rfl (fun _ => Hv503.pick [1, 2] (by kernel_rfl) (by decide)) ?_
   intro ac505 En506
   refine h_pureR (d := some 9) En506 (v := .int .i64 0) 7 (by kernel_rfl) (by kernel_rfl) rfl (fun _ => Hv503.pick [1, 2] (by kernel_rfl) (by decide)) ?_
   intro ac507 En508
   exact h_end (by kernel_rfl) ⟨aoq498, coq498, En508.sub (by kernel_rfl), Hv503.pick [0, 1, 2] (by kernel_rfl) (by decide)⟩
  rintro ac509 wo510 ⟨aoq476, coq476, En511, Hv512⟩
  refine then_normal ?_
  refine wp_ret ?_
  refine d_ret2 (t := 8) (u := 9) (v := .slice aoq476 (List.length (streamF lk (1 : UInt32) ln (List.take (List.length lx - 16) lx))) coq476) (x := .int .i64 0) En511 (by kernel_rfl) (by kernel_rfl) (by kernel_rfl) ?_
  have Hf513 := Hv512.pick [0] (by kernel_rfl) (by decide) (M := [.vec aoq476 coq476 1 (bys (streamF lk (1 : UInt32) ln (List.take (List.length lx - 16) lx))) 5])
  exact ⟨_, _, rfl, Hf513⟩

end Go.Proofs.Ytnahplggflhdaaa
