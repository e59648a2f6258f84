/- Layer 9: Open. -/
import Derived.Test.YtnahplggflhdaaaP10
namespace Go.Proofs.Ytnahplggflhdaaa
open Go.Dbr
set_option maxRecDepth 100000
set_option maxHeartbeats 2000000
set_option linter.unusedVariables false
set_option linter.unusedSimpArgs false

theorem open_short_ref (w : World) (lk : List UInt8) (hk : List.length lk = 32) (ln : List UInt8) (hn : List.length ln = 12) (aa : Option Addr) (na ca : Nat) (la : List UInt8) (ea : na = List.length la) (ia : InB w [] aa ca la) (ax : Option Addr) (nx cx : Nat) (lx : List UInt8) (ex : nx = List.length lx) (ix : InB w [] ax cx lx) (hB : List.length la + List.length lx ≤ 1099511627776) (h16 : List.length lx < 16) : Calls Try.prog 18 #[.agg (List.toArray (bys lk)), .agg (List.toArray (bys ln)), .slice aa na ca, .slice ax nx cx] w fun e w' => e = .returned (.tuple #[.slice none 0 0, .int .i64 91]) ∧ Ev w [] w' [] := by
 subst ea
 subst ex
 have hsa := ia.small
 have hca := ia.cap
 have hsx := ix.small
 have hcx := ix.cap
 refine d_start [(0, .agg (List.toArray (bys lk))), (1, .agg (List.toArray (bys ln))), (2, .slice aa (List.length la) ca), (3, .slice ax (List.length lx) cx)] 36 Go.Proofs.Try.func18 Go.Proofs.Try.ntmps18 rfl (by kernel_rfl) (by kernel_rfl) ?_
 intro act0 En0
 have Hv0 : Ev w [] w [] := Ev.refl (Heap.nil _)
 refine wp_seq ?_
 refine region_from ?_
 refine from_op (by kernel_rfl) ?_
 refine op_newbox (d := some 4) (T := 22) (v := .agg (List.toArray (bys lk))) (cs := bys lk) En0 (by kernel_rfl) rfl Hv0 ?_
 intro ac2 wo3 bk1 En4 Hv5
 refine from_op (by kernel_rfl) ?_
 refine op_newbox (d := some 5) (T := 24) (v := .agg (List.toArray (bys ln))) (cs := bys ln) En4 (by kernel_rfl) rfl Hv5 ?_
 intro ac7 wo8 bk6 En9 Hv10
 refine d_pures [(2, .slice aa (List.length la) ca), (3, .slice ax (List.length lx) cx), (4, pt bk1), (5, pt bk6), (8, .slice none 0 0), (9, .int .i64 0)] [.slice none 0 0, .int .i64 0] 4 En9 (by kernel_rfl) (by kernel_rfl) rfl ?_
 intro ac11 En12
 refine from_end (by kernel_rfl) ?_
 refine then_normal ?_
 refine wp_seq ?_
 refine wp_seq ?_
 refine region_from ?_
 refine d_pures [(2, .slice aa (List.length la) ca), (3, .slice ax (List.length lx) cx), (4, pt bk1), (5, pt bk6), (8, .slice none 0 0), (9, .int .i64 0), (13, .bool (decide (((List.length lx : Nat) : Int) < (16 : Int))))] [.slice ax (List.length lx) cx, .int .i64 ((List.length lx : Nat) : Int), .bool (decide (((List.length lx : Nat) : Int) < (16 : Int)))] 3 En12 (by kernel_rfl) (by kernel_rfl) rfl ?_
 intro ac13 En14
 rw [show (decide (((List.length lx : Nat) : Int) < (16 : Int))) = true from decide_eq_true (by omega)] at En14
 refine from_end (by kernel_rfl) ?_
 refine then_normal ?_
 refine cond_true En14 (t := true) (by kernel_rfl) rfl ?_
 refine wp_seq ?_
 refine region_from ?_
 refine d_pures [(2, .slice aa (List.length la) ca), (3, .slice ax (List.length lx) cx), (4, pt bk1), (5, pt bk6), (8, .slice none 0 0), (9, .int .i64 91)] [.slice none 0 0, .int .i64 91] 2 En14 (by kernel_rfl) (by kernel_rfl) rfl ?_
 intro ac15 En16
 refine from_end (by kernel_rfl) ?_
 refine then_normal ?_
 refine wp_ret ?_
 refine then_ret ?_
 refine d_ret2 (t := 8) (u := 9) (v := .slice none 0 0) (x := .int .i64 91) En16 (by kernel_rfl) (by kernel_rfl) (by kernel_rfl) ?_
 exact ⟨rfl, Hv10.pick [] (by kernel_rfl) (by decide)⟩

theorem open_bad_ref (w : World) (lk : List UInt8) (hk : List.length lk = 32) (ln : List UInt8) (hn : List.length ln = 12) (aa : Option Addr) (na ca : Nat) (la : List UInt8) (ea : na = List.length la) (ia : InB w [] aa ca la) (ax : Option Addr) (nx cx : Nat) (lx : List UInt8) (ex : nx = List.length lx) (ix : InB w [] ax cx lx) (hB : List.length la + List.length lx ≤ 1099511627776) (h16 : 16 ≤ List.length lx) (hok : ¬ (tagF lk ln la (List.take (List.length lx - 16) lx) = List.drop (List.length lx - 16) lx)) : Calls Try.prog 18 #[.agg (List.toArray (bys lk)), .agg (List.toArray (bys ln)), .slice aa na ca, .slice ax nx cx] w fun e w' => e = .returned (.tuple #[.slice none 0 0, .int .i64 91]) ∧ Ev w [] w' [] := by
 subst ea
 subst ex
 have hsa := ia.small
 have hca := ia.cap
 have hsx := ix.small
 have hcx := ix.cap
 have hlt : List.length (List.take (List.length lx - 16) lx) = List.length lx - 16 := by rw [List.length_take]; omega
 have htl := tagF_len lk ln la (List.take (List.length lx - 16) lx)
 have hld : List.length (List.drop (List.length lx - 16) lx) ≤ 2000000000000 := by rw [List.length_drop]; omega
 refine d_start [(0, .agg (List.toArray (bys lk))), (1, .agg (List.toArray (bys ln))), (2, .slice aa (List.length la) ca), (3, .slice ax (List.length lx) cx)] 36 Go.Proofs.Try.func18 Go.Proofs.Try.ntmps18 rfl (by kernel_rfl) (by kernel_rfl) ?_
 intro act0 En0
 have Hv0 : Ev w [] w [] := Ev.refl (Heap.nil _)
 refine wp_seq ?_
 refine region_from ?_
 refine from_op (by kernel_rfl) ?_
 refine op_newbox (d := some 4) (T := 22) (v := .agg (List.toArray (bys lk))) (cs := bys lk) En0 (by kernel_rfl) rfl Hv0 ?_
 intro ac2 wo3 bk1 En4 Hv5
 refine from_op (by kernel_rfl) ?_
 refine op_newbox (d := some 5) (T := 24) (v := .agg (List.toArray (bys ln))) (cs := bys ln) En4 (by kernel_rfl) rfl Hv5 ?_
 intro ac7 wo8 bk6 En9 Hv10
 refine d_pures [(2, .slice aa (List.length la) ca), (3, .slice ax (List.length lx) cx), (4, pt bk1), (5, pt bk6), (8, .slice none 0 0), (9, .int .i64 0)] [.slice none 0 0, .int .i64 0] 4 En9 (by kernel_rfl) (by kernel_rfl) rfl ?_
 intro ac11 En12
 refine from_end (by kernel_rfl) ?_
 refine then_normal ?_
 refine wp_seq ?_
 refine wp_seq ?_
 refine region_from ?_
 refine d_pures [(2, .slice aa (List.length la) ca), (3, .slice ax (List.length lx) cx), (4, pt bk1), (5, pt bk6), (8, .slice none 0 0), (9, .int .i64 0), (13, .bool (decide (((List.length lx : Nat) : Int) < (16 : Int))))] [.slice ax (List.length lx) cx, .int .i64 ((List.length lx : Nat) : Int), .bool (decide (((List.length lx : Nat) : Int) < (16 : Int)))] 3 En12 (by kernel_rfl) (by kernel_rfl) rfl ?_
 intro ac13 En14
 rw [show (decide (((List.length lx : Nat) : Int) < (16 : Int))) = false from decide_eq_false (by omega)] at En14
 refine from_end (by kernel_rfl) ?_
 refine then_normal ?_
 refine cond_false En14 (t := false) (by kernel_rfl) rfl ?_
 refine wp_skip ?_
 refine then_normal ?_
 refine wp_seq ?_
 refine region_from ?_
 refine d_pures [(2, .slice aa (List.length la) ca), (3, .slice ax (List.length lx) cx), (4, pt bk1), (5, pt bk6), (8, .slice none 0 0), (9, .int .i64 0), (14, .slice ax (List.length lx) cx), (17, .int .i64 (IntKind.wrap .i64 (((List.length lx : Nat) : Int) - (16 : Int))))] [.slice ax (List.length lx) cx, .slice ax (List.length lx) cx, .int .i64 ((List.length lx : Nat) : Int), .int .i64 (IntKind.wrap .i64 (((List.length lx : Nat) : Int) - (16 : Int)))] 4 En14 (by kernel_rfl) (by kernel_rfl) rfl ?_
 intro ac15 En16
 rw [Go.Dbr.wr64 (e := ((List.length lx : Nat) : Int) - (16 : Int)) (x := ((List.length lx - 16 : Nat) : Int)) (by omega) (by omega) (by omega)] at En16
 refine from_op (by kernel_rfl) ?_
 have hcap17 := ix.cap
 refine op_slice0 (d := some 18) (t := 25) (e := 5) (sz := 1) (len := List.length lx) (cap := cx) (hi := List.length lx - 16) (ao := ax) (lov := none) (hiv := (some (.int .i64 ((List.length lx - 16 : Nat) : Int)))) En16 (by kernel_rfl) (by kernel_rfl) (by kernel_rfl) (by omega) (.inl ⟨rfl, rfl⟩) (.inr ⟨.i64, rfl⟩) ?_
 intro ac18 En19
 refine d_pures [(2, .slice aa (List.length la) ca), (3, .slice ax (List.length lx) cx), (4, pt bk1), (5, pt bk6), (8, .slice none 0 0), (9, .int .i64 0), (10, .slice ax (List.length lx - 16) cx)] [.slice ax (List.length lx - 16) cx] 6 En19 (by kernel_rfl) (by kernel_rfl) rfl ?_
 intro ac20 En21
 refine from_end (by kernel_rfl) ?_
 refine then_normal ?_
 refine wp_seq ?_
 refine wp_seq ?_
 refine region_cut (F := fun ac wo => Env ac 36 [(3, .slice ax (List.length lx) cx), (4, pt bk1), (5, pt bk6), (8, .slice none 0 0), (9, .int .i64 0), (10, .slice ax (List.length lx - 16) cx), (31, .bool (!((tagF lk ln la (List.take (List.length lx - 16) lx)) == (List.drop (List.length lx - 16) lx))))] ∧ Ev w [] wo [.box bk1 (bys lk) 22, .box bk6 (bys ln) 24]) ?_ ?_
 ·
  refine h_start (fun wv => Ev w [] wv [.box bk1 (bys lk) 22, .box bk6 (bys ln) 24]) [] (by kernel_rfl) 13 (by kernel_rfl) ?_
  have wo22 := Hv10.trans (Ev.drew Hv10.heap)
  refine h_name fun G hG => ?_
  have nd207 : ∀ (ac : Act) (wo : World), Env ac 36 [(3, .slice ax (List.length lx) cx), (4, pt bk1), (5, pt bk6), (8, .slice none 0 0), (9, .int .i64 0), (10, .slice ax (List.length lx - 16) cx), (24, .string (bstr (tagF lk ln la (List.take (List.length lx - 16) lx)))), (25, .slice ax (List.length lx) cx), (28, .int .i64 ((List.length lx - 16 : Nat) : Int))] → Ev w [] wo [.box bk1 (bys lk) 22, .box bk6 (bys ln) 24] → G 3 #[true, true, true, true, true, true, true, true, true, true, false, false, false] ac wo := by
   intro ac208 wo209 En210 Hv211
   refine h_from hG ?_
   refine h_at 10 (by kernel_rfl) rfl ?_
   have hcap212 := ix.cap
   refine op_slice (d := some 29) (t := 25) (e := 5) (sz := 1) (len := List.length lx) (cap := cx) (lo := List.length lx - 16) (hi := List.length lx) (ao := ax) (lov := (some (.int .i64 ((List.length lx - 16 : Nat) : Int)))) (hiv := none) En210 (by kernel_rfl) (by kernel_rfl) (by kernel_rfl) (by omega) (by omega) (.inr ⟨.i64, rfl⟩) (.inl ⟨rfl, rfl⟩) ?_
   intro ac213 En214
   refine ⟨fun _ => Hv211.pick [0, 1] (by kernel_rfl) (by decide), ?_⟩
   refine h_read (d := some 30) (s := nv (convert 25 9 (.slice (cutAt ax cx (List.length lx - 16) 1) ((List.length lx) - (List.length lx - 16)) (cx - (List.length lx - 16))))) En214 (v := .string (bstr (List.drop (List.length lx - 16) lx))) 11 (by kernel_rfl) (fun w hS => run_nv (run_str2 (e := 5) (bs := List.drop (List.length lx - 16) lx) (by first | (simp; done) | (simp; omega) | omega) (by kernel_rfl) (by kernel_rfl) (by kernel_rfl) (bys_drop_reads (ix.ev hS).reads cx (List.length lx - 16) (n := (List.length lx)) (by simp) (by omega) (by omega)) (fun e => cut_nz ix.nz e (by omega)))) (by kernel_rfl) rfl (Hv211.pick [0, 1] (by kernel_rfl) (by decide)) ?_
   intro ac215 En216
   refine h_pureR (d := some 31) En216 (v := .bool (!(ByteArray.toList (bstr (tagF lk ln la (List.take (List.length lx - 16) lx))) == ByteArray.toList (bstr (List.drop (List.length lx - 16) lx))))) 12 (by kernel_rfl) (by kernel_rfl) rfl (fun _ => Hv211.pick [0, 1] (by kernel_rfl) (by decide)) ?_
   intro ac217 En218
   rw [Go.Dbr.bstr_eq (tagF lk ln la (List.take (List.length lx - 16) lx)) (List.drop (List.length lx - 16) lx)] at En218
   exact h_end (by kernel_rfl) ⟨En218.sub (by kernel_rfl), Hv211.pick [0, 1] (by kernel_rfl) (by decide)⟩
  have nd219 : ∀ (ac : Act) (wo : World) (aoq166 : _) (coq166 : _), Env ac 36 [(3, .slice ax (List.length lx) cx), (4, pt bk1), (5, pt bk6), (8, .slice none 0 0), (9, .int .i64 0), (10, .slice ax (List.length lx - 16) cx), (23, .slice aoq166 16 coq166), (29, .slice (cutAt ax cx (List.length lx - 16) 1) ((List.length lx) - (List.length lx - 16)) (cx - (List.length lx - 16)))] → Ev w [] wo [.vec aoq166 coq166 1 (bys (tagF lk ln la (List.take (List.length lx - 16) lx))) 5, .box bk1 (bys lk) 22, .box bk6 (bys ln) 24] → G 3 #[true, true, true, true, true, false, true, true, true, true, true, false, false] ac wo := by
   intro ac220 wo221 aoq166 coq166 En222 Hv223
   refine h_from hG ?_
   refine h_read (d := some 30) (s := nv (convert 25 9 (.slice (cutAt ax cx (List.length lx - 16) 1) ((List.length lx) - (List.length lx - 16)) (cx - (List.length lx - 16))))) En222 (v := .string (bstr (List.drop (List.length lx - 16) lx))) 11 (by kernel_rfl) (fun w hS => run_nv (run_str2 (e := 5) (bs := List.drop (List.length lx - 16) lx) (by first | (simp; done) | (simp; omega) | omega) (by kernel_rfl) (by kernel_rfl) (by kernel_rfl) (bys_drop_reads (ix.ev hS).reads cx (List.length lx - 16) (n := (List.length lx)) (by simp) (by omega) (by omega)) (fun e => cut_nz ix.nz e (by omega)))) (by kernel_rfl) rfl (Hv223.pick [1, 2] (by kernel_rfl) (by decide)) ?_
   intro ac224 En225
   refine h_at 5 (by kernel_rfl) rfl ?_
   refine op_str (d := some 24) (src := 25) (dst := 9) (e := 5) (ao := aoq166) (cap := coq166) (p := 16) (bs := tagF lk ln la (List.take (List.length lx - 16) lx)) En225 (by kernel_rfl) (by first | (simp; done) | (simp; omega) | omega) (by kernel_rfl) (by kernel_rfl) (by kernel_rfl) (Hv223.heap.reads (k := 0) rfl) (fun e => by have h := (bys_vnz Hv223.heap (k := 0) rfl) e; first | omega | (simp at h; omega)) ?_
   intro ac226 En227
   refine ⟨fun _ => Hv223.pick [1, 2] (by kernel_rfl) (by decide), ?_⟩
   refine h_pureR (d := some 31) En227 (v := .bool (!(ByteArray.toList (bstr (tagF lk ln la (List.take (List.length lx - 16) lx))) == ByteArray.toList (bstr (List.drop (List.length lx - 16) lx))))) 12 (by kernel_rfl) (by kernel_rfl) rfl (fun _ => Hv223.pick [1, 2] (by kernel_rfl) (by decide)) ?_
   intro ac228 En229
   rw [Go.Dbr.bstr_eq (tagF lk ln la (List.take (List.length lx - 16) lx)) (List.drop (List.length lx - 16) lx)] at En229
   exact h_end (by kernel_rfl) ⟨En229.sub (by kernel_rfl), Hv223.pick [1, 2] (by kernel_rfl) (by decide)⟩
  have nd230 : ∀ (ac : Act) (wo : World) (aoq166 : _) (coq166 : _), Env ac 36 [(3, .slice ax (List.length lx) cx), (4, pt bk1), (5, pt bk6), (8, .slice none 0 0), (9, .int .i64 0), (10, .slice ax (List.length lx - 16) cx), (23, .slice aoq166 16 coq166), (25, .slice ax (List.length lx) cx), (28, .int .i64 ((List.length lx - 16 : Nat) : Int))] → Ev w [] wo [.vec aoq166 coq166 1 (bys (tagF lk ln la (List.take (List.length lx - 16) lx))) 5, .box bk1 (bys lk) 22, .box bk6 (bys ln) 24] → G 4 #[true, true, true, true, true, false, true, true, true, true, false, false, false] ac wo := by
   intro ac231 wo232 aoq166 coq166 En233 Hv234
   refine h_from hG ?_
   refine h_ways [5, 10] (by kernel_rfl) rfl ?_
   refine ⟨?_, ?_, trivial⟩
   ·
    rintro _ rfl
    refine op_str (d := some 24) (src := 25) (dst := 9) (e := 5) (ao := aoq166) (cap := coq166) (p := 16) (bs := tagF lk ln la (List.take (List.length lx - 16) lx)) En233 (by kernel_rfl) (by first | (simp; done) | (simp; omega) | omega) (by kernel_rfl) (by kernel_rfl) (by kernel_rfl) (Hv234.heap.reads (k := 0) rfl) (fun e => by have h := (bys_vnz Hv234.heap (k := 0) rfl) e; first | omega | (simp at h; omega)) ?_
    intro ac235 En236
    refine ⟨fun _ => Hv234.pick [1, 2] (by kernel_rfl) (by decide), ?_⟩
    exact h_to hG (by kernel_rfl) (nd207 _ _ (En236.sub (by kernel_rfl)) (Hv234.pick [1, 2] (by kernel_rfl) (by decide)))
   ·
    rintro _ rfl
    have hcap237 := ix.cap
    refine op_slice (d := some 29) (t := 25) (e := 5) (sz := 1) (len := List.length lx) (cap := cx) (lo := List.length lx - 16) (hi := List.length lx) (ao := ax) (lov := (some (.int .i64 ((List.length lx - 16 : Nat) : Int)))) (hiv := none) En233 (by kernel_rfl) (by kernel_rfl) (by kernel_rfl) (by omega) (by omega) (.inr ⟨.i64, rfl⟩) (.inl ⟨rfl, rfl⟩) ?_
    intro ac238 En239
    refine ⟨fun _ => Hv234.pick [1, 2] (by kernel_rfl) (by decide), ?_⟩
    exact h_to hG (by kernel_rfl) (nd219 _ _ aoq166 coq166 (En239.sub (by kernel_rfl)) (Hv234.pick [0, 1, 2] (by kernel_rfl) (by decide)))
  have nd240 : ∀ (ac : Act) (wo : World), Env ac 36 [(3, .slice ax (List.length lx) cx), (4, pt bk1), (5, pt bk6), (8, .slice none 0 0), (9, .int .i64 0), (10, .slice ax (List.length lx - 16) cx), (19, .agg (List.toArray (bys lk))), (20, .agg (List.toArray (bys ln))), (21, .slice aa (List.length la) ca), (22, .slice ax (List.length lx - 16) cx), (29, .slice (cutAt ax cx (List.length lx - 16) 1) ((List.length lx) - (List.length lx - 16)) (cx - (List.length lx - 16)))] → Ev w [] wo [.box bk1 (bys lk) 22, .box bk6 (bys ln) 24] → G 4 #[true, true, true, true, false, false, true, true, true, true, true, false, false] ac wo := by
   intro ac241 wo242 En243 Hv244
   refine h_from hG ?_
   refine h_read (d := some 30) (s := nv (convert 25 9 (.slice (cutAt ax cx (List.length lx - 16) 1) ((List.length lx) - (List.length lx - 16)) (cx - (List.length lx - 16))))) En243 (v := .string (bstr (List.drop (List.length lx - 16) lx))) 11 (by kernel_rfl) (fun w hS => run_nv (run_str2 (e := 5) (bs := List.drop (List.length lx - 16) lx) (by first | (simp; done) | (simp; omega) | omega) (by kernel_rfl) (by kernel_rfl) (by kernel_rfl) (bys_drop_reads (ix.ev hS).reads cx (List.length lx - 16) (n := (List.length lx)) (by simp) (by omega) (by omega)) (fun e => cut_nz ix.nz e (by omega)))) (by kernel_rfl) rfl (Hv244.pick [0, 1] (by kernel_rfl) (by decide)) ?_
   intro ac245 En246
   refine h_at 4 (by kernel_rfl) rfl ?_
   have hM248 : Heap wo242 [] := Hv244.heap.pick [] (by kernel_rfl) (by decide)
   refine op_call (d := some 23) (f := 32) (args := #[.agg (List.toArray (bys lk)), .agg (List.toArray (bys ln)), .slice aa (List.length la) ca, .slice ax (List.length lx - 16) cx]) En246 (by kernel_rfl) ((tag_ref _ lk hk ln hn aa (List.length la) ca la (by first | rfl | (simp; done) | (simp; omega) | omega) ((ia.ev Hv244).pick [] (by kernel_rfl)) ax (List.length lx - 16) cx (List.take (List.length lx - 16) lx) (by first | rfl | (simp; done) | (simp; omega) | omega) (((ix.ev Hv244).pick [] (by kernel_rfl)).take (List.length lx - 16)) (by first | omega | (simp; omega))).mono ?_)
   rintro _ wo250 ⟨aoq247, coq247, rfl, he253⟩
   refine ⟨_, rfl, ?_⟩
   intro ac249 En251
   have Hv252 : Ev w [] wo250 [.vec aoq247 coq247 1 (bys (tagF lk ln la (List.take (List.length lx - 16) lx))) 5, .box bk1 (bys lk) 22, .box bk6 (bys ln) 24] := Hv244.trans (Ev.call (R := [.box bk1 (bys lk) 22, .box bk6 (bys ln) 24]) Hv244.heap [0, 1] (by kernel_rfl) (by decide) he253)
   clear hM248 he253
   refine ⟨fun _ => Hv252.pick [1, 2] (by kernel_rfl) (by decide), ?_⟩
   refine h_at 5 (by kernel_rfl) rfl ?_
   refine op_str (d := some 24) (src := 25) (dst := 9) (e := 5) (ao := aoq247) (cap := coq247) (p := 16) (bs := tagF lk ln la (List.take (List.length lx - 16) lx)) En251 (by kernel_rfl) (by first | (simp; done) | (simp; omega) | omega) (by kernel_rfl) (by kernel_rfl) (by kernel_rfl) (Hv252.heap.reads (k := 0) rfl) (fun e => by have h := (bys_vnz Hv252.heap (k := 0) rfl) e; first | omega | (simp at h; omega)) ?_
   intro ac254 En255
   refine ⟨fun _ => Hv252.pick [1, 2] (by kernel_rfl) (by decide), ?_⟩
   refine h_pureR (d := some 31) En255 (v := .bool (!(ByteArray.toList (bstr (tagF lk ln la (List.take (List.length lx - 16) lx))) == ByteArray.toList (bstr (List.drop (List.length lx - 16) lx))))) 12 (by kernel_rfl) (by kernel_rfl) rfl (fun _ => Hv252.pick [1, 2] (by kernel_rfl) (by decide)) ?_
   intro ac256 En257
   rw [Go.Dbr.bstr_eq (tagF lk ln la (List.take (List.length lx - 16) lx)) (List.drop (List.length lx - 16) lx)] at En257
   exact h_end (by kernel_rfl) ⟨En257.sub (by kernel_rfl), Hv252.pick [1, 2] (by kernel_rfl) (by decide)⟩
  refine h_from hG ?_
  refine h_read (d := some 19) (s := nv (Instr.loadAt 22 (pt bk1))) En21 (v := .agg (List.toArray (bys lk))) 0 (by kernel_rfl) (fun w hS => run_nv (run_loadAgg2 (m := 32) (cs := bys lk) (bys_lenh hk) (by kernel_rfl) (by kernel_rfl) (hS.heap.cells (k := 0) (off := 0) (m := 32) rfl (load_whole (bys_lenh hk))))) (by kernel_rfl) rfl (wo22.pick [0, 1] (by kernel_rfl) (by decide)) ?_
  intro ac258 En259
  refine h_read (d := some 20) (s := nv (Instr.loadAt 24 (pt bk6))) En259 (v := .agg (List.toArray (bys ln))) 1 (by kernel_rfl) (fun w hS => run_nv (run_loadAgg2 (m := 12) (cs := bys ln) (bys_lenh hn) (by kernel_rfl) (by kernel_rfl) (hS.heap.cells (k := 1) (off := 0) (m := 12) rfl (load_whole (bys_lenh hn))))) (by kernel_rfl) rfl (wo22.pick [0, 1] (by kernel_rfl) (by decide)) ?_
  intro ac260 En261
  refine h_pureR (d := some 21) En261 (v := .slice aa (List.length la) ca) 2 (by kernel_rfl) (by kernel_rfl) rfl (fun _ => wo22.pick [0, 1] (by kernel_rfl) (by decide)) ?_
  intro ac262 En263
  refine h_pureR (d := some 22) En263 (v := .slice ax (List.length lx - 16) cx) 3 (by kernel_rfl) (by kernel_rfl) rfl (fun _ => wo22.pick [0, 1] (by kernel_rfl) (by decide)) ?_
  intro ac264 En265
  refine h_pureR (d := some 25) En265 (v := .slice ax (List.length lx) cx) 6 (by kernel_rfl) (by kernel_rfl) rfl (fun _ => wo22.pick [0, 1] (by kernel_rfl) (by decide)) ?_
  intro ac266 En267
  refine h_pureR (d := some 26) En267 (v := .slice ax (List.length lx) cx) 7 (by kernel_rfl) (by kernel_rfl) rfl (fun _ => wo22.pick [0, 1] (by kernel_rfl) (by decide)) ?_
  intro ac268 En269
  refine h_pureR (d := some 27) En269 (v := .int .i64 ((List.length lx : Nat) : Int)) 8 (by kernel_rfl) (by kernel_rfl) rfl (fun _ => wo22.pick [0, 1] (by kernel_rfl) (by decide)) ?_
  intro ac270 En271
  refine h_pureR (d := some 28) En271 (v := .int .i64 (IntKind.wrap .i64 (((List.length lx : Nat) : Int) - (16 : Int)))) 9 (by kernel_rfl) (by kernel_rfl) rfl (fun _ => wo22.pick [0, 1] (by kernel_rfl) (by decide)) ?_
  intro ac272 En273
  rw [Go.Dbr.wr64 (e := ((List.length lx : Nat) : Int) - (16 : Int)) (x := ((List.length lx - 16 : Nat) : Int)) (by omega) (by omega) (by omega)] at En273
  refine h_ways [4, 10] (by kernel_rfl) rfl ?_
  refine ⟨?_, ?_, trivial⟩
  ·
   rintro _ rfl
   have hM275 : Heap wo8.drew [] := wo22.heap.pick [] (by kernel_rfl) (by decide)
   refine op_call (d := some 23) (f := 32) (args := #[.agg (List.toArray (bys lk)), .agg (List.toArray (bys ln)), .slice aa (List.length la) ca, .slice ax (List.length lx - 16) cx]) En273 (by kernel_rfl) ((tag_ref _ lk hk ln hn aa (List.length la) ca la (by first | rfl | (simp; done) | (simp; omega) | omega) ((ia.ev wo22).pick [] (by kernel_rfl)) ax (List.length lx - 16) cx (List.take (List.length lx - 16) lx) (by first | rfl | (simp; done) | (simp; omega) | omega) (((ix.ev wo22).pick [] (by kernel_rfl)).take (List.length lx - 16)) (by first | omega | (simp; omega))).mono ?_)
   rintro _ wo277 ⟨aoq274, coq274, rfl, he280⟩
   refine ⟨_, rfl, ?_⟩
   intro ac276 En278
   have Hv279 : Ev w [] wo277 [.vec aoq274 coq274 1 (bys (tagF lk ln la (List.take (List.length lx - 16) lx))) 5, .box bk1 (bys lk) 22, .box bk6 (bys ln) 24] := wo22.trans (Ev.call (R := [.box bk1 (bys lk) 22, .box bk6 (bys ln) 24]) wo22.heap [0, 1] (by kernel_rfl) (by decide) he280)
   clear hM275 he280
   refine ⟨fun _ => Hv279.pick [1, 2] (by kernel_rfl) (by decide), ?_⟩
   exact h_to hG (by kernel_rfl) (nd230 _ _ aoq274 coq274 (En278.sub (by kernel_rfl)) (Hv279.pick [0, 1, 2] (by kernel_rfl) (by decide)))
  ·
   rintro _ rfl
   have hcap281 := ix.cap
   refine op_slice (d := some 29) (t := 25) (e := 5) (sz := 1) (len := List.length lx) (cap := cx) (lo := List.length lx - 16) (hi := List.length lx) (ao := ax) (lov := (some (.int .i64 ((List.length lx - 16 : Nat) : Int)))) (hiv := none) En273 (by kernel_rfl) (by kernel_rfl) (by kernel_rfl) (by omega) (by omega) (.inr ⟨.i64, rfl⟩) (.inl ⟨rfl, rfl⟩) ?_
   intro ac282 En283
   refine ⟨fun _ => wo22.pick [0, 1] (by kernel_rfl) (by decide), ?_⟩
   exact h_to hG (by kernel_rfl) (nd240 _ _ (En283.sub (by kernel_rfl)) (wo22.pick [0, 1] (by kernel_rfl) (by decide)))
 rintro ac284 wo285 ⟨En286, Hv287⟩
 refine then_normal ?_
 refine cond_at En286 (t := !((tagF lk ln la (List.take (List.length lx - 16) lx)) == (List.drop (List.length lx - 16) lx))) (by kernel_rfl) (fun hc288 => ?_) (fun hc288 => ?_)
 ·
  replace hc288 : (tagF lk ln la (List.take (List.length lx - 16) lx)) ≠ (List.drop (List.length lx - 16) lx) := by simpa using hc288
  refine wp_seq ?_
  refine region_from ?_
  refine d_pures [(3, .slice ax (List.length lx) cx), (4, pt bk1), (5, pt bk6), (8, .slice none 0 0), (9, .int .i64 91), (10, .slice ax (List.length lx - 16) cx)] [.slice none 0 0, .int .i64 91] 2 En286 (by kernel_rfl) (by kernel_rfl) rfl ?_
  intro ac289 En290
  refine from_end (by kernel_rfl) ?_
  refine then_normal ?_
  refine wp_ret ?_
  refine then_ret ?_
  refine d_ret2 (t := 8) (u := 9) (v := .slice none 0 0) (x := .int .i64 91) En290 (by kernel_rfl) (by kernel_rfl) (by kernel_rfl) ?_
  exact ⟨rfl, Hv287.pick [] (by kernel_rfl) (by decide)⟩
 ·
  replace hc288 : ¬ ((tagF lk ln la (List.take (List.length lx - 16) lx)) ≠ (List.drop (List.length lx - 16) lx)) := by simpa using hc288
  first | exact absurd hok hc288 | exact absurd hc288 hok

theorem open_ok_ref (w : World) (lk : List UInt8) (hk : List.length lk = 32) (ln : List UInt8) (hn : List.length ln = 12) (aa : Option Addr) (na ca : Nat) (la : List UInt8) (ea : na = List.length la) (ia : InB w [] aa ca la) (ax : Option Addr) (nx cx : Nat) (lx : List UInt8) (ex : nx = List.length lx) (ix : InB w [] ax cx lx) (hB : List.length la + List.length lx ≤ 1099511627776) (h16 : 16 ≤ List.length lx) (hok : tagF lk ln la (List.take (List.length lx - 16) lx) = List.drop (List.length lx - 16) lx) : Calls Try.prog 18 #[.agg (List.toArray (bys lk)), .agg (List.toArray (bys ln)), .slice aa na ca, .slice ax nx cx] w fun e w' => ∃ ao co, e = .returned (.tuple #[.slice ao (List.length (streamF lk 1 ln (List.take (List.length lx - 16) lx))) co, .int .i64 0]) ∧ Ev w [] w' [.vec ao co 1 (bys (streamF lk 1 ln (List.take (List.length lx - 16) lx))) 5] := by
 subst ea
 subst ex
 have hsa := ia.small
 have hca := ia.cap
 have hsx := ix.small
 have hcx := ix.cap
 have hlt : List.length (List.take (List.length lx - 16) lx) = List.length lx - 16 := by rw [List.length_take]; omega
 have htl := tagF_len lk ln la (List.take (List.length lx - 16) lx)
 have hld : List.length (List.drop (List.length lx - 16) lx) ≤ 2000000000000 := by rw [List.length_drop]; omega
 refine d_start [(0, .agg (List.toArray (bys lk))), (1, .agg (List.toArray (bys ln))), (2, .slice aa (List.length la) ca), (3, .slice ax (List.length lx) cx)] 36 Go.Proofs.Try.func18 Go.Proofs.Try.ntmps18 rfl (by kernel_rfl) (by kernel_rfl) ?_
 intro act0 En0
 have Hv0 : Ev w [] w [] := Ev.refl (Heap.nil _)
 refine wp_seq ?_
 refine region_from ?_
 refine from_op (by kernel_rfl) ?_
 refine op_newbox (d := some 4) (T := 22) (v := .agg (List.toArray (bys lk))) (cs := bys lk) En0 (by kernel_rfl) rfl Hv0 ?_
 intro ac2 wo3 bk1 En4 Hv5
 refine from_op (by kernel_rfl) ?_
 refine op_newbox (d := some 5) (T := 24) (v := .agg (List.toArray (bys ln))) (cs := bys ln) En4 (by kernel_rfl) rfl Hv5 ?_
 intro ac7 wo8 bk6 En9 Hv10
 refine d_pures [(2, .slice aa (List.length la) ca), (3, .slice ax (List.length lx) cx), (4, pt bk1), (5, pt bk6), (8, .slice none 0 0), (9, .int .i64 0)] [.slice none 0 0, .int .i64 0] 4 En9 (by kernel_rfl) (by kernel_rfl) rfl ?_
 intro ac11 En12
 refine from_end (by kernel_rfl) ?_
 refine then_normal ?_
 refine wp_seq ?_
 refine wp_seq ?_
 refine region_from ?_
 refine d_pures [(2, .slice aa (List.length la) ca), (3, .slice ax (List.length lx) cx), (4, pt bk1), (5, pt bk6), (8, .slice none 0 0), (9, .int .i64 0), (13, .bool (decide (((List.length lx : Nat) : Int) < (16 : Int))))] [.slice ax (List.length lx) cx, .int .i64 ((List.length lx : Nat) : Int), .bool (decide (((List.length lx : Nat) : Int) < (16 : Int)))] 3 En12 (by kernel_rfl) (by kernel_rfl) rfl ?_
 intro ac13 En14
 rw [show (decide (((List.length lx : Nat) : Int) < (16 : Int))) = false from decide_eq_false (by omega)] at En14
 refine from_end (by kernel_rfl) ?_
 refine then_normal ?_
 refine cond_false En14 (t := false) (by kernel_rfl) rfl ?_
 refine wp_skip ?_
 refine then_normal ?_
 refine wp_seq ?_
 refine region_from ?_
 refine d_pures [(2, .slice aa (List.length la) ca), (3, .slice ax (List.length lx) cx), (4, pt bk1), (5, pt bk6), (8, .slice none 0 0), (9, .int .i64 0), (14, .slice ax (List.length lx) cx), (17, .int .i64 (IntKind.wrap .i64 (((List.length lx : Nat) : Int) - (16 : Int))))] [.slice ax (List.length lx) cx, .slice ax (List.length lx) cx, .int .i64 ((List.length lx : Nat) : Int), .int .i64 (IntKind.wrap .i64 (((List.length lx : Nat) : Int) - (16 : Int)))] 4 En14 (by kernel_rfl) (by kernel_rfl) rfl ?_
 intro ac15 En16
 rw [Go.Dbr.wr64 (e := ((List.length lx : Nat) : Int) - (16 : Int)) (x := ((List.length lx - 16 : Nat) : Int)) (by omega) (by omega) (by omega)] at En16
 refine from_op (by kernel_rfl) ?_
 have hcap17 := ix.cap
 refine op_slice0 (d := some 18) (t := 25) (e := 5) (sz := 1) (len := List.length lx) (cap := cx) (hi := List.length lx - 16) (ao := ax) (lov := none) (hiv := (some (.int .i64 ((List.length lx - 16 : Nat) : Int)))) En16 (by kernel_rfl) (by kernel_rfl) (by kernel_rfl) (by omega) (.inl ⟨rfl, rfl⟩) (.inr ⟨.i64, rfl⟩) ?_
 intro ac18 En19
 refine d_pures [(2, .slice aa (List.length la) ca), (3, .slice ax (List.length lx) cx), (4, pt bk1), (5, pt bk6), (8, .slice none 0 0), (9, .int .i64 0), (10, .slice ax (List.length lx - 16) cx)] [.slice ax (List.length lx - 16) cx] 6 En19 (by kernel_rfl) (by kernel_rfl) rfl ?_
 intro ac20 En21
 refine from_end (by kernel_rfl) ?_
 refine then_normal ?_
 refine wp_seq ?_
 refine wp_seq ?_
 refine region_cut (F := fun ac wo => Env ac 36 [(3, .slice ax (List.length lx) cx), (4, pt bk1), (5, pt bk6), (8, .slice none 0 0), (9, .int .i64 0), (10, .slice ax (List.length lx - 16) cx), (31, .bool (!((tagF lk ln la (List.take (List.length lx - 16) lx)) == (List.drop (List.length lx - 16) lx))))] ∧ Ev w [] wo [.box bk1 (bys lk) 22, .box bk6 (bys ln) 24]) ?_ ?_
 ·
  refine h_start (fun wv => Ev w [] wv [.box bk1 (bys lk) 22, .box bk6 (bys ln) 24]) [] (by kernel_rfl) 13 (by kernel_rfl) ?_
  have wo22 := Hv10.trans (Ev.drew Hv10.heap)
  refine h_name fun G hG => ?_
  have nd207 : ∀ (ac : Act) (wo : World), Env ac 36 [(3, .slice ax (List.length lx) cx), (4, pt bk1), (5, pt bk6), (8, .slice none 0 0), (9, .int .i64 0), (10, .slice ax (List.length lx - 16) cx), (24, .string (bstr (tagF lk ln la (List.take (List.length lx - 16) lx)))), (25, .slice ax (List.length lx) cx), (28, .int .i64 ((List.length lx - 16 : Nat) : Int))] → Ev w [] wo [.box bk1 (bys lk) 22, .box bk6 (bys ln) 24] → G 3 #[true, true, true, true, true, true, true, true, true, true, false, false, false] ac wo := by
   intro ac208 wo209 En210 Hv211
   refine h_from hG ?_
   refine h_at 10 (by kernel_rfl) rfl ?_
   have hcap212 := ix.cap
   refine op_slice (d := some 29) (t := 25) (e := 5) (sz := 1) (len := List.length lx) (cap := cx) (lo := List.length lx - 16) (hi := List.length lx) (ao := ax) (lov := (some (.int .i64 ((List.length lx - 16 : Nat) : Int)))) (hiv := none) En210 (by kernel_rfl) (by kernel_rfl) (by kernel_rfl) (by omega) (by omega) (.inr ⟨.i64, rfl⟩) (.inl ⟨rfl, rfl⟩) ?_
   intro ac213 En214
   refine ⟨fun _ => Hv211.pick [0, 1] (by kernel_rfl) (by decide), ?_⟩
   refine h_read (d := some 30) (s := nv (convert 25 9 (.slice (cutAt ax cx (List.length lx - 16) 1) ((List.length lx) - (List.length lx - 16)) (cx - (List.length lx - 16))))) En214 (v := .string (bstr (List.drop (List.length lx - 16) lx))) 11 (by kernel_rfl) (fun w hS => run_nv (run_str2 (e := 5) (bs := List.drop (List.length lx - 16) lx) (by first | (simp; done) | (simp; omega) | omega) (by kernel_rfl) (by kernel_rfl) (by kernel_rfl) (bys_drop_reads (ix.ev hS).reads cx (List.length lx - 16) (n := (List.length lx)) (by simp) (by omega) (by omega)) (fun e => cut_nz ix.nz e (by omega)))) (by kernel_rfl) rfl (Hv211.pick [0, 1] (by kernel_rfl) (by decide)) ?_
   intro ac215 En216
   refine h_pureR (d := some 31) En216 (v := .bool (!(ByteArray.toList (bstr (tagF lk ln la (List.take (List.length lx - 16) lx))) == ByteArray.toList (bstr (List.drop (List.length lx - 16) lx))))) 12 (by kernel_rfl) (by kernel_rfl) rfl (fun _ => Hv211.pick [0, 1] (by kernel_rfl) (by decide)) ?_
   intro ac217 En218
   rw [Go.Dbr.bstr_eq (tagF lk ln la (List.take (List.length lx - 16) lx)) (List.drop (List.length lx - 16) lx)] at En218
   exact h_end (by kernel_rfl) ⟨En218.sub (by kernel_rfl), Hv211.pick [0, 1] (by kernel_rfl) (by decide)⟩
  have nd219 : ∀ (ac : Act) (wo : World) (aoq166 : _) (coq166 : _), Env ac 36 [(3, .slice ax (List.length lx) cx), (4, pt bk1), (5, pt bk6), (8, .slice none 0 0), (9, .int .i64 0), (10, .slice ax (List.length lx - 16) cx), (23, .slice aoq166 16 coq166), (29, .slice (cutAt ax cx (List.length lx - 16) 1) ((List.length lx) - (List.length lx - 16)) (cx - (List.length lx - 16)))] → Ev w [] wo [.vec aoq166 coq166 1 (bys (tagF lk ln la (List.take (List.length lx - 16) lx))) 5, .box bk1 (bys lk) 22, .box bk6 (bys ln) 24] → G 3 #[true, true, true, true, true, false, true, true, true, true, true, false, false] ac wo := by
   intro ac220 wo221 aoq166 coq166 En222 Hv223
   refine h_from hG ?_
   refine h_read (d := some 30) (s := nv (convert 25 9 (.slice (cutAt ax cx (List.length lx - 16) 1) ((List.length lx) - (List.length lx - 16)) (cx - (List.length lx - 16))))) En222 (v := .string (bstr (List.drop (List.length lx - 16) lx))) 11 (by kernel_rfl) (fun w hS => run_nv (run_str2 (e := 5) (bs := List.drop (List.length lx - 16) lx) (by first | (simp; done) | (simp; omega) | omega) (by kernel_rfl) (by kernel_rfl) (by kernel_rfl) (bys_drop_reads (ix.ev hS).reads cx (List.length lx - 16) (n := (List.length lx)) (by simp) (by omega) (by omega)) (fun e => cut_nz ix.nz e (by omega)))) (by kernel_rfl) rfl (Hv223.pick [1, 2] (by kernel_rfl) (by decide)) ?_
   intro ac224 En225
   refine h_at 5 (by kernel_rfl) rfl ?_
   refine op_str (d := some 24) (src := 25) (dst := 9) (e := 5) (ao := aoq166) (cap := coq166) (p := 16) (bs := tagF lk ln la (List.take (List.length lx - 16) lx)) En225 (by kernel_rfl) (by first | (simp; done) | (simp; omega) | omega) (by kernel_rfl) (by kernel_rfl) (by kernel_rfl) (Hv223.heap.reads (k := 0) rfl) (fun e => by have h := (bys_vnz Hv223.heap (k := 0) rfl) e; first | omega | (simp at h; omega)) ?_
   intro ac226 En227
   refine ⟨fun _ => Hv223.pick [1, 2] (by kernel_rfl) (by decide), ?_⟩
   refine h_pureR (d := some 31) En227 (v := .bool (!(ByteArray.toList (bstr (tagF lk ln la (List.take (List.length lx - 16) lx))) == ByteArray.toList (bstr (List.drop (List.length lx - 16) lx))))) 12 (by kernel_rfl) (by kernel_rfl) rfl (fun _ => Hv223.pick [1, 2] (by kernel_rfl) (by decide)) ?_
   intro ac228 En229
   rw [Go.Dbr.bstr_eq (tagF lk ln la (List.take (List.length lx - 16) lx)) (List.drop (List.length lx - 16) lx)] at En229
   exact h_end (by kernel_rfl) ⟨En229.sub (by kernel_rfl), Hv223.pick [1, 2] (by kernel_rfl) (by decide)⟩
  have nd230 : ∀ (ac : Act) (wo : World) (aoq166 : _) (coq166 : _), Env ac 36 [(3, .slice ax (List.length lx) cx), (4, pt bk1), (5, pt bk6), (8, .slice none 0 0), (9, .int .i64 0), (10, .slice ax (List.length lx - 16) cx), (23, .slice aoq166 16 coq166), (25, .slice ax (List.length lx) cx), (28, .int .i64 ((List.length lx - 16 : Nat) : Int))] → Ev w [] wo [.vec aoq166 coq166 1 (bys (tagF lk ln la (List.take (List.length lx - 16) lx))) 5, .box bk1 (bys lk) 22, .box bk6 (bys ln) 24] → G 4 #[true, true, true, true, true, false, true, true, true, true, false, false, false] ac wo := by
   intro ac231 wo232 aoq166 coq166 En233 Hv234
   refine h_from hG ?_
   refine h_ways [5, 10] (by kernel_rfl) rfl ?_
   refine ⟨?_, ?_, trivial⟩
   ·
    rintro _ rfl
    refine op_str (d := some 24) (src := 25) (dst := 9) (e := 5) (ao := aoq166) (cap := coq166) (p := 16) (bs := tagF lk ln la (List.take (List.length lx - 16) lx)) En233 (by kernel_rfl) (by first | (simp; done) | (simp; omega) | omega) (by kernel_rfl) (by kernel_rfl) (by kernel_rfl) (Hv234.heap.reads (k := 0) rfl) (fun e => by have h := (bys_vnz Hv234.heap (k := 0) rfl) e; first | omega | (simp at h; omega)) ?_
    intro ac235 En236
    refine ⟨fun _ => Hv234.pick [1, 2] (by kernel_rfl) (by decide), ?_⟩
    exact h_to hG (by kernel_rfl) (nd207 _ _ (En236.sub (by kernel_rfl)) (Hv234.pick [1, 2] (by kernel_rfl) (by decide)))
   ·
    rintro _ rfl
    have hcap237 := ix.cap
    refine op_slice (d := some 29) (t := 25) (e := 5) (sz := 1) (len := List.length lx) (cap := cx) (lo := List.length lx - 16) (hi := List.length lx) (ao := ax) (lov := (some (.int .i64 ((List.length lx - 16 : Nat) : Int)))) (hiv := none) En233 (by kernel_rfl) (by kernel_rfl) (by kernel_rfl) (by omega) (by omega) (.inr ⟨.i64, rfl⟩) (.inl ⟨rfl, rfl⟩) ?_
    intro ac238 En239
    refine ⟨fun _ => Hv234.pick [1, 2] (by kernel_rfl) (by decide), ?_⟩
    exact h_to hG (by kernel_rfl) (nd219 _ _ aoq166 coq166 (En239.sub (by kernel_rfl)) (Hv234.pick [0, 1, 2] (by kernel_rfl) (by decide)))
  have nd240 : ∀ (ac : Act) (wo : World), Env ac 36 [(3, .slice ax (List.length lx) cx), (4, pt bk1), (5, pt bk6), (8, .slice none 0 0), (9, .int .i64 0), (10, .slice ax (List.length lx - 16) cx), (19, .agg (List.toArray (bys lk))), (20, .agg (List.toArray (bys ln))), (21, .slice aa (List.length la) ca), (22, .slice ax (List.length lx - 16) cx), (29, .slice (cutAt ax cx (List.length lx - 16) 1) ((List.length lx) - (List.length lx - 16)) (cx - (List.length lx - 16)))] → Ev w [] wo [.box bk1 (bys lk) 22, .box bk6 (bys ln) 24] → G 4 #[true, true, true, true, false, false, true, true, true, true, true, false, false] ac wo := by
   intro ac241 wo242 En243 Hv244
   refine h_from hG ?_
   refine h_read (d := some 30) (s := nv (convert 25 9 (.slice (cutAt ax cx (List.length lx - 16) 1) ((List.length lx) - (List.length lx - 16)) (cx - (List.length lx - 16))))) En243 (v := .string (bstr (List.drop (List.length lx - 16) lx))) 11 (by kernel_rfl) (fun w hS => run_nv (run_str2 (e := 5) (bs := List.drop (List.length lx - 16) lx) (by first | (simp; done) | (simp; omega) | omega) (by kernel_rfl) (by kernel_rfl) (by kernel_rfl) (bys_drop_reads (ix.ev hS).reads cx (List.length lx - 16) (n := (List.length lx)) (by simp) (by omega) (by omega)) (fun e => cut_nz ix.nz e (by omega)))) (by kernel_rfl) rfl (Hv244.pick [0, 1] (by kernel_rfl) (by decide)) ?_
   intro ac245 En246
   refine h_at 4 (by kernel_rfl) rfl ?_
   have hM248 : Heap wo242 [] := Hv244.heap.pick [] (by kernel_rfl) (by decide)
   refine op_call (d := some 23) (f := 32) (args := #[.agg (List.toArray (bys lk)), .agg (List.toArray (bys ln)), .slice aa (List.length la) ca, .slice ax (List.length lx - 16) cx]) En246 (by kernel_rfl) ((tag_ref _ lk hk ln hn aa (List.length la) ca la (by first | rfl | (simp; done) | (simp; omega) | omega) ((ia.ev Hv244).pick [] (by kernel_rfl)) ax (List.length lx - 16) cx (List.take (List.length lx - 16) lx) (by first | rfl | (simp; done) | (simp; omega) | omega) (((ix.ev Hv244).pick [] (by kernel_rfl)).take (List.length lx - 16)) (by first | omega | (simp; omega))).mono ?_)
   rintro _ wo250 ⟨aoq247, coq247, rfl, he253⟩
   refine ⟨_, rfl, ?_⟩
   intro ac249 En251
   have Hv252 : Ev w [] wo250 [.vec aoq247 coq247 1 (bys (tagF lk ln la (List.take (List.length lx - 16) lx))) 5, .box bk1 (bys lk) 22, .box bk6 (bys ln) 24] := Hv244.trans (Ev.call (R := [.box bk1 (bys lk) 22, .box bk6 (bys ln) 24]) Hv244.heap [0, 1] (by kernel_rfl) (by decide) he253)
   clear hM248 he253
   refine ⟨fun _ => Hv252.pick [1, 2] (by kernel_rfl) (by decide), ?_⟩
   refine h_at 5 (by kernel_rfl) rfl ?_
   refine op_str (d := some 24) (src := 25) (dst := 9) (e := 5) (ao := aoq247) (cap := coq247) (p := 16) (bs := tagF lk ln la (List.take (List.length lx - 16) lx)) En251 (by kernel_rfl) (by first | (simp; done) | (simp; omega) | omega) (by kernel_rfl) (by kernel_rfl) (by kernel_rfl) (Hv252.heap.reads (k := 0) rfl) (fun e => by have h := (bys_vnz Hv252.heap (k := 0) rfl) e; first | omega | (simp at h; omega)) ?_
   intro ac254 En255
   refine ⟨fun _ => Hv252.pick [1, 2] (by kernel_rfl) (by decide), ?_⟩
   refine h_pureR (d := some 31) En255 (v := .bool (!(ByteArray.toList (bstr (tagF lk ln la (List.take (List.length lx - 16) lx))) == ByteArray.toList (bstr (List.drop (List.length lx - 16) lx))))) 12 (by kernel_rfl) (by kernel_rfl) rfl (fun _ => Hv252.pick [1, 2] (by kernel_rfl) (by decide)) ?_
   intro ac256 En257
   rw [Go.Dbr.bstr_eq (tagF lk ln la (List.take (List.length lx - 16) lx)) (List.drop (List.length lx - 16) lx)] at En257
   exact h_end (by kernel_rfl) ⟨En257.sub (by kernel_rfl), Hv252.pick [1, 2] (by kernel_rfl) (by decide)⟩
  refine h_from hG ?_
  refine h_read (d := some 19) (s := nv (Instr.loadAt 22 (pt bk1))) En21 (v := .agg (List.toArray (bys lk))) 0 (by kernel_rfl) (fun w hS => run_nv (run_loadAgg2 (m := 32) (cs := bys lk) (bys_lenh hk) (by kernel_rfl) (by kernel_rfl) (hS.heap.cells (k := 0) (off := 0) (m := 32) rfl (load_whole (bys_lenh hk))))) (by kernel_rfl) rfl (wo22.pick [0, 1] (by kernel_rfl) (by decide)) ?_
  intro ac258 En259
  refine h_read (d := some 20) (s := nv (Instr.loadAt 24 (pt bk6))) En259 (v := .agg (List.toArray (bys ln))) 1 (by kernel_rfl) (fun w hS => run_nv (run_loadAgg2 (m := 12) (cs := bys ln) (bys_lenh hn) (by kernel_rfl) (by kernel_rfl) (hS.heap.cells (k := 1) (off := 0) (m := 12) rfl (load_whole (bys_lenh hn))))) (by kernel_rfl) rfl (wo22.pick [0, 1] (by kernel_rfl) (by decide)) ?_
  intro ac260 En261
  refine h_pureR (d := some 21) En261 (v := .slice aa (List.length la) ca) 2 (by kernel_rfl) (by kernel_rfl) rfl (fun _ => wo22.pick [0, 1] (by kernel_rfl) (by decide)) ?_
  intro ac262 En263
  refine h_pureR (d := some 22) En263 (v := .slice ax (List.length lx - 16) cx) 3 (by kernel_rfl) (by kernel_rfl) rfl (fun _ => wo22.pick [0, 1] (by kernel_rfl) (by decide)) ?_
  intro ac264 En265
  refine h_pureR (d := some 25) En265 (v := .slice ax (List.length lx) cx) 6 (by kernel_rfl) (by kernel_rfl) rfl (fun _ => wo22.pick [0, 1] (by kernel_rfl) (by decide)) ?_
  intro ac266 En267
  refine h_pureR (d := some 26) En267 (v := .slice ax (List.length lx) cx) 7 (by kernel_rfl) (by kernel_rfl) rfl (fun _ => wo22.pick [0, 1] (by kernel_rfl) (by decide)) ?_
  intro ac268 En269
  refine h_pureR (d := some 27) En269 (v := .int .i64 ((List.length lx : Nat) : Int)) 8 (by kernel_rfl) (by kernel_rfl) rfl (fun _ => wo22.pick [0, 1] (by kernel_rfl) (by decide)) ?_
  intro ac270 En271
  refine h_pureR (d := some 28) En271 (v := .int .i64 (IntKind.wrap .i64 (((List.length lx : Nat) : Int) - (16 : Int)))) 9 (by kernel_rfl) (by kernel_rfl) rfl (fun _ => wo22.pick [0, 1] (by kernel_rfl) (by decide)) ?_
  intro ac272 En273
  rw [Go.Dbr.wr64 (e := ((List.length lx : Nat) : Int) - (16 : Int)) (x := ((List.length lx - 16 : Nat) : Int)) (by omega) (by omega) (by omega)] at En273
  refine h_ways [4, 10] (by kernel_rfl) rfl ?_
  refine ⟨?_, ?_, trivial⟩
  ·
   rintro _ rfl
   have hM275 : Heap wo8.drew [] := wo22.heap.pick [] (by kernel_rfl) (by decide)
   refine op_call (d := some 23) (f := 32) (args := #[.agg (List.toArray (bys lk)), .agg (List.toArray (bys ln)), .slice aa (List.length la) ca, .slice ax (List.length lx - 16) cx]) En273 (by kernel_rfl) ((tag_ref _ lk hk ln hn aa (List.length la) ca la (by first | rfl | (simp; done) | (simp; omega) | omega) ((ia.ev wo22).pick [] (by kernel_rfl)) ax (List.length lx - 16) cx (List.take (List.length lx - 16) lx) (by first | rfl | (simp; done) | (simp; omega) | omega) (((ix.ev wo22).pick [] (by kernel_rfl)).take (List.length lx - 16)) (by first | omega | (simp; omega))).mono ?_)
   rintro _ wo277 ⟨aoq274, coq274, rfl, he280⟩
   refine ⟨_, rfl, ?_⟩
   intro ac276 En278
   have Hv279 : Ev w [] wo277 [.vec aoq274 coq274 1 (bys (tagF lk ln la (List.take (List.length lx - 16) lx))) 5, .box bk1 (bys lk) 22, .box bk6 (bys ln) 24] := wo22.trans (Ev.call (R := [.box bk1 (bys lk) 22, .box bk6 (bys ln) 24]) wo22.heap [0, 1] (by kernel_rfl) (by decide) he280)
   clear hM275 he280
   refine ⟨fun _ => Hv279.pick [1, 2] (by kernel_rfl) (by decide), ?_⟩
   exact h_to hG (by kernel_rfl) (nd230 _ _ aoq274 coq274 (En278.sub (by kernel_rfl)) (Hv279.pick [0, 1, 2] (by kernel_rfl) (by decide)))
  ·
   rintro _ rfl
   have hcap281 := ix.cap
   refine op_slice (d := some 29) (t := 25) (e := 5) (sz := 1) (len := List.length lx) (cap := cx) (lo := List.length lx - 16) (hi := List.length lx) (ao := ax) (lov := (some (.int .i64 ((List.length lx - 16 : Nat) : Int)))) (hiv := none) En273 (by kernel_rfl) (by kernel_rfl) (by kernel_rfl) (by omega) (by omega) (.inr ⟨.i64, rfl⟩) (.inl ⟨rfl, rfl⟩) ?_
   intro ac282 En283
   refine ⟨fun _ => wo22.pick [0, 1] (by kernel_rfl) (by decide), ?_⟩
   exact h_to hG (by kernel_rfl) (nd240 _ _ (En283.sub (by kernel_rfl)) (wo22.pick [0, 1] (by kernel_rfl) (by decide)))
 rintro ac284 wo285 ⟨En286, Hv287⟩
 refine then_normal ?_
 refine cond_at En286 (t := !((tagF lk ln la (List.take (List.length lx - 16) lx)) == (List.drop (List.length lx - 16) lx))) (by kernel_rfl) (fun hc288 => ?_) (fun hc288 => ?_)
 ·
  replace hc288 : (tagF lk ln la (List.take (List.length lx - 16) lx)) ≠ (List.drop (List.length lx - 16) lx) := by simpa using hc288
  first | exact absurd hok hc288 | exact absurd hc288 hok
 ·
  replace hc288 : ¬ ((tagF lk ln la (List.take (List.length lx - 16) lx)) ≠ (List.drop (List.length lx - 16) lx)) := by simpa using hc288
  refine wp_skip ?_
  refine then_normal ?_
  refine wp_seq ?_
  refine region_from ?_
  refine from_op (by kernel_rfl) ?_
  refine op_loadaggbox (d := some 32) (t := 22) (b := bk1) (off := 0) (k := 0) (m := 32) (xs := bys lk) En286 (by kernel_rfl) Hv287 rfl (load_whole (bys_lenh hk)) (bys_lenh hk) (by kernel_rfl) (by kernel_rfl) ?_
  intro ac289 En290
  refine from_op (by kernel_rfl) ?_
  refine op_loadaggbox (d := some 33) (t := 24) (b := bk6) (off := 0) (k := 1) (m := 12) (xs := bys ln) En290 (by kernel_rfl) Hv287 rfl (load_whole (bys_lenh hn)) (bys_lenh hn) (by kernel_rfl) (by kernel_rfl) ?_
  intro ac291 En292
  refine d_pures [(3, .slice ax (List.length lx) cx), (4, pt bk1), (5, pt bk6), (8, .slice none 0 0), (9, .int .i64 0), (10, .slice ax (List.length lx - 16) cx), (32, .agg (List.toArray (bys lk))), (33, .agg (List.toArray (bys ln))), (34, .slice ax (List.length lx - 16) cx)] [.slice ax (List.length lx - 16) cx] 3 En292 (by kernel_rfl) (by kernel_rfl) rfl ?_
  intro ac293 En294
  refine from_op (by kernel_rfl) ?_
  have hM296 : Heap wo285 [] := Hv287.heap.pick [] (by kernel_rfl) (by decide)
  refine op_call (d := some 35) (f := 10) (args := #[.agg (List.toArray (bys lk)), .int .u32 1, .agg (List.toArray (bys ln)), .slice ax (List.length lx - 16) cx]) En294 (by kernel_rfl) ((stream_ref _ lk hk (1 : UInt32) ln hn ax (List.length lx - 16) cx (List.take (List.length lx - 16) lx) (by first | rfl | (simp; done) | (simp; omega) | omega) (((ix.ev Hv287).pick [] (by kernel_rfl)).take (List.length lx - 16))).mono ?_)
  rintro _ wo298 ⟨aoq295, coq295, rfl, he301⟩
  refine ⟨_, rfl, ?_⟩
  intro ac297 En299
  have Hv300 : Ev w [] wo298 [.vec aoq295 coq295 1 (bys (streamF lk (1 : UInt32) ln (List.take (List.length lx - 16) lx))) 5, .box bk1 (bys lk) 22, .box bk6 (bys ln) 24] := Hv287.trans (Ev.call (R := [.box bk1 (bys lk) 22, .box bk6 (bys ln) 24]) Hv287.heap [0, 1] (by kernel_rfl) (by decide) he301)
  clear hM296 he301
  refine d_pures [(3, .slice ax (List.length lx) cx), (4, pt bk1), (5, pt bk6), (8, .slice aoq295 (List.length (streamF lk (1 : UInt32) ln (List.take (List.length lx - 16) lx))) coq295), (9, .int .i64 0), (10, .slice ax (List.length lx - 16) cx)] [.slice aoq295 (List.length (streamF lk (1 : UInt32) ln (List.take (List.length lx - 16) lx))) coq295, .int .i64 0] 6 En299 (by kernel_rfl) (by kernel_rfl) rfl ?_
  intro ac302 En303
  refine from_end (by kernel_rfl) ?_
  refine then_normal ?_
  refine wp_ret ?_
  refine d_ret2 (t := 8) (u := 9) (v := .slice aoq295 (List.length (streamF lk (1 : UInt32) ln (List.take (List.length lx - 16) lx))) coq295) (x := .int .i64 0) En303 (by kernel_rfl) (by kernel_rfl) (by kernel_rfl) ?_
  have Hf304 := Hv300.pick [0] (by kernel_rfl) (by decide) (M := [.vec aoq295 coq295 1 (bys (streamF lk (1 : UInt32) ln (List.take (List.length lx - 16) lx))) 5])
  exact ⟨_, _, rfl, Hf304⟩

end Go.Proofs.Ytnahplggflhdaaa
