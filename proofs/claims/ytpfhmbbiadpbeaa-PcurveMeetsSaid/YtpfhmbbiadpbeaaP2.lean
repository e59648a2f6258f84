/- Layer 13: points, as the program has them. -/
import Derived.Test.YtpfhmbbiadpbeaaP1
import Derived.Test.YtpfhmbbiadpbeaaBuild
namespace Go.Proofs.Ytpfhmbbiadpbeaa
open Go.Dbr
set_option maxRecDepth 100000
set_option maxHeartbeats 2000000
set_option linter.unusedVariables false
set_option linter.unusedSimpArgs false

theorem isP : IsPnt Try.prog 26 22 := ⟨by kernel_rfl, by kernel_rfl, by kernel_rfl, by kernel_rfl, by kernel_rfl, by kernel_rfl, by kernel_rfl, by kernel_rfl, by kernel_rfl, by kernel_rfl, by kernel_rfl, by kernel_rfl, by kernel_rfl, by kernel_rfl, by kernel_rfl, by kernel_rfl, by kernel_rfl⟩

/-- on the curve, as the program tells it -/
def onN (z : Bool) (x y : List UInt64) : Bool := bif z then x == nd 0 && y == nd 0 else decide (nv x < mF 2) && decide (nv y < mF 2) && nd (mulM 2 (nv y) (nv y)) == nd (addM 2 (subM 2 (mulM 2 (mulM 2 (nv x) (nv x)) (nv x)) (thN (nv x))) bN)

theorem on_go (w : World) (z : Bool) (x y : List UInt64) (hx : List.length x = 4) (hy : List.length y = 4) : Calls Try.prog 14 #[.agg (List.toArray (([.bool z] : List Value) ++ ((u64s x) ++ (u64s y))))] w fun e w' => e = .returned (.bool (onN z x y)) ∧ Ev w [] w' [] := by
 refine d_0 [(0, .agg (List.toArray (([.bool z] : List Value) ++ ((u64s x) ++ (u64s y)))))] 40 Go.Proofs.Try.func14 Go.Proofs.Try.ntmps14 (Heap.nil _) fun act0 En0 Hv0 => ?_
 refine wp_seq ?_
 refine region_from ?_
 refine f_o ?_
 refine m_m 26 (([.bool z] : List Value) ++ ((u64s x) ++ (u64s y))) En0 Hv0 fun ac2 wo3 bk1 En4 Hv5 => ?_
 refine d_e [1,2] [] En4 fun ac6 En7 => ?_
 refine then_normal ?_
 refine wp_seq ?_
 refine wp_seq ?_
 refine region_from ?_
 refine d_k [1,2,4] [] 1 En7 fun ac8 En9 => ?_
 refine f_o ?_
 refine m_v 0 0 (.bool z) En9 Hv5 rfl (seg_in rfl) fun ac10 En11 => ?_
 refine f_e ?_
 refine then_normal ?_
 refine cond_at En11 (t := z) (by kernel_rfl) (fun hc12 => ?_) (fun hc12 => ?_)
 ·
  replace hc12 : z = true := hc12
  refine wp_seq ?_
  refine region_from ?_
  refine f_o ?_
  refine m_a 0 0 9 (([.bool z] : List Value) ++ ((u64s x) ++ (u64s y))) En11 Hv5 rfl (load_whole (len_app rfl (len_app (u64s_lenh hx) (u64s_lenh hy)))) (len_app rfl (len_app (u64s_lenh hx) (u64s_lenh hy))) fun ac13 En14 => ?_
  refine f_o ?_
  refine q_v (x := Instr.build 26 #[(0, .bool true)]) (v := .agg (List.toArray (([.bool true] : List Value) ++ ((u64s (List.replicate 4 0)) ++ (u64s (List.replicate 4 0)))))) En14 (Go.Dbr.run_built [(0, 1), (1, 4), (5, 4)] [⟨1, [.bool false], some (0, .bool true, [.bool true])⟩, ⟨4, u64s (List.replicate 4 0), none⟩, ⟨4, u64s (List.replicate 4 0), none⟩] (fb_y rfl rfl (fb_n (u64s_lenh (List.length_replicate)) (fb_n (u64s_lenh (List.length_replicate)) trivial))) _) fun ac15 En16 => ?_
  refine f_o ?_
  refine q_v (x := eqOp .eql 26 (.tmp 6) (.tmp 7) (.agg (List.toArray (([.bool z] : List Value) ++ ((u64s x) ++ (u64s y))))) (.agg (List.toArray (([.bool true] : List Value) ++ ((u64s (List.replicate 4 0)) ++ (u64s (List.replicate 4 0))))))) (v := .bool ((z == true) && ((x == (List.replicate 4 0)) && (y == (List.replicate 4 0))))) En16 (Go.Dbr.pnt_eqop (a := (.tmp 6)) (b := (.tmp 7)) isP hx hy (List.length_replicate) (List.length_replicate) _) fun ac17 En18 => ?_
  refine d_e [1,2] [] En18 fun ac19 En20 => ?_
  refine then_normal ?_
  refine wp_ret ?_
  refine then_ret ?_
  refine d_ret1 (t := 2) (v := .bool ((z == true) && ((x == (List.replicate 4 0)) && (y == (List.replicate 4 0))))) En20 (by kernel_rfl) (by kernel_rfl) ?_
  exact ⟨by simp only [onN, hc12, Bool.cond_true]; rfl, Hv5.pk []⟩
 ·
  replace hc12 : ¬ (z = true) := Bool.eq_false_iff.1 hc12
  refine wp_skip ?_
  refine then_normal ?_
  refine wp_seq ?_
  refine r_c (fun ac wo => ∃ (bk99 : Nat), Env ac 40 [(1, pt bk1), (2, .bool false), (3, pt bk99)] ∧ Ev w [] wo [.box bk1 (([.bool z] : List Value) ++ ((u64s x) ++ (u64s y))) 26, .box bk99 (u64s (nd (addM 2 (nv (nd (subM 2 (nv (nd (mulM 2 (nv (nd (mulM 2 (nv x) (nv x)))) (nv x)))) (nv (nd (thN (nv x))))))) (nv (nd bN))))) 24]) ?_ ?_
  ·
   refine s_g1 [(1, pt bk1), (2, .bool false)] [0,1,2,3,4,5,6,7,8,9,10,11,12,13] [(9, .pointer (some ⟨bk1, 1, none⟩)), (10, .agg (List.toArray (u64s x))), (11, .pointer (some ⟨bk1, 1, none⟩)), (12, .agg (List.toArray (u64s x))), (13, .agg (List.toArray (u64s (nd (mulM 2 (nv x) (nv x)))))), (14, .pointer (some ⟨bk1, 1, none⟩)), (15, .agg (List.toArray (u64s x))), (16, .agg (List.toArray (u64s (nd (mulM 2 (nv (nd (mulM 2 (nv x) (nv x)))) (nv x)))))), (17, .pointer (some ⟨bk1, 1, none⟩)), (18, .agg (List.toArray (u64s x))), (19, .agg (List.toArray (u64s (nd (thN (nv x)))))), (20, .agg (List.toArray (u64s (nd (subM 2 (nv (nd (mulM 2 (nv (nd (mulM 2 (nv x) (nv x)))) (nv x)))) (nv (nd (thN (nv x))))))))), (21, .agg (List.toArray (u64s (nd bN)))), (22, .agg (List.toArray (u64s (nd (addM 2 (nv (nd (subM 2 (nv (nd (mulM 2 (nv (nd (mulM 2 (nv x) (nv x)))) (nv x)))) (nv (nd (thN (nv x))))))) (nv (nd bN)))))))] 1 [(1, pt bk1), (2, .bool false), (22, .agg (List.toArray (u64s (nd (addM 2 (nv (nd (subM 2 (nv (nd (mulM 2 (nv (nd (mulM 2 (nv x) (nv x)))) (nv x)))) (nv (nd (thN (nv x))))))) (nv (nd bN)))))))] 14 (u64s (List.replicate 4 0)) (En11.sb) (Hv5.trans (Ev.drew Hv5.heap)) ?_ fun ac95 wo96 bk99 En97 Hv98 => ?_
   ·
    refine s_p [] ?_
    refine s_a 0 1 4 (u64s x) rfl (by simp [u64s_lenh hx, u64s_lenh hy, List.drop_append, List.take_append]) (u64s_lenh hx) ?_
    refine s_p [] ?_
    refine s_a 0 1 4 (u64s x) rfl (by simp [u64s_lenh hx, u64s_lenh hy, List.drop_append, List.take_append]) (u64s_lenh hx) ?_
    refine s_f (fun _ => pmul_go _ x x hx hx) ?_
    refine s_p [] ?_
    refine s_a 0 1 4 (u64s x) rfl (by simp [u64s_lenh hx, u64s_lenh hy, List.drop_append, List.take_append]) (u64s_lenh hx) ?_
    refine s_f (fun _ => pmul_go _ (nd (mulM 2 (nv x) (nv x))) x (nds_len _ _) hx) ?_
    refine s_p [] ?_
    refine s_a 0 1 4 (u64s x) rfl (by simp [u64s_lenh hx, u64s_lenh hy, List.drop_append, List.take_append]) (u64s_lenh hx) ?_
    refine s_f (fun _ => thrice_go _ x hx) ?_
    refine s_f (fun _ => pdif_go _ (nd (mulM 2 (nv (nd (mulM 2 (nv x) (nv x)))) (nv x))) (nd (thN (nv x))) (nds_len _ _) (nds_len _ _)) ?_
    refine s_f (fun _ => curveB_go _) ?_
    refine s_f (fun _ => psum_go _ (nd (subM 2 (nv (nd (mulM 2 (nv (nd (mulM 2 (nv x) (nv x)))) (nv x)))) (nv (nd (thN (nv x)))))) (nd bN) (nds_len _ _) (nds_len _ _)) ?_
    exact s_n
   refine q_u 15 ?_
   refine m_g 1 0 4 (u64s (nd (addM 2 (nv (nd (subM 2 (nv (nd (mulM 2 (nv (nd (mulM 2 (nv x) (nv x)))) (nv x)))) (nv (nd (thN (nv x))))))) (nv (nd bN))))) (u64s (nd (addM 2 (nv (nd (subM 2 (nv (nd (mulM 2 (nv (nd (mulM 2 (nv x) (nv x)))) (nv x)))) (nv (nd (thN (nv x))))))) (nv (nd bN))))) [.box bk1 (([.bool z] : List Value) ++ ((u64s x) ++ (u64s y))) 26, .box bk99 (u64s (nd (addM 2 (nv (nd (subM 2 (nv (nd (mulM 2 (nv (nd (mulM 2 (nv x) (nv x)))) (nv x)))) (nv (nd (thN (nv x))))))) (nv (nd bN))))) 24] En97 Hv98 rfl (u64s_lenh (nds_len _ _)) (by rw [(u64s_lenh (List.length_replicate))]; decide) (u64s_one _) (store_whole (u64s_lenh (List.length_replicate))) rfl fun ac104 wo105 En106 Hv107 => ?_
   exact a_e ⟨bk99, En106.sb, Hv107.pk [0, 1]⟩
  rintro ac108 wo109 ⟨bk99, En110, Hv111⟩
  refine then_normal ?_
  refine wp_seq ?_
  rcases Bool.eq_false_or_eq_true (decide (nv x < mF 2)) with hb112 | hb112
  ·
   have hb112p : nv x < mF 2 := of_decide_eq_true hb112
   rcases Bool.eq_false_or_eq_true (decide (nv y < mF 2)) with hb113 | hb113
   ·
    have hb113p : nv y < mF 2 := of_decide_eq_true hb113
    refine r_c (fun ac wo => Env ac 40 [(1, pt bk1), (2, .bool ((nd (mulM 2 (nv y) (nv y))) == (nd (addM 2 (nv (nd (subM 2 (nv (nd (mulM 2 (nv (nd (mulM 2 (nv x) (nv x)))) (nv x)))) (nv (nd (thN (nv x))))))) (nv (nd bN)))))), (3, pt bk99)] ∧ Ev w [] wo [.box bk1 (([.bool z] : List Value) ++ ((u64s x) ++ (u64s y))) 26, .box bk99 (u64s (nd (addM 2 (nv (nd (subM 2 (nv (nd (mulM 2 (nv (nd (mulM 2 (nv x) (nv x)))) (nv x)))) (nv (nd (thN (nv x))))))) (nv (nd bN))))) 24]) ?_ ?_
    ·
     refine s_g0 [(1, pt bk1), (2, .bool false), (3, pt bk99)] [0,1,2,3] [(23, .pointer (some ⟨bk1, 1, none⟩)), (24, .agg (List.toArray (u64s x))), (25, .bool (decide (nv x < mF 2))), (26, .bool (decide (nv x < mF 2)))] 14 [(1, pt bk1), (2, .bool false), (3, pt bk99), (26, .bool (decide (nv x < mF 2)))] (En110.sb) (Hv111.trans (Ev.drew Hv111.heap)) ?_ fun ac128 wo129 En130 Hv131 => ?_
     ·
      refine s_p [] ?_
      refine s_a 0 1 4 (u64s x) rfl (by simp [u64s_lenh hx, u64s_lenh hy, List.drop_append, List.take_append]) (u64s_lenh hx) ?_
      refine s_f (fun _ => rightq_go _ 2 x hx) ?_
      refine s_p [] ?_
      exact s_n
     refine any_name fun G hG => ?_
     have nd221 : ∀ (ac : Act) (wo : World), Env ac 40 [(1, pt bk1), (2, .bool false), (3, pt bk99), (31, .bool true), (36, .agg (List.toArray (u64s (nd (mulM 2 (nv y) (nv y))))))] → Ev w [] wo [.box bk1 (([.bool z] : List Value) ++ ((u64s x) ++ (u64s y))) 26, .box bk99 (u64s (nd (addM 2 (nv (nd (subM 2 (nv (nd (mulM 2 (nv (nd (mulM 2 (nv x) (nv x)))) (nv x)))) (nv (nd (thN (nv x))))))) (nv (nd bN))))) 24] → G 4 #[true, true, true, true, true, true, true, true, true, true, true, true, true, true, false, false, false, false] ac wo := by
      intro ac222 wo223 En224 Hv225
      refine any_from hG ?_
      refine q_u 14 ?_
      refine m_a 1 0 4 (u64s (nd (addM 2 (nv (nd (subM 2 (nv (nd (mulM 2 (nv (nd (mulM 2 (nv x) (nv x)))) (nv x)))) (nv (nd (thN (nv x))))))) (nv (nd bN))))) En224 Hv225 rfl (load_whole (u64s_lenh (nds_len _ _))) (u64s_lenh (nds_len _ _)) fun ac226 En227 => ?_
      refine q_g 15 (s := eqOp .eql 24 (.tmp 36) (.tmp 37) (.agg (List.toArray (u64s (nd (mulM 2 (nv y) (nv y)))))) (.agg (List.toArray (u64s (nd (addM 2 (nv (nd (subM 2 (nv (nd (mulM 2 (nv (nd (mulM 2 (nv x) (nv x)))) (nv x)))) (nv (nd (thN (nv x))))))) (nv (nd bN)))))))) (v := .bool ((nd (mulM 2 (nv y) (nv y))) == (nd (addM 2 (nv (nd (subM 2 (nv (nd (mulM 2 (nv (nd (mulM 2 (nv x) (nv x)))) (nv x)))) (nv (nd (thN (nv x))))))) (nv (nd bN)))))) En227 (fun _ => Go.Dbr.u64s_eqop (a := (.tmp 36)) (b := (.tmp 37)) (e := 22) (m := 4) (by kernel_rfl) (by kernel_rfl) (by kernel_rfl) (by kernel_rfl) (by kernel_rfl) (nds_len _ _) (nds_len _ _) _) fun ac228 En229 => ?_
      refine q_a [16,17] [] 0 En229 fun ac230 En231 => ?_
      exact a_e ⟨En231.sb, Hv225.pk [0, 1]⟩
     have nd232 : ∀ (ac : Act) (wo : World), Env ac 40 [(1, pt bk1), (2, .bool false), (3, pt bk99), (31, .bool true), (33, .agg (List.toArray (u64s y))), (35, .agg (List.toArray (u64s y))), (37, .agg (List.toArray (u64s (nd (addM 2 (nv (nd (subM 2 (nv (nd (mulM 2 (nv (nd (mulM 2 (nv x) (nv x)))) (nv x)))) (nv (nd (thN (nv x))))))) (nv (nd bN)))))))] → Ev w [] wo [.box bk1 (([.bool z] : List Value) ++ ((u64s x) ++ (u64s y))) 26, .box bk99 (u64s (nd (addM 2 (nv (nd (subM 2 (nv (nd (mulM 2 (nv (nd (mulM 2 (nv x) (nv x)))) (nv x)))) (nv (nd (thN (nv x))))))) (nv (nd bN))))) 24] → G 4 #[true, true, true, true, true, true, true, true, true, true, true, true, true, false, true, false, false, false] ac wo := by
      intro ac233 wo234 En235 Hv236
      refine any_from hG ?_
      refine q_u 13 ?_
      refine c_p En235 Hv236 (pmul_go _ y y hy hy) fun ac241 wo238 En242 Hv243 => ?_
      refine q_g 15 (s := eqOp .eql 24 (.tmp 36) (.tmp 37) (.agg (List.toArray (u64s (nd (mulM 2 (nv y) (nv y)))))) (.agg (List.toArray (u64s (nd (addM 2 (nv (nd (subM 2 (nv (nd (mulM 2 (nv (nd (mulM 2 (nv x) (nv x)))) (nv x)))) (nv (nd (thN (nv x))))))) (nv (nd bN)))))))) (v := .bool ((nd (mulM 2 (nv y) (nv y))) == (nd (addM 2 (nv (nd (subM 2 (nv (nd (mulM 2 (nv (nd (mulM 2 (nv x) (nv x)))) (nv x)))) (nv (nd (thN (nv x))))))) (nv (nd bN)))))) En242 (fun _ => Go.Dbr.u64s_eqop (a := (.tmp 36)) (b := (.tmp 37)) (e := 22) (m := 4) (by kernel_rfl) (by kernel_rfl) (by kernel_rfl) (by kernel_rfl) (by kernel_rfl) (nds_len _ _) (nds_len _ _) _) fun ac244 En245 => ?_
      refine q_a [16,17] [] 0 En245 fun ac246 En247 => ?_
      exact a_e ⟨En247.sb, Hv243.pk [0, 1]⟩
     have nd248 : ∀ (ac : Act) (wo : World), Env ac 40 [(1, pt bk1), (2, .bool false), (3, pt bk99), (31, .bool true), (33, .agg (List.toArray (u64s y))), (35, .agg (List.toArray (u64s y)))] → Ev w [] wo [.box bk1 (([.bool z] : List Value) ++ ((u64s x) ++ (u64s y))) 26, .box bk99 (u64s (nd (addM 2 (nv (nd (subM 2 (nv (nd (mulM 2 (nv (nd (mulM 2 (nv x) (nv x)))) (nv x)))) (nv (nd (thN (nv x))))))) (nv (nd bN))))) 24] → G 5 #[true, true, true, true, true, true, true, true, true, true, true, true, true, false, false, false, false, false] ac wo := by
      intro ac249 wo250 En251 Hv252
      refine any_from hG ?_
      refine any_two 13 14 (by kernel_rfl) ?_ ?_
      ·
       rintro _ rfl
       refine c_p En251 Hv252 (pmul_go _ y y hy hy) fun ac257 wo254 En258 Hv259 => ?_
       exact any_to hG (by kernel_rfl) (nd221 _ _ (En258.sb) (Hv259.pk [0, 1]))
      ·
       rintro _ rfl
       refine m_a 1 0 4 (u64s (nd (addM 2 (nv (nd (subM 2 (nv (nd (mulM 2 (nv (nd (mulM 2 (nv x) (nv x)))) (nv x)))) (nv (nd (thN (nv x))))))) (nv (nd bN))))) En251 Hv252 rfl (load_whole (u64s_lenh (nds_len _ _))) (u64s_lenh (nds_len _ _)) fun ac260 En261 => ?_
       exact any_to hG (by kernel_rfl) (nd232 _ _ (En261.sb) (Hv252.pk [0, 1]))
     have nd262 : ∀ (ac : Act) (wo : World), Env ac 40 [(1, pt bk1), (2, .bool false), (3, pt bk99), (31, .bool true), (33, .agg (List.toArray (u64s y))), (34, .pointer (some ⟨bk1, 5, none⟩)), (37, .agg (List.toArray (u64s (nd (addM 2 (nv (nd (subM 2 (nv (nd (mulM 2 (nv (nd (mulM 2 (nv x) (nv x)))) (nv x)))) (nv (nd (thN (nv x))))))) (nv (nd bN)))))))] → Ev w [] wo [.box bk1 (([.bool z] : List Value) ++ ((u64s x) ++ (u64s y))) 26, .box bk99 (u64s (nd (addM 2 (nv (nd (subM 2 (nv (nd (mulM 2 (nv (nd (mulM 2 (nv x) (nv x)))) (nv x)))) (nv (nd (thN (nv x))))))) (nv (nd bN))))) 24] → G 5 #[true, true, true, true, true, true, true, true, true, true, true, true, false, false, true, false, false, false] ac wo := by
      intro ac263 wo264 En265 Hv266
      refine any_from hG ?_
      refine q_u 12 ?_
      refine m_a 0 5 4 (u64s y) En265 Hv266 rfl (by simp [u64s_lenh hx, u64s_lenh hy, List.drop_append, List.take_append, List.take_of_length_le]) (u64s_lenh hy) fun ac267 En268 => ?_
      refine q_u 13 ?_
      refine c_p En268 Hv266 (pmul_go _ y y hy hy) fun ac273 wo270 En274 Hv275 => ?_
      refine q_g 15 (s := eqOp .eql 24 (.tmp 36) (.tmp 37) (.agg (List.toArray (u64s (nd (mulM 2 (nv y) (nv y)))))) (.agg (List.toArray (u64s (nd (addM 2 (nv (nd (subM 2 (nv (nd (mulM 2 (nv (nd (mulM 2 (nv x) (nv x)))) (nv x)))) (nv (nd (thN (nv x))))))) (nv (nd bN)))))))) (v := .bool ((nd (mulM 2 (nv y) (nv y))) == (nd (addM 2 (nv (nd (subM 2 (nv (nd (mulM 2 (nv (nd (mulM 2 (nv x) (nv x)))) (nv x)))) (nv (nd (thN (nv x))))))) (nv (nd bN)))))) En274 (fun _ => Go.Dbr.u64s_eqop (a := (.tmp 36)) (b := (.tmp 37)) (e := 22) (m := 4) (by kernel_rfl) (by kernel_rfl) (by kernel_rfl) (by kernel_rfl) (by kernel_rfl) (nds_len _ _) (nds_len _ _) _) fun ac276 En277 => ?_
      refine q_a [16,17] [] 0 En277 fun ac278 En279 => ?_
      exact a_e ⟨En279.sb, Hv275.pk [0, 1]⟩
     have nd280 : ∀ (ac : Act) (wo : World), Env ac 40 [(1, pt bk1), (2, .bool false), (3, pt bk99), (31, .bool true), (32, .pointer (some ⟨bk1, 5, none⟩)), (35, .agg (List.toArray (u64s y))), (37, .agg (List.toArray (u64s (nd (addM 2 (nv (nd (subM 2 (nv (nd (mulM 2 (nv (nd (mulM 2 (nv x) (nv x)))) (nv x)))) (nv (nd (thN (nv x))))))) (nv (nd bN)))))))] → Ev w [] wo [.box bk1 (([.bool z] : List Value) ++ ((u64s x) ++ (u64s y))) 26, .box bk99 (u64s (nd (addM 2 (nv (nd (subM 2 (nv (nd (mulM 2 (nv (nd (mulM 2 (nv x) (nv x)))) (nv x)))) (nv (nd (thN (nv x))))))) (nv (nd bN))))) 24] → G 5 #[true, true, true, true, true, true, true, true, true, true, false, true, true, false, true, false, false, false] ac wo := by
      intro ac281 wo282 En283 Hv284
      refine any_from hG ?_
      refine q_u 10 ?_
      refine m_a 0 5 4 (u64s y) En283 Hv284 rfl (by simp [u64s_lenh hx, u64s_lenh hy, List.drop_append, List.take_append, List.take_of_length_le]) (u64s_lenh hy) fun ac285 En286 => ?_
      refine q_u 13 ?_
      refine c_p En286 Hv284 (pmul_go _ y y hy hy) fun ac291 wo288 En292 Hv293 => ?_
      refine q_g 15 (s := eqOp .eql 24 (.tmp 36) (.tmp 37) (.agg (List.toArray (u64s (nd (mulM 2 (nv y) (nv y)))))) (.agg (List.toArray (u64s (nd (addM 2 (nv (nd (subM 2 (nv (nd (mulM 2 (nv (nd (mulM 2 (nv x) (nv x)))) (nv x)))) (nv (nd (thN (nv x))))))) (nv (nd bN)))))))) (v := .bool ((nd (mulM 2 (nv y) (nv y))) == (nd (addM 2 (nv (nd (subM 2 (nv (nd (mulM 2 (nv (nd (mulM 2 (nv x) (nv x)))) (nv x)))) (nv (nd (thN (nv x))))))) (nv (nd bN)))))) En292 (fun _ => Go.Dbr.u64s_eqop (a := (.tmp 36)) (b := (.tmp 37)) (e := 22) (m := 4) (by kernel_rfl) (by kernel_rfl) (by kernel_rfl) (by kernel_rfl) (by kernel_rfl) (nds_len _ _) (nds_len _ _) _) fun ac294 En295 => ?_
      refine q_a [16,17] [] 0 En295 fun ac296 En297 => ?_
      exact a_e ⟨En297.sb, Hv293.pk [0, 1]⟩
     have nd298 : ∀ (ac : Act) (wo : World), Env ac 40 [(1, pt bk1), (2, .bool false), (3, pt bk99), (31, .bool true), (33, .agg (List.toArray (u64s y))), (34, .pointer (some ⟨bk1, 5, none⟩))] → Ev w [] wo [.box bk1 (([.bool z] : List Value) ++ ((u64s x) ++ (u64s y))) 26, .box bk99 (u64s (nd (addM 2 (nv (nd (subM 2 (nv (nd (mulM 2 (nv (nd (mulM 2 (nv x) (nv x)))) (nv x)))) (nv (nd (thN (nv x))))))) (nv (nd bN))))) 24] → G 6 #[true, true, true, true, true, true, true, true, true, true, true, true, false, false, false, false, false, false] ac wo := by
      intro ac299 wo300 En301 Hv302
      refine any_from hG ?_
      refine any_two 12 14 (by kernel_rfl) ?_ ?_
      ·
       rintro _ rfl
       refine m_a 0 5 4 (u64s y) En301 Hv302 rfl (by simp [u64s_lenh hx, u64s_lenh hy, List.drop_append, List.take_append, List.take_of_length_le]) (u64s_lenh hy) fun ac303 En304 => ?_
       exact any_to hG (by kernel_rfl) (nd248 _ _ (En304.sb) (Hv302.pk [0, 1]))
      ·
       rintro _ rfl
       refine m_a 1 0 4 (u64s (nd (addM 2 (nv (nd (subM 2 (nv (nd (mulM 2 (nv (nd (mulM 2 (nv x) (nv x)))) (nv x)))) (nv (nd (thN (nv x))))))) (nv (nd bN))))) En301 Hv302 rfl (load_whole (u64s_lenh (nds_len _ _))) (u64s_lenh (nds_len _ _)) fun ac305 En306 => ?_
       exact any_to hG (by kernel_rfl) (nd262 _ _ (En306.sb) (Hv302.pk [0, 1]))
     have nd307 : ∀ (ac : Act) (wo : World), Env ac 40 [(1, pt bk1), (2, .bool false), (3, pt bk99), (31, .bool true), (32, .pointer (some ⟨bk1, 5, none⟩)), (35, .agg (List.toArray (u64s y)))] → Ev w [] wo [.box bk1 (([.bool z] : List Value) ++ ((u64s x) ++ (u64s y))) 26, .box bk99 (u64s (nd (addM 2 (nv (nd (subM 2 (nv (nd (mulM 2 (nv (nd (mulM 2 (nv x) (nv x)))) (nv x)))) (nv (nd (thN (nv x))))))) (nv (nd bN))))) 24] → G 6 #[true, true, true, true, true, true, true, true, true, true, false, true, true, false, false, false, false, false] ac wo := by
      intro ac308 wo309 En310 Hv311
      refine any_from hG ?_
      refine any_two 10 14 (by kernel_rfl) ?_ ?_
      ·
       rintro _ rfl
       refine m_a 0 5 4 (u64s y) En310 Hv311 rfl (by simp [u64s_lenh hx, u64s_lenh hy, List.drop_append, List.take_append, List.take_of_length_le]) (u64s_lenh hy) fun ac312 En313 => ?_
       exact any_to hG (by kernel_rfl) (nd248 _ _ (En313.sb) (Hv311.pk [0, 1]))
      ·
       rintro _ rfl
       refine m_a 1 0 4 (u64s (nd (addM 2 (nv (nd (subM 2 (nv (nd (mulM 2 (nv (nd (mulM 2 (nv x) (nv x)))) (nv x)))) (nv (nd (thN (nv x))))))) (nv (nd bN))))) En310 Hv311 rfl (load_whole (u64s_lenh (nds_len _ _))) (u64s_lenh (nds_len _ _)) fun ac314 En315 => ?_
       exact any_to hG (by kernel_rfl) (nd280 _ _ (En315.sb) (Hv311.pk [0, 1]))
     have nd316 : ∀ (ac : Act) (wo : World), Env ac 40 [(1, pt bk1), (2, .bool false), (3, pt bk99), (31, .bool true), (32, .pointer (some ⟨bk1, 5, none⟩)), (34, .pointer (some ⟨bk1, 5, none⟩)), (37, .agg (List.toArray (u64s (nd (addM 2 (nv (nd (subM 2 (nv (nd (mulM 2 (nv (nd (mulM 2 (nv x) (nv x)))) (nv x)))) (nv (nd (thN (nv x))))))) (nv (nd bN)))))))] → Ev w [] wo [.box bk1 (([.bool z] : List Value) ++ ((u64s x) ++ (u64s y))) 26, .box bk99 (u64s (nd (addM 2 (nv (nd (subM 2 (nv (nd (mulM 2 (nv (nd (mulM 2 (nv x) (nv x)))) (nv x)))) (nv (nd (thN (nv x))))))) (nv (nd bN))))) 24] → G 6 #[true, true, true, true, true, true, true, true, true, true, false, true, false, false, true, false, false, false] ac wo := by
      intro ac317 wo318 En319 Hv320
      refine any_from hG ?_
      refine any_two 10 12 (by kernel_rfl) ?_ ?_
      ·
       rintro _ rfl
       refine m_a 0 5 4 (u64s y) En319 Hv320 rfl (by simp [u64s_lenh hx, u64s_lenh hy, List.drop_append, List.take_append, List.take_of_length_le]) (u64s_lenh hy) fun ac321 En322 => ?_
       exact any_to hG (by kernel_rfl) (nd262 _ _ (En322.sb) (Hv320.pk [0, 1]))
      ·
       rintro _ rfl
       refine m_a 0 5 4 (u64s y) En319 Hv320 rfl (by simp [u64s_lenh hx, u64s_lenh hy, List.drop_append, List.take_append, List.take_of_length_le]) (u64s_lenh hy) fun ac323 En324 => ?_
       exact any_to hG (by kernel_rfl) (nd280 _ _ (En324.sb) (Hv320.pk [0, 1]))
     refine any_from hG ?_
     have En325 := En130.fx (t := 26) (congrArg Value.bool hb112)
     refine q_a [4] [] 13 En325 fun ac326 En327 => ?_
     refine q_u 5 ?_
     refine m_a 0 5 4 (u64s y) En327 Hv131 rfl (by simp [u64s_lenh hx, u64s_lenh hy, List.drop_append, List.take_append, List.take_of_length_le]) (u64s_lenh hy) fun ac328 En329 => ?_
     refine q_u 6 ?_
     refine c_p En329 Hv131 (rightq_go _ 2 y hy) fun ac334 wo331 En335 Hv336 => ?_
     refine q_a [7,8] [] 9 En335 fun ac337 En338 => ?_
     have En339 := En338.fx (t := 29) (congrArg Value.bool hb113)
     have En340 := En339.fx (t := 30) (congrArg Value.bool hb113)
     have En341 := En340.fx (t := 31) (congrArg Value.bool hb113)
     refine q_a [9,11] [] 7 En341 fun ac342 En343 => ?_
     refine any_ways [10, 12, 14] (by kernel_rfl) rfl ?_
     refine ⟨?_, ?_, ?_, trivial⟩
     ·
      rintro _ rfl
      refine m_a 0 5 4 (u64s y) En343 Hv336 rfl (by simp [u64s_lenh hx, u64s_lenh hy, List.drop_append, List.take_append, List.take_of_length_le]) (u64s_lenh hy) fun ac344 En345 => ?_
      exact any_to hG (by kernel_rfl) (nd298 _ _ (En345.sb) (Hv336.pk [0, 1]))
     ·
      rintro _ rfl
      refine m_a 0 5 4 (u64s y) En343 Hv336 rfl (by simp [u64s_lenh hx, u64s_lenh hy, List.drop_append, List.take_append, List.take_of_length_le]) (u64s_lenh hy) fun ac346 En347 => ?_
      exact any_to hG (by kernel_rfl) (nd307 _ _ (En347.sb) (Hv336.pk [0, 1]))
     ·
      rintro _ rfl
      refine m_a 1 0 4 (u64s (nd (addM 2 (nv (nd (subM 2 (nv (nd (mulM 2 (nv (nd (mulM 2 (nv x) (nv x)))) (nv x)))) (nv (nd (thN (nv x))))))) (nv (nd bN))))) En343 Hv336 rfl (load_whole (u64s_lenh (nds_len _ _))) (u64s_lenh (nds_len _ _)) fun ac348 En349 => ?_
      exact any_to hG (by kernel_rfl) (nd316 _ _ (En349.sb) (Hv336.pk [0, 1]))
    rintro ac350 wo351 ⟨En352, Hv353⟩
    refine then_normal ?_
    refine wp_ret ?_
    refine d_ret1 (t := 2) (v := .bool ((nd (mulM 2 (nv y) (nv y))) == (nd (addM 2 (nv (nd (subM 2 (nv (nd (mulM 2 (nv (nd (mulM 2 (nv x) (nv x)))) (nv x)))) (nv (nd (thN (nv x))))))) (nv (nd bN)))))) En352 (by kernel_rfl) (by kernel_rfl) ?_
    have g0 : z = false := by simpa using hc12
    exact ⟨by simp only [onN, g0, Bool.cond_false, hb112, hb113, Bool.true_and, Bool.false_and, Bool.and_false, nv_m2, nv_s2, nv_th, nv_b], Hv353.pk []⟩
   ·
    have hb113p : ¬ (nv y < mF 2) := of_decide_eq_false hb113
    refine r_c (fun ac wo => Env ac 40 [(1, pt bk1), (2, .bool false), (3, pt bk99)] ∧ Ev w [] wo [.box bk1 (([.bool z] : List Value) ++ ((u64s x) ++ (u64s y))) 26, .box bk99 (u64s (nd (addM 2 (nv (nd (subM 2 (nv (nd (mulM 2 (nv (nd (mulM 2 (nv x) (nv x)))) (nv x)))) (nv (nd (thN (nv x))))))) (nv (nd bN))))) 24]) ?_ ?_
    ·
     refine s_g0 [(1, pt bk1), (2, .bool false), (3, pt bk99)] [0,1,2,3] [(23, .pointer (some ⟨bk1, 1, none⟩)), (24, .agg (List.toArray (u64s x))), (25, .bool (decide (nv x < mF 2))), (26, .bool (decide (nv x < mF 2)))] 14 [(1, pt bk1), (2, .bool false), (3, pt bk99), (26, .bool (decide (nv x < mF 2)))] (En110.sb) (Hv111.trans (Ev.drew Hv111.heap)) ?_ fun ac368 wo369 En370 Hv371 => ?_
     ·
      refine s_p [] ?_
      refine s_a 0 1 4 (u64s x) rfl (by simp [u64s_lenh hx, u64s_lenh hy, List.drop_append, List.take_append]) (u64s_lenh hx) ?_
      refine s_f (fun _ => rightq_go _ 2 x hx) ?_
      refine s_p [] ?_
      exact s_n
     have En391 := En370.fx (t := 26) (congrArg Value.bool hb112)
     refine q_a [4] [] 13 En391 fun ac392 En393 => ?_
     refine q_u 5 ?_
     refine m_a 0 5 4 (u64s y) En393 Hv371 rfl (by simp [u64s_lenh hx, u64s_lenh hy, List.drop_append, List.take_append, List.take_of_length_le]) (u64s_lenh hy) fun ac394 En395 => ?_
     refine q_u 6 ?_
     refine c_p En395 Hv371 (rightq_go _ 2 y hy) fun ac400 wo397 En401 Hv402 => ?_
     refine q_a [7,8] [] 9 En401 fun ac403 En404 => ?_
     have En405 := En404.fx (t := 29) (congrArg Value.bool hb113)
     have En406 := En405.fx (t := 30) (congrArg Value.bool hb113)
     have En407 := En406.fx (t := 31) (congrArg Value.bool hb113)
     refine q_a [9,10,11,12,13,14,15,16,17] [] 0 En407 fun ac408 En409 => ?_
     exact a_e ⟨En409.sb, Hv402.pk [0, 1]⟩
    rintro ac410 wo411 ⟨En412, Hv413⟩
    refine then_normal ?_
    refine wp_ret ?_
    refine d_ret1 (t := 2) (v := .bool false) En412 (by kernel_rfl) (by kernel_rfl) ?_
    have g0 : z = false := by simpa using hc12
    exact ⟨by simp only [onN, g0, Bool.cond_false, hb112, hb113, Bool.true_and, Bool.false_and, Bool.and_false, nv_m2, nv_s2, nv_th, nv_b], Hv413.pk []⟩
  ·
   have hb112p : ¬ (nv x < mF 2) := of_decide_eq_false hb112
   refine r_c (fun ac wo => Env ac 40 [(1, pt bk1), (2, .bool false), (3, pt bk99)] ∧ Ev w [] wo [.box bk1 (([.bool z] : List Value) ++ ((u64s x) ++ (u64s y))) 26, .box bk99 (u64s (nd (addM 2 (nv (nd (subM 2 (nv (nd (mulM 2 (nv (nd (mulM 2 (nv x) (nv x)))) (nv x)))) (nv (nd (thN (nv x))))))) (nv (nd bN))))) 24]) ?_ ?_
   ·
    refine s_g0 [(1, pt bk1), (2, .bool false), (3, pt bk99)] [0,1,2,3] [(23, .pointer (some ⟨bk1, 1, none⟩)), (24, .agg (List.toArray (u64s x))), (25, .bool (decide (nv x < mF 2))), (26, .bool (decide (nv x < mF 2)))] 14 [(1, pt bk1), (2, .bool false), (3, pt bk99), (26, .bool (decide (nv x < mF 2)))] (En110.sb) (Hv111.trans (Ev.drew Hv111.heap)) ?_ fun ac428 wo429 En430 Hv431 => ?_
    ·
     refine s_p [] ?_
     refine s_a 0 1 4 (u64s x) rfl (by simp [u64s_lenh hx, u64s_lenh hy, List.drop_append, List.take_append]) (u64s_lenh hx) ?_
     refine s_f (fun _ => rightq_go _ 2 x hx) ?_
     refine s_p [] ?_
     exact s_n
    have En435 := En430.fx (t := 26) (congrArg Value.bool hb112)
    refine q_a [4,5,6,7,8,9,10,11,12,13,14,15,16,17] [] 0 En435 fun ac436 En437 => ?_
    exact a_e ⟨En437.sb, Hv431.pk [0, 1]⟩
   rintro ac438 wo439 ⟨En440, Hv441⟩
   refine then_normal ?_
   refine wp_ret ?_
   refine d_ret1 (t := 2) (v := .bool false) En440 (by kernel_rfl) (by kernel_rfl) ?_
   have g0 : z = false := by simpa using hc12
   exact ⟨by simp only [onN, g0, Bool.cond_false, hb112, Bool.true_and, Bool.false_and, Bool.and_false, nv_m2, nv_s2, nv_th, nv_b], Hv441.pk []⟩

theorem zero_go (w : World) : Calls Try.prog 57 #[] w fun e w' => e = .returned (.agg (List.toArray ((u64s (List.replicate 4 0)) ++ ((u64s ([1, 0, 0, 0] : List UInt64)) ++ (u64s (List.replicate 4 0)))))) ∧ Ev w [] w' [] := by
 refine d_0 [] 3 Go.Proofs.Try.func57 Go.Proofs.Try.ntmps57 (Heap.nil _) fun act0 En0 Hv0 => ?_
 refine wp_seq ?_
 refine region_from ?_
 refine f_o ?_
 refine m_z 52 ((u64s (List.replicate 4 0)) ++ ((u64s (List.replicate 4 0)) ++ (u64s (List.replicate 4 0)))) En0 Hv0 fun ac2 wo3 bk1 En4 Hv5 => ?_
 refine f_e ?_
 refine then_normal ?_
 refine wp_seq ?_
 refine region_from ?_
 refine d_k [0,1] [] 1 En4 fun ac6 En7 => ?_
 refine f_o ?_
 refine q_v (x := Instr.build 52 #[(1, .agg (List.toArray (u64s ([1, 0, 0, 0] : List UInt64))))]) (v := .agg (List.toArray ((u64s (List.replicate 4 0)) ++ ((u64s ([1, 0, 0, 0] : List UInt64)) ++ (u64s (List.replicate 4 0)))))) En7 (Go.Dbr.run_built [(0, 4), (4, 4), (8, 4)] [⟨4, u64s (List.replicate 4 0), none⟩, ⟨4, u64s (List.replicate 4 0), some (1, .agg (List.toArray (u64s ([1, 0, 0, 0] : List UInt64))), u64s ([1, 0, 0, 0] : List UInt64))⟩, ⟨4, u64s (List.replicate 4 0), none⟩] (fb_n (u64s_lenh (List.length_replicate)) (fb_y (u64s_lenh (List.length_replicate)) (u64s_lenh (show List.length ([1, 0, 0, 0] : List UInt64) = 4 from rfl)) (fb_n (u64s_lenh (List.length_replicate)) trivial))) _) fun ac8 En9 => ?_
 refine f_o ?_
 refine m_g 0 0 12 ((u64s (List.replicate 4 0)) ++ ((u64s ([1, 0, 0, 0] : List UInt64)) ++ (u64s (List.replicate 4 0)))) ((u64s (List.replicate 4 0)) ++ ((u64s ([1, 0, 0, 0] : List UInt64)) ++ (u64s (List.replicate 4 0)))) [.box bk1 ((u64s (List.replicate 4 0)) ++ ((u64s ([1, 0, 0, 0] : List UInt64)) ++ (u64s (List.replicate 4 0)))) 52] En9 Hv5 rfl (len_app (u64s_lenh (List.length_replicate)) (len_app (u64s_lenh (show List.length ([1, 0, 0, 0] : List UInt64) = 4 from rfl)) (u64s_lenh (List.length_replicate)))) (by rw [(len_app (u64s_lenh (List.length_replicate)) (len_app (u64s_lenh (List.length_replicate)) (u64s_lenh (List.length_replicate))))]; decide) (one_app (u64s_one _) (one_app (u64s_one _) (u64s_one _))) (store_whole (len_app (u64s_lenh (List.length_replicate)) (len_app (u64s_lenh (List.length_replicate)) (u64s_lenh (List.length_replicate))))) rfl fun ac10 wo11 En12 Hv13 => ?_
 refine f_e ?_
 refine then_normal ?_
 refine wp_ret ?_
 refine d_cell1 (v := .agg (List.toArray ((u64s (List.replicate 4 0)) ++ ((u64s ([1, 0, 0, 0] : List UInt64)) ++ (u64s (List.replicate 4 0)))))) (t := 0) (T := 52) (ad := ⟨bk1, 0, none⟩) En12 (by kernel_rfl) (by kernel_rfl) (Ev.cellAgg (t := 52) (k := 0) (off := 0) (m := 12) (xs := (u64s (List.replicate 4 0)) ++ ((u64s ([1, 0, 0, 0] : List UInt64)) ++ (u64s (List.replicate 4 0)))) Hv13 rfl (load_whole (len_app (u64s_lenh (List.length_replicate)) (len_app (u64s_lenh (show List.length ([1, 0, 0, 0] : List UInt64) = 4 from rfl)) (u64s_lenh (List.length_replicate))))) (len_app (u64s_lenh (List.length_replicate)) (len_app (u64s_lenh (show List.length ([1, 0, 0, 0] : List UInt64) = 4 from rfl)) (u64s_lenh (List.length_replicate)))) (by kernel_rfl) (by kernel_rfl)) ?_
 exact ⟨by first | rfl | kernel_rfl, Hv13.pk []⟩

abbrev L4 := List UInt64
def oX (z : Bool) (x : L4) : L4 := bif z then List.replicate 4 0 else x
def oY (z : Bool) (y : L4) : L4 := bif z then [1, 0, 0, 0] else y
def oZ (z : Bool) : L4 := bif z then List.replicate 4 0 else [1, 0, 0, 0]
theorem oX_len {z : Bool} {x : L4} (h : x.length = 4) : (oX z x).length = 4 := by cases z <;> first | exact h | rfl
theorem oY_len {z : Bool} {x : L4} (h : x.length = 4) : (oY z x).length = 4 := by cases z <;> first | exact h | rfl
theorem oZ_len {z : Bool} : (oZ z).length = 4 := by cases z <;> rfl
/-- the inverse, as the program reckons it -/
def ivN (z : Nat) : Nat := powM 2 z (mF 2 - 2)
def bZ (z : L4) : Bool := z == List.replicate 4 0
def bX (x z : L4) : L4 := bif z == List.replicate 4 0 then List.replicate 4 0 else nd (mulM 2 (nv x) (ivN (nv z)))
theorem bX_len {x z : L4} : (bX x z).length = 4 := by
  unfold bX
  cases (z == List.replicate 4 0) with
  | true => rfl
  | false => exact nds_len _ _

theorem nv_pow2 (x e : Nat) : nv (nd (powM 2 x e)) = powM 2 x e := nv_pow h2f x e

theorem of_go (w : World) (z : Bool) (x y : List UInt64) (hx : List.length x = 4) (hy : List.length y = 4) : Calls Try.prog 28 #[.agg (List.toArray (([.bool z] : List Value) ++ ((u64s x) ++ (u64s y))))] w fun e w' => e = .returned (.agg (List.toArray ((u64s (oX z x)) ++ ((u64s (oY z y)) ++ (u64s (oZ z)))))) ∧ Ev w [] w' [] := by
 refine d_0 [(0, .agg (List.toArray (([.bool z] : List Value) ++ ((u64s x) ++ (u64s y)))))] 12 Go.Proofs.Try.func28 Go.Proofs.Try.ntmps28 (Heap.nil _) fun act0 En0 Hv0 => ?_
 refine wp_seq ?_
 refine region_from ?_
 refine f_o ?_
 refine m_m 26 (([.bool z] : List Value) ++ ((u64s x) ++ (u64s y))) En0 Hv0 fun ac2 wo3 bk1 En4 Hv5 => ?_
 refine f_o ?_
 refine m_z 52 ((u64s (List.replicate 4 0)) ++ ((u64s (List.replicate 4 0)) ++ (u64s (List.replicate 4 0)))) En4 Hv5 fun ac7 wo8 bk6 En9 Hv10 => ?_
 refine f_e ?_
 refine then_normal ?_
 refine wp_seq ?_
 refine wp_seq ?_
 refine region_from ?_
 refine d_k [1,2,3] [] 1 En9 fun ac11 En12 => ?_
 refine f_o ?_
 refine m_v 0 0 (.bool z) En12 Hv10 rfl (seg_in rfl) fun ac13 En14 => ?_
 refine f_e ?_
 refine then_normal ?_
 refine cond_at En14 (t := z) (by kernel_rfl) (fun hc15 => ?_) (fun hc15 => ?_)
 ·
  replace hc15 : z = true := hc15
  refine wp_seq ?_
  refine region_from ?_
  refine f_o ?_
  refine c_p En14 Hv10 (zero_go _) fun ac20 wo17 En21 Hv22 => ?_
  refine f_o ?_
  refine m_g 1 0 12 ((u64s (List.replicate 4 0)) ++ ((u64s ([1, 0, 0, 0] : List UInt64)) ++ (u64s (List.replicate 4 0)))) ((u64s (List.replicate 4 0)) ++ ((u64s ([1, 0, 0, 0] : List UInt64)) ++ (u64s (List.replicate 4 0)))) [.box bk1 (([.bool z] : List Value) ++ ((u64s x) ++ (u64s y))) 26, .box bk6 ((u64s (List.replicate 4 0)) ++ ((u64s ([1, 0, 0, 0] : List UInt64)) ++ (u64s (List.replicate 4 0)))) 52] En21 Hv22 rfl (len_app (u64s_lenh (List.length_replicate ..)) (len_app (u64s_lenh (show List.length ([1, 0, 0, 0] : List UInt64) = 4 from rfl)) (u64s_lenh (List.length_replicate ..)))) (by rw [(len_app (u64s_lenh (List.length_replicate)) (len_app (u64s_lenh (List.length_replicate)) (u64s_lenh (List.length_replicate))))]; decide) (one_app (u64s_one _) (one_app (u64s_one _) (u64s_one _))) (store_whole (len_app (u64s_lenh (List.length_replicate)) (len_app (u64s_lenh (List.length_replicate)) (u64s_lenh (List.length_replicate))))) rfl fun ac23 wo24 En25 Hv26 => ?_
  refine f_e ?_
  refine then_normal ?_
  refine wp_ret ?_
  refine then_ret ?_
  refine d_cell1 (v := .agg (List.toArray ((u64s (List.replicate 4 0)) ++ ((u64s ([1, 0, 0, 0] : List UInt64)) ++ (u64s (List.replicate 4 0)))))) (t := 2) (T := 52) (ad := ⟨bk6, 0, none⟩) En25 (by kernel_rfl) (by kernel_rfl) (Ev.cellAgg (t := 52) (k := 1) (off := 0) (m := 12) (xs := (u64s (List.replicate 4 0)) ++ ((u64s ([1, 0, 0, 0] : List UInt64)) ++ (u64s (List.replicate 4 0)))) Hv26 rfl (load_whole (len_app (u64s_lenh (List.length_replicate ..)) (len_app (u64s_lenh (show List.length ([1, 0, 0, 0] : List UInt64) = 4 from rfl)) (u64s_lenh (List.length_replicate ..))))) (len_app (u64s_lenh (List.length_replicate ..)) (len_app (u64s_lenh (show List.length ([1, 0, 0, 0] : List UInt64) = 4 from rfl)) (u64s_lenh (List.length_replicate ..)))) (by kernel_rfl) (by kernel_rfl)) ?_
  have g0 : z = true := by simpa using hc15
  exact ⟨by rw [g0]; first | rfl | kernel_rfl, Hv26.pk []⟩
 ·
  replace hc15 : ¬ (z = true) := Bool.eq_false_iff.1 hc15
  refine wp_skip ?_
  refine then_normal ?_
  refine wp_seq ?_
  refine region_from ?_
  refine d_k [1,2,6] [] 1 En14 fun ac27 En28 => ?_
  refine f_o ?_
  refine m_a 0 1 4 (u64s x) En28 Hv10 rfl (by simp [u64s_lenh hx, u64s_lenh hy, List.drop_append, List.take_append]) (u64s_lenh hx) fun ac29 En30 => ?_
  refine d_k [1,2,7,8] [] 3 En30 fun ac31 En32 => ?_
  refine f_o ?_
  refine m_a 0 5 4 (u64s y) En32 Hv10 rfl (by simp [u64s_lenh hx, u64s_lenh hy, List.drop_append, List.take_append, List.take_of_length_le]) (u64s_lenh hy) fun ac33 En34 => ?_
  refine d_k [1,2,7,9,10] [] 5 En34 fun ac35 En36 => ?_
  refine f_o ?_
  refine q_v (x := Instr.build 52 #[(0, .agg (List.toArray (u64s x))), (1, .agg (List.toArray (u64s y))), (2, .agg (List.toArray (u64s ([1, 0, 0, 0] : List UInt64))))]) (v := .agg (List.toArray ((u64s x) ++ ((u64s y) ++ (u64s ([1, 0, 0, 0] : List UInt64)))))) En36 (Go.Dbr.run_built [(0, 4), (4, 4), (8, 4)] [⟨4, u64s (List.replicate 4 0), some (0, .agg (List.toArray (u64s x)), u64s x)⟩, ⟨4, u64s (List.replicate 4 0), some (1, .agg (List.toArray (u64s y)), u64s y)⟩, ⟨4, u64s (List.replicate 4 0), some (2, .agg (List.toArray (u64s ([1, 0, 0, 0] : List UInt64))), u64s ([1, 0, 0, 0] : List UInt64))⟩] (fb_y (u64s_lenh (List.length_replicate)) (u64s_lenh hx) (fb_y (u64s_lenh (List.length_replicate)) (u64s_lenh hy) (fb_y (u64s_lenh (List.length_replicate)) (u64s_lenh (show List.length ([1, 0, 0, 0] : List UInt64) = 4 from rfl)) trivial))) _) fun ac37 En38 => ?_
  refine f_o ?_
  refine m_g 1 0 12 ((u64s x) ++ ((u64s y) ++ (u64s ([1, 0, 0, 0] : List UInt64)))) ((u64s x) ++ ((u64s y) ++ (u64s ([1, 0, 0, 0] : List UInt64)))) [.box bk1 (([.bool z] : List Value) ++ ((u64s x) ++ (u64s y))) 26, .box bk6 ((u64s x) ++ ((u64s y) ++ (u64s ([1, 0, 0, 0] : List UInt64)))) 52] En38 Hv10 rfl (len_app (u64s_lenh hx) (len_app (u64s_lenh hy) (u64s_lenh (show List.length ([1, 0, 0, 0] : List UInt64) = 4 from rfl)))) (by rw [(len_app (u64s_lenh (List.length_replicate)) (len_app (u64s_lenh (List.length_replicate)) (u64s_lenh (List.length_replicate))))]; decide) (one_app (u64s_one _) (one_app (u64s_one _) (u64s_one _))) (store_whole (len_app (u64s_lenh (List.length_replicate)) (len_app (u64s_lenh (List.length_replicate)) (u64s_lenh (List.length_replicate))))) rfl fun ac39 wo40 En41 Hv42 => ?_
  refine f_e ?_
  refine then_normal ?_
  refine wp_ret ?_
  refine d_cell1 (v := .agg (List.toArray ((u64s x) ++ ((u64s y) ++ (u64s ([1, 0, 0, 0] : List UInt64)))))) (t := 2) (T := 52) (ad := ⟨bk6, 0, none⟩) En41 (by kernel_rfl) (by kernel_rfl) (Ev.cellAgg (t := 52) (k := 1) (off := 0) (m := 12) (xs := (u64s x) ++ ((u64s y) ++ (u64s ([1, 0, 0, 0] : List UInt64)))) Hv42 rfl (load_whole (len_app (u64s_lenh hx) (len_app (u64s_lenh hy) (u64s_lenh (show List.length ([1, 0, 0, 0] : List UInt64) = 4 from rfl))))) (len_app (u64s_lenh hx) (len_app (u64s_lenh hy) (u64s_lenh (show List.length ([1, 0, 0, 0] : List UInt64) = 4 from rfl)))) (by kernel_rfl) (by kernel_rfl)) ?_
  have g0 : z = false := by simpa using hc15
  exact ⟨by rw [g0]; first | rfl | kernel_rfl, Hv42.pk []⟩

theorem back_go (w : World) (x y z : List UInt64) (hx : List.length x = 4) (hy : List.length y = 4) (hz : List.length z = 4) : Calls Try.prog 30 #[.agg (List.toArray ((u64s x) ++ ((u64s y) ++ (u64s z))))] w fun e w' => e = .returned (.agg (List.toArray (([.bool (bZ z)] : List Value) ++ ((u64s (bX x z)) ++ (u64s (bX y z)))))) ∧ Ev w [] w' [] := by
 refine d_0 [(0, .agg (List.toArray ((u64s x) ++ ((u64s y) ++ (u64s z)))))] 21 Go.Proofs.Try.func30 Go.Proofs.Try.ntmps30 (Heap.nil _) fun act0 En0 Hv0 => ?_
 refine wp_seq ?_
 refine region_from ?_
 refine f_o ?_
 refine m_m 52 ((u64s x) ++ ((u64s y) ++ (u64s z))) En0 Hv0 fun ac2 wo3 bk1 En4 Hv5 => ?_
 refine f_o ?_
 refine m_z 26 (([.bool false] : List Value) ++ ((u64s (List.replicate 4 0)) ++ (u64s (List.replicate 4 0)))) En4 Hv5 fun ac7 wo8 bk6 En9 Hv10 => ?_
 refine f_e ?_
 refine then_normal ?_
 refine wp_seq ?_
 refine wp_seq ?_
 refine region_from ?_
 refine d_k [1,2,4] [] 1 En9 fun ac11 En12 => ?_
 refine f_o ?_
 refine m_a 0 8 4 (u64s z) En12 Hv10 rfl (by simp [u64s_lenh hx, u64s_lenh hy, u64s_lenh hz, List.drop_append, List.take_append, List.take_of_length_le]) (u64s_lenh hz) fun ac13 En14 => ?_
 refine d_k [1,2,5,6] [] 3 En14 fun ac15 En16 => ?_
 refine f_o ?_
 refine q_v (x := eqOp .eql 24 (.tmp 5) (.tmp 6) (.agg (List.toArray (u64s z))) (.agg (List.toArray (u64s ([0, 0, 0, 0] : List UInt64))))) (v := .bool (z == ([0, 0, 0, 0] : List UInt64))) En16 (Go.Dbr.u64s_eqop (a := (.tmp 5)) (b := (.tmp 6)) (e := 22) (m := 4) (by kernel_rfl) (by kernel_rfl) (by kernel_rfl) (by kernel_rfl) (by kernel_rfl) hz (show List.length ([0, 0, 0, 0] : List UInt64) = 4 from rfl) _) fun ac17 En18 => ?_
 refine f_e ?_
 refine then_normal ?_
 refine cond_at En18 (t := z == ([0, 0, 0, 0] : List UInt64)) (by kernel_rfl) (fun hc19 => ?_) (fun hc19 => ?_)
 ·
  replace hc19 : z = ([0, 0, 0, 0] : List UInt64) := eq_of_beq hc19
  refine wp_seq ?_
  refine region_from ?_
  refine f_o ?_
  refine q_v (x := Instr.build 26 #[(0, .bool true)]) (v := .agg (List.toArray (([.bool true] : List Value) ++ ((u64s (List.replicate 4 0)) ++ (u64s (List.replicate 4 0)))))) En18 (Go.Dbr.run_built [(0, 1), (1, 4), (5, 4)] [⟨1, [.bool false], some (0, .bool true, [.bool true])⟩, ⟨4, u64s (List.replicate 4 0), none⟩, ⟨4, u64s (List.replicate 4 0), none⟩] (fb_y rfl rfl (fb_n (u64s_lenh (List.length_replicate)) (fb_n (u64s_lenh (List.length_replicate)) trivial))) _) fun ac20 En21 => ?_
  refine f_o ?_
  refine m_g 1 0 9 (([.bool true] : List Value) ++ ((u64s (List.replicate 4 0)) ++ (u64s (List.replicate 4 0)))) (([.bool true] : List Value) ++ ((u64s (List.replicate 4 0)) ++ (u64s (List.replicate 4 0)))) [.box bk1 ((u64s x) ++ ((u64s y) ++ (u64s z))) 52, .box bk6 (([.bool true] : List Value) ++ ((u64s (List.replicate 4 0)) ++ (u64s (List.replicate 4 0)))) 26] En21 Hv10 rfl (len_app rfl (len_app (u64s_lenh (List.length_replicate)) (u64s_lenh (List.length_replicate)))) (by rw [(len_app rfl (len_app (u64s_lenh (List.length_replicate)) (u64s_lenh (List.length_replicate))))]; decide) (one_app (one_all (by kernel_rfl)) (one_app (u64s_one _) (u64s_one _))) (store_whole (len_app rfl (len_app (u64s_lenh (List.length_replicate)) (u64s_lenh (List.length_replicate))))) rfl fun ac22 wo23 En24 Hv25 => ?_
  refine f_e ?_
  refine then_normal ?_
  refine wp_ret ?_
  refine then_ret ?_
  refine d_cell1 (v := .agg (List.toArray (([.bool true] : List Value) ++ ((u64s (List.replicate 4 0)) ++ (u64s (List.replicate 4 0)))))) (t := 2) (T := 26) (ad := ⟨bk6, 0, none⟩) En24 (by kernel_rfl) (by kernel_rfl) (Ev.cellAgg (t := 26) (k := 1) (off := 0) (m := 9) (xs := ([.bool true] : List Value) ++ ((u64s (List.replicate 4 0)) ++ (u64s (List.replicate 4 0)))) Hv25 rfl (load_whole (len_app rfl (len_app (u64s_lenh (List.length_replicate)) (u64s_lenh (List.length_replicate))))) (len_app rfl (len_app (u64s_lenh (List.length_replicate)) (u64s_lenh (List.length_replicate)))) (by kernel_rfl) (by kernel_rfl)) ?_
  have gz : (z == List.replicate 4 0) = true := by simpa using hc19
  exact ⟨by simp only [bZ, bX, gz, Bool.cond_true, Bool.cond_false, ivN], Hv25.pk []⟩
 ·
  replace hc19 : ¬ (z = ([0, 0, 0, 0] : List UInt64)) := ne_of_beq_false hc19
  refine wp_skip ?_
  refine then_normal ?_
  refine wp_seq ?_
  refine region_from ?_
  refine d_k [1,2,9] [] 1 En18 fun ac26 En27 => ?_
  refine f_o ?_
  refine m_a 0 8 4 (u64s z) En27 Hv10 rfl (by simp [u64s_lenh hx, u64s_lenh hy, u64s_lenh hz, List.drop_append, List.take_append, List.take_of_length_le]) (u64s_lenh hz) fun ac28 En29 => ?_
  refine f_o ?_
  refine c_p En29 Hv10 (inv_go _ 2 h2f hM2 z hz) fun ac34 wo31 En35 Hv36 => ?_
  refine f_o ?_
  refine m_z 24 (u64s (List.replicate 4 0)) En35 Hv36 fun ac38 wo39 bk37 En40 Hv41 => ?_
  refine f_o ?_
  refine m_g 2 0 4 (u64s (nd (powM 2 (nv z) (mF 2 - 2)))) (u64s (nd (powM 2 (nv z) (mF 2 - 2)))) [.box bk1 ((u64s x) ++ ((u64s y) ++ (u64s z))) 52, .box bk6 (([.bool false] : List Value) ++ ((u64s (List.replicate 4 0)) ++ (u64s (List.replicate 4 0)))) 26, .box bk37 (u64s (nd (powM 2 (nv z) (mF 2 - 2)))) 24] En40 Hv41 rfl (u64s_lenh (nds_len _ _)) (by rw [(u64s_lenh (List.length_replicate))]; decide) (u64s_one _) (store_whole (u64s_lenh (List.length_replicate))) rfl fun ac42 wo43 En44 Hv45 => ?_
  refine f_e ?_
  refine then_normal ?_
  refine wp_seq ?_
  refine r_c (fun ac wo => Env ac 21 [(1, pt bk1), (2, pt bk6), (3, pt bk37)] ∧ Ev w [] wo [.box bk1 ((u64s x) ++ ((u64s y) ++ (u64s z))) 52, .box bk6 (([.bool false] : List Value) ++ ((u64s (nd (mulM 2 (nv x) (nv (nd (powM 2 (nv z) (mF 2 - 2))))))) ++ (u64s (nd (mulM 2 (nv y) (nv (nd (powM 2 (nv z) (mF 2 - 2))))))))) 26, .box bk37 (u64s (nd (powM 2 (nv z) (mF 2 - 2)))) 24]) ?_ ?_
  ·
   refine s_g0 [(1, pt bk1), (2, pt bk6), (3, pt bk37)] [0,1,2,3,4,5,6,7,8] [(12, pt bk1), (13, .agg (List.toArray (u64s x))), (14, .agg (List.toArray (u64s (nd (powM 2 (nv z) (mF 2 - 2)))))), (15, .agg (List.toArray (u64s (nd (mulM 2 (nv x) (nv (nd (powM 2 (nv z) (mF 2 - 2))))))))), (16, .pointer (some ⟨bk1, 4, none⟩)), (17, .agg (List.toArray (u64s y))), (18, .agg (List.toArray (u64s (nd (powM 2 (nv z) (mF 2 - 2)))))), (19, .agg (List.toArray (u64s (nd (mulM 2 (nv y) (nv (nd (powM 2 (nv z) (mF 2 - 2))))))))), (20, .agg (List.toArray (([.bool false] : List Value) ++ ((u64s (nd (mulM 2 (nv x) (nv (nd (powM 2 (nv z) (mF 2 - 2))))))) ++ (u64s (nd (mulM 2 (nv y) (nv (nd (powM 2 (nv z) (mF 2 - 2)))))))))))] 1 [(1, pt bk1), (2, pt bk6), (3, pt bk37), (20, .agg (List.toArray (([.bool false] : List Value) ++ ((u64s (nd (mulM 2 (nv x) (nv (nd (powM 2 (nv z) (mF 2 - 2))))))) ++ (u64s (nd (mulM 2 (nv y) (nv (nd (powM 2 (nv z) (mF 2 - 2)))))))))))] (En44.sb) (Hv45.trans (Ev.drew Hv45.heap)) ?_ fun ac91 wo92 En93 Hv94 => ?_
   ·
    refine s_p [] ?_
    refine s_a 0 0 4 (u64s x) rfl (by simp [u64s_lenh hx, u64s_lenh hy, u64s_lenh hz, List.drop_append, List.take_append]) (u64s_lenh hx) ?_
    refine s_a 2 0 4 (u64s (nd (powM 2 (nv z) (mF 2 - 2)))) rfl (load_whole (u64s_lenh (nds_len _ _))) (u64s_lenh (nds_len _ _)) ?_
    refine s_f (fun _ => pmul_go _ x (nd (powM 2 (nv z) (mF 2 - 2))) hx (nds_len _ _)) ?_
    refine s_p [] ?_
    refine s_a 0 4 4 (u64s y) rfl (by simp [u64s_lenh hx, u64s_lenh hy, u64s_lenh hz, List.drop_append, List.take_append]) (u64s_lenh hy) ?_
    refine s_a 2 0 4 (u64s (nd (powM 2 (nv z) (mF 2 - 2)))) rfl (load_whole (u64s_lenh (nds_len _ _))) (u64s_lenh (nds_len _ _)) ?_
    refine s_f (fun _ => pmul_go _ y (nd (powM 2 (nv z) (mF 2 - 2))) hy (nds_len _ _)) ?_
    refine s_c (fun Mx84 ac85 wo86 En87 Hv88 => ?_) ?_
    ·
     refine q_v (x := Instr.build 26 #[(1, .agg (List.toArray (u64s (nd (mulM 2 (nv x) (nv (nd (powM 2 (nv z) (mF 2 - 2))))))))), (2, .agg (List.toArray (u64s (nd (mulM 2 (nv y) (nv (nd (powM 2 (nv z) (mF 2 - 2)))))))))]) (v := .agg (List.toArray (([.bool false] : List Value) ++ ((u64s (nd (mulM 2 (nv x) (nv (nd (powM 2 (nv z) (mF 2 - 2))))))) ++ (u64s (nd (mulM 2 (nv y) (nv (nd (powM 2 (nv z) (mF 2 - 2))))))))))) En87 (Go.Dbr.run_built [(0, 1), (1, 4), (5, 4)] [⟨1, [.bool false], none⟩, ⟨4, u64s (List.replicate 4 0), some (1, .agg (List.toArray (u64s (nd (mulM 2 (nv x) (nv (nd (powM 2 (nv z) (mF 2 - 2)))))))), u64s (nd (mulM 2 (nv x) (nv (nd (powM 2 (nv z) (mF 2 - 2)))))))⟩, ⟨4, u64s (List.replicate 4 0), some (2, .agg (List.toArray (u64s (nd (mulM 2 (nv y) (nv (nd (powM 2 (nv z) (mF 2 - 2)))))))), u64s (nd (mulM 2 (nv y) (nv (nd (powM 2 (nv z) (mF 2 - 2)))))))⟩] (fb_n rfl (fb_y (u64s_lenh (List.length_replicate)) (u64s_lenh (nds_len _ _)) (fb_y (u64s_lenh (List.length_replicate)) (u64s_lenh (nds_len _ _)) trivial))) _) fun ac89 En90 => ?_
     exact s_e En90 Hv88
    exact s_n
   refine q_u 9 ?_
   refine m_g 1 0 9 (([.bool false] : List Value) ++ ((u64s (nd (mulM 2 (nv x) (nv (nd (powM 2 (nv z) (mF 2 - 2))))))) ++ (u64s (nd (mulM 2 (nv y) (nv (nd (powM 2 (nv z) (mF 2 - 2))))))))) (([.bool false] : List Value) ++ ((u64s (nd (mulM 2 (nv x) (nv (nd (powM 2 (nv z) (mF 2 - 2))))))) ++ (u64s (nd (mulM 2 (nv y) (nv (nd (powM 2 (nv z) (mF 2 - 2))))))))) [.box bk1 ((u64s x) ++ ((u64s y) ++ (u64s z))) 52, .box bk6 (([.bool false] : List Value) ++ ((u64s (nd (mulM 2 (nv x) (nv (nd (powM 2 (nv z) (mF 2 - 2))))))) ++ (u64s (nd (mulM 2 (nv y) (nv (nd (powM 2 (nv z) (mF 2 - 2))))))))) 26, .box bk37 (u64s (nd (powM 2 (nv z) (mF 2 - 2)))) 24] En93 Hv94 rfl (len_app rfl (len_app (u64s_lenh (nds_len _ _)) (u64s_lenh (nds_len _ _)))) (by rw [(len_app rfl (len_app (u64s_lenh (List.length_replicate)) (u64s_lenh (List.length_replicate))))]; decide) (one_app (one_all (by kernel_rfl)) (one_app (u64s_one _) (u64s_one _))) (store_whole (len_app rfl (len_app (u64s_lenh (List.length_replicate)) (u64s_lenh (List.length_replicate))))) rfl fun ac99 wo100 En101 Hv102 => ?_
   exact a_e ⟨En101.sb, Hv102.pk [0, 1, 2]⟩
  rintro ac103 wo104 ⟨En105, Hv106⟩
  refine then_normal ?_
  refine wp_ret ?_
  refine d_cell1 (v := .agg (List.toArray (([.bool false] : List Value) ++ ((u64s (nd (mulM 2 (nv x) (nv (nd (powM 2 (nv z) (mF 2 - 2))))))) ++ (u64s (nd (mulM 2 (nv y) (nv (nd (powM 2 (nv z) (mF 2 - 2))))))))))) (t := 2) (T := 26) (ad := ⟨bk6, 0, none⟩) En105 (by kernel_rfl) (by kernel_rfl) (Ev.cellAgg (t := 26) (k := 1) (off := 0) (m := 9) (xs := ([.bool false] : List Value) ++ ((u64s (nd (mulM 2 (nv x) (nv (nd (powM 2 (nv z) (mF 2 - 2))))))) ++ (u64s (nd (mulM 2 (nv y) (nv (nd (powM 2 (nv z) (mF 2 - 2))))))))) Hv106 rfl (load_whole (len_app rfl (len_app (u64s_lenh (nds_len _ _)) (u64s_lenh (nds_len _ _))))) (len_app rfl (len_app (u64s_lenh (nds_len _ _)) (u64s_lenh (nds_len _ _)))) (by kernel_rfl) (by kernel_rfl)) ?_
  have gz : (z == List.replicate 4 0) = false := by simpa using hc19
  exact ⟨by simp only [bZ, bX, gz, Bool.cond_true, Bool.cond_false, ivN, nv_pow2], Hv106.pk []⟩

end Go.Proofs.Ytpfhmbbiadpbeaa
