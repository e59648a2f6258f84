/- Layer 17: WireExtensions, walked. -/
import Derived.Test.YtofecellbfhnjaaW22
namespace Go.Proofs.Ytofecellbfhnjaa
open Go.Dbr
set_option maxRecDepth 100000
set_option maxHeartbeats 2000000
set_option linter.unusedVariables false
set_option linter.unusedSimpArgs false

theorem exts_walk (a_b : Option Addr) (c_b : Nat) (b : List UInt8) (w : World) (i_b : InB w [] a_b c_b b) : Calls Try.prog 5 #[.slice a_b (List.length b) c_b] w fun e w' => e = .returned (.bool true) ∧ Ev w [] w' [] := by
 refine d_0 [(0, .slice a_b (List.length b) c_b)] 297 Go.Proofs.Try.func5 Go.Proofs.Try.ntmps5 (Heap.nil _) fun act0 En0 Hv0 => ?_
 refine d_s [0,2] [] En0 fun ac1 En2 => ?_
 refine wp_seq ?_
 refine region_from ?_
 refine f_o ?_
 refine c_p En2 Hv0 (head_ok _) fun ac7 wo4 En8 Hv9 => ?_
 refine d_e [0,2,3] [] En8 fun ac10 En11 => ?_
 refine then_normal ?_
 refine wp_seq ?_
 refine region_from ?_
 refine d_k [0,2,3,38] [] 1 En11 fun ac12 En13 => ?_
 refine f_o ?_
 refine c_0 En13 Hv9 (getname_go _ a_b (List.length b) c_b b (by first | rfl | (simp; done) | (simp; omega) | omega) ((i_b.ev Hv9).pick [] (by kernel_rfl))) ?_
 rintro _ wo17 ⟨bl14, rfl, he18, hpu15⟩
 refine ⟨_, _, _, rfl, he18, rfl, fun ac20 En21 Hv22 => ?_⟩
 refine d_e [0,2,3,4,5] [] En21 fun ac23 En24 => ?_
 refine then_normal ?_
 refine wp_seq ?_
 refine region_from ?_
 refine d_k [0,2,3,4,5,43] [] 1 En24 fun ac25 En26 => ?_
 refine f_o ?_
 refine c_0 En26 Hv22 (dgetname_go _ a_b (List.length b) c_b b (by first | rfl | (simp; done) | (simp; omega) | omega) ((i_b.ev Hv22).pick [] (by kernel_rfl))) ?_
 rintro _ wo30 ⟨bl27, rfl, he31, hpu28⟩
 refine ⟨_, _, _, rfl, he31, rfl, fun ac33 En34 Hv35 => ?_⟩
 refine d_e [0,2,3,4,5,6,7] [] En34 fun ac36 En37 => ?_
 refine then_normal ?_
 refine d_s [0,2,3,8] [(2, g_v (show (.bool (ByteArray.toList (bstr bl14) == ByteArray.toList (bstr bl27)) : Value) = .bool true by rw [Go.Dbr.bstr_eq bl14 bl27, show (bl14 == bl27) = true from (by rw [hpu15, hpu28, like_V (nm_like _)]; exact beq_self_eq_true _)] <;> rfl)), (6, g_b (show (gotA (nmM b false false) == gotA (dnmM b false false)) = true from (by rw [like_A (nm_like _)]; exact beq_self_eq_true _)))] En37 fun ac38 En39 => ?_
 refine wp_seq ?_
 refine region_from ?_
 refine d_k [0,2,3,8,56] [] 1 En39 fun ac40 En41 => ?_
 refine f_o ?_
 refine c_0 En41 Hv35 (getlist_go _ a_b (List.length b) c_b b (by first | rfl | (simp; done) | (simp; omega) | omega) ((i_b.ev Hv35).pick [] (by kernel_rfl))) ?_
 rintro _ wo48 ⟨oa42, oc43, xs44, rfl, he49, hpu45, hf46⟩
 refine ⟨_, _, _, rfl, he49, rfl, fun ac51 En52 Hv53 => ?_⟩
 refine d_e [0,2,3,8,9,10] [] En52 fun ac54 En55 => ?_
 refine then_normal ?_
 refine wp_seq ?_
 refine region_from ?_
 refine d_k [0,2,3,8,9,10,61] [] 1 En55 fun ac56 En57 => ?_
 refine f_o ?_
 refine c_0 En57 Hv53 (dgetlist_go _ a_b (List.length b) c_b b (by first | rfl | (simp; done) | (simp; omega) | omega) ((i_b.ev Hv53).pick [] (by kernel_rfl))) ?_
 rintro _ wo64 ⟨oa58, oc59, xs60, rfl, he65, hpu61, hf62⟩
 refine ⟨_, _, _, rfl, he65, rfl, fun ac67 En68 Hv69 => ?_⟩
 refine d_e [0,2,3,8,9,10,11,12] [] En68 fun ac70 En71 => ?_
 refine then_normal ?_
 refine wp_seq ?_
 refine region_from ?_
 refine d_k [0,2,3,8,9,10,11,12,65,66] [] 2 En71 fun ac72 En73 => ?_
 refine f_o ?_
 refine c_p En73 Hv69 (samenum_go _ oa42 oc43 xs44 (Hv69.heap.innS (k := 1) (f := fU16) (sz := 1) (by_ := 2) rfl (fun _ => rfl) (by decide) [] (by kernel_rfl) rfl (by first | omega | (simp; done) | (simp; omega)) (fun _ _ => trivial)) oa58 oc59 xs60 (Hv69.heap.innS (k := 0) (f := fU16) (sz := 1) (by_ := 2) rfl (fun _ => rfl) (by decide) [] (by kernel_rfl) rfl (by first | omega | (simp; done) | (simp; omega)) (fun _ _ => trivial))) fun ac78 wo75 En79 Hv80 => ?_
 refine d_e [0,2,3,8,9,10,11,12,13] [(3, g_b (show ((List.map (fun y : RU16 => y) xs44 == List.map (fun y : RU16 => y) xs60)) = true from (by rw [hpu45, hpu61, like_V (many_like u16_like (by decide) 2 _ _ _)]; exact beq_self_eq_true _)))] En79 fun ac81 En82 => ?_
 refine then_normal ?_
 refine d_s [0,2,3,8,9,10,11,12,13] [(7, g_b (show (gotA (manyM u16M 2 2 b false false) == gotA (dmanyM du16M 2 2 65535 b false false)) = true from (by rw [like_A (many_like u16_like (by decide) 2 _ _ _)]; exact beq_self_eq_true _)))] En82 fun ac83 En84 => ?_
 refine wp_seq ?_
 refine region_from ?_
 refine d_k [0,2,3,8,9,10,11,12,13,78] [] 1 En84 fun ac85 En86 => ?_
 refine f_o ?_
 refine c_0 En86 Hv80 (getversions_go _ a_b (List.length b) c_b b (by first | rfl | (simp; done) | (simp; omega) | omega) ((i_b.ev Hv80).pick [] (by kernel_rfl))) ?_
 rintro _ wo93 ⟨oa87, oc88, xs89, rfl, he94, hpu90, hf91⟩
 refine ⟨_, _, _, rfl, he94, rfl, fun ac96 En97 Hv98 => ?_⟩
 refine d_e [0,2,3,8,9,10,11,12,13] [] En97 fun ac99 En100 => ?_
 refine then_normal ?_
 refine wp_seq ?_
 refine region_from ?_
 refine d_k [0,2,3,8,9,10,11,12,13,83] [] 1 En100 fun ac101 En102 => ?_
 refine f_o ?_
 refine c_0 En102 Hv98 (dgetversions_go _ a_b (List.length b) c_b b (by first | rfl | (simp; done) | (simp; omega) | omega) ((i_b.ev Hv98).pick [] (by kernel_rfl))) ?_
 rintro _ wo109 ⟨oa103, oc104, xs105, rfl, he110, hpu106, hf107⟩
 refine ⟨_, _, _, rfl, he110, rfl, fun ac112 En113 Hv114 => ?_⟩
 refine d_e [0,2,3,8,9,10,11,12,13] [] En113 fun ac115 En116 => ?_
 refine then_normal ?_
 refine wp_seq ?_
 refine region_from ?_
 refine d_k [0,2,3,8,9,10,11,12,13,87,88] [] 2 En116 fun ac117 En118 => ?_
 refine f_o ?_
 refine c_p En118 Hv114 (samenum_go _ oa87 oc88 xs89 (Hv114.heap.innS (k := 1) (f := fU16) (sz := 1) (by_ := 2) rfl (fun _ => rfl) (by decide) [] (by kernel_rfl) rfl (by first | omega | (simp; done) | (simp; omega)) (fun _ _ => trivial)) oa103 oc104 xs105 (Hv114.heap.innS (k := 0) (f := fU16) (sz := 1) (by_ := 2) rfl (fun _ => rfl) (by decide) [] (by kernel_rfl) rfl (by first | omega | (simp; done) | (simp; omega)) (fun _ _ => trivial))) fun ac123 wo120 En124 Hv125 => ?_
 refine d_e [0,2,3,8,9,10,11,12,13] [(3, g_b (show ((List.map (fun y : RU16 => y) xs89 == List.map (fun y : RU16 => y) xs105)) = true from (by rw [hpu90, hpu106, like_V (many_like u16_like (by decide) 2 _ _ _)]; exact beq_self_eq_true _)))] En124 fun ac126 En127 => ?_
 refine then_normal ?_
 refine d_s [0,2,3,8,9,10,11,12,13] [(7, g_b (show (gotA (manyM u16M 1 2 b false false) == gotA (dmanyM du16M 1 2 65535 b false false)) = true from (by rw [like_A (many_like u16_like (by decide) 2 _ _ _)]; exact beq_self_eq_true _)))] En127 fun ac128 En129 => ?_
 refine wp_seq ?_
 refine region_from ?_
 refine d_k [0,2,3,8,9,10,11,12,13,100] [] 1 En129 fun ac130 En131 => ?_
 refine f_o ?_
 refine c_0 En131 Hv125 (getalpn_go _ a_b (List.length b) c_b b (by first | rfl | (simp; done) | (simp; omega) | omega) ((i_b.ev Hv125).pick [] (by kernel_rfl))) ?_
 rintro _ wo139 ⟨oa132, oc133, xs134, rfl, he140, hpu135, hf136, hf137⟩
 refine ⟨_, _, _, rfl, he140, rfl, fun ac142 En143 Hv144 => ?_⟩
 refine d_e [0,2,3,8,9,10,11,12,13,14,15] [] En143 fun ac145 En146 => ?_
 refine then_normal ?_
 refine wp_seq ?_
 refine region_from ?_
 refine d_k [0,2,3,8,9,10,11,12,13,14,15,105] [] 1 En146 fun ac147 En148 => ?_
 refine f_o ?_
 refine c_0 En148 Hv144 (dgetalpn_go _ a_b (List.length b) c_b b (by first | rfl | (simp; done) | (simp; omega) | omega) ((i_b.ev Hv144).pick [] (by kernel_rfl))) ?_
 rintro _ wo156 ⟨oa149, oc150, xs151, rfl, he157, hpu152, hf153, hf154⟩
 refine ⟨_, _, _, rfl, he157, rfl, fun ac159 En160 Hv161 => ?_⟩
 refine d_e [0,2,3,8,9,10,11,12,13,14,15,16,17] [] En160 fun ac162 En163 => ?_
 refine then_normal ?_
 refine wp_seq ?_
 refine region_from ?_
 refine d_k [0,2,3,8,9,10,11,12,13,15,17,109,110] [] 2 En163 fun ac164 En165 => ?_
 refine f_o ?_
 refine c_p En165 Hv161 (sametxt_go _ oa132 oc133 xs134 (Hv161.heap.innS (k := 1) (f := fStr) (sz := 1) (by_ := 16) rfl (fun _ => rfl) (by decide) [] (by kernel_rfl) rfl (by first | omega | (simp; done) | (simp; omega)) (fun y hy => hf137 y hy)) oa149 oc150 xs151 (Hv161.heap.innS (k := 0) (f := fStr) (sz := 1) (by_ := 16) rfl (fun _ => rfl) (by decide) [] (by kernel_rfl) rfl (by first | omega | (simp; done) | (simp; omega)) (fun y hy => hf154 y hy))) fun ac170 wo167 En171 Hv172 => ?_
 refine d_e [0,2,3,8,9,10,11,12,13,15,17] [(3, g_b (show ((List.map (fun y : RStr => y) xs134 == List.map (fun y : RStr => y) xs151)) = true from (by rw [hpu135, hpu152, like_V (many_like (list_like 1 1 255) (by decide) 1 _ _ _)]; exact beq_self_eq_true _)))] En171 fun ac173 En174 => ?_
 refine then_normal ?_
 refine d_s [0,2,3,8,9,10,11,12,13] [(7, g_b (show (gotA (manyM (listM 1 1 255) 2 1 b false false) == gotA (dmanyM (dlistM 1 1 255) 2 1 65535 b false false)) = true from (by rw [like_A (many_like (list_like 1 1 255) (by decide) 1 _ _ _)]; exact beq_self_eq_true _)))] En174 fun ac175 En176 => ?_
 refine wp_seq ?_
 refine region_from ?_
 refine d_k [0,2,3,8,9,10,11,12,13,122] [] 1 En176 fun ac177 En178 => ?_
 refine f_o ?_
 refine c_0 En178 Hv172 (getmodes_go _ a_b (List.length b) c_b b (by first | rfl | (simp; done) | (simp; omega) | omega) ((i_b.ev Hv172).pick [] (by kernel_rfl))) ?_
 rintro _ wo184 ⟨oa179, oc180, bl181, rfl, he185, hpu182⟩
 refine ⟨_, _, _, rfl, he185, rfl, fun ac187 En188 Hv189 => ?_⟩
 refine d_e [0,2,3,8,9,10,11,12,13,18,19] [] En188 fun ac190 En191 => ?_
 refine then_normal ?_
 refine wp_seq ?_
 refine region_from ?_
 refine d_k [0,2,3,8,9,10,11,12,13,18,19,127] [] 1 En191 fun ac192 En193 => ?_
 refine f_o ?_
 refine c_0 En193 Hv189 (dgetmodes_go _ a_b (List.length b) c_b b (by first | rfl | (simp; done) | (simp; omega) | omega) ((i_b.ev Hv189).pick [] (by kernel_rfl))) ?_
 rintro _ wo199 ⟨oa194, oc195, bl196, rfl, he200, hpu197⟩
 refine ⟨_, _, _, rfl, he200, rfl, fun ac202 En203 Hv204 => ?_⟩
 refine d_e [0,2,3,8,9,10,11,12,13,18,19,20,21] [] En203 fun ac205 En206 => ?_
 refine then_normal ?_
 refine wp_seq ?_
 refine region_from ?_
 refine d_k [0,2,3,8,9,10,11,12,13,18,19,20,21,132,133] [] 3 En206 fun ac207 En208 => ?_
 refine f_o ?_
 refine op_str (d := some 134) (src := 23) (dst := 9) (e := 5) (ao := oa179) (cap := oc180) (p := List.length bl181) (bs := bl181) En208 (by kernel_rfl) rfl (by kernel_rfl) (by kernel_rfl) (by kernel_rfl) (Hv204.heap.reads (k := 1) rfl) (bys_vnz Hv204.heap (k := 1) rfl) ?_
 intro ac209 En210
 refine d_k [0,2,3,8,9,10,11,12,13,18,19,20,21,132,134,135] [] 5 En210 fun ac211 En212 => ?_
 refine f_o ?_
 refine op_str (d := some 136) (src := 23) (dst := 9) (e := 5) (ao := oa194) (cap := oc195) (p := List.length bl196) (bs := bl196) En212 (by kernel_rfl) rfl (by kernel_rfl) (by kernel_rfl) (by kernel_rfl) (Hv204.heap.reads (k := 0) rfl) (bys_vnz Hv204.heap (k := 0) rfl) ?_
 intro ac213 En214
 refine d_e [0,2,3,8,9,10,11,12,13,18,19,20,21] [(6, g_v (show (.bool (ByteArray.toList (bstr bl181) == ByteArray.toList (bstr bl196)) : Value) = .bool true by rw [Go.Dbr.bstr_eq bl181 bl196, show (bl181 == bl196) = true from (by rw [hpu182, hpu197, like_V (list_like 1 1 255 _ _ _)]; exact beq_self_eq_true _)] <;> rfl)), (11, g_b (show (gotA (listM 1 1 255 b false false) == gotA (dlistM 1 1 255 b false false)) = true from (by rw [like_A (list_like 1 1 255 _ _ _)]; exact beq_self_eq_true _)))] En214 fun ac215 En216 => ?_
 refine then_normal ?_
 refine wp_seq ?_
 refine region_from ?_
 refine d_k [0,2,3,8,9,10,11,12,13,18,19,20,21,145] [] 1 En216 fun ac217 En218 => ?_
 refine f_o ?_
 refine c_0 En218 Hv204 (getshares_go _ a_b (List.length b) c_b b (by first | rfl | (simp; done) | (simp; omega) | omega) ((i_b.ev Hv204).pick [] (by kernel_rfl))) ?_
 rintro _ wo226 ⟨oa219, oc220, xs221, rfl, he227, hpu222, hf223, hf224⟩
 refine ⟨_, _, _, rfl, he227, rfl, fun ac229 En230 Hv231 => ?_⟩
 refine d_e [0,2,3,8,9,10,11,12,13,18,19,20,21,22,23] [] En230 fun ac232 En233 => ?_
 refine then_normal ?_
 refine wp_seq ?_
 refine region_from ?_
 refine d_k [0,2,3,8,9,10,11,12,13,18,19,20,21,22,23,150] [] 1 En233 fun ac234 En235 => ?_
 refine f_o ?_
 refine c_0 En235 Hv231 (dgetshares_go _ a_b (List.length b) c_b b (by first | rfl | (simp; done) | (simp; omega) | omega) ((i_b.ev Hv231).pick [] (by kernel_rfl))) ?_
 rintro _ wo243 ⟨oa236, oc237, xs238, rfl, he244, hpu239, hf240, hf241⟩
 refine ⟨_, _, _, rfl, he244, rfl, fun ac246 En247 Hv248 => ?_⟩
 refine d_e [0,2,3,8,9,10,11,12,13,18,19,20,21,22,23,24,25] [] En247 fun ac249 En250 => ?_
 refine then_normal ?_
 refine wp_seq ?_
 refine region_from ?_
 refine d_k [0,2,3,8,9,10,11,12,13,18,19,20,21,23,25,154,155] [] 2 En250 fun ac251 En252 => ?_
 refine f_o ?_
 refine c_p En252 Hv248 (samesha_go _ oa219 oc220 xs221 (Hv248.heap.innS (k := 2) (f := fSha) (sz := 2) (by_ := 32) rfl (fun _ => rfl) (by decide) [] (by kernel_rfl) rfl (by first | omega | (simp; done) | (simp; omega)) (fun y hy => ⟨trivial, Hv248.heap.innB (k := 3) rfl (List.mem_flatMap.2 ⟨y, hy, List.mem_cons_self⟩) [] (by kernel_rfl) rfl (Nat.le_trans (hf224 y hy) (by decide)), trivial⟩)) oa236 oc237 xs238 (Hv248.heap.innS (k := 0) (f := fSha) (sz := 2) (by_ := 32) rfl (fun _ => rfl) (by decide) [] (by kernel_rfl) rfl (by first | omega | (simp; done) | (simp; omega)) (fun y hy => ⟨trivial, Hv248.heap.innB (k := 1) rfl (List.mem_flatMap.2 ⟨y, hy, List.mem_cons_self⟩) [] (by kernel_rfl) rfl (Nat.le_trans (hf241 y hy) (by decide)), trivial⟩))) fun ac257 wo254 En258 Hv259 => ?_
 refine d_e [0,2,3,8,9,10,11,12,13,18,19,20,21,23,25] [(3, g_b (show ((List.map (fun y : RSha => (y.1, y.2.1.l)) xs221 == List.map (fun y : RSha => (y.1, y.2.1.l)) xs238)) = true from (by rw [hpu222, hpu239, like_V (many_like share_like (by decide) 0 _ _ _)]; exact beq_self_eq_true _)))] En258 fun ac260 En261 => ?_
 refine then_normal ?_
 refine d_s [0,2,3,8,9,10,11,12,13,18,19,20,21] [(7, g_b (show (gotA (manyM shareM 2 0 b false false) == gotA (dmanyM dshareM 2 0 65535 b false false)) = true from (by rw [like_A (many_like share_like (by decide) 0 _ _ _)]; exact beq_self_eq_true _)))] En261 fun ac262 En263 => ?_
 refine wp_seq ?_
 refine region_from ?_
 refine d_k [0,2,3,8,9,10,11,12,13,18,19,20,21,167] [] 1 En263 fun ac264 En265 => ?_
 refine f_o ?_
 refine c_0 En265 Hv259 (getshare_go _ a_b (List.length b) c_b b (by first | rfl | (simp; done) | (simp; omega) | omega) ((i_b.ev Hv259).pick [] (by kernel_rfl))) ?_
 rintro _ wo273 ⟨gv266, oa267, oc268, bl269, rfl, he274, hpu270, hf271⟩
 refine ⟨_, _, _, rfl, he274, rfl, fun ac276 En277 Hv278 => ?_⟩
 refine d_k [0,2,3,8,9,10,11,12,13,18,19,20,21,169,170] [] 5 En277 fun ac279 En280 => ?_
 refine f_o ?_
 refine m_z 49 [.int .u16 0, .slice none 0 0] En280 Hv278 fun ac282 wo283 bk281 En284 Hv285 => ?_
 refine f_o ?_
 refine m_g 13 0 2 [uv16 gv266, .slice oa267 (List.length bl269) oc268] [uv16 gv266, .slice oa267 (List.length bl269) oc268] [.vec oa267 oc268 1 (bys bl269) 5, .vec oa236 oc237 2 (List.flatMap fSha xs238) 49, .grp (List.flatMap innSha xs238), .vec oa219 oc220 2 (List.flatMap fSha xs221) 49, .grp (List.flatMap innSha xs221), .vec oa194 oc195 1 (bys bl196) 5, .vec oa179 oc180 1 (bys bl181) 5, .vec oa149 oc150 1 (List.flatMap fStr xs151) 9, .vec oa132 oc133 1 (List.flatMap fStr xs134) 9, .vec oa103 oc104 1 (List.flatMap fU16 xs105) 37, .vec oa87 oc88 1 (List.flatMap fU16 xs89) 37, .vec oa58 oc59 1 (List.flatMap fU16 xs60) 37, .vec oa42 oc43 1 (List.flatMap fU16 xs44) 37, .box bk281 [uv16 gv266, .slice oa267 (List.length bl269) oc268] 49] En284 Hv285 rfl rfl (by simp) (one_all (by kernel_rfl)) rfl rfl fun ac286 wo287 En288 Hv289 => ?_
 refine d_e [0,2,3,8,9,10,11,12,13,18,19,20,21,26,27] [] En288 fun ac290 En291 => ?_
 refine then_normal ?_
 refine wp_seq ?_
 refine region_from ?_
 refine d_k [0,2,3,8,9,10,11,12,13,18,19,20,21,26,27,172] [] 1 En291 fun ac292 En293 => ?_
 refine f_o ?_
 refine c_0 En293 Hv289 (dgetshare_go _ a_b (List.length b) c_b b (by first | rfl | (simp; done) | (simp; omega) | omega) ((i_b.ev Hv289).pick [] (by kernel_rfl))) ?_
 rintro _ wo301 ⟨gv294, oa295, oc296, bl297, rfl, he302, hpu298, hf299⟩
 refine ⟨_, _, _, rfl, he302, rfl, fun ac304 En305 Hv306 => ?_⟩
 refine d_k [0,2,3,8,9,10,11,12,13,18,19,20,21,26,27,174,175] [] 5 En305 fun ac307 En308 => ?_
 refine f_o ?_
 refine m_z 49 [.int .u16 0, .slice none 0 0] En308 Hv306 fun ac310 wo311 bk309 En312 Hv313 => ?_
 refine f_o ?_
 refine m_g 15 0 2 [uv16 gv294, .slice oa295 (List.length bl297) oc296] [uv16 gv294, .slice oa295 (List.length bl297) oc296] [.vec oa295 oc296 1 (bys bl297) 5, .vec oa267 oc268 1 (bys bl269) 5, .vec oa236 oc237 2 (List.flatMap fSha xs238) 49, .grp (List.flatMap innSha xs238), .vec oa219 oc220 2 (List.flatMap fSha xs221) 49, .grp (List.flatMap innSha xs221), .vec oa194 oc195 1 (bys bl196) 5, .vec oa179 oc180 1 (bys bl181) 5, .vec oa149 oc150 1 (List.flatMap fStr xs151) 9, .vec oa132 oc133 1 (List.flatMap fStr xs134) 9, .vec oa103 oc104 1 (List.flatMap fU16 xs105) 37, .vec oa87 oc88 1 (List.flatMap fU16 xs89) 37, .vec oa58 oc59 1 (List.flatMap fU16 xs60) 37, .vec oa42 oc43 1 (List.flatMap fU16 xs44) 37, .box bk281 [uv16 gv266, .slice oa267 (List.length bl269) oc268] 49, .box bk309 [uv16 gv294, .slice oa295 (List.length bl297) oc296] 49] En312 Hv313 rfl rfl (by simp) (one_all (by kernel_rfl)) rfl rfl fun ac314 wo315 En316 Hv317 => ?_
 refine d_e [0,2,3,8,9,10,11,12,13,18,19,20,21,26,27,28,29] [] En316 fun ac318 En319 => ?_
 refine then_normal ?_
 refine wp_seq ?_
 refine region_from ?_
 refine d_k [0,2,3,8,9,10,11,12,13,18,19,20,21,26,27,28,29,177,178] [] 3 En319 fun ac320 En321 => ?_
 refine f_o ?_
 refine m_l 14 En321 Hv317 fun ac322 En323 => ?_
 refine d_k [0,2,3,8,9,10,11,12,13,18,19,20,21,26,27,28,29,177,179,180] [] 5 En323 fun ac324 En325 => ?_
 refine f_o ?_
 refine m_l 15 En325 Hv317 fun ac326 En327 => ?_
 refine d_k [0,2,3,8,9,10,11,12,13,18,19,20,21,26,27,28,29,184,185] [(6, g_b (show (((UInt16.toNat gv266 : Nat) : Int) == ((UInt16.toNat gv294 : Nat) : Int)) = true from (by rw [(Prod.mk.inj (hpu270.trans ((like_V (share_like _ _ _)).trans hpu298.symm))).1]; exact beq_self_eq_true _)))] 10 En327 fun ac328 En329 => ?_
 refine f_o ?_
 refine m_l 14 En329 Hv317 fun ac330 En331 => ?_
 refine f_o ?_
 refine op_str (d := some 187) (src := 23) (dst := 9) (e := 5) (ao := oa267) (cap := oc268) (p := List.length bl269) (bs := bl269) En331 (by kernel_rfl) rfl (by kernel_rfl) (by kernel_rfl) (by kernel_rfl) (Hv317.heap.reads (k := 1) rfl) (bys_vnz Hv317.heap (k := 1) rfl) ?_
 intro ac332 En333
 refine d_k [0,2,3,8,9,10,11,12,13,18,19,20,21,26,27,28,29,184,187,188] [] 13 En333 fun ac334 En335 => ?_
 refine f_o ?_
 refine m_l 15 En335 Hv317 fun ac336 En337 => ?_
 refine f_o ?_
 refine op_str (d := some 190) (src := 23) (dst := 9) (e := 5) (ao := oa295) (cap := oc296) (p := List.length bl297) (bs := bl297) En337 (by kernel_rfl) rfl (by kernel_rfl) (by kernel_rfl) (by kernel_rfl) (Hv317.heap.reads (k := 0) rfl) (bys_vnz Hv317.heap (k := 0) rfl) ?_
 intro ac338 En339
 refine d_e [0,2,3,8,9,10,11,12,13,18,19,20,21,26,27,28,29] [(15, g_v (show (.bool (ByteArray.toList (bstr bl269) == ByteArray.toList (bstr bl297)) : Value) = .bool true by rw [Go.Dbr.bstr_eq bl269 bl297, show (bl269 == bl297) = true from (by rw [(Prod.mk.inj (hpu270.trans ((like_V (share_like _ _ _)).trans hpu298.symm))).2]; exact beq_self_eq_true _)] <;> rfl)), (20, g_b (show (gotA (shareM b false false) == gotA (dshareM b false false)) = true from (by rw [like_A (share_like _ _ _)]; exact beq_self_eq_true _)))] En339 fun ac340 En341 => ?_
 refine then_normal ?_
 refine wp_seq ?_
 refine region_from ?_
 refine d_k [0,2,3,8,9,10,11,12,13,18,19,20,21,26,27,28,29,199] [] 1 En341 fun ac342 En343 => ?_
 refine f_o ?_
 refine c_0 En343 Hv317 (getnumber_go _ a_b (List.length b) c_b b (by first | rfl | (simp; done) | (simp; omega) | omega) ((i_b.ev Hv317).pick [] (by kernel_rfl))) ?_
 rintro _ wo347 ⟨xv344, rfl, he348, hpu345⟩
 refine ⟨_, _, _, rfl, he348, rfl, fun ac350 En351 Hv352 => ?_⟩
 refine d_e [0,2,3,8,9,10,11,12,13,18,19,20,21,26,27,28,29,30] [] En351 fun ac353 En354 => ?_
 refine then_normal ?_
 refine wp_seq ?_
 refine region_from ?_
 refine d_k [0,2,3,8,9,10,11,12,13,18,19,20,21,26,27,28,29,30,204] [] 1 En354 fun ac355 En356 => ?_
 refine f_o ?_
 refine c_0 En356 Hv352 (dgetnumber_go _ a_b (List.length b) c_b b (by first | rfl | (simp; done) | (simp; omega) | omega) ((i_b.ev Hv352).pick [] (by kernel_rfl))) ?_
 rintro _ wo360 ⟨xv357, rfl, he361, hpu358⟩
 refine ⟨_, _, _, rfl, he361, rfl, fun ac363 En364 Hv365 => ?_⟩
 refine d_e [0,2,3,8,9,10,11,12,13,18,19,20,21,26,27,28,29,30,31] [] En364 fun ac366 En367 => ?_
 refine then_normal ?_
 refine d_s [0,2,3,8,9,10,11,12,13,18,19,20,21,26,27,28,29] [(4, g_b (show (((UInt16.toNat xv344 : Nat) : Int) == ((UInt16.toNat xv357 : Nat) : Int)) = true from (by rw [hpu345, hpu358, like_V (u16_like _ _ _)]; exact beq_self_eq_true _))), (9, g_b (show (gotA (u16M b false false) == gotA (du16M b false false)) = true from (by rw [like_A (u16_like _ _ _)]; exact beq_self_eq_true _)))] En367 fun ac368 En369 => ?_
 refine wp_seq ?_
 refine region_from ?_
 refine d_k [0,2,3,8,9,10,11,12,13,18,19,20,21,26,27,28,29,220] [] 1 En369 fun ac370 En371 => ?_
 refine f_o ?_
 refine c_0 En371 Hv365 (getpsks_go _ a_b (List.length b) c_b b (by first | rfl | (simp; done) | (simp; omega) | omega) ((i_b.ev Hv365).pick [] (by kernel_rfl))) ?_
 rintro _ wo379 ⟨oa372, oc373, xs374, rfl, he380, hpu375, hf376, hf377⟩
 refine ⟨_, _, _, rfl, he380, rfl, fun ac382 En383 Hv384 => ?_⟩
 refine d_e [0,2,3,8,9,10,11,12,13,18,19,20,21,26,27,28,29,32,33] [] En383 fun ac385 En386 => ?_
 refine then_normal ?_
 refine wp_seq ?_
 refine region_from ?_
 refine d_k [0,2,3,8,9,10,11,12,13,18,19,20,21,26,27,28,29,32,33,226] [] 1 En386 fun ac387 En388 => ?_
 refine f_o ?_
 refine c_0 En388 Hv384 (dgetpsks_go _ a_b (List.length b) c_b b (by first | rfl | (simp; done) | (simp; omega) | omega) ((i_b.ev Hv384).pick [] (by kernel_rfl))) ?_
 rintro _ wo396 ⟨oa389, oc390, xs391, rfl, he397, hpu392, hf393, hf394⟩
 refine ⟨_, _, _, rfl, he397, rfl, fun ac399 En400 Hv401 => ?_⟩
 refine d_e [0,2,3,8,9,10,11,12,13,18,19,20,21,26,27,28,29,32,33,34,35] [] En400 fun ac402 En403 => ?_
 refine then_normal ?_
 refine wp_seq ?_
 refine region_from ?_
 refine d_k [0,2,3,8,9,10,11,12,13,18,19,20,21,26,27,28,29,33,35,231,232] [] 2 En403 fun ac404 En405 => ?_
 refine f_o ?_
 refine c_p En405 Hv401 (samepsk_go _ oa372 oc373 xs374 (Hv401.heap.innS (k := 2) (f := fPsk) (sz := 3) (by_ := 56) rfl (fun _ => rfl) (by decide) [] (by kernel_rfl) rfl (by first | omega | (simp; done) | (simp; omega)) (fun y hy => ⟨Hv401.heap.innB (k := 3) rfl (List.mem_flatMap.2 ⟨y, hy, List.mem_cons_self⟩) [] (by kernel_rfl) rfl (Nat.le_trans (hf377 y hy).1 (by decide)), trivial, Hv401.heap.innB (k := 3) rfl (List.mem_flatMap.2 ⟨y, hy, (List.mem_cons_of_mem _ List.mem_cons_self)⟩) [] (by kernel_rfl) rfl (Nat.le_trans (hf377 y hy).2 (by decide)), trivial⟩)) oa389 oc390 xs391 (Hv401.heap.innS (k := 0) (f := fPsk) (sz := 3) (by_ := 56) rfl (fun _ => rfl) (by decide) [] (by kernel_rfl) rfl (by first | omega | (simp; done) | (simp; omega)) (fun y hy => ⟨Hv401.heap.innB (k := 1) rfl (List.mem_flatMap.2 ⟨y, hy, List.mem_cons_self⟩) [] (by kernel_rfl) rfl (Nat.le_trans (hf394 y hy).1 (by decide)), trivial, Hv401.heap.innB (k := 1) rfl (List.mem_flatMap.2 ⟨y, hy, (List.mem_cons_of_mem _ List.mem_cons_self)⟩) [] (by kernel_rfl) rfl (Nat.le_trans (hf394 y hy).2 (by decide)), trivial⟩))) fun ac410 wo407 En411 Hv412 => ?_
 refine d_e [0,2,3,8,9,10,11,12,13,18,19,20,21,26,27,28,29,33,35] [(3, g_b (show ((List.map puPsk xs374 == List.map puPsk xs391)) = true from (by rw [hpu375, hpu392, like_V (psk_like _ _ _).1]; exact beq_self_eq_true _)))] En411 fun ac413 En414 => ?_
 refine then_normal ?_
 refine d_s [0,2,3,8,9,10,11,12,13,18,19,20,21,26,27,28,29] [(7, g_b (show (((gotN (pskM b false false) (List.length (pskO b false false).2.1) : Nat) : Int) == ((gotN (dpskM b false false) (List.length (dpskO b false false).2.1) : Nat) : Int)) = true from (by rw [(psk_like _ _ _).2]; exact beq_self_eq_true _))), (12, g_b (show (gotA (pskM b false false) == gotA (dpskM b false false)) = true from (by rw [like_A (psk_like _ _ _).1]; exact beq_self_eq_true _)))] En414 fun ac415 En416 => ?_
 refine wp_seq ?_
 refine region_from ?_
 refine d_k [0,2,3,8,9,10,11,12,13,18,19,20,21,26,27,28,29,249] [] 1 En416 fun ac417 En418 => ?_
 refine f_o ?_
 refine c_0 En418 Hv412 (getcookie_go _ a_b (List.length b) c_b b (by first | rfl | (simp; done) | (simp; omega) | omega) ((i_b.ev Hv412).pick [] (by kernel_rfl))) ?_
 rintro _ wo424 ⟨oa419, oc420, bl421, rfl, he425, hpu422⟩
 refine ⟨_, _, _, rfl, he425, rfl, fun ac427 En428 Hv429 => ?_⟩
 refine d_e [0,2,3,8,9,10,11,12,13,18,19,20,21,26,27,28,29] [] En428 fun ac430 En431 => ?_
 refine then_normal ?_
 refine wp_seq ?_
 refine region_from ?_
 refine d_k [0,2,3,8,9,10,11,12,13,18,19,20,21,26,27,28,29,254] [] 1 En431 fun ac432 En433 => ?_
 refine f_o ?_
 refine c_0 En433 Hv429 (dgetcookie_go _ a_b (List.length b) c_b b (by first | rfl | (simp; done) | (simp; omega) | omega) ((i_b.ev Hv429).pick [] (by kernel_rfl))) ?_
 rintro _ wo439 ⟨oa434, oc435, bl436, rfl, he440, hpu437⟩
 refine ⟨_, _, _, rfl, he440, rfl, fun ac442 En443 Hv444 => ?_⟩
 refine d_e [0,2,3,8,9,10,11,12,13,18,19,20,21,26,27,28,29] [] En443 fun ac445 En446 => ?_
 refine then_normal ?_
 refine wp_seq ?_
 refine region_from ?_
 refine d_k [0,2,3,8,9,10,11,12,13,18,19,20,21,26,27,28,29,259,260] [] 3 En446 fun ac447 En448 => ?_
 refine f_o ?_
 refine op_str (d := some 261) (src := 23) (dst := 9) (e := 5) (ao := oa419) (cap := oc420) (p := List.length bl421) (bs := bl421) En448 (by kernel_rfl) rfl (by kernel_rfl) (by kernel_rfl) (by kernel_rfl) (Hv444.heap.reads (k := 1) rfl) (bys_vnz Hv444.heap (k := 1) rfl) ?_
 intro ac449 En450
 refine d_k [0,2,3,8,9,10,11,12,13,18,19,20,21,26,27,28,29,259,261,262] [] 5 En450 fun ac451 En452 => ?_
 refine f_o ?_
 refine op_str (d := some 263) (src := 23) (dst := 9) (e := 5) (ao := oa434) (cap := oc435) (p := List.length bl436) (bs := bl436) En452 (by kernel_rfl) rfl (by kernel_rfl) (by kernel_rfl) (by kernel_rfl) (Hv444.heap.reads (k := 0) rfl) (bys_vnz Hv444.heap (k := 0) rfl) ?_
 intro ac453 En454
 refine d_e [0,2,3,8,9,10,11,12,13,18,19,20,21,26,27,28,29] [(6, g_v (show (.bool (ByteArray.toList (bstr bl421) == ByteArray.toList (bstr bl436)) : Value) = .bool true by rw [Go.Dbr.bstr_eq bl421 bl436, show (bl421 == bl436) = true from (by rw [hpu422, hpu437, like_V (list_like 2 1 65535 _ _ _)]; exact beq_self_eq_true _)] <;> rfl)), (11, g_b (show (gotA (listM 2 1 65535 b false false) == gotA (dlistM 2 1 65535 b false false)) = true from (by rw [like_A (list_like 2 1 65535 _ _ _)]; exact beq_self_eq_true _)))] En454 fun ac455 En456 => ?_
 refine then_normal ?_
 refine wp_seq ?_
 refine region_from ?_
 refine d_k [0,2,3,8,9,10,11,12,13,18,19,20,21,26,27,28,29,272] [] 1 En456 fun ac457 En458 => ?_
 refine f_o ?_
 refine c_0 En458 Hv444 (getstatus_go _ a_b (List.length b) c_b b (by first | rfl | (simp; done) | (simp; omega) | omega) ((i_b.ev Hv444).pick [] (by kernel_rfl))) ?_
 rintro _ wo464 ⟨oa459, oc460, bl461, rfl, he465, hpu462⟩
 refine ⟨_, _, _, rfl, he465, rfl, fun ac467 En468 Hv469 => ?_⟩
 refine d_e [0,2,3,8,9,10,11,12,13,18,19,20,21,26,27,28,29] [] En468 fun ac470 En471 => ?_
 refine then_normal ?_
 refine wp_seq ?_
 refine region_from ?_
 refine d_k [0,2,3,8,9,10,11,12,13,18,19,20,21,26,27,28,29,277] [] 1 En471 fun ac472 En473 => ?_
 refine f_o ?_
 refine c_0 En473 Hv469 (dgetstatus_go _ a_b (List.length b) c_b b (by first | rfl | (simp; done) | (simp; omega) | omega) ((i_b.ev Hv469).pick [] (by kernel_rfl))) ?_
 rintro _ wo479 ⟨oa474, oc475, bl476, rfl, he480, hpu477⟩
 refine ⟨_, _, _, rfl, he480, rfl, fun ac482 En483 Hv484 => ?_⟩
 refine d_e [0,2,3,8,9,10,11,12,13,18,19,20,21,26,27,28,29] [] En483 fun ac485 En486 => ?_
 refine then_normal ?_
 refine wp_seq ?_
 refine region_from ?_
 refine d_k [0,2,8,9,10,11,12,13,18,19,20,21,26,27,28,29,285,286] [] 6 En486 fun ac487 En488 => ?_
 refine f_o ?_
 refine op_str (d := some 287) (src := 23) (dst := 9) (e := 5) (ao := oa459) (cap := oc460) (p := List.length bl461) (bs := bl461) En488 (by kernel_rfl) rfl (by kernel_rfl) (by kernel_rfl) (by kernel_rfl) (Hv484.heap.reads (k := 1) rfl) (bys_vnz Hv484.heap (k := 1) rfl) ?_
 intro ac489 En490
 refine d_k [0,2,8,9,10,11,12,13,18,19,20,21,26,27,28,29,285,287,288] [] 8 En490 fun ac491 En492 => ?_
 refine f_o ?_
 refine op_str (d := some 289) (src := 23) (dst := 9) (e := 5) (ao := oa474) (cap := oc475) (p := List.length bl476) (bs := bl476) En492 (by kernel_rfl) rfl (by kernel_rfl) (by kernel_rfl) (by kernel_rfl) (Hv484.heap.reads (k := 0) rfl) (bys_vnz Hv484.heap (k := 0) rfl) ?_
 intro ac493 En494
 refine d_e [0,2,8,9,10,11,12,13,18,19,20,21,26,27,28,29] [(9, g_v (show (.bool (ByteArray.toList (bstr bl461) == ByteArray.toList (bstr bl476)) : Value) = .bool true by rw [Go.Dbr.bstr_eq bl461 bl476, show (bl461 == bl476) = true from (by rw [hpu462, hpu477, like_V (st_like _ _ _)]; exact beq_self_eq_true _)] <;> rfl)), (14, g_b (show (gotA (stM b false false) == gotA (dstM b false false)) = true from (by rw [like_A (st_like _ _ _)]; exact beq_self_eq_true _)))] En494 fun ac495 En496 => ?_
 refine then_normal ?_
 refine wp_ret ?_
 refine d_ret1 (t := 2) (v := .bool true) En496 (by kernel_rfl) (by kernel_rfl) ?_
 exact ⟨rfl, Hv484.pk []⟩

end Go.Proofs.Ytofecellbfhnjaa
