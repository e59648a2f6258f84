import Derived.Test.YtofecellbfhnjaaTh6
import Derived.Test.YtofecellbfhnjaaTh5
/- Layer 17: shares of keys are read by the document; compared. -/

namespace Go.Proofs.Ytofecellbfhnjaa
open Go.Dbr
set_option maxRecDepth 100000
set_option maxHeartbeats 2000000
set_option linter.unusedVariables false
set_option linter.unusedSimpArgs false

theorem pair_eq {α β : Type} {a c : α} {b d : β} (h : a = c) (h2 : b = d) : (a, b) = (c, d) := by rw [h, h2]

theorem samesha_go (w : World) (ap : Option Addr) (cp : Nat) (xp : List RSha) (ip : InS fSha 32 (fun x : RSha => (True ∧ (InB w [] x.2.1.a x.2.1.c x.2.1.l ∧ (True)))) w [] ap cp xp) (aq : Option Addr) (cq : Nat) (xq : List RSha) (iq : InS fSha 32 (fun x : RSha => (True ∧ (InB w [] x.2.1.a x.2.1.c x.2.1.l ∧ (True)))) w [] aq cq xq) : Calls Try.prog 55 #[.slice ap (List.length xp) cp, .slice aq (List.length xq) cq] w fun e w' => e = .returned (.bool (List.map (fun y : RSha => (y.1, y.2.1.l)) xp == List.map (fun y : RSha => (y.1, y.2.1.l)) xq)) ∧ Ev w [] w' [] := by
 have hsp := ip.small
 refine d_0 [(0, .slice ap (List.length xp) cp), (1, .slice aq (List.length xq) cq)] 43 Go.Proofs.Try.func55 Go.Proofs.Try.ntmps55 (Heap.nil _) fun act0 En0 Hv0 => ?_
 refine d_s [0,1,4] [] En0 fun ac1 En2 => ?_
 refine wp_seq ?_
 refine d_s [0,1,4,10] [] En2 fun ac3 En4 => ?_
 refine c_n ((List.length xp : Nat) : Int) ((List.length xq : Nat) : Int) En4 (fun hc5 => ?_) (fun hc5 => ?_)
 ·
  refine d_s [0,1,4] [] En4 fun ac6 En7 => ?_
  refine wp_ret ?_
  refine then_ret ?_
  refine d_ret1 (t := 4) (v := .bool false) En7 (by kernel_rfl) (by kernel_rfl) ?_
  exact ⟨congrArg (fun b => Ending.returned (Value.bool b)) (same_len (by omega)), Hv0.pk []⟩
 ·
  refine wp_skip ?_
  refine then_normal ?_
  refine wp_seq ?_
  refine d_s [0,1,4,5] [] En4 fun ac8 En9 => ?_
  refine wp_block ?_
  refine loop_m (fun ms10 ac wo => ∃ (i : Nat), ms10 = (List.length xp + 1 - i : Nat) ∧ Env ac 43 [(0, .slice ap (List.length xp) cp), (1, .slice aq (List.length xq) cq), (5, ni i)] ∧ Ev w [] wo [] ∧ (List.take i (List.map (fun y : RSha => (y.1, y.2.1.l)) xp) = List.take i (List.map (fun y : RSha => (y.1, y.2.1.l)) xq))) ⟨_, 0, rfl, En9.sb, Hv0.pk [], rfl⟩ ?_
  rintro mm16 ac12 wo13 ⟨i, rfl, En14, Hv15, hp⟩
  refine wp_seq ?_
  refine d_s [0,1,5,14] [] En14 fun ac17 En18 => ?_
  refine c_d (((i : Nat) : Int) < ((List.length xp : Nat) : Int)) En18 (fun hc19 => ?_) (fun hc19 => ?_)
  ·
   refine wp_skip ?_
   refine then_normal ?_
   refine wp_seq ?_
   refine wp_block ?_
   refine wp_seq ?_
   have hb20 : i < List.length xp := by omega
   obtain ⟨⟨x22a, ⟨a_x22b, c_x22b, x22b⟩, _⟩, hx21⟩ : ∃ x, (xp)[i]? = some x := ⟨_, List.getElem?_eq_getElem hb20⟩
   obtain ⟨_, i_x22b, _⟩ := ip.each _ (List.mem_of_getElem? hx21)
   replace i_x22b : InB w [] a_x22b c_x22b x22b := i_x22b
   obtain ⟨adp, hadp⟩ := some_of ip.nz (show i < List.length xp by omega)
   have hb23 : i < List.length xq := by omega
   obtain ⟨⟨x25a, ⟨a_x25b, c_x25b, x25b⟩, _⟩, hx24⟩ : ∃ x, (xq)[i]? = some x := ⟨_, List.getElem?_eq_getElem hb23⟩
   obtain ⟨_, i_x25b, _⟩ := iq.each _ (List.mem_of_getElem? hx24)
   replace i_x25b : InB w [] a_x25b c_x25b x25b := i_x25b
   obtain ⟨adq, hadq⟩ := some_of iq.nz (show i < List.length xq by omega)
   rcases Bool.eq_false_or_eq_true (((UInt16.toNat x22a : Nat) : Int) != ((UInt16.toNat x25a : Nat) : Int)) with hb26 | hb26
   ·
    have hb26p : ¬ (((UInt16.toNat x22a : Nat) : Int) = ((UInt16.toNat x25a : Nat) : Int)) := by simpa using hb26
    refine r_c (fun ac wo => Env ac 43 [(0, .slice ap (List.length xp) cp), (1, .slice aq (List.length xq) cq), (5, ni i), (42, .bool true)] ∧ Ev w [] wo []) ?_ ?_
    ·
     refine s_g0 [(0, .slice ap (List.length xp) cp), (1, .slice aq (List.length xq) cq), (5, ni i)] [0,1,2,3,4,5,6,7,8,9,10,11] [(17, .slice ap (List.length xp) cp), (18, ni i), (19, .pointer (some (Addr.add adp (i * 2)))), (20, .pointer (some (Addr.add adp (i * 2)))), (21, uv16 x22a), (22, .slice aq (List.length xq) cq), (23, ni i), (24, .pointer (some (Addr.add adq (i * 2)))), (25, .pointer (some (Addr.add adq (i * 2)))), (26, uv16 x25a), (27, .bool (((UInt16.toNat x22a : Nat) : Int) != ((UInt16.toNat x25a : Nat) : Int))), (28, .bool (((UInt16.toNat x22a : Nat) : Int) != ((UInt16.toNat x25a : Nat) : Int)))] 14 [(0, .slice ap (List.length xp) cp), (1, .slice aq (List.length xq) cq), (5, ni i), (28, .bool (((UInt16.toNat x22a : Nat) : Int) != ((UInt16.toNat x25a : Nat) : Int)))] (En18.sb) (Hv15.trans (Ev.drew Hv15.heap)) ?_ fun ac61 wo62 En63 Hv64 => ?_
     ·
      refine s_p [] ?_
      refine s_p [] ?_
      have hb29 : i < List.length xp := (by omega)
      refine s_c (fun Mx30 ac31 wo32 En33 Hv34 => ?_) ?_
      ·
       refine q_v (x := Instr.indexAt 34 (.slice ap (List.length xp) cp) (ni i)) (v := .pointer (some (Addr.add adp (i * 2)))) En33 (Go.Dbr.run_indexsl (e := 49) (sz := 2) (j := i) (jo := i * 2) hadp (by kernel_rfl) (by kernel_rfl) (by omega) hb29 rfl _) fun ac35 En36 => ?_
       exact s_e En36 Hv34
      refine s_p [] ?_
      refine s_c (fun Mx37 ac38 wo39 En40 Hv41 => ?_) ?_
      ·
       refine op_loadf (d := some 21) (t := 37) (ad := adp) (ao := ap) (ys := List.flatMap fSha xp) (o := i * 2) (v := uv16 x22a) En40 (by kernel_rfl) rfl (ip.ro.ev Hv41).reads hadp ((flat_get (sz := 2) (j := 0) (fun _ _ => rfl) hx21 (by decide)).trans rfl) (by kernel_rfl) ?_
       intro ac42 En43
       exact s_e En43 Hv41
      refine s_p [] ?_
      refine s_p [] ?_
      have hb46 : i < List.length xq := (by omega)
      refine s_c (fun Mx47 ac48 wo49 En50 Hv51 => ?_) ?_
      ·
       refine q_v (x := Instr.indexAt 34 (.slice aq (List.length xq) cq) (ni i)) (v := .pointer (some (Addr.add adq (i * 2)))) En50 (Go.Dbr.run_indexsl (e := 49) (sz := 2) (j := i) (jo := i * 2) hadq (by kernel_rfl) (by kernel_rfl) (by omega) hb46 rfl _) fun ac52 En53 => ?_
       exact s_e En53 Hv51
      refine s_p [] ?_
      refine s_c (fun Mx54 ac55 wo56 En57 Hv58 => ?_) ?_
      ·
       refine op_loadf (d := some 26) (t := 37) (ad := adq) (ao := aq) (ys := List.flatMap fSha xq) (o := i * 2) (v := uv16 x25a) En57 (by kernel_rfl) rfl (iq.ro.ev Hv58).reads hadq ((flat_get (sz := 2) (j := 0) (fun _ _ => rfl) hx24 (by decide)).trans rfl) (by kernel_rfl) ?_
       intro ac59 En60
       exact s_e En60 Hv58
      refine s_p [] ?_
      refine s_p [] ?_
      exact s_n
     have En68 := En63.fx (t := 28) (congrArg Value.bool hb26)
     refine q_a [12,13,14,15,16,17,18,19,20,21,22,23,24,25] [] 0 En68 fun ac69 En70 => ?_
     exact a_e ⟨En70.sb, Hv64.pk []⟩
    rintro ac71 wo72 ⟨En73, Hv74⟩
    refine then_normal ?_
    refine c_t En73 ?_
    refine d_s [0,1,4,5] [] En73 fun ac75 En76 => ?_
    refine wp_ret ?_
    refine block_ret ?_
    refine then_ret ?_
    refine then_ret ?_
    refine block_ret ?_
    refine then_ret ?_
    refine d_ret1 (t := 4) (v := .bool false) En76 (by kernel_rfl) (by kernel_rfl) ?_
    exact ⟨congrArg (fun b => Ending.returned (Value.bool b)) (same_no hx21 hx24 (fun g => by first | exact absurd (congrArg (fun z : UInt16 × Bs => ((UInt16.toNat z.1 : Nat) : Int)) g) (by assumption) | exact absurd (congrArg Prod.snd g) (by assumption))), Hv74.pk []⟩
   ·
    have hb26p : ((UInt16.toNat x22a : Nat) : Int) = ((UInt16.toNat x25a : Nat) : Int) := by simpa using hb26
    refine r_c (fun ac wo => Env ac 43 [(0, .slice ap (List.length xp) cp), (1, .slice aq (List.length xq) cq), (5, ni i), (42, .bool (!(x22b == x25b)))] ∧ Ev w [] wo []) ?_ ?_
    ·
     refine s_g0 [(0, .slice ap (List.length xp) cp), (1, .slice aq (List.length xq) cq), (5, ni i)] [0,1,2,3,4,5,6,7,8,9,10,11] [(17, .slice ap (List.length xp) cp), (18, ni i), (19, .pointer (some (Addr.add adp (i * 2)))), (20, .pointer (some (Addr.add adp (i * 2)))), (21, uv16 x22a), (22, .slice aq (List.length xq) cq), (23, ni i), (24, .pointer (some (Addr.add adq (i * 2)))), (25, .pointer (some (Addr.add adq (i * 2)))), (26, uv16 x25a), (27, .bool (((UInt16.toNat x22a : Nat) : Int) != ((UInt16.toNat x25a : Nat) : Int))), (28, .bool (((UInt16.toNat x22a : Nat) : Int) != ((UInt16.toNat x25a : Nat) : Int)))] 14 [(0, .slice ap (List.length xp) cp), (1, .slice aq (List.length xq) cq), (5, ni i), (28, .bool (((UInt16.toNat x22a : Nat) : Int) != ((UInt16.toNat x25a : Nat) : Int)))] (En18.sb) (Hv15.trans (Ev.drew Hv15.heap)) ?_ fun ac111 wo112 En113 Hv114 => ?_
     ·
      refine s_p [] ?_
      refine s_p [] ?_
      have hb79 : i < List.length xp := (by omega)
      refine s_c (fun Mx80 ac81 wo82 En83 Hv84 => ?_) ?_
      ·
       refine q_v (x := Instr.indexAt 34 (.slice ap (List.length xp) cp) (ni i)) (v := .pointer (some (Addr.add adp (i * 2)))) En83 (Go.Dbr.run_indexsl (e := 49) (sz := 2) (j := i) (jo := i * 2) hadp (by kernel_rfl) (by kernel_rfl) (by omega) hb79 rfl _) fun ac85 En86 => ?_
       exact s_e En86 Hv84
      refine s_p [] ?_
      refine s_c (fun Mx87 ac88 wo89 En90 Hv91 => ?_) ?_
      ·
       refine op_loadf (d := some 21) (t := 37) (ad := adp) (ao := ap) (ys := List.flatMap fSha xp) (o := i * 2) (v := uv16 x22a) En90 (by kernel_rfl) rfl (ip.ro.ev Hv91).reads hadp ((flat_get (sz := 2) (j := 0) (fun _ _ => rfl) hx21 (by decide)).trans rfl) (by kernel_rfl) ?_
       intro ac92 En93
       exact s_e En93 Hv91
      refine s_p [] ?_
      refine s_p [] ?_
      have hb96 : i < List.length xq := (by omega)
      refine s_c (fun Mx97 ac98 wo99 En100 Hv101 => ?_) ?_
      ·
       refine q_v (x := Instr.indexAt 34 (.slice aq (List.length xq) cq) (ni i)) (v := .pointer (some (Addr.add adq (i * 2)))) En100 (Go.Dbr.run_indexsl (e := 49) (sz := 2) (j := i) (jo := i * 2) hadq (by kernel_rfl) (by kernel_rfl) (by omega) hb96 rfl _) fun ac102 En103 => ?_
       exact s_e En103 Hv101
      refine s_p [] ?_
      refine s_c (fun Mx104 ac105 wo106 En107 Hv108 => ?_) ?_
      ·
       refine op_loadf (d := some 26) (t := 37) (ad := adq) (ao := aq) (ys := List.flatMap fSha xq) (o := i * 2) (v := uv16 x25a) En107 (by kernel_rfl) rfl (iq.ro.ev Hv108).reads hadq ((flat_get (sz := 2) (j := 0) (fun _ _ => rfl) hx24 (by decide)).trans rfl) (by kernel_rfl) ?_
       intro ac109 En110
       exact s_e En110 Hv108
      refine s_p [] ?_
      refine s_p [] ?_
      exact s_n
     refine any_name fun G hG => ?_
     have nd168 : ∀ (ac : Act) (wo : World), Env ac 43 [(0, .slice ap (List.length xp) cp), (1, .slice aq (List.length xq) cq), (5, ni i), (28, .bool false), (34, .string (bstr x22b)), (39, .slice a_x25b (List.length x25b) c_x25b)] → Ev w [] wo [] → G 3 #[true, true, true, true, true, true, true, true, true, true, true, true, true, true, true, true, true, true, true, true, true, true, true, false, false, false] ac wo := by
      intro ac169 wo170 En171 Hv172
      refine any_from hG ?_
      refine q_u 23 ?_
      refine op_str (d := some 40) (src := 23) (dst := 9) (e := 5) (ao := a_x25b) (cap := c_x25b) (p := List.length x25b) (bs := x25b) En171 (by kernel_rfl) rfl (by kernel_rfl) (by kernel_rfl) (by kernel_rfl) (i_x25b.ev Hv172).reads i_x25b.nz ?_
      intro ac173 En174
      refine q_a [24,25] [(24, g_v (show (.bool (!(ByteArray.toList (bstr x22b) == ByteArray.toList (bstr x25b))) : Value) = .bool (!(x22b == x25b)) by rw [Go.Dbr.bstr_eq x22b x25b] <;> rfl))] 0 En174 fun ac175 En176 => ?_
      exact a_e ⟨En176.sb, Hv172.pk []⟩
     have nd177 : ∀ (ac : Act) (wo : World), Env ac 43 [(0, .slice ap (List.length xp) cp), (1, .slice aq (List.length xq) cq), (5, ni i), (28, .bool false), (33, .slice a_x22b (List.length x22b) c_x22b), (40, .string (bstr x25b))] → Ev w [] wo [] → G 3 #[true, true, true, true, true, true, true, true, true, true, true, true, true, true, true, true, true, false, true, true, true, true, true, true, false, false] ac wo := by
      intro ac178 wo179 En180 Hv181
      refine any_from hG ?_
      refine q_u 17 ?_
      refine op_str (d := some 34) (src := 23) (dst := 9) (e := 5) (ao := a_x22b) (cap := c_x22b) (p := List.length x22b) (bs := x22b) En180 (by kernel_rfl) rfl (by kernel_rfl) (by kernel_rfl) (by kernel_rfl) (i_x22b.ev Hv181).reads i_x22b.nz ?_
      intro ac182 En183
      refine q_a [24,25] [(24, g_v (show (.bool (!(ByteArray.toList (bstr x22b) == ByteArray.toList (bstr x25b))) : Value) = .bool (!(x22b == x25b)) by rw [Go.Dbr.bstr_eq x22b x25b] <;> rfl))] 0 En183 fun ac184 En185 => ?_
      exact a_e ⟨En185.sb, Hv181.pk []⟩
     have nd186 : ∀ (ac : Act) (wo : World), Env ac 43 [(0, .slice ap (List.length xp) cp), (1, .slice aq (List.length xq) cq), (5, ni i), (28, .bool false), (34, .string (bstr x22b)), (38, .pointer (some (Addr.add (Addr.add adq (i * 2)) 1)))] → Ev w [] wo [] → G 4 #[true, true, true, true, true, true, true, true, true, true, true, true, true, true, true, true, true, true, true, true, true, true, false, false, false, false] ac wo := by
      intro ac187 wo188 En189 Hv190
      refine any_from hG ?_
      refine q_u 22 ?_
      refine op_loadf (d := some 39) (t := 23) (ad := adq) (ao := aq) (ys := List.flatMap fSha xq) (o := i * 2 + 1) (v := .slice a_x25b (List.length x25b) c_x25b) En189 (by kernel_rfl) (Deep.add_add _ _ _) (iq.ro.ev Hv190).reads hadq ((flat_get (sz := 2) (j := 1) (fun _ _ => rfl) hx24 (by decide)).trans rfl) (by kernel_rfl) ?_
      intro ac191 En192
      refine q_u 23 ?_
      refine op_str (d := some 40) (src := 23) (dst := 9) (e := 5) (ao := a_x25b) (cap := c_x25b) (p := List.length x25b) (bs := x25b) En192 (by kernel_rfl) rfl (by kernel_rfl) (by kernel_rfl) (by kernel_rfl) (i_x25b.ev Hv190).reads i_x25b.nz ?_
      intro ac193 En194
      refine q_a [24,25] [(24, g_v (show (.bool (!(ByteArray.toList (bstr x22b) == ByteArray.toList (bstr x25b))) : Value) = .bool (!(x22b == x25b)) by rw [Go.Dbr.bstr_eq x22b x25b] <;> rfl))] 0 En194 fun ac195 En196 => ?_
      exact a_e ⟨En196.sb, Hv190.pk []⟩
     have nd197 : ∀ (ac : Act) (wo : World), Env ac 43 [(0, .slice ap (List.length xp) cp), (1, .slice aq (List.length xq) cq), (5, ni i), (28, .bool false), (33, .slice a_x22b (List.length x22b) c_x22b), (39, .slice a_x25b (List.length x25b) c_x25b)] → Ev w [] wo [] → G 4 #[true, true, true, true, true, true, true, true, true, true, true, true, true, true, true, true, true, false, true, true, true, true, true, false, false, false] ac wo := by
      intro ac198 wo199 En200 Hv201
      refine any_from hG ?_
      refine any_two 17 23 (by kernel_rfl) ?_ ?_
      ·
       rintro _ rfl
       refine op_str (d := some 34) (src := 23) (dst := 9) (e := 5) (ao := a_x22b) (cap := c_x22b) (p := List.length x22b) (bs := x22b) En200 (by kernel_rfl) rfl (by kernel_rfl) (by kernel_rfl) (by kernel_rfl) (i_x22b.ev Hv201).reads i_x22b.nz ?_
       intro ac202 En203
       exact any_to hG (by kernel_rfl) (nd168 _ _ (En203.sb) (Hv201.pk []))
      ·
       rintro _ rfl
       refine op_str (d := some 40) (src := 23) (dst := 9) (e := 5) (ao := a_x25b) (cap := c_x25b) (p := List.length x25b) (bs := x25b) En200 (by kernel_rfl) rfl (by kernel_rfl) (by kernel_rfl) (by kernel_rfl) (i_x25b.ev Hv201).reads i_x25b.nz ?_
       intro ac204 En205
       exact any_to hG (by kernel_rfl) (nd177 _ _ (En205.sb) (Hv201.pk []))
     have nd206 : ∀ (ac : Act) (wo : World), Env ac 43 [(0, .slice ap (List.length xp) cp), (1, .slice aq (List.length xq) cq), (5, ni i), (28, .bool false), (32, .pointer (some (Addr.add (Addr.add adp (i * 2)) 1))), (40, .string (bstr x25b))] → Ev w [] wo [] → G 4 #[true, true, true, true, true, true, true, true, true, true, true, true, true, true, true, true, false, false, true, true, true, true, true, true, false, false] ac wo := by
      intro ac207 wo208 En209 Hv210
      refine any_from hG ?_
      refine q_u 16 ?_
      refine op_loadf (d := some 33) (t := 23) (ad := adp) (ao := ap) (ys := List.flatMap fSha xp) (o := i * 2 + 1) (v := .slice a_x22b (List.length x22b) c_x22b) En209 (by kernel_rfl) (Deep.add_add _ _ _) (ip.ro.ev Hv210).reads hadp ((flat_get (sz := 2) (j := 1) (fun _ _ => rfl) hx21 (by decide)).trans rfl) (by kernel_rfl) ?_
      intro ac211 En212
      refine q_u 17 ?_
      refine op_str (d := some 34) (src := 23) (dst := 9) (e := 5) (ao := a_x22b) (cap := c_x22b) (p := List.length x22b) (bs := x22b) En212 (by kernel_rfl) rfl (by kernel_rfl) (by kernel_rfl) (by kernel_rfl) (i_x22b.ev Hv210).reads i_x22b.nz ?_
      intro ac213 En214
      refine q_a [24,25] [(24, g_v (show (.bool (!(ByteArray.toList (bstr x22b) == ByteArray.toList (bstr x25b))) : Value) = .bool (!(x22b == x25b)) by rw [Go.Dbr.bstr_eq x22b x25b] <;> rfl))] 0 En214 fun ac215 En216 => ?_
      exact a_e ⟨En216.sb, Hv210.pk []⟩
     have nd217 : ∀ (ac : Act) (wo : World), Env ac 43 [(0, .slice ap (List.length xp) cp), (1, .slice aq (List.length xq) cq), (5, ni i), (28, .bool false), (33, .slice a_x22b (List.length x22b) c_x22b), (38, .pointer (some (Addr.add (Addr.add adq (i * 2)) 1)))] → Ev w [] wo [] → G 5 #[true, true, true, true, true, true, true, true, true, true, true, true, true, true, true, true, true, false, true, true, true, true, false, false, false, false] ac wo := by
      intro ac218 wo219 En220 Hv221
      refine any_from hG ?_
      refine any_two 17 22 (by kernel_rfl) ?_ ?_
      ·
       rintro _ rfl
       refine op_str (d := some 34) (src := 23) (dst := 9) (e := 5) (ao := a_x22b) (cap := c_x22b) (p := List.length x22b) (bs := x22b) En220 (by kernel_rfl) rfl (by kernel_rfl) (by kernel_rfl) (by kernel_rfl) (i_x22b.ev Hv221).reads i_x22b.nz ?_
       intro ac222 En223
       exact any_to hG (by kernel_rfl) (nd186 _ _ (En223.sb) (Hv221.pk []))
      ·
       rintro _ rfl
       refine op_loadf (d := some 39) (t := 23) (ad := adq) (ao := aq) (ys := List.flatMap fSha xq) (o := i * 2 + 1) (v := .slice a_x25b (List.length x25b) c_x25b) En220 (by kernel_rfl) (Deep.add_add _ _ _) (iq.ro.ev Hv221).reads hadq ((flat_get (sz := 2) (j := 1) (fun _ _ => rfl) hx24 (by decide)).trans rfl) (by kernel_rfl) ?_
       intro ac224 En225
       exact any_to hG (by kernel_rfl) (nd197 _ _ (En225.sb) (Hv221.pk []))
     have nd226 : ∀ (ac : Act) (wo : World), Env ac 43 [(0, .slice ap (List.length xp) cp), (1, .slice aq (List.length xq) cq), (5, ni i), (28, .bool false), (32, .pointer (some (Addr.add (Addr.add adp (i * 2)) 1))), (39, .slice a_x25b (List.length x25b) c_x25b)] → Ev w [] wo [] → G 5 #[true, true, true, true, true, true, true, true, true, true, true, true, true, true, true, true, false, false, true, true, true, true, true, false, false, false] ac wo := by
      intro ac227 wo228 En229 Hv230
      refine any_from hG ?_
      refine any_two 16 23 (by kernel_rfl) ?_ ?_
      ·
       rintro _ rfl
       refine op_loadf (d := some 33) (t := 23) (ad := adp) (ao := ap) (ys := List.flatMap fSha xp) (o := i * 2 + 1) (v := .slice a_x22b (List.length x22b) c_x22b) En229 (by kernel_rfl) (Deep.add_add _ _ _) (ip.ro.ev Hv230).reads hadp ((flat_get (sz := 2) (j := 1) (fun _ _ => rfl) hx21 (by decide)).trans rfl) (by kernel_rfl) ?_
       intro ac231 En232
       exact any_to hG (by kernel_rfl) (nd197 _ _ (En232.sb) (Hv230.pk []))
      ·
       rintro _ rfl
       refine op_str (d := some 40) (src := 23) (dst := 9) (e := 5) (ao := a_x25b) (cap := c_x25b) (p := List.length x25b) (bs := x25b) En229 (by kernel_rfl) rfl (by kernel_rfl) (by kernel_rfl) (by kernel_rfl) (i_x25b.ev Hv230).reads i_x25b.nz ?_
       intro ac233 En234
       exact any_to hG (by kernel_rfl) (nd206 _ _ (En234.sb) (Hv230.pk []))
     refine any_from hG ?_
     have En235 := En113.fx (t := 28) (congrArg Value.bool hb26)
     have hb238 : i < List.length xp := (by omega)
     refine q_a [12,13] [] 12 En235 fun ac239 En240 => ?_
     refine q_g 14 (s := Instr.indexAt 34 (.slice ap (List.length xp) cp) (ni i)) (v := .pointer (some (Addr.add adp (i * 2)))) En240 (fun _ => Go.Dbr.run_indexsl (e := 49) (sz := 2) (j := i) (jo := i * 2) hadp (by kernel_rfl) (by kernel_rfl) (by omega) hb238 rfl _) fun ac241 En242 => ?_
     have hb245 : i < List.length xq := (by omega)
     refine q_a [15,18,19] [] 8 En242 fun ac246 En247 => ?_
     refine q_g 20 (s := Instr.indexAt 34 (.slice aq (List.length xq) cq) (ni i)) (v := .pointer (some (Addr.add adq (i * 2)))) En247 (fun _ => Go.Dbr.run_indexsl (e := 49) (sz := 2) (j := i) (jo := i * 2) hadq (by kernel_rfl) (by kernel_rfl) (by omega) hb245 rfl _) fun ac248 En249 => ?_
     refine q_a [21] [] 6 En249 fun ac250 En251 => ?_
     refine any_two 16 22 (by kernel_rfl) ?_ ?_
     ·
      rintro _ rfl
      refine op_loadf (d := some 33) (t := 23) (ad := adp) (ao := ap) (ys := List.flatMap fSha xp) (o := i * 2 + 1) (v := .slice a_x22b (List.length x22b) c_x22b) En251 (by kernel_rfl) (Deep.add_add _ _ _) (ip.ro.ev Hv114).reads hadp ((flat_get (sz := 2) (j := 1) (fun _ _ => rfl) hx21 (by decide)).trans rfl) (by kernel_rfl) ?_
      intro ac252 En253
      exact any_to hG (by kernel_rfl) (nd217 _ _ (En253.sb) (Hv114.pk []))
     ·
      rintro _ rfl
      refine op_loadf (d := some 39) (t := 23) (ad := adq) (ao := aq) (ys := List.flatMap fSha xq) (o := i * 2 + 1) (v := .slice a_x25b (List.length x25b) c_x25b) En251 (by kernel_rfl) (Deep.add_add _ _ _) (iq.ro.ev Hv114).reads hadq ((flat_get (sz := 2) (j := 1) (fun _ _ => rfl) hx24 (by decide)).trans rfl) (by kernel_rfl) ?_
      intro ac254 En255
      exact any_to hG (by kernel_rfl) (nd226 _ _ (En255.sb) (Hv114.pk []))
    rintro ac256 wo257 ⟨En258, Hv259⟩
    refine then_normal ?_
    refine cond_at En258 (t := !(x22b == x25b)) (by kernel_rfl) (fun hc260 => ?_) (fun hc260 => ?_)
    ·
     replace hc260 : x22b ≠ x25b := by simpa using hc260
     refine d_s [0,1,4,5] [] En258 fun ac261 En262 => ?_
     refine wp_ret ?_
     refine block_ret ?_
     refine then_ret ?_
     refine then_ret ?_
     refine block_ret ?_
     refine then_ret ?_
     refine d_ret1 (t := 4) (v := .bool false) En262 (by kernel_rfl) (by kernel_rfl) ?_
     exact ⟨congrArg (fun b => Ending.returned (Value.bool b)) (same_no hx21 hx24 (fun g => by first | exact absurd (congrArg (fun z : UInt16 × Bs => ((UInt16.toNat z.1 : Nat) : Int)) g) (by assumption) | exact absurd (congrArg Prod.snd g) (by assumption))), Hv259.pk []⟩
    ·
     replace hc260 : ¬ (x22b ≠ x25b) := by simpa using hc260
     refine wp_skip ?_
     refine block_normal ?_
     refine then_normal ?_
     refine d_r [0,1,5] [(1, g_n (w_a i 1))] En258 fun ac263 En264 => ?_
     refine then_normal ?_
     refine ⟨_, ⟨i + 1, rfl, En264.sb, Hv259.pk [], (same_step hx21 hx24 (pair_eq (u16_eq (x := x22a) (y := x25a) (by omega)) (Classical.not_not.1 (by assumption))) hp)⟩, ?_⟩
     omega
  ·
   refine wp_exit ?_
   refine then_exit ?_
   refine then_exit ?_
   refine block_exit ?_
   refine then_normal ?_
   refine d_s [0,1,4,5] [] En18 fun ac265 En266 => ?_
   refine wp_ret ?_
   refine d_ret1 (t := 4) (v := .bool true) En266 (by kernel_rfl) (by kernel_rfl) ?_
   exact ⟨congrArg (fun b => Ending.returned (Value.bool b)) (same_all (by omega) (by omega) hp), Hv15.pk []⟩

end Go.Proofs.Ytofecellbfhnjaa

/- Layer 17: offered tickets: their parts, by the program. -/

namespace Go.Proofs.Ytofecellbfhnjaa
open Go.Dbr
set_option maxRecDepth 100000
set_option maxHeartbeats 2000000
set_option linter.unusedVariables false
set_option linter.unusedSimpArgs false

section
variable {α β γ δ : Type} {u : α → β → α} {u2 : γ → δ → γ}
end
end Go.Proofs.Ytofecellbfhnjaa

/- Layer 17: parts are written by the program, of each kind. -/


namespace Go.Proofs.Ytofecellbfhnjaa
open Go.Dbr
set_option maxRecDepth 100000
set_option maxHeartbeats 2000000
set_option linter.unusedVariables false
set_option linter.unusedSimpArgs false

def u16F (p : WS) (v : UInt16) : WS := (p.1 ++ beN 2 v.toNat, p.2)
def alF (p : WS) (t : Bs) : WS := (wput 1 p.1 t, wbad 1 1 255 t.length p.2)
def shF (p : WS) (x : UInt16 × Bs) : WS := (wput 2 (p.1 ++ beN 2 x.1.toNat) x.2, wbad 2 1 65535 x.2.length p.2)
/-- whatever is written of the first ones is no more than a slice may hold -/
def allB {β : Type} (F : WS → β → WS) (ps : List β) : Prop := ∀ i, (allM F (List.take i ps)).1.length ≤ 16777216
theorem allB_all {β : Type} {F : WS → β → WS} {ps : List β} (h : allB F ps) : (allM F ps).1.length ≤ 16777216 := by
  have := h ps.length
  rwa [List.take_length] at this
theorem u16_64 (v : UInt16) : v.toUInt64.toNat = v.toNat := by simp
theorem wu16_go (w : World) (bw : Nat) (a : Option Addr) (c : Nat) (l : Bs) (bad : Bool) (v : UInt16) (hb : List.length l + 2 ≤ 200000000000000) (hH : Heap w [.box bw [.slice a (List.length l) c, .bool bad] 115, .vec a c 1 (bys l) 5]) : Calls Try.prog 113 #[pt bw, uv16 v] w fun e w' => ∃ a' c', e = .returned (.tuple #[]) ∧ Ev w [.box bw [.slice a (List.length l) c, .bool bad] 115, .vec a c 1 (bys l) 5] w' [.box bw [.slice a' (List.length ((u16F (l, bad) v).1)) c', .bool ((u16F (l, bad) v).2)] 115, .vec a' c' 1 (bys ((u16F (l, bad) v).1)) 5] := by
 refine d_0 [(0, pt bw), (1, uv16 v)] 8 Go.Proofs.Try.func113 Go.Proofs.Try.ntmps113 (hH) fun act0 En0 Hv0 => ?_
 refine region_from ?_
 refine d_k [4,6] [(2, g_i .u64 (Go.Dbr.u16_to_u64 (x := v) rfl))] 3 En0 fun ac1 En2 => ?_
 refine f_o ?_
 refine c_l [0,1] (M := [.box bw [.slice a (List.length l) c, .bool bad] 115, .vec a c 1 (bys l) 5]) En2 Hv0 (fun hM5 => wnum_go _ bw a c l bad 2 (by omega) (UInt16.toUInt64 v) (by first | omega | (simp; omega)) hM5) ?_
 rintro _ wo6 ⟨wa3, wc4, rfl, he7⟩
 refine ⟨_, _, [.box bw [.slice wa3 (List.length (l ++ beN 2 (UInt64.toNat (UInt16.toUInt64 v)))) wc4, .bool bad] 115, .vec wa3 wc4 1 (bys (l ++ beN 2 (UInt64.toNat (UInt16.toUInt64 v)))) 5], rfl, he7, by kernel_rfl, fun ac9 En10 Hv11 => ?_⟩
 refine f_e ?_
 refine d_end0 En10 (by kernel_rfl) ?_
 rw [u16_64] at Hv11
 exact ⟨wa3, wc4, rfl, Hv11.pk [0, 1]⟩

theorem walpn_go (w : World) (bw : Nat) (a : Option Addr) (c : Nat) (l : Bs) (bad : Bool) (t : Bs) (ht : List.length t ≤ 140737488351232) (hb : List.length l + 1 + List.length t ≤ 200000000000000) (hH : Heap w [.box bw [.slice a (List.length l) c, .bool bad] 115, .vec a c 1 (bys l) 5]) : Calls Try.prog 117 #[pt bw, .string (bstr t)] w fun e w' => ∃ a' c', e = .returned (.tuple #[]) ∧ Ev w [.box bw [.slice a (List.length l) c, .bool bad] 115, .vec a c 1 (bys l) 5] w' [.box bw [.slice a' (List.length ((alF (l, bad) t).1)) c', .bool ((alF (l, bad) t).2)] 115, .vec a' c' 1 (bys ((alF (l, bad) t).1)) 5] := by
 refine d_0 [(0, pt bw), (1, .string (bstr t))] 8 Go.Proofs.Try.func117 Go.Proofs.Try.ntmps117 (hH) fun act0 En0 Hv0 => ?_
 refine region_from ?_
 refine d_k [4,5] [] 2 En0 fun ac1 En2 => ?_
 refine f_o ?_
 refine op_bytes (d := some 6) (src := 9) (dst := 23) (e := 5) (s := t) En2 (by kernel_rfl) (by kernel_rfl) (by kernel_rfl) (by kernel_rfl) Hv0 (by unfold maxLen; first | omega | (simp; omega)) ?_
 intro ac6 wo7 bk3 cp4 En8 Hv9 hcb5
 refine f_o ?_
 refine c_l [0,1] (M := [.box bw [.slice a (List.length l) c, .bool bad] 115, .vec a c 1 (bys l) 5]) En8 Hv9 (fun hM12 => wlist_go _ bw a c l bad 1 (by omega) 1 255 (by omega) (by omega) (some ⟨bk3, 0, none⟩) cp4 t (bys_in Hv9.heap (k := 2) rfl [0, 1] (by kernel_rfl) rfl (by first | omega | (simp; done) | (simp; omega))) (by first | omega | (simp [wput_len, beN_len]; done) | (simp [wput_len, beN_len]; omega)) hM12) ?_
 rintro _ wo13 ⟨wa10, wc11, rfl, he14⟩
 refine ⟨_, _, [.box bw [.slice wa10 (List.length (wput 1 l t)) wc11, .bool (wbad 1 1 255 (List.length t) bad)] 115, .vec wa10 wc11 1 (bys (wput 1 l t)) 5, .vec (some ⟨bk3, 0, none⟩) cp4 1 (bys t) 5], rfl, he14, by kernel_rfl, fun ac16 En17 Hv18 => ?_⟩
 refine f_e ?_
 refine d_end0 En17 (by kernel_rfl) ?_
 exact ⟨wa10, wc11, rfl, Hv18.pk [0, 1]⟩

theorem wshare_go (w : World) (bw : Nat) (a : Option Addr) (c : Nat) (l : Bs) (bad : Bool) (g : UInt16) (ab : Option Addr) (cb : Nat) (b : Bs) (ib : InB w [.box bw [.slice a (List.length l) c, .bool bad] 115, .vec a c 1 (bys l) 5] ab cb b) (hb : List.length l + 4 + List.length b ≤ 200000000000000) (hH : Heap w [.box bw [.slice a (List.length l) c, .bool bad] 115, .vec a c 1 (bys l) 5]) : Calls Try.prog 121 #[pt bw, .agg #[uv16 g, .slice ab (List.length b) cb]] w fun e w' => ∃ a' c', e = .returned (.tuple #[]) ∧ Ev w [.box bw [.slice a (List.length l) c, .bool bad] 115, .vec a c 1 (bys l) 5] w' [.box bw [.slice a' (List.length ((shF (l, bad) (g, b)).1)) c', .bool ((shF (l, bad) (g, b)).2)] 115, .vec a' c' 1 (bys ((shF (l, bad) (g, b)).1)) 5] := by
 have hbs := ib.small
 have hl1 : List.length (u16F (l, bad) g).1 = List.length l + 2 := by rw [u16F, List.length_append, beN_len]
 refine d_0 [(0, pt bw), (1, .agg #[uv16 g, .slice ab (List.length b) cb])] 12 Go.Proofs.Try.func121 Go.Proofs.Try.ntmps121 (hH) fun act0 En0 Hv0 => ?_
 refine wp_seq ?_
 refine region_from ?_
 refine f_o ?_
 refine m_m 49 [uv16 g, .slice ab (List.length b) cb] En0 Hv0 fun ac2 wo3 bk1 En4 Hv5 => ?_
 refine f_e ?_
 refine then_normal ?_
 refine wp_seq ?_
 refine region_from ?_
 refine d_k [0,3,4,5] [] 2 En4 fun ac6 En7 => ?_
 refine f_o ?_
 refine m_l 2 En7 Hv5 fun ac8 En9 => ?_
 refine f_o ?_
 refine c_l [0,1] (M := [.box bw [.slice a (List.length l) c, .bool bad] 115, .vec a c 1 (bys l) 5]) En9 Hv5 (fun hM12 => wu16_go _ bw a c l bad g (by first | omega | (simp [wput_len, beN_len]; done) | (simp [wput_len, beN_len]; omega)) hM12) ?_
 rintro _ wo13 ⟨wa10, wc11, rfl, he14⟩
 refine ⟨_, _, [.box bw [.slice wa10 (List.length ((u16F (l, bad) g).1)) wc11, .bool ((u16F (l, bad) g).2)] 115, .vec wa10 wc11 1 (bys ((u16F (l, bad) g).1)) 5, .box bk1 [uv16 g, .slice ab (List.length b) cb] 49], rfl, he14, by kernel_rfl, fun ac16 En17 Hv18 => ?_⟩
 refine f_e ?_
 refine then_normal ?_
 refine region_from ?_
 refine d_k [0,3,8,9] [] 2 En17 fun ac19 En20 => ?_
 refine f_o ?_
 refine m_l 2 En20 Hv18 fun ac21 En22 => ?_
 refine f_o ?_
 refine c_l [0,1] (M := [.box bw [.slice wa10 (List.length ((u16F (l, bad) g).1)) wc11, .bool ((u16F (l, bad) g).2)] 115, .vec wa10 wc11 1 (bys ((u16F (l, bad) g).1)) 5]) En22 Hv18 (fun hM25 => wlist_go _ bw wa10 wc11 ((u16F (l, bad) g).1) ((u16F (l, bad) g).2) 2 (by omega) 1 65535 (by omega) (by omega) ab cb b ((ib.ev Hv18).pick [0, 1] (by kernel_rfl)) (by first | omega | (simp [wput_len, beN_len]; done) | (simp [wput_len, beN_len]; omega)) hM25) ?_
 rintro _ wo26 ⟨wa23, wc24, rfl, he27⟩
 refine ⟨_, _, [.box bw [.slice wa23 (List.length (wput 2 ((u16F (l, bad) g).1) b)) wc24, .bool (wbad 2 1 65535 (List.length b) ((u16F (l, bad) g).2))] 115, .vec wa23 wc24 1 (bys (wput 2 ((u16F (l, bad) g).1) b)) 5, .box bk1 [uv16 g, .slice ab (List.length b) cb] 49], rfl, he27, by kernel_rfl, fun ac29 En30 Hv31 => ?_⟩
 refine f_e ?_
 refine d_end0 En30 (by kernel_rfl) ?_
 exact ⟨wa23, wc24, rfl, Hv31.pk [0, 1]⟩

end Go.Proofs.Ytofecellbfhnjaa

/- Layer 17: lists of parts are written by the program. -/

namespace Go.Proofs.Ytofecellbfhnjaa
open Go.Dbr
set_option maxRecDepth 100000
set_option maxHeartbeats 2000000
set_option linter.unusedVariables false
set_option linter.unusedSimpArgs false

theorem all_alpn (w : World) (bw : Nat) (a : Option Addr) (c : Nat) (l : Bs) (bad : Bool) (n : Nat) (hn : n ≤ 4) (x : Nat) (hx : x ≤ 4294967295) (al : Option Addr) (cl : Nat) (xs : List RStr) (il : InS fStr 16 (fun y : RStr => (List.length y ≤ 140737488351232)) w [.box bw [.slice a (List.length l) c, .bool bad] 115, .vec a c 1 (bys l) 5] al cl xs) (hfb : ∀ i, i ≤ List.length xs → List.length (allM alF (List.take i (List.map (fun y : RStr => y) xs))).1 ≤ 140737489403904) (hb : List.length l + n + List.length (allM alF (List.map (fun y : RStr => y) xs)).1 ≤ 200000000000000) (hH : Heap w [.box bw [.slice a (List.length l) c, .bool bad] 115, .vec a c 1 (bys l) 5]) : Calls Try.prog 108 #[pt bw, ni n, ni x, .slice al (List.length xs) cl, .func (.func 117) #[] #[]] w fun e w' => ∃ a' c', e = .returned (.tuple #[]) ∧ Ev w [.box bw [.slice a (List.length l) c, .bool bad] 115, .vec a c 1 (bys l) 5] w' [.box bw [.slice a' (List.length (wput n l (allM alF (List.map (fun y : RStr => y) xs)).1)) c', .bool (wbad n x 16777215 (List.length (allM alF (List.map (fun y : RStr => y) xs)).1) (bad || (allM alF (List.map (fun y : RStr => y) xs)).2))] 115, .vec a' c' 1 (bys (wput n l (allM alF (List.map (fun y : RStr => y) xs)).1)) 5] := by
 have hxs := il.small
 have hxc := il.cap
 refine d_0 [(0, pt bw), (1, ni n), (2, ni x), (3, .slice al (List.length xs) cl), (4, .func (.func 117) #[] #[])] 47 Go.Proofs.Try.func108 Go.Proofs.Try.ntmps108 (hH) fun act0 En0 Hv0 => ?_
 refine wp_seq ?_
 refine region_from ?_
 refine d_k [0,1,2,3,4,13] [] 1 En0 fun ac1 En2 => ?_
 refine f_o ?_
 refine m_m 115 [.slice none 0 0, .bool false] En2 Hv0 fun ac4 wo5 bk3 En6 Hv7 => ?_
 refine d_e [0,1,2,3,4,10] [] En6 fun ac8 En9 => ?_
 refine then_normal ?_
 refine wp_seq ?_
 refine wp_seq ?_
 refine d_r [0,1,2,4,10,15,16,17] [] En9 fun ac10 En11 => ?_
 refine then_normal ?_
 refine wp_block ?_
 have Hv12 : Ev w [.box bw [.slice a (List.length l) c, .bool bad] 115, .vec a c 1 (bys l) 5] wo5 [.box bw [.slice a (List.length l) c, .bool bad] 115, .vec a c 1 (bys l) 5, .box bk3 [.slice none 0 0, .bool false] 115, .vec none 0 1 (bys []) 5] := Ev.nil (sz := 1) (T := 5) Hv7
 refine loop_m (fun ms13 ac wo => ∃ (i : Nat) (wa : Option Addr) (wc : Nat) (m : Bs) (bd : Bool), ms13 = (List.length xs + 1 - i : Nat) ∧ Env ac 47 [(0, pt bw), (1, ni n), (2, ni x), (4, .func (.func 117) #[] #[]), (10, pt bk3), (15, .slice al (List.length xs) cl), (16, .int .i64 ((List.length xs : Nat) : Int)), (17, ni i)] ∧ Ev w [.box bw [.slice a (List.length l) c, .bool bad] 115, .vec a c 1 (bys l) 5] wo [.box bw [.slice a (List.length l) c, .bool bad] 115, .vec a c 1 (bys l) 5, .box bk3 [.slice wa (List.length m) wc, .bool bd] 115, .vec wa wc 1 (bys m) 5] ∧ ((m, bd) = allM alF (List.take i (List.map (fun y : RStr => y) xs)))) ⟨_, 0, none, 0, [], false, rfl, En11.sb, Hv12.pk [0, 1, 2, 3], rfl⟩ ?_
 rintro mm19 ac15 wo16 ⟨i, wa, wc, m, bd, rfl, En17, Hv18, hfo⟩
 refine wp_seq ?_
 refine d_r [0,1,2,4,10,15,16,17,18] [] En17 fun ac20 En21 => ?_
 refine then_normal ?_
 refine wp_seq ?_
 refine c_d (((i : Nat) : Int) < ((List.length xs : Nat) : Int)) En21 (fun hc22 => ?_) (fun hc22 => ?_)
 ·
  refine wp_skip ?_
  refine then_normal ?_
  refine wp_seq ?_
  refine wp_block ?_
  refine wp_seq ?_
  have hb25 : i < List.length xs := (by omega)
  obtain ⟨adr23, had24⟩ := some_of il.nz hb25
  have hb26 : i < List.length xs := by omega
  obtain ⟨x28, hx27⟩ : ∃ x, (xs)[i]? = some x := ⟨_, List.getElem?_eq_getElem hb26⟩
  obtain s_x28 := il.each _ (List.mem_of_getElem? hx27)
  replace s_x28 : (List.length x28 ≤ 140737488351232) := s_x28
  refine region_from ?_
  refine f_o ?_
  refine q_v (x := Instr.indexAt 33 (.slice al (List.length xs) cl) (ni i)) (v := .pointer (some (Addr.add adr23 i))) En21 (Go.Dbr.run_indexsl (e := 9) (sz := 1) (j := i) (jo := i) had24 (by kernel_rfl) (by kernel_rfl) (by omega) hb25 (Nat.mul_one _) _) fun ac29 En30 => ?_
  refine f_o ?_
  refine op_loadf (d := some 20) (t := 9) (ad := adr23) (ao := al) (ys := List.flatMap fStr xs) (o := i) (v := .string (bstr x28)) En30 (by kernel_rfl) rfl (il.ro.ev Hv18).reads had24 ((flat_get1 (fun _ _ => rfl) hx27).trans rfl) (by kernel_rfl) ?_
  intro ac31 En32
  refine d_e [0,1,2,4,10,12,15,16,17] [] En32 fun ac33 En34 => ?_
  refine then_normal ?_
  have hnb := hfb (i + 1) (by omega)
  rw [allM_take hx27, ← hfo] at hnb
  have hnc := hnb
  simp only [alF, wput_len] at hnc
  refine region_from ?_
  refine d_k [0,1,2,4,10,15,16,17,21,22,23] [] 3 En34 fun ac35 En36 => ?_
  refine f_o ?_
  refine c_l [2,3] (M := [.box bk3 [.slice wa (List.length m) wc, .bool bd] 115, .vec wa wc 1 (bys m) 5]) En36 Hv18 (fun hM39 => walpn_go _ bk3 wa wc m bd x28 (by first | assumption | omega) (by first | omega | (simp [wput_len, beN_len]; done) | (simp [wput_len, beN_len]; omega)) hM39) ?_
  rintro _ wo40 ⟨wa37, wc38, rfl, he41⟩
  refine ⟨_, _, [.box bk3 [.slice wa37 (List.length ((alF (m, bd) x28).1)) wc38, .bool ((alF (m, bd) x28).2)] 115, .vec wa37 wc38 1 (bys ((alF (m, bd) x28).1)) 5, .box bw [.slice a (List.length l) c, .bool bad] 115, .vec a c 1 (bys l) 5], rfl, he41, by kernel_rfl, fun ac43 En44 Hv45 => ?_⟩
  refine f_e ?_
  refine block_normal ?_
  refine then_normal ?_
  refine d_r [0,1,2,4,10,15,16,17] [(0, g_n (w_a i 1))] En44 fun ac46 En47 => ?_
  refine then_normal ?_
  refine ⟨_, ⟨i + 1, wa37, wc38, ((alF (m, bd) x28).1), ((alF (m, bd) x28).2), rfl, En47.sb, Hv45.pk [2, 3, 0, 1], (by rw [allM_take hx27, ← hfo] <;> rfl)⟩, ?_⟩
  omega
 ·
  refine wp_exit ?_
  refine then_exit ?_
  refine then_exit ?_
  refine block_exit ?_
  refine then_normal ?_
  refine wp_seq ?_
  have hfe := allM_all (F := alF) (f := (fun y : RStr => y)) (xs := xs) (i := i) (by omega)
  rw [← hfo] at hfe
  refine region_cut (F := fun ac wo => ∃ (b2 : Bool), Env ac 47 [(0, pt bw), (1, ni n), (2, ni x), (4, .func (.func 117) #[] #[]), (10, pt bk3), (15, .slice al (List.length xs) cl), (16, .int .i64 ((List.length xs : Nat) : Int)), (17, ni i)] ∧ Ev w [.box bw [.slice a (List.length l) c, .bool bad] 115, .vec a c 1 (bys l) 5] wo [.box bw [.slice a (List.length l) c, .bool b2] 115, .vec a c 1 (bys l) 5, .box bk3 [.slice wa (List.length m) wc, .bool bd] 115, .vec wa wc 1 (bys m) 5] ∧ (b2 = (bad || bd))) ?_ ?_
  ·
   refine region_from ?_
   refine d_k [0,1,2,4,10,15,16,17,26,29] [] 4 En21 fun ac48 En49 => ?_
   refine f_o ?_
   refine m_l 0 En49 Hv18 fun ac50 En51 => ?_
   refine d_k [0,1,2,4,10,15,16,17,26,31] [] 6 En51 fun ac52 En53 => ?_
   rcases Bool.eq_false_or_eq_true (bad) with hb54 | hb54
   ·
    have En55 := En53.fx (t := 31) (congrArg Value.bool hb54)
    have hp56 : bad = true := hb54
    refine d_k [0,1,2,4,10,15,16,17,36,38] [] 13 En55 fun ac57 En58 => ?_
    refine f_o ?_
    refine m_s 0 [.box bw [.slice a (List.length l) c, .bool true] 115, .vec a c 1 (bys l) 5, .box bk3 [.slice wa (List.length m) wc, .bool bd] 115, .vec wa wc 1 (bys m) 5] En58 Hv18 fun ac59 wo60 En61 Hv62 => ?_
    refine f_e ?_
    exact ⟨rfl, ⟨true, En61.sb, Hv62.pk [0, 1, 2, 3], (by first | exact or_t (by assumption) | exact or_f (by assumption))⟩⟩
   ·
    have En63 := En53.fx (t := 31) (congrArg Value.bool hb54)
    have hp64 : ¬ (bad = true) := Bool.eq_false_iff.1 hb54
    refine d_k [0,1,2,4,10,15,16,17,26,31,34] [] 9 En63 fun ac65 En66 => ?_
    refine f_o ?_
    refine m_l 2 En66 Hv18 fun ac67 En68 => ?_
    refine d_k [0,1,2,4,10,15,16,17,36,38] [] 13 En68 fun ac69 En70 => ?_
    refine f_o ?_
    refine m_s 0 [.box bw [.slice a (List.length l) c, .bool bd] 115, .vec a c 1 (bys l) 5, .box bk3 [.slice wa (List.length m) wc, .bool bd] 115, .vec wa wc 1 (bys m) 5] En70 Hv18 fun ac71 wo72 En73 Hv74 => ?_
    refine f_e ?_
    exact ⟨rfl, ⟨bd, En73.sb, Hv74.pk [0, 1, 2, 3], (by first | exact or_t (by assumption) | exact or_f (by assumption))⟩⟩
  ·
   rintro ac75 wo76 ⟨b2, En77, Hv78, hb2⟩
   refine then_normal ?_
   have hml := hfb (List.length xs) (Nat.le_refl _)
   rw [List.take_of_length_le (by rw [List.length_map]; exact Nat.le_refl _), ← hfe] at hml
   rw [← hfe] at hb
   refine region_from ?_
   refine d_k [0,4,10,15,16,17,39,40,41,44] [] 6 En77 fun ac79 En80 => ?_
   refine f_o ?_
   refine m_l 2 En80 Hv78 fun ac81 En82 => ?_
   refine f_o ?_
   refine c_l [0,1] (M := [.box bw [.slice a (List.length l) c, .bool b2] 115, .vec a c 1 (bys l) 5]) En82 Hv78 (fun hM85 => wlist_go _ bw a c l b2 n (by omega) x 16777215 (by omega) (by omega) wa wc m (bys_in Hv78.heap (k := 3) rfl [0, 1] (by kernel_rfl) rfl (by first | omega | (simp; done) | (simp; omega))) (by first | exact hb | omega) hM85) ?_
   rintro _ wo86 ⟨wa83, wc84, rfl, he87⟩
   refine ⟨_, _, [.box bw [.slice wa83 (List.length (wput n l m)) wc84, .bool (wbad n x 16777215 (List.length m) b2)] 115, .vec wa83 wc84 1 (bys (wput n l m)) 5, .box bk3 [.slice wa (List.length m) wc, .bool bd] 115, .vec wa wc 1 (bys m) 5], rfl, he87, by kernel_rfl, fun ac89 En90 Hv91 => ?_⟩
   refine f_e ?_
   refine d_end0 En90 (by kernel_rfl) ?_
   subst hb2
   rw [← hfe]
   exact ⟨wa83, wc84, rfl, Hv91.pk [0, 1]⟩

theorem all_sha (w : World) (bw : Nat) (a : Option Addr) (c : Nat) (l : Bs) (bad : Bool) (n : Nat) (hn : n ≤ 4) (x : Nat) (hx : x ≤ 4294967295) (al : Option Addr) (cl : Nat) (xs : List RSha) (il : InS fSha 32 (fun y : RSha => (True ∧ (InB w [.box bw [.slice a (List.length l) c, .bool bad] 115, .vec a c 1 (bys l) 5] y.2.1.a y.2.1.c y.2.1.l ∧ (True)))) w [.box bw [.slice a (List.length l) c, .bool bad] 115, .vec a c 1 (bys l) 5] al cl xs) (hfb : ∀ i, i ≤ List.length xs → List.length (allM shF (List.take i (List.map (fun y : RSha => (y.1, y.2.1.l)) xs))).1 ≤ 140737489403904) (hb : List.length l + n + List.length (allM shF (List.map (fun y : RSha => (y.1, y.2.1.l)) xs)).1 ≤ 200000000000000) (hH : Heap w [.box bw [.slice a (List.length l) c, .bool bad] 115, .vec a c 1 (bys l) 5]) : Calls Try.prog 120 #[pt bw, ni n, ni x, .slice al (List.length xs) cl, .func (.func 121) #[] #[]] w fun e w' => ∃ a' c', e = .returned (.tuple #[]) ∧ Ev w [.box bw [.slice a (List.length l) c, .bool bad] 115, .vec a c 1 (bys l) 5] w' [.box bw [.slice a' (List.length (wput n l (allM shF (List.map (fun y : RSha => (y.1, y.2.1.l)) xs)).1)) c', .bool (wbad n x 16777215 (List.length (allM shF (List.map (fun y : RSha => (y.1, y.2.1.l)) xs)).1) (bad || (allM shF (List.map (fun y : RSha => (y.1, y.2.1.l)) xs)).2))] 115, .vec a' c' 1 (bys (wput n l (allM shF (List.map (fun y : RSha => (y.1, y.2.1.l)) xs)).1)) 5] := by
 have hxs := il.small
 have hxc := il.cap
 refine d_0 [(0, pt bw), (1, ni n), (2, ni x), (3, .slice al (List.length xs) cl), (4, .func (.func 121) #[] #[])] 47 Go.Proofs.Try.func120 Go.Proofs.Try.ntmps120 (hH) fun act0 En0 Hv0 => ?_
 refine wp_seq ?_
 refine region_from ?_
 refine d_k [0,1,2,3,4,13] [] 1 En0 fun ac1 En2 => ?_
 refine f_o ?_
 refine m_m 115 [.slice none 0 0, .bool false] En2 Hv0 fun ac4 wo5 bk3 En6 Hv7 => ?_
 refine d_e [0,1,2,3,4,10] [] En6 fun ac8 En9 => ?_
 refine then_normal ?_
 refine wp_seq ?_
 refine wp_seq ?_
 refine d_r [0,1,2,4,10,15,16,17] [] En9 fun ac10 En11 => ?_
 refine then_normal ?_
 refine wp_block ?_
 have Hv12 : Ev w [.box bw [.slice a (List.length l) c, .bool bad] 115, .vec a c 1 (bys l) 5] wo5 [.box bw [.slice a (List.length l) c, .bool bad] 115, .vec a c 1 (bys l) 5, .box bk3 [.slice none 0 0, .bool false] 115, .vec none 0 1 (bys []) 5] := Ev.nil (sz := 1) (T := 5) Hv7
 refine loop_m (fun ms13 ac wo => ∃ (i : Nat) (wa : Option Addr) (wc : Nat) (m : Bs) (bd : Bool), ms13 = (List.length xs + 1 - i : Nat) ∧ Env ac 47 [(0, pt bw), (1, ni n), (2, ni x), (4, .func (.func 121) #[] #[]), (10, pt bk3), (15, .slice al (List.length xs) cl), (16, .int .i64 ((List.length xs : Nat) : Int)), (17, ni i)] ∧ Ev w [.box bw [.slice a (List.length l) c, .bool bad] 115, .vec a c 1 (bys l) 5] wo [.box bw [.slice a (List.length l) c, .bool bad] 115, .vec a c 1 (bys l) 5, .box bk3 [.slice wa (List.length m) wc, .bool bd] 115, .vec wa wc 1 (bys m) 5] ∧ ((m, bd) = allM shF (List.take i (List.map (fun y : RSha => (y.1, y.2.1.l)) xs)))) ⟨_, 0, none, 0, [], false, rfl, En11.sb, Hv12.pk [0, 1, 2, 3], rfl⟩ ?_
 rintro mm19 ac15 wo16 ⟨i, wa, wc, m, bd, rfl, En17, Hv18, hfo⟩
 refine wp_seq ?_
 refine d_r [0,1,2,4,10,15,16,17,18] [] En17 fun ac20 En21 => ?_
 refine then_normal ?_
 refine wp_seq ?_
 refine c_d (((i : Nat) : Int) < ((List.length xs : Nat) : Int)) En21 (fun hc22 => ?_) (fun hc22 => ?_)
 ·
  refine wp_skip ?_
  refine then_normal ?_
  refine wp_seq ?_
  refine wp_block ?_
  refine wp_seq ?_
  have hb25 : i < List.length xs := (by omega)
  obtain ⟨adr23, had24⟩ := some_of il.nz hb25
  have hb26 : i < List.length xs := by omega
  obtain ⟨⟨x28a, ⟨a_x28b, c_x28b, x28b⟩, _⟩, hx27⟩ : ∃ x, (xs)[i]? = some x := ⟨_, List.getElem?_eq_getElem hb26⟩
  obtain ⟨_, i_x28b, _⟩ := il.each _ (List.mem_of_getElem? hx27)
  replace i_x28b : InB w [.box bw [.slice a (List.length l) c, .bool bad] 115, .vec a c 1 (bys l) 5] a_x28b c_x28b x28b := i_x28b
  refine region_from ?_
  refine f_o ?_
  refine q_v (x := Instr.indexAt 34 (.slice al (List.length xs) cl) (ni i)) (v := .pointer (some (Addr.add adr23 (i * 2)))) En21 (Go.Dbr.run_indexsl (e := 49) (sz := 2) (j := i) (jo := i * 2) had24 (by kernel_rfl) (by kernel_rfl) (by omega) hb25 rfl _) fun ac29 En30 => ?_
  refine f_o ?_
  refine op_loadaggat (d := some 20) (t := 49) (ad := adr23) (ao := al) (ys := List.flatMap fSha xs) (o := i * 2) (m := 2) (xs := [uv16 x28a, .slice a_x28b (List.length x28b) c_x28b]) En30 (by kernel_rfl) rfl (il.ro.ev Hv18).reads had24 (fun j hj => ?_) rfl (by kernel_rfl) (by kernel_rfl) ?_
  ·
   exact flat_sub (sz := 2) (off := 0) (m := 2) (fun _ _ => rfl) hx27 (by decide) rfl j hj
  intro ac31 En32
  refine f_o ?_
  refine m_z 49 [.int .u16 0, .slice none 0 0] En32 Hv18 fun ac34 wo35 bk33 En36 Hv37 => ?_
  refine f_o ?_
  refine m_g 4 0 2 [uv16 x28a, .slice a_x28b (List.length x28b) c_x28b] [uv16 x28a, .slice a_x28b (List.length x28b) c_x28b] [.box bw [.slice a (List.length l) c, .bool bad] 115, .vec a c 1 (bys l) 5, .box bk3 [.slice wa (List.length m) wc, .bool bd] 115, .vec wa wc 1 (bys m) 5, .box bk33 [uv16 x28a, .slice a_x28b (List.length x28b) c_x28b] 49] En36 Hv37 rfl rfl (by simp) (one_all (by kernel_rfl)) rfl rfl fun ac38 wo39 En40 Hv41 => ?_
  refine f_e ?_
  refine then_normal ?_
  have hnb := hfb (i + 1) (by omega)
  rw [allM_take hx27, ← hfo] at hnb
  have hnc := hnb
  simp only [shF, wput_len, List.length_append, beN_len] at hnc
  refine region_from ?_
  refine d_k [0,1,2,4,10,12,15,16,17,21,22] [] 2 En40 fun ac42 En43 => ?_
  refine f_o ?_
  refine m_a 4 0 2 [uv16 x28a, .slice a_x28b (List.length x28b) c_x28b] En43 Hv41 rfl rfl rfl fun ac44 En45 => ?_
  refine f_o ?_
  refine c_l [2,3] (M := [.box bk3 [.slice wa (List.length m) wc, .bool bd] 115, .vec wa wc 1 (bys m) 5]) En45 Hv41 (fun hM48 => wshare_go _ bk3 wa wc m bd x28a a_x28b c_x28b x28b ((i_x28b.ev Hv41).pick [2, 3] (by kernel_rfl)) (by first | omega | (simp [wput_len, beN_len]; done) | (simp [wput_len, beN_len]; omega)) hM48) ?_
  rintro _ wo49 ⟨wa46, wc47, rfl, he50⟩
  refine ⟨_, _, [.box bk3 [.slice wa46 (List.length ((shF (m, bd) (x28a, x28b)).1)) wc47, .bool ((shF (m, bd) (x28a, x28b)).2)] 115, .vec wa46 wc47 1 (bys ((shF (m, bd) (x28a, x28b)).1)) 5, .box bw [.slice a (List.length l) c, .bool bad] 115, .vec a c 1 (bys l) 5, .box bk33 [uv16 x28a, .slice a_x28b (List.length x28b) c_x28b] 49], rfl, he50, by kernel_rfl, fun ac52 En53 Hv54 => ?_⟩
  refine f_e ?_
  refine block_normal ?_
  refine then_normal ?_
  refine d_r [0,1,2,4,10,12,15,16,17] [(0, g_n (w_a i 1))] En53 fun ac55 En56 => ?_
  refine then_normal ?_
  refine ⟨_, ⟨i + 1, wa46, wc47, ((shF (m, bd) (x28a, x28b)).1), ((shF (m, bd) (x28a, x28b)).2), rfl, En56.sb, Hv54.pk [2, 3, 0, 1], (by rw [allM_take hx27, ← hfo] <;> rfl)⟩, ?_⟩
  omega
 ·
  refine wp_exit ?_
  refine then_exit ?_
  refine then_exit ?_
  refine block_exit ?_
  refine then_normal ?_
  refine wp_seq ?_
  have hfe := allM_all (F := shF) (f := (fun y : RSha => (y.1, y.2.1.l))) (xs := xs) (i := i) (by omega)
  rw [← hfo] at hfe
  refine region_cut (F := fun ac wo => ∃ (b2 : Bool), Env ac 47 [(0, pt bw), (1, ni n), (2, ni x), (4, .func (.func 121) #[] #[]), (10, pt bk3), (15, .slice al (List.length xs) cl), (16, .int .i64 ((List.length xs : Nat) : Int)), (17, ni i)] ∧ Ev w [.box bw [.slice a (List.length l) c, .bool bad] 115, .vec a c 1 (bys l) 5] wo [.box bw [.slice a (List.length l) c, .bool b2] 115, .vec a c 1 (bys l) 5, .box bk3 [.slice wa (List.length m) wc, .bool bd] 115, .vec wa wc 1 (bys m) 5] ∧ (b2 = (bad || bd))) ?_ ?_
  ·
   refine region_from ?_
   refine d_k [0,1,2,4,10,15,16,17,26,29] [] 4 En21 fun ac57 En58 => ?_
   refine f_o ?_
   refine m_l 0 En58 Hv18 fun ac59 En60 => ?_
   refine d_k [0,1,2,4,10,15,16,17,26,31] [] 6 En60 fun ac61 En62 => ?_
   rcases Bool.eq_false_or_eq_true (bad) with hb63 | hb63
   ·
    have En64 := En62.fx (t := 31) (congrArg Value.bool hb63)
    have hp65 : bad = true := hb63
    refine d_k [0,1,2,4,10,15,16,17,36,38] [] 13 En64 fun ac66 En67 => ?_
    refine f_o ?_
    refine m_s 0 [.box bw [.slice a (List.length l) c, .bool true] 115, .vec a c 1 (bys l) 5, .box bk3 [.slice wa (List.length m) wc, .bool bd] 115, .vec wa wc 1 (bys m) 5] En67 Hv18 fun ac68 wo69 En70 Hv71 => ?_
    refine f_e ?_
    exact ⟨rfl, ⟨true, En70.sb, Hv71.pk [0, 1, 2, 3], (by first | exact or_t (by assumption) | exact or_f (by assumption))⟩⟩
   ·
    have En72 := En62.fx (t := 31) (congrArg Value.bool hb63)
    have hp73 : ¬ (bad = true) := Bool.eq_false_iff.1 hb63
    refine d_k [0,1,2,4,10,15,16,17,26,31,34] [] 9 En72 fun ac74 En75 => ?_
    refine f_o ?_
    refine m_l 2 En75 Hv18 fun ac76 En77 => ?_
    refine d_k [0,1,2,4,10,15,16,17,36,38] [] 13 En77 fun ac78 En79 => ?_
    refine f_o ?_
    refine m_s 0 [.box bw [.slice a (List.length l) c, .bool bd] 115, .vec a c 1 (bys l) 5, .box bk3 [.slice wa (List.length m) wc, .bool bd] 115, .vec wa wc 1 (bys m) 5] En79 Hv18 fun ac80 wo81 En82 Hv83 => ?_
    refine f_e ?_
    exact ⟨rfl, ⟨bd, En82.sb, Hv83.pk [0, 1, 2, 3], (by first | exact or_t (by assumption) | exact or_f (by assumption))⟩⟩
  ·
   rintro ac84 wo85 ⟨b2, En86, Hv87, hb2⟩
   refine then_normal ?_
   have hml := hfb (List.length xs) (Nat.le_refl _)
   rw [List.take_of_length_le (by rw [List.length_map]; exact Nat.le_refl _), ← hfe] at hml
   rw [← hfe] at hb
   refine region_from ?_
   refine d_k [0,4,10,15,16,17,39,40,41,44] [] 6 En86 fun ac88 En89 => ?_
   refine f_o ?_
   refine m_l 2 En89 Hv87 fun ac90 En91 => ?_
   refine f_o ?_
   refine c_l [0,1] (M := [.box bw [.slice a (List.length l) c, .bool b2] 115, .vec a c 1 (bys l) 5]) En91 Hv87 (fun hM94 => wlist_go _ bw a c l b2 n (by omega) x 16777215 (by omega) (by omega) wa wc m (bys_in Hv87.heap (k := 3) rfl [0, 1] (by kernel_rfl) rfl (by first | omega | (simp; done) | (simp; omega))) (by first | exact hb | omega) hM94) ?_
   rintro _ wo95 ⟨wa92, wc93, rfl, he96⟩
   refine ⟨_, _, [.box bw [.slice wa92 (List.length (wput n l m)) wc93, .bool (wbad n x 16777215 (List.length m) b2)] 115, .vec wa92 wc93 1 (bys (wput n l m)) 5, .box bk3 [.slice wa (List.length m) wc, .bool bd] 115, .vec wa wc 1 (bys m) 5], rfl, he96, by kernel_rfl, fun ac98 En99 Hv100 => ?_⟩
   refine f_e ?_
   refine d_end0 En99 (by kernel_rfl) ?_
   subst hb2
   rw [← hfe]
   exact ⟨wa92, wc93, rfl, Hv100.pk [0, 1]⟩

end Go.Proofs.Ytofecellbfhnjaa

/- Layer 17: extensions' data are written by the program. -/

namespace Go.Proofs.Ytofecellbfhnjaa
open Go.Dbr
set_option maxRecDepth 100000
set_option maxHeartbeats 2000000
set_option linter.unusedVariables false
set_option linter.unusedSimpArgs false

/-- a list of parts, alone -/
def putP {β : Type} (F : WS → β → WS) (n x : Nat) (ps : List β) : Bs := doneL (wbad n x 16777215 (allM F ps).1.length (false || (allM F ps).2)) (wput n [] (allM F ps).1)
theorem palpn_1 (w : World) (bw : Nat) (bl : Nat) (al : Option Addr) (cl : Nat) (xs : List RStr) (il : InS fStr 16 (fun y : RStr => List.length y ≤ 140737488351232) w [.box bw [.slice none 0 0, .bool false] 115, .vec none 0 1 (bys []) 5, .box bl [.slice al (List.length xs) cl] 33] al cl xs) (hq0 : allB alF (List.map (fun y : RStr => y) xs)) (hH : Heap w [.box bw [.slice none 0 0, .bool false] 115, .vec none 0 1 (bys []) 5, .box bl [.slice al (List.length xs) cl] 33]) : Calls Try.prog 116 #[pt bw, pt bl] w fun e w' => ∃ a' c', e = .returned (.tuple #[]) ∧ Ev w [.box bw [.slice none 0 0, .bool false] 115, .vec none 0 1 (bys []) 5, .box bl [.slice al (List.length xs) cl] 33] w' [.box bw [.slice a' (List.length (wput 2 [] (allM alF (List.map (fun y : RStr => y) xs)).1)) c', .bool (wbad 2 1 16777215 (List.length (allM alF (List.map (fun y : RStr => y) xs)).1) (false || (allM alF (List.map (fun y : RStr => y) xs)).2))] 115, .vec a' c' 1 (bys (wput 2 [] (allM alF (List.map (fun y : RStr => y) xs)).1)) 5] := by
 refine d_0 [(0, pt bw), (1, pt bl)] 6 Go.Proofs.Try.func116 Go.Proofs.Try.ntmps116 (hH) fun act0 En0 Hv0 => ?_
 refine region_from ?_
 refine d_k [1,3] [] 1 En0 fun ac1 En2 => ?_
 refine f_o ?_
 refine m_l 2 En2 Hv0 fun ac3 En4 => ?_
 refine f_o ?_
 refine c_l [0,1] (M := [.box bw [.slice none 0 0, .bool false] 115, .vec none 0 1 (bys []) 5]) En4 Hv0 (fun hM7 => all_alpn _ bw none 0 [] false 2 (by omega) 1 (by omega) al cl xs (il.go Hv0 [0, 1] (by kernel_rfl) (fun _ h => h)) (fun i _ => by first | exact Nat.le_trans (hq0 i) (by decide)) (by have hhq0 := allB_all hq0; simp only [List.length_nil, wput_len]; omega) hM7) ?_
 rintro _ wo8 ⟨wa5, wc6, rfl, he9⟩
 refine ⟨_, _, [.box bw [.slice wa5 (List.length (wput 2 [] (allM alF (List.map (fun y : RStr => y) xs)).1)) wc6, .bool (wbad 2 1 16777215 (List.length (allM alF (List.map (fun y : RStr => y) xs)).1) (false || (allM alF (List.map (fun y : RStr => y) xs)).2))] 115, .vec wa5 wc6 1 (bys (wput 2 [] (allM alF (List.map (fun y : RStr => y) xs)).1)) 5, .box bl [.slice al (List.length xs) cl] 33], rfl, he9, by kernel_rfl, fun ac11 En12 Hv13 => ?_⟩
 refine f_e ?_
 refine d_end0 En12 (by kernel_rfl) ?_
 exact ⟨wa5, wc6, rfl, Hv13.pk [0, 1]⟩

theorem put_palpn (w : World) (bl : Nat) (al : Option Addr) (cl : Nat) (xs : List RStr) (il : InS fStr 16 (fun y : RStr => List.length y ≤ 140737488351232) w [.box bl [.slice al (List.length xs) cl] 33] al cl xs) (hq0 : allB alF (List.map (fun y : RStr => y) xs)) (hH : Heap w [.box bl [.slice al (List.length xs) cl] 33]) : Calls Try.prog 99 #[.func (.func 116) #[] #[pt bl]] w fun e w' => ∃ a' c', e = .returned (.slice a' (List.length (doneL (wbad 2 1 16777215 (List.length (allM alF (List.map (fun y : RStr => y) xs)).1) (false || (allM alF (List.map (fun y : RStr => y) xs)).2)) (wput 2 [] (allM alF (List.map (fun y : RStr => y) xs)).1))) c') ∧ Ev w [.box bl [.slice al (List.length xs) cl] 33] w' [.vec a' c' 1 (bys (doneL (wbad 2 1 16777215 (List.length (allM alF (List.map (fun y : RStr => y) xs)).1) (false || (allM alF (List.map (fun y : RStr => y) xs)).2)) (wput 2 [] (allM alF (List.map (fun y : RStr => y) xs)).1))) 5] := by
 refine d_0 [(0, .func (.func 116) #[] #[pt bl])] 11 Go.Proofs.Try.func99 Go.Proofs.Try.ntmps99 (hH) fun act0 En0 Hv0 => ?_
 refine d_s [0,2] [] En0 fun ac1 En2 => ?_
 refine wp_seq ?_
 refine region_from ?_
 refine d_k [0,2,4] [] 1 En2 fun ac3 En4 => ?_
 refine f_o ?_
 refine m_m 115 [.slice none 0 0, .bool false] En4 Hv0 fun ac6 wo7 bk5 En8 Hv9 => ?_
 refine d_e [0,2,3] [] En8 fun ac10 En11 => ?_
 refine then_normal ?_
 refine wp_seq ?_
 refine region_from ?_
 refine d_k [2,3,6,7] [] 2 En11 fun ac12 En13 => ?_
 refine f_o ?_
 have Hv14 : Ev w [.box bl [.slice al (List.length xs) cl] 33] wo7 [.box bl [.slice al (List.length xs) cl] 33, .box bk5 [.slice none 0 0, .bool false] 115, .vec none 0 1 (bys []) 5] := Ev.nil (sz := 1) (T := 5) Hv9
 refine c_l [1,2,0] (M := [.box bk5 [.slice none 0 0, .bool false] 115, .vec none 0 1 (bys []) 5, .box bl [.slice al (List.length xs) cl] 33]) En13 Hv14 (fun hM17 => palpn_1 _ bk5 bl al cl xs (il.go Hv14 [1, 2, 0] (by kernel_rfl) (fun _ h => h)) hq0 hM17) ?_
 rintro _ wo18 ⟨wa15, wc16, rfl, he19⟩
 refine ⟨_, _, [.box bk5 [.slice wa15 (List.length (wput 2 [] (allM alF (List.map (fun y : RStr => y) xs)).1)) wc16, .bool (wbad 2 1 16777215 (List.length (allM alF (List.map (fun y : RStr => y) xs)).1) (false || (allM alF (List.map (fun y : RStr => y) xs)).2))] 115, .vec wa15 wc16 1 (bys (wput 2 [] (allM alF (List.map (fun y : RStr => y) xs)).1)) 5], rfl, he19, by kernel_rfl, fun ac21 En22 Hv23 => ?_⟩
 refine f_e ?_
 refine then_normal ?_
 refine wp_seq ?_
 refine region_from ?_
 refine d_k [2,3,9] [] 1 En22 fun ac24 En25 => ?_
 refine f_o ?_
 refine c_l [0,1] (M := [.box bk5 [.slice wa15 (List.length (wput 2 [] (allM alF (List.map (fun y : RStr => y) xs)).1)) wc16, .bool (wbad 2 1 16777215 (List.length (allM alF (List.map (fun y : RStr => y) xs)).1) (false || (allM alF (List.map (fun y : RStr => y) xs)).2))] 115, .vec wa15 wc16 1 (bys (wput 2 [] (allM alF (List.map (fun y : RStr => y) xs)).1)) 5]) En25 Hv23 (fun hM28 => wdone_go _ bk5 wa15 wc16 (wput 2 [] (allM alF (List.map (fun y : RStr => y) xs)).1) (wbad 2 1 16777215 (List.length (allM alF (List.map (fun y : RStr => y) xs)).1) (false || (allM alF (List.map (fun y : RStr => y) xs)).2)) hM28) ?_
 rintro _ wo29 ⟨da26, dc27, rfl, he30⟩
 refine ⟨_, _, [.vec da26 dc27 1 (bys (doneL (wbad 2 1 16777215 (List.length (allM alF (List.map (fun y : RStr => y) xs)).1) (false || (allM alF (List.map (fun y : RStr => y) xs)).2)) (wput 2 [] (allM alF (List.map (fun y : RStr => y) xs)).1))) 5], rfl, he30, by kernel_rfl, fun ac32 En33 Hv34 => ?_⟩
 refine d_e [2,3] [] En33 fun ac35 En36 => ?_
 refine then_normal ?_
 refine wp_ret ?_
 refine d_ret1 (t := 2) (v := .slice da26 (List.length (doneL (wbad 2 1 16777215 (List.length (allM alF (List.map (fun y : RStr => y) xs)).1) (false || (allM alF (List.map (fun y : RStr => y) xs)).2)) (wput 2 [] (allM alF (List.map (fun y : RStr => y) xs)).1))) dc27) En36 (by kernel_rfl) (by kernel_rfl) ?_
 exact ⟨da26, dc27, rfl, Hv34.pk [0]⟩

theorem palpn_go (w : World) (al : Option Addr) (cl : Nat) (xs : List RStr) (il : InS fStr 16 (fun y : RStr => List.length y ≤ 140737488351232) w [] al cl xs) (hq0 : allB alF (List.map (fun y : RStr => y) xs)) : Calls Try.prog 23 #[.slice al (List.length xs) cl] w fun e w' => ∃ a' c', e = .returned (.slice a' (List.length (putP alF 2 1 (List.map (fun y : RStr => y) xs))) c') ∧ Ev w [] w' [.vec a' c' 1 (bys (putP alF 2 1 (List.map (fun y : RStr => y) xs))) 5] := by
 refine d_0 [(0, .slice al (List.length xs) cl)] 5 Go.Proofs.Try.func23 Go.Proofs.Try.ntmps23 (Heap.nil _) fun act0 En0 Hv0 => ?_
 refine wp_seq ?_
 refine region_from ?_
 refine f_o ?_
 refine m_m 33 [.slice al (List.length xs) cl] En0 Hv0 fun ac2 wo3 bk1 En4 Hv5 => ?_
 refine d_e [1,2] [] En4 fun ac6 En7 => ?_
 refine then_normal ?_
 refine wp_seq ?_
 refine region_from ?_
 refine d_k [2,3] [] 1 En7 fun ac8 En9 => ?_
 refine f_o ?_
 refine c_l [0] (M := [.box bk1 [.slice al (List.length xs) cl] 33]) En9 Hv5 (fun hM12 => put_palpn _ bk1 al cl xs (il.go Hv5 [0] (by kernel_rfl) (fun _ h => h)) hq0 hM12) ?_
 rintro _ wo13 ⟨pa10, pc11, rfl, he14⟩
 refine ⟨_, _, [.vec pa10 pc11 1 (bys (putP alF 2 1 (List.map (fun y : RStr => y) xs))) 5], rfl, he14, by kernel_rfl, fun ac16 En17 Hv18 => ?_⟩
 refine d_e [2] [] En17 fun ac19 En20 => ?_
 refine then_normal ?_
 refine wp_ret ?_
 refine d_ret1 (t := 2) (v := .slice pa10 (List.length (putP alF 2 1 (List.map (fun y : RStr => y) xs))) pc11) En20 (by kernel_rfl) (by kernel_rfl) ?_
 exact ⟨pa10, pc11, rfl, Hv18.pk [0]⟩

theorem pshares_1 (w : World) (bw : Nat) (bl : Nat) (al : Option Addr) (cl : Nat) (xs : List RSha) (il : InS fSha 32 (fun y : RSha => (True ∧ (InB w [.box bw [.slice none 0 0, .bool false] 115, .vec none 0 1 (bys []) 5, .box bl [.slice al (List.length xs) cl] 34] y.2.1.a y.2.1.c y.2.1.l ∧ (True)))) w [.box bw [.slice none 0 0, .bool false] 115, .vec none 0 1 (bys []) 5, .box bl [.slice al (List.length xs) cl] 34] al cl xs) (hq0 : allB shF (List.map (fun y : RSha => (y.1, y.2.1.l)) xs)) (hH : Heap w [.box bw [.slice none 0 0, .bool false] 115, .vec none 0 1 (bys []) 5, .box bl [.slice al (List.length xs) cl] 34]) : Calls Try.prog 119 #[pt bw, pt bl] w fun e w' => ∃ a' c', e = .returned (.tuple #[]) ∧ Ev w [.box bw [.slice none 0 0, .bool false] 115, .vec none 0 1 (bys []) 5, .box bl [.slice al (List.length xs) cl] 34] w' [.box bw [.slice a' (List.length (wput 2 [] (allM shF (List.map (fun y : RSha => (y.1, y.2.1.l)) xs)).1)) c', .bool (wbad 2 0 16777215 (List.length (allM shF (List.map (fun y : RSha => (y.1, y.2.1.l)) xs)).1) (false || (allM shF (List.map (fun y : RSha => (y.1, y.2.1.l)) xs)).2))] 115, .vec a' c' 1 (bys (wput 2 [] (allM shF (List.map (fun y : RSha => (y.1, y.2.1.l)) xs)).1)) 5] := by
 refine d_0 [(0, pt bw), (1, pt bl)] 6 Go.Proofs.Try.func119 Go.Proofs.Try.ntmps119 (hH) fun act0 En0 Hv0 => ?_
 refine region_from ?_
 refine d_k [1,3] [] 1 En0 fun ac1 En2 => ?_
 refine f_o ?_
 refine m_l 2 En2 Hv0 fun ac3 En4 => ?_
 refine f_o ?_
 refine c_l [0,1] (M := [.box bw [.slice none 0 0, .bool false] 115, .vec none 0 1 (bys []) 5]) En4 Hv0 (fun hM7 => all_sha _ bw none 0 [] false 2 (by omega) 0 (by omega) al cl xs (il.go Hv0 [0, 1] (by kernel_rfl) (fun _ h => ⟨h.1, (InB.ev h.2.1 Hv0).pick [0, 1] (by kernel_rfl), h.2.2⟩)) (fun i _ => by first | exact Nat.le_trans (hq0 i) (by decide)) (by have hhq0 := allB_all hq0; simp only [List.length_nil, wput_len]; omega) hM7) ?_
 rintro _ wo8 ⟨wa5, wc6, rfl, he9⟩
 refine ⟨_, _, [.box bw [.slice wa5 (List.length (wput 2 [] (allM shF (List.map (fun y : RSha => (y.1, y.2.1.l)) xs)).1)) wc6, .bool (wbad 2 0 16777215 (List.length (allM shF (List.map (fun y : RSha => (y.1, y.2.1.l)) xs)).1) (false || (allM shF (List.map (fun y : RSha => (y.1, y.2.1.l)) xs)).2))] 115, .vec wa5 wc6 1 (bys (wput 2 [] (allM shF (List.map (fun y : RSha => (y.1, y.2.1.l)) xs)).1)) 5, .box bl [.slice al (List.length xs) cl] 34], rfl, he9, by kernel_rfl, fun ac11 En12 Hv13 => ?_⟩
 refine f_e ?_
 refine d_end0 En12 (by kernel_rfl) ?_
 exact ⟨wa5, wc6, rfl, Hv13.pk [0, 1]⟩

theorem put_pshares (w : World) (bl : Nat) (al : Option Addr) (cl : Nat) (xs : List RSha) (il : InS fSha 32 (fun y : RSha => (True ∧ (InB w [.box bl [.slice al (List.length xs) cl] 34] y.2.1.a y.2.1.c y.2.1.l ∧ (True)))) w [.box bl [.slice al (List.length xs) cl] 34] al cl xs) (hq0 : allB shF (List.map (fun y : RSha => (y.1, y.2.1.l)) xs)) (hH : Heap w [.box bl [.slice al (List.length xs) cl] 34]) : Calls Try.prog 99 #[.func (.func 119) #[] #[pt bl]] w fun e w' => ∃ a' c', e = .returned (.slice a' (List.length (doneL (wbad 2 0 16777215 (List.length (allM shF (List.map (fun y : RSha => (y.1, y.2.1.l)) xs)).1) (false || (allM shF (List.map (fun y : RSha => (y.1, y.2.1.l)) xs)).2)) (wput 2 [] (allM shF (List.map (fun y : RSha => (y.1, y.2.1.l)) xs)).1))) c') ∧ Ev w [.box bl [.slice al (List.length xs) cl] 34] w' [.vec a' c' 1 (bys (doneL (wbad 2 0 16777215 (List.length (allM shF (List.map (fun y : RSha => (y.1, y.2.1.l)) xs)).1) (false || (allM shF (List.map (fun y : RSha => (y.1, y.2.1.l)) xs)).2)) (wput 2 [] (allM shF (List.map (fun y : RSha => (y.1, y.2.1.l)) xs)).1))) 5] := by
 refine d_0 [(0, .func (.func 119) #[] #[pt bl])] 11 Go.Proofs.Try.func99 Go.Proofs.Try.ntmps99 (hH) fun act0 En0 Hv0 => ?_
 refine d_s [0,2] [] En0 fun ac1 En2 => ?_
 refine wp_seq ?_
 refine region_from ?_
 refine d_k [0,2,4] [] 1 En2 fun ac3 En4 => ?_
 refine f_o ?_
 refine m_m 115 [.slice none 0 0, .bool false] En4 Hv0 fun ac6 wo7 bk5 En8 Hv9 => ?_
 refine d_e [0,2,3] [] En8 fun ac10 En11 => ?_
 refine then_normal ?_
 refine wp_seq ?_
 refine region_from ?_
 refine d_k [2,3,6,7] [] 2 En11 fun ac12 En13 => ?_
 refine f_o ?_
 have Hv14 : Ev w [.box bl [.slice al (List.length xs) cl] 34] wo7 [.box bl [.slice al (List.length xs) cl] 34, .box bk5 [.slice none 0 0, .bool false] 115, .vec none 0 1 (bys []) 5] := Ev.nil (sz := 1) (T := 5) Hv9
 refine c_l [1,2,0] (M := [.box bk5 [.slice none 0 0, .bool false] 115, .vec none 0 1 (bys []) 5, .box bl [.slice al (List.length xs) cl] 34]) En13 Hv14 (fun hM17 => pshares_1 _ bk5 bl al cl xs (il.go Hv14 [1, 2, 0] (by kernel_rfl) (fun _ h => ⟨h.1, (InB.ev h.2.1 Hv14).pick [1, 2, 0] (by kernel_rfl), h.2.2⟩)) hq0 hM17) ?_
 rintro _ wo18 ⟨wa15, wc16, rfl, he19⟩
 refine ⟨_, _, [.box bk5 [.slice wa15 (List.length (wput 2 [] (allM shF (List.map (fun y : RSha => (y.1, y.2.1.l)) xs)).1)) wc16, .bool (wbad 2 0 16777215 (List.length (allM shF (List.map (fun y : RSha => (y.1, y.2.1.l)) xs)).1) (false || (allM shF (List.map (fun y : RSha => (y.1, y.2.1.l)) xs)).2))] 115, .vec wa15 wc16 1 (bys (wput 2 [] (allM shF (List.map (fun y : RSha => (y.1, y.2.1.l)) xs)).1)) 5], rfl, he19, by kernel_rfl, fun ac21 En22 Hv23 => ?_⟩
 refine f_e ?_
 refine then_normal ?_
 refine wp_seq ?_
 refine region_from ?_
 refine d_k [2,3,9] [] 1 En22 fun ac24 En25 => ?_
 refine f_o ?_
 refine c_l [0,1] (M := [.box bk5 [.slice wa15 (List.length (wput 2 [] (allM shF (List.map (fun y : RSha => (y.1, y.2.1.l)) xs)).1)) wc16, .bool (wbad 2 0 16777215 (List.length (allM shF (List.map (fun y : RSha => (y.1, y.2.1.l)) xs)).1) (false || (allM shF (List.map (fun y : RSha => (y.1, y.2.1.l)) xs)).2))] 115, .vec wa15 wc16 1 (bys (wput 2 [] (allM shF (List.map (fun y : RSha => (y.1, y.2.1.l)) xs)).1)) 5]) En25 Hv23 (fun hM28 => wdone_go _ bk5 wa15 wc16 (wput 2 [] (allM shF (List.map (fun y : RSha => (y.1, y.2.1.l)) xs)).1) (wbad 2 0 16777215 (List.length (allM shF (List.map (fun y : RSha => (y.1, y.2.1.l)) xs)).1) (false || (allM shF (List.map (fun y : RSha => (y.1, y.2.1.l)) xs)).2)) hM28) ?_
 rintro _ wo29 ⟨da26, dc27, rfl, he30⟩
 refine ⟨_, _, [.vec da26 dc27 1 (bys (doneL (wbad 2 0 16777215 (List.length (allM shF (List.map (fun y : RSha => (y.1, y.2.1.l)) xs)).1) (false || (allM shF (List.map (fun y : RSha => (y.1, y.2.1.l)) xs)).2)) (wput 2 [] (allM shF (List.map (fun y : RSha => (y.1, y.2.1.l)) xs)).1))) 5], rfl, he30, by kernel_rfl, fun ac32 En33 Hv34 => ?_⟩
 refine d_e [2,3] [] En33 fun ac35 En36 => ?_
 refine then_normal ?_
 refine wp_ret ?_
 refine d_ret1 (t := 2) (v := .slice da26 (List.length (doneL (wbad 2 0 16777215 (List.length (allM shF (List.map (fun y : RSha => (y.1, y.2.1.l)) xs)).1) (false || (allM shF (List.map (fun y : RSha => (y.1, y.2.1.l)) xs)).2)) (wput 2 [] (allM shF (List.map (fun y : RSha => (y.1, y.2.1.l)) xs)).1))) dc27) En36 (by kernel_rfl) (by kernel_rfl) ?_
 exact ⟨da26, dc27, rfl, Hv34.pk [0]⟩

theorem pshares_go (w : World) (al : Option Addr) (cl : Nat) (xs : List RSha) (il : InS fSha 32 (fun y : RSha => (True ∧ (InB w [] y.2.1.a y.2.1.c y.2.1.l ∧ (True)))) w [] al cl xs) (hq0 : allB shF (List.map (fun y : RSha => (y.1, y.2.1.l)) xs)) : Calls Try.prog 27 #[.slice al (List.length xs) cl] w fun e w' => ∃ a' c', e = .returned (.slice a' (List.length (putP shF 2 0 (List.map (fun y : RSha => (y.1, y.2.1.l)) xs))) c') ∧ Ev w [] w' [.vec a' c' 1 (bys (putP shF 2 0 (List.map (fun y : RSha => (y.1, y.2.1.l)) xs))) 5] := by
 refine d_0 [(0, .slice al (List.length xs) cl)] 5 Go.Proofs.Try.func27 Go.Proofs.Try.ntmps27 (Heap.nil _) fun act0 En0 Hv0 => ?_
 refine wp_seq ?_
 refine region_from ?_
 refine f_o ?_
 refine m_m 34 [.slice al (List.length xs) cl] En0 Hv0 fun ac2 wo3 bk1 En4 Hv5 => ?_
 refine d_e [1,2] [] En4 fun ac6 En7 => ?_
 refine then_normal ?_
 refine wp_seq ?_
 refine region_from ?_
 refine d_k [2,3] [] 1 En7 fun ac8 En9 => ?_
 refine f_o ?_
 refine c_l [0] (M := [.box bk1 [.slice al (List.length xs) cl] 34]) En9 Hv5 (fun hM12 => put_pshares _ bk1 al cl xs (il.go Hv5 [0] (by kernel_rfl) (fun _ h => ⟨h.1, (InB.ev h.2.1 Hv5).pick [0] (by kernel_rfl), h.2.2⟩)) hq0 hM12) ?_
 rintro _ wo13 ⟨pa10, pc11, rfl, he14⟩
 refine ⟨_, _, [.vec pa10 pc11 1 (bys (putP shF 2 0 (List.map (fun y : RSha => (y.1, y.2.1.l)) xs))) 5], rfl, he14, by kernel_rfl, fun ac16 En17 Hv18 => ?_⟩
 refine d_e [2] [] En17 fun ac19 En20 => ?_
 refine then_normal ?_
 refine wp_ret ?_
 refine d_ret1 (t := 2) (v := .slice pa10 (List.length (putP shF 2 0 (List.map (fun y : RSha => (y.1, y.2.1.l)) xs))) pc11) En20 (by kernel_rfl) (by kernel_rfl) ?_
 exact ⟨pa10, pc11, rfl, Hv18.pk [0]⟩

end Go.Proofs.Ytofecellbfhnjaa

/- Layer 17: the document writes parts. -/

namespace Go.Proofs.Ytofecellbfhnjaa
open Go.Dbr
set_option maxRecDepth 100000
set_option maxHeartbeats 2000000
set_option linter.unusedVariables false
set_option linter.unusedSimpArgs false

end Go.Proofs.Ytofecellbfhnjaa

/- Layer 17: extensions' data are written by the document. -/


namespace Go.Proofs.Ytofecellbfhnjaa
open Go.Dbr
set_option maxRecDepth 100000
set_option maxHeartbeats 2000000
set_option linter.unusedVariables false
set_option linter.unusedSimpArgs false

end Go.Proofs.Ytofecellbfhnjaa

/- Layer 17: lists of parts are written by the document. -/

namespace Go.Proofs.Ytofecellbfhnjaa
open Go.Dbr
set_option maxRecDepth 100000
set_option maxHeartbeats 2000000
set_option linter.unusedVariables false
set_option linter.unusedSimpArgs false

end Go.Proofs.Ytofecellbfhnjaa

/- Layer 17: extensions are found, by both. -/

namespace Go.Proofs.Ytofecellbfhnjaa
open Go.Dbr
set_option maxRecDepth 100000
set_option maxHeartbeats 2000000
set_option linter.unusedVariables false
set_option linter.unusedSimpArgs false

abbrev RExt := (UInt16) × (Sl UInt8) × Unit
abbrev fExt : RExt → List Value := (fun p : (UInt16) × (Sl UInt8) × Unit => (fun n : UInt16 => [uv16 n]) p.1 ++ (fun p : (Sl UInt8) × Unit => (fun s : Sl UInt8 => s.f) p.1 ++ (fun _ : Unit => []) p.2) p.2)
abbrev EX := UInt16 × Bs
def fdN (t : UInt16) : List EX → Nat
  | [] => 0
  | p :: r => if p.1 = t then 0 else fdN t r + 1
def fdP (t : UInt16) : List EX → Bs × Bool
  | [] => ([], false)
  | p :: r => if p.1 = t then (p.2, true) else fdP t r
def fdI (t : UInt16) (ps : List EX) : Int := if fdN t ps < ps.length then (fdN t ps : Int) else -1
theorem fd_get {t : UInt16} : ∀ {ps : List EX} {p : EX}, ps[fdN t ps]? = some p → fdP t ps = (p.2, true)
  | [], _, h => by simp [fdN] at h
  | q :: r, p, h => by
    by_cases e : q.1 = t
    · rw [fdN, if_pos e, List.getElem?_cons_zero] at h
      rw [fdP, if_pos e, Option.some.inj h]
    · rw [fdN, if_neg e, List.getElem?_cons_succ] at h
      rw [fdP, if_neg e]
      exact fd_get h
theorem fd_hit {α : Type} {t : UInt16} {f : α → EX} {xs : List α} {i : Nat} {x : α} (hi : fdN t (List.map f xs) = i + fdN t (List.drop i (List.map f xs))) (hx : xs[i]? = some x) (e : (f x).1 = t) : fdN t (List.map f xs) = i ∧ fdP t (List.map f xs) = ((f x).2, true) := by
  have hp : (List.map f xs)[i]? = some (f x) := by rw [List.getElem?_map, hx]; rfl
  obtain ⟨hl, hg⟩ := List.getElem?_eq_some_iff.1 hp
  have hd : List.drop i (List.map f xs) = f x :: List.drop (i + 1) (List.map f xs) := by rw [List.drop_eq_getElem_cons hl, hg]
  have h1 : fdN t (List.map f xs) = i := by rw [hi, hd, fdN, if_pos e, Nat.add_zero]
  exact ⟨h1, fd_get (by rw [h1]; exact hp)⟩
theorem fd_go {α : Type} {t : UInt16} {f : α → EX} {xs : List α} {i : Nat} {x : α} (hi : fdN t (List.map f xs) = i + fdN t (List.drop i (List.map f xs))) (hx : xs[i]? = some x) (e : ¬ (f x).1 = t) : fdN t (List.map f xs) = i + 1 + fdN t (List.drop (i + 1) (List.map f xs)) := by
  have hp : (List.map f xs)[i]? = some (f x) := by rw [List.getElem?_map, hx]; rfl
  obtain ⟨hl, hg⟩ := List.getElem?_eq_some_iff.1 hp
  have hd : List.drop i (List.map f xs) = f x :: List.drop (i + 1) (List.map f xs) := by rw [List.drop_eq_getElem_cons hl, hg]
  rw [hi, hd, fdN, if_neg e]
  omega
theorem fd_end {α : Type} {t : UInt16} {f : α → EX} {xs : List α} {i : Nat} (hi : fdN t (List.map f xs) = i + fdN t (List.drop i (List.map f xs))) (h : ¬ i < xs.length) : ¬ fdN t (List.map f xs) < (List.map f xs).length := by
  rw [hi, List.length_map]
  omega
theorem fdI_n {t : UInt16} {ps : List EX} (h : ¬ fdN t ps < ps.length) : fdI t ps = -1 := by rw [fdI, if_neg h]
theorem fdI_y {t : UInt16} {ps : List EX} (h : fdN t ps < ps.length) : fdI t ps = (fdN t ps : Int) := by rw [fdI, if_pos h]
end Go.Proofs.Ytofecellbfhnjaa

/- Layer 17: both write the same; how much is written. -/

namespace Go.Proofs.Ytofecellbfhnjaa
open Go.Dbr
set_option maxRecDepth 100000
set_option maxHeartbeats 2000000
set_option linter.unusedVariables false
set_option linter.unusedSimpArgs false

theorem wd_eq (n x y k : Nat) (bad : Bool) : wbad n x y k bad = (bad || dbad n x y k) := by
  have hm : 0 < 2 ^ (8 * n) := Nat.pow_pos (by decide)
  have h : decide (0 < k / 2 ^ (8 * n)) = decide (2 ^ (8 * n) ≤ k) := decide_eq_decide.2 ⟨fun g => by
    rcases Nat.lt_or_ge k (2 ^ (8 * n)) with g2 | g2
    · rw [Nat.div_eq_of_lt g2] at g; exact absurd g (by decide)
    · exact g2, fun g => Nat.div_pos g hm⟩
  rw [wbad, dbad, h]
/-! how much -/
theorem foldl_len {β : Type} {F : WS → β → WS} {g : β → Nat} (h : ∀ p x, (F p x).1.length ≤ p.1.length + 8 * (g x + 1)) : ∀ (ps : List β) (p : WS), (List.foldl F p ps).1.length ≤ p.1.length + 8 * (List.map (fun x => g x + 1) ps).sum
  | [], _ => Nat.le_add_right _ _
  | x :: r, p => by
    have h1 := foldl_len h r (F p x)
    have h2 := h p x
    rw [List.foldl_cons, List.map_cons, List.sum_cons]
    omega
theorem sum_le {α β : Type} {g : β → Nat} {pu : α → β} {m : α → Nat} (hg : ∀ y, g (pu y) + 1 ≤ m y) : ∀ (xs : List α) (i : Nat), (List.map (fun x => g x + 1) (List.take i (List.map pu xs))).sum ≤ (List.map m xs).sum
  | [], i => by simp
  | x :: r, 0 => by simp
  | x :: r, i + 1 => by
    have h1 := sum_le hg r i
    have h2 := hg x
    rw [List.map_cons, List.take_succ_cons, List.map_cons, List.sum_cons, List.map_cons, List.sum_cons]
    omega
theorem allB_of {α β : Type} {F : WS → β → WS} {g : β → Nat} (h : ∀ p x, (F p x).1.length ≤ p.1.length + 8 * (g x + 1)) {pu : α → β} {m : α → Nat} (hg : ∀ y, g (pu y) + 1 ≤ m y) {xs : List α} (hs : (List.map m xs).sum ≤ 1048576) : allB F (List.map pu xs) := fun i => by
  have h1 := foldl_len h (List.take i (List.map pu xs)) ([], false)
  have h2 := sum_le hg xs i
  rw [allM]
  simp only [List.length_nil, Nat.zero_add] at h1
  omega
theorem alF_l (p : WS) (x : Bs) : (alF p x).1.length ≤ p.1.length + 8 * (x.length + 1) := by rw [alF, wput_len]; omega
theorem shF_l (p : WS) (x : UInt16 × Bs) : (shF p x).1.length ≤ p.1.length + 8 * (x.2.length + 1) := by rw [shF, wput_len, List.length_append, beN_len]; omega
end Go.Proofs.Ytofecellbfhnjaa
