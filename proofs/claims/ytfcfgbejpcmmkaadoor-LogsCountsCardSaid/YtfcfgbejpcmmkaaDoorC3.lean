/- Layer 3: the document's counters. -/
import Derived.Test.YtfcfgbejpcmmkaaDoorC2
namespace Go.Proofs.YtfcfgbejpcmmkaaDoor
open Go.Dbr
set_option maxRecDepth 100000
set_option maxHeartbeats 2000000
set_option linter.unusedVariables false
set_option linter.unusedSimpArgs false

theorem dcount_go (w : World) (a : Option Addr) (c : Nat) (xs : List RCnt) (nm : Bs) (v : UInt64) (hnm : List.length nm ≤ 140737488351232) (hxl : List.length xs ≤ 5864062014640) (hH : Heap w [.vec a c 2 (List.flatMap fCnt xs) 54]) : Calls Tryd.prog 15 #[.slice a (List.length xs) c, .string (bstr nm), uv64 v] w fun e w' => ∃ a' c', e = .returned (.tuple #[.slice a' (List.length (cntX xs nm v)) c', .int .i64 (cntE nm)]) ∧ Ev w [.vec a c 2 (List.flatMap fCnt xs) 54] w' [.vec a' c' 2 (List.flatMap fCnt (cntX xs nm v)) 54] := by
 refine d_0 [(0, .slice a (List.length xs) c), (1, .string (bstr nm)), (2, uv64 v)] 70 Go.Proofs.Tryd.func15 Go.Proofs.Tryd.ntmps15 (hH) fun act0 En0 Hv0 => ?_
 refine wp_seq ?_
 refine d_r [0,1,2,6,7] [] En0 fun ac1 En2 => ?_
 refine then_normal ?_
 refine wp_seq ?_
 refine region_from ?_
 refine d_k [0,1,2,6,7,13] [] 1 En2 fun ac3 En4 => ?_
 refine f_o ?_
 refine c_p En4 Hv0 (dword_go _ nm (by first | assumption | omega)) fun ac9 wo6 En10 Hv11 => ?_
 refine d_e [0,1,2,6,7,8] [] En10 fun ac12 En13 => ?_
 refine then_normal ?_
 refine wp_seq ?_
 refine wp_seq ?_
 refine d_r [0,1,2,6,7,16] [] En13 fun ac14 En15 => ?_
 refine then_normal ?_
 refine cond_at En15 (t := !(wordB nm)) (by kernel_rfl) (fun hc16 => ?_) (fun hc16 => ?_)
 ·
  replace hc16 : ¬ (wordB nm = true) := by simpa using hc16
  refine wp_seq ?_
  refine d_r [0,1,2,6,7] [] En15 fun ac17 En18 => ?_
  refine then_normal ?_
  refine wp_ret ?_
  refine then_ret ?_
  refine d_ret2 (t := 6) (u := 7) (v := .slice a (List.length xs) c) (x := .int .i64 31) En18 (by kernel_rfl) (by kernel_rfl) (by kernel_rfl) ?_
  rw [show cntX xs nm v = xs from if_neg (by assumption), show cntE nm = 31 from if_neg (by assumption)]
  exact ⟨a, c, rfl, Hv11.pick [0] (by kernel_rfl) (by decide)⟩
 ·
  replace hc16 : wordB nm = true := by simpa using hc16
  refine wp_skip ?_
  refine then_normal ?_
  refine wp_seq ?_
  refine d_r [0,1,2,6,7,9] [] En15 fun ac19 En20 => ?_
  refine then_normal ?_
  refine wp_seq ?_
  refine d_r [0,1,2,6,7,9,10] [] En20 fun ac21 En22 => ?_
  refine then_normal ?_
  refine wp_seq ?_
  refine wp_seq ?_
  refine d_r [0,1,2,6,7,9,10,11] [] En22 fun ac23 En24 => ?_
  refine then_normal ?_
  refine wp_block ?_
  have Hv25 : Ev w [.vec a c 2 (List.flatMap fCnt xs) 54] wo6 [.vec a c 2 (List.flatMap fCnt xs) 54, .vec none 0 2 (List.flatMap fCnt []) 54] := Ev.nil (sz := 2) (T := 54) Hv11
  refine loop_m (fun ms26 ac wo => ∃ (i : Nat) (dn : Bool) (a2 : Option Addr) (c2 : Nat) (ot : List RCnt), ms26 = (List.length xs - i : Nat) ∧ Env ac 70 [(0, .slice a (List.length xs) c), (1, .string (bstr nm)), (2, uv64 v), (6, .slice none 0 0), (7, .int .i64 0), (9, .slice a2 (List.length ot) c2), (10, .bool dn), (11, ni i)] ∧ Ev w [.vec a c 2 (List.flatMap fCnt xs) 54] wo [.vec a c 2 (List.flatMap fCnt xs) 54, .vec a2 c2 2 (List.flatMap fCnt ot) 54] ∧ (i ≤ List.length xs) ∧ (ot ++ cntR nm v dn (List.drop i xs) = cntR nm v false xs) ∧ (List.length ot ≤ i + 1) ∧ (dn = false → List.length ot ≤ i)) ⟨_, 0, false, none, 0, [], rfl, En24.sub (by kernel_rfl), Hv25.pick [0, 1] (by kernel_rfl) (by decide), (Nat.zero_le _), (by simp), (by simp), (by simp)⟩ ?_
  rintro mm32 ac28 wo29 ⟨i, dn, a2, c2, ot, rfl, En30, Hv31, hil, hot, hol, hof⟩
  refine wp_seq ?_
  refine wp_seq ?_
  refine d_r [0,1,2,6,7,9,10,11,21] [] En30 fun ac33 En34 => ?_
  refine then_normal ?_
  refine c_d (((i : Nat) : Int) < ((List.length xs : Nat) : Int)) En34 (fun hc35 => ?_) (fun hc35 => ?_)
  ·
   refine wp_skip ?_
   refine then_normal ?_
   refine wp_seq ?_
   refine wp_block ?_
   refine wp_seq ?_
   cases dn with
   | false =>
    have hof2 := hof rfl
    have hb38 : i < List.length xs := (by omega)
    obtain ⟨adr36, had37⟩ := some_of (sv_nz (f := fCnt) (sz := 2) Hv31.heap (k := 0) rfl (fun _ => rfl) (by decide)) hb38
    have hb39 : i < List.length xs := by omega
    obtain ⟨⟨x41a, x41b, _⟩, hx40⟩ : ∃ x, (xs)[i]? = some x := ⟨_, List.getElem?_eq_getElem hb39⟩
    refine region_from ?_
    refine d_k [0,1,2,6,7,9,10,11,24,25] [] 2 En34 fun ac42 En43 => ?_
    refine f_o ?_
    refine q_v (x := Instr.indexAt 47 (.slice a (List.length xs) c) (ni i)) (v := .pointer (some (Addr.add adr36 (i * 2)))) En43 (Go.Dbr.run_indexsl (e := 54) (sz := 2) (j := i) (jo := i * 2) had37 (by kernel_rfl) (by kernel_rfl) (by omega) hb38 rfl _) fun ac44 En45 => ?_
    refine f_o ?_
    refine op_loadaggat (d := some 27) (t := 54) (ad := adr36) (ao := a) (ys := List.flatMap fCnt xs) (o := i * 2) (m := 2) (xs := [.string (bstr x41a), uv64 x41b]) En45 (by kernel_rfl) rfl (Hv31.heap.reads (k := 0) rfl) had37 (fun j hj => ?_) rfl (by kernel_rfl) (by kernel_rfl) ?_
    ·
     exact flat_sub (sz := 2) (off := 0) (m := 2) (fun _ _ => rfl) hx40 (by decide) rfl j hj
    intro ac46 En47
    refine f_o ?_
    refine m_z 54 [.string (bstr []), .int .u64 0] En47 Hv31 fun ac49 wo50 bk48 En51 Hv52 => ?_
    refine f_o ?_
    refine m_g 2 0 2 [.string (bstr x41a), uv64 x41b] [.string (bstr x41a), uv64 x41b] [.vec a c 2 (List.flatMap fCnt xs) 54, .vec a2 c2 2 (List.flatMap fCnt ot) 54, .box bk48 [.string (bstr x41a), uv64 x41b] 54] En51 Hv52 rfl rfl (by simp) (one_all (by kernel_rfl)) rfl rfl fun ac53 wo54 En55 Hv56 => ?_
    refine f_e ?_
    refine then_normal ?_
    refine wp_seq ?_
    refine wp_seq ?_
    refine region_from ?_
    refine d_k [0,1,2,6,7,9,10,11,12,30,31] [] 4 En55 fun ac57 En58 => ?_
    refine f_o ?_
    refine m_l 2 En58 Hv56 fun ac59 En60 => ?_
    refine d_e [0,1,2,6,7,9,10,11,12,35] [(6, g_v (show (.bool (!(Op.bytesLess (ByteArray.toList (bstr x41a)) (ByteArray.toList (bstr nm)) || ByteArray.toList (bstr x41a) == ByteArray.toList (bstr nm))) : Value) = .bool (decide (nm < x41a)) by rw [Go.Dbr.str_gt x41a nm] <;> rfl))] En60 fun ac61 En62 => ?_
    refine then_normal ?_
    refine c_d (nm < x41a) En62 (fun hc63 => ?_) (fun hc63 => ?_)
    ·
     refine wp_seq ?_
     refine region_from ?_
     refine d_k [0,1,2,6,7,9,10,11,12,36,39] [] 4 En62 fun ac64 En65 => ?_
     refine f_o ?_
     refine op_lit (d := some 40) (t := 47) (T := 54) (m := 1) (parts := #[(0, .agg #[.string (bstr nm), uv64 v])]) (xs := List.flatMap fCnt ([(nm, v, ())] : List (RCnt))) (sz := 2) En65 (by kernel_rfl) (by kernel_rfl) rfl (by decide) Hv56 ?_
     intro ac67 wo68 bk66 En69 Hv70
     refine f_o ?_
     refine op_append (d := some 41) (t := 47) (tx := 47) (ty := 47) (k := 1) (p := List.length ot) (m := 1) (x := .slice (some ⟨bk66, 0, none⟩) 1 1) (bytes := 24) En69 (by kernel_rfl) Hv70 rfl (sv_len (f := fCnt) (sz := 2) (fun _ => rfl) _) (Reads.src (size := 2) (tx := 47) (e' := 54) (by kernel_rfl) (Hv70.heap.reads (k := 3) rfl) rfl (fun e => by cases e) (flat_one (f := fCnt) (fun _ => one_all rfl) _)) (by kernel_rfl) (z := .agg #[.string (bstr []), .int .u64 0]) (by kernel_rfl) rfl (by decide) (by omega) (by unfold maxLen; omega) ?_
     intro ac75 wo76 ao71 cp72 En77 Hv78 hnz _
     clear hnz
     rw [← List.flatMap_append] at Hv78
     have ehz73 : (List.length ot) + 1 = List.length (ot ++ ([(nm, v, ())] : List (RCnt))) := (by first | (simp; done) | (simp; omega) | omega)
     rw [ehz73] at En77
     refine d_e [0,1,2,6,7,9,10,11,12] [] En77 fun ac79 En80 => ?_
     refine then_normal ?_
     refine d_r [0,1,2,6,7,9,10,11,12] [] En80 fun ac81 En82 => ?_
     refine then_normal ?_
     refine wp_seq ?_
     refine wp_seq ?_
     refine region_from ?_
     refine d_k [0,1,2,6,7,9,10,11,12,42] [] 1 En82 fun ac83 En84 => ?_
     refine f_o ?_
     refine m_l 2 En84 Hv78 fun ac85 En86 => ?_
     refine d_e [0,1,2,6,7,9,10,11,12,45] [(3, g_v (show (.bool (ByteArray.toList (bstr x41a) == ByteArray.toList (bstr nm)) : Value) = .bool (x41a == nm) by rw [Go.Dbr.bstr_eq x41a nm] <;> rfl))] En86 fun ac87 En88 => ?_
     refine then_normal ?_
     refine cond_at En88 (t := x41a == nm) (by kernel_rfl) (fun hc89 => ?_) (fun hc89 => ?_)
     ·
      replace hc89 : x41a = nm := eq_of_beq hc89
      refine wp_seq ?_
      refine d_r [0,1,2,6,7,9,10,11,12] [] En88 fun ac90 En91 => ?_
      refine then_normal ?_
      refine wp_seq ?_
      refine region_from ?_
      refine d_k [0,1,2,6,7,9,10,11,12,46] [] 1 En91 fun ac92 En93 => ?_
      refine f_o ?_
      refine m_l 2 En93 Hv78 fun ac94 En95 => ?_
      refine d_e [0,1,2,6,7,9,10,11,12,50] [(3, g_i .u64 (Go.Dbr.u64_sub (x := (18446744073709551615 : UInt64)) (y := v) rfl rfl))] En95 fun ac96 En97 => ?_
      refine then_normal ?_
      refine c_d (((UInt64.toNat x41b : Nat) : Int) > ((UInt64.toNat ((18446744073709551615 : UInt64) - v) : Nat) : Int)) En97 (fun hc98 => ?_) (fun hc98 => ?_)
      ·
       refine region_from ?_
       refine d_k [0,1,2,6,7,9,10,11,12,51] [] 1 En97 fun ac99 En100 => ?_
       refine f_o ?_
       refine m_s 2 [.vec a c 2 (List.flatMap fCnt xs) 54, .vec ao71 cp72 2 (List.flatMap fCnt (ot ++ ([(nm, v, ())] : List (RCnt)))) 54, .box bk48 [.string (bstr x41a), .int .u64 18446744073709551615] 54, .vec (some ⟨bk66, 0, none⟩) 1 2 (List.flatMap fCnt ([(nm, v, ())] : List (RCnt))) 54] En100 Hv78 fun ac101 wo102 En103 Hv104 => ?_
       refine f_e ?_
       refine then_normal ?_
       refine region_from ?_
       refine d_k [0,1,2,6,7,9,10,11,12,57] [] 1 En103 fun ac105 En106 => ?_
       refine f_o ?_
       refine m_a 2 0 2 [.string (bstr x41a), .int .u64 18446744073709551615] En106 Hv104 rfl rfl rfl fun ac107 En108 => ?_
       refine f_o ?_
       refine op_lit (d := some 59) (t := 47) (T := 54) (m := 1) (parts := #[(0, .agg #[.string (bstr x41a), .int .u64 18446744073709551615])]) (xs := List.flatMap fCnt ([(x41a, (18446744073709551615 : UInt64), ())] : List (RCnt))) (sz := 2) En108 (by kernel_rfl) (by kernel_rfl) rfl (by decide) Hv104 ?_
       intro ac110 wo111 bk109 En112 Hv113
       refine f_o ?_
       refine op_append (d := some 60) (t := 47) (tx := 47) (ty := 47) (k := 1) (p := List.length (ot ++ ([(nm, v, ())] : List (RCnt)))) (m := 1) (x := .slice (some ⟨bk109, 0, none⟩) 1 1) (bytes := 24) En112 (by kernel_rfl) Hv113 rfl (sv_len (f := fCnt) (sz := 2) (fun _ => rfl) _) (Reads.src (size := 2) (tx := 47) (e' := 54) (by kernel_rfl) (Hv113.heap.reads (k := 4) rfl) rfl (fun e => by cases e) (flat_one (f := fCnt) (fun _ => one_all rfl) _)) (by kernel_rfl) (z := .agg #[.string (bstr []), .int .u64 0]) (by kernel_rfl) rfl (by decide) (by omega) (by unfold maxLen; omega) ?_
       intro ac118 wo119 ao114 cp115 En120 Hv121 hnz _
       clear hnz
       rw [← List.flatMap_append] at Hv121
       have ehz116 : (List.length (ot ++ ([(nm, v, ())] : List (RCnt)))) + 1 = List.length ((ot ++ ([(nm, v, ())] : List (RCnt))) ++ ([(x41a, (18446744073709551615 : UInt64), ())] : List (RCnt))) := (by first | (simp; done) | (simp; omega) | omega)
       rw [ehz116] at En120
       refine d_e [0,1,2,6,7,9,10,11,12] [] En120 fun ac122 En123 => ?_
       refine block_normal ?_
       refine then_normal ?_
       refine d_r [0,1,2,6,7,9,10,11,12] [(1, g_n (w_a i 1))] En123 fun ac124 En125 => ?_
       refine then_normal ?_
       refine ⟨_, ⟨i + 1, true, ao114, cp115, ((ot ++ ([(nm, v, ())] : List (RCnt))) ++ ([(x41a, (18446744073709551615 : UInt64), ())] : List (RCnt))), rfl, En125.sub (by kernel_rfl), Hv121.pick [0, 1] (by kernel_rfl) (by decide), (by omega), (absurd (by assumption : nm < x41a) (by rw [show x41a = nm from by assumption]; exact List.lt_irrefl _)), (by simp only [List.length_append, List.length_cons, List.length_nil]; omega), (by intro q; cases q)⟩, ?_⟩
       omega
      ·
       refine region_from ?_
       refine d_k [0,1,2,6,7,9,10,11,12,52] [] 1 En97 fun ac126 En127 => ?_
       refine f_o ?_
       refine m_l 2 En127 Hv78 fun ac128 En129 => ?_
       refine d_k [0,1,2,6,7,9,10,11,12,55,56] [(3, g_i .u64 (Go.Dbr.u64_add (x := x41b) (y := v) rfl rfl))] 5 En129 fun ac130 En131 => ?_
       refine f_o ?_
       refine m_s 2 [.vec a c 2 (List.flatMap fCnt xs) 54, .vec ao71 cp72 2 (List.flatMap fCnt (ot ++ ([(nm, v, ())] : List (RCnt)))) 54, .box bk48 [.string (bstr x41a), .int .u64 ((UInt64.toNat (x41b + v) : Nat) : Int)] 54, .vec (some ⟨bk66, 0, none⟩) 1 2 (List.flatMap fCnt ([(nm, v, ())] : List (RCnt))) 54] En131 Hv78 fun ac132 wo133 En134 Hv135 => ?_
       refine f_e ?_
       refine then_normal ?_
       refine region_from ?_
       refine d_k [0,1,2,6,7,9,10,11,12,57] [] 1 En134 fun ac136 En137 => ?_
       refine f_o ?_
       refine m_a 2 0 2 [.string (bstr x41a), .int .u64 ((UInt64.toNat (x41b + v) : Nat) : Int)] En137 Hv135 rfl rfl rfl fun ac138 En139 => ?_
       refine f_o ?_
       refine op_lit (d := some 59) (t := 47) (T := 54) (m := 1) (parts := #[(0, .agg #[.string (bstr x41a), .int .u64 ((UInt64.toNat (x41b + v) : Nat) : Int)])]) (xs := List.flatMap fCnt ([(x41a, x41b + v, ())] : List (RCnt))) (sz := 2) En139 (by kernel_rfl) (by kernel_rfl) rfl (by decide) Hv135 ?_
       intro ac141 wo142 bk140 En143 Hv144
       refine f_o ?_
       refine op_append (d := some 60) (t := 47) (tx := 47) (ty := 47) (k := 1) (p := List.length (ot ++ ([(nm, v, ())] : List (RCnt)))) (m := 1) (x := .slice (some ⟨bk140, 0, none⟩) 1 1) (bytes := 24) En143 (by kernel_rfl) Hv144 rfl (sv_len (f := fCnt) (sz := 2) (fun _ => rfl) _) (Reads.src (size := 2) (tx := 47) (e' := 54) (by kernel_rfl) (Hv144.heap.reads (k := 4) rfl) rfl (fun e => by cases e) (flat_one (f := fCnt) (fun _ => one_all rfl) _)) (by kernel_rfl) (z := .agg #[.string (bstr []), .int .u64 0]) (by kernel_rfl) rfl (by decide) (by omega) (by unfold maxLen; omega) ?_
       intro ac149 wo150 ao145 cp146 En151 Hv152 hnz _
       clear hnz
       rw [← List.flatMap_append] at Hv152
       have ehz147 : (List.length (ot ++ ([(nm, v, ())] : List (RCnt)))) + 1 = List.length ((ot ++ ([(nm, v, ())] : List (RCnt))) ++ ([(x41a, x41b + v, ())] : List (RCnt))) := (by first | (simp; done) | (simp; omega) | omega)
       rw [ehz147] at En151
       refine d_e [0,1,2,6,7,9,10,11,12] [] En151 fun ac153 En154 => ?_
       refine block_normal ?_
       refine then_normal ?_
       refine d_r [0,1,2,6,7,9,10,11,12] [(1, g_n (w_a i 1))] En154 fun ac155 En156 => ?_
       refine then_normal ?_
       refine ⟨_, ⟨i + 1, true, ao145, cp146, ((ot ++ ([(nm, v, ())] : List (RCnt))) ++ ([(x41a, x41b + v, ())] : List (RCnt))), rfl, En156.sub (by kernel_rfl), Hv152.pick [0, 1] (by kernel_rfl) (by decide), (by omega), (absurd (by assumption : nm < x41a) (by rw [show x41a = nm from by assumption]; exact List.lt_irrefl _)), (by simp only [List.length_append, List.length_cons, List.length_nil]; omega), (by intro q; cases q)⟩, ?_⟩
       omega
     ·
      replace hc89 : ¬ (x41a = nm) := ne_of_beq_false hc89
      refine wp_skip ?_
      refine then_normal ?_
      refine region_from ?_
      refine d_k [0,1,2,6,7,9,10,11,12,57] [] 1 En88 fun ac157 En158 => ?_
      refine f_o ?_
      refine m_a 2 0 2 [.string (bstr x41a), uv64 x41b] En158 Hv78 rfl rfl rfl fun ac159 En160 => ?_
      refine f_o ?_
      refine op_lit (d := some 59) (t := 47) (T := 54) (m := 1) (parts := #[(0, .agg #[.string (bstr x41a), uv64 x41b])]) (xs := List.flatMap fCnt ([(x41a, x41b, ())] : List (RCnt))) (sz := 2) En160 (by kernel_rfl) (by kernel_rfl) rfl (by decide) Hv78 ?_
      intro ac162 wo163 bk161 En164 Hv165
      refine f_o ?_
      refine op_append (d := some 60) (t := 47) (tx := 47) (ty := 47) (k := 1) (p := List.length (ot ++ ([(nm, v, ())] : List (RCnt)))) (m := 1) (x := .slice (some ⟨bk161, 0, none⟩) 1 1) (bytes := 24) En164 (by kernel_rfl) Hv165 rfl (sv_len (f := fCnt) (sz := 2) (fun _ => rfl) _) (Reads.src (size := 2) (tx := 47) (e' := 54) (by kernel_rfl) (Hv165.heap.reads (k := 4) rfl) rfl (fun e => by cases e) (flat_one (f := fCnt) (fun _ => one_all rfl) _)) (by kernel_rfl) (z := .agg #[.string (bstr []), .int .u64 0]) (by kernel_rfl) rfl (by decide) (by omega) (by unfold maxLen; omega) ?_
      intro ac170 wo171 ao166 cp167 En172 Hv173 hnz _
      clear hnz
      rw [← List.flatMap_append] at Hv173
      have ehz168 : (List.length (ot ++ ([(nm, v, ())] : List (RCnt)))) + 1 = List.length ((ot ++ ([(nm, v, ())] : List (RCnt))) ++ ([(x41a, x41b, ())] : List (RCnt))) := (by first | (simp; done) | (simp; omega) | omega)
      rw [ehz168] at En172
      refine d_e [0,1,2,6,7,9,10,11,12] [] En172 fun ac174 En175 => ?_
      refine block_normal ?_
      refine then_normal ?_
      refine d_r [0,1,2,6,7,9,10,11,12] [(1, g_n (w_a i 1))] En175 fun ac176 En177 => ?_
      refine then_normal ?_
      refine ⟨_, ⟨i + 1, true, ao166, cp167, ((ot ++ ([(nm, v, ())] : List (RCnt))) ++ ([(x41a, x41b, ())] : List (RCnt))), rfl, En177.sub (by kernel_rfl), Hv173.pick [0, 1] (by kernel_rfl) (by decide), (by omega), (go_ins hot hx40 (by assumption)), (by simp only [List.length_append, List.length_cons, List.length_nil]; omega), (by intro q; cases q)⟩, ?_⟩
      omega
    ·
     refine wp_skip ?_
     refine then_normal ?_
     refine wp_seq ?_
     refine wp_seq ?_
     refine region_from ?_
     refine d_k [0,1,2,6,7,9,10,11,12,42] [] 1 En62 fun ac178 En179 => ?_
     refine f_o ?_
     refine m_l 2 En179 Hv56 fun ac180 En181 => ?_
     refine d_e [0,1,2,6,7,9,10,11,12,45] [(3, g_v (show (.bool (ByteArray.toList (bstr x41a) == ByteArray.toList (bstr nm)) : Value) = .bool (x41a == nm) by rw [Go.Dbr.bstr_eq x41a nm] <;> rfl))] En181 fun ac182 En183 => ?_
     refine then_normal ?_
     refine cond_at En183 (t := x41a == nm) (by kernel_rfl) (fun hc184 => ?_) (fun hc184 => ?_)
     ·
      replace hc184 : x41a = nm := eq_of_beq hc184
      refine wp_seq ?_
      refine d_r [0,1,2,6,7,9,10,11,12] [] En183 fun ac185 En186 => ?_
      refine then_normal ?_
      refine wp_seq ?_
      refine region_from ?_
      refine d_k [0,1,2,6,7,9,10,11,12,46] [] 1 En186 fun ac187 En188 => ?_
      refine f_o ?_
      refine m_l 2 En188 Hv56 fun ac189 En190 => ?_
      refine d_e [0,1,2,6,7,9,10,11,12,50] [(3, g_i .u64 (Go.Dbr.u64_sub (x := (18446744073709551615 : UInt64)) (y := v) rfl rfl))] En190 fun ac191 En192 => ?_
      refine then_normal ?_
      refine c_d (((UInt64.toNat x41b : Nat) : Int) > ((UInt64.toNat ((18446744073709551615 : UInt64) - v) : Nat) : Int)) En192 (fun hc193 => ?_) (fun hc193 => ?_)
      ·
       refine region_from ?_
       refine d_k [0,1,2,6,7,9,10,11,12,51] [] 1 En192 fun ac194 En195 => ?_
       refine f_o ?_
       refine m_s 2 [.vec a c 2 (List.flatMap fCnt xs) 54, .vec a2 c2 2 (List.flatMap fCnt ot) 54, .box bk48 [.string (bstr x41a), .int .u64 18446744073709551615] 54] En195 Hv56 fun ac196 wo197 En198 Hv199 => ?_
       refine f_e ?_
       refine then_normal ?_
       refine region_from ?_
       refine d_k [0,1,2,6,7,9,10,11,12,57] [] 1 En198 fun ac200 En201 => ?_
       refine f_o ?_
       refine m_a 2 0 2 [.string (bstr x41a), .int .u64 18446744073709551615] En201 Hv199 rfl rfl rfl fun ac202 En203 => ?_
       refine f_o ?_
       refine op_lit (d := some 59) (t := 47) (T := 54) (m := 1) (parts := #[(0, .agg #[.string (bstr x41a), .int .u64 18446744073709551615])]) (xs := List.flatMap fCnt ([(x41a, (18446744073709551615 : UInt64), ())] : List (RCnt))) (sz := 2) En203 (by kernel_rfl) (by kernel_rfl) rfl (by decide) Hv199 ?_
       intro ac205 wo206 bk204 En207 Hv208
       refine f_o ?_
       refine op_append (d := some 60) (t := 47) (tx := 47) (ty := 47) (k := 1) (p := List.length ot) (m := 1) (x := .slice (some ⟨bk204, 0, none⟩) 1 1) (bytes := 24) En207 (by kernel_rfl) Hv208 rfl (sv_len (f := fCnt) (sz := 2) (fun _ => rfl) _) (Reads.src (size := 2) (tx := 47) (e' := 54) (by kernel_rfl) (Hv208.heap.reads (k := 3) rfl) rfl (fun e => by cases e) (flat_one (f := fCnt) (fun _ => one_all rfl) _)) (by kernel_rfl) (z := .agg #[.string (bstr []), .int .u64 0]) (by kernel_rfl) rfl (by decide) (by omega) (by unfold maxLen; omega) ?_
       intro ac213 wo214 ao209 cp210 En215 Hv216 hnz _
       clear hnz
       rw [← List.flatMap_append] at Hv216
       have ehz211 : (List.length ot) + 1 = List.length (ot ++ ([(x41a, (18446744073709551615 : UInt64), ())] : List (RCnt))) := (by first | (simp; done) | (simp; omega) | omega)
       rw [ehz211] at En215
       refine d_e [0,1,2,6,7,9,10,11,12] [] En215 fun ac217 En218 => ?_
       refine block_normal ?_
       refine then_normal ?_
       refine d_r [0,1,2,6,7,9,10,11,12] [(1, g_n (w_a i 1))] En218 fun ac219 En220 => ?_
       refine then_normal ?_
       refine ⟨_, ⟨i + 1, true, ao209, cp210, (ot ++ ([(x41a, (18446744073709551615 : UInt64), ())] : List (RCnt))), rfl, En220.sub (by kernel_rfl), Hv216.pick [0, 1] (by kernel_rfl) (by decide), (by omega), (go_eq hot hx40 (by assumption) (sat_gt (by assumption))), (by simp only [List.length_append, List.length_cons, List.length_nil]; omega), (by intro q; cases q)⟩, ?_⟩
       omega
      ·
       refine region_from ?_
       refine d_k [0,1,2,6,7,9,10,11,12,52] [] 1 En192 fun ac221 En222 => ?_
       refine f_o ?_
       refine m_l 2 En222 Hv56 fun ac223 En224 => ?_
       refine d_k [0,1,2,6,7,9,10,11,12,55,56] [(3, g_i .u64 (Go.Dbr.u64_add (x := x41b) (y := v) rfl rfl))] 5 En224 fun ac225 En226 => ?_
       refine f_o ?_
       refine m_s 2 [.vec a c 2 (List.flatMap fCnt xs) 54, .vec a2 c2 2 (List.flatMap fCnt ot) 54, .box bk48 [.string (bstr x41a), .int .u64 ((UInt64.toNat (x41b + v) : Nat) : Int)] 54] En226 Hv56 fun ac227 wo228 En229 Hv230 => ?_
       refine f_e ?_
       refine then_normal ?_
       refine region_from ?_
       refine d_k [0,1,2,6,7,9,10,11,12,57] [] 1 En229 fun ac231 En232 => ?_
       refine f_o ?_
       refine m_a 2 0 2 [.string (bstr x41a), .int .u64 ((UInt64.toNat (x41b + v) : Nat) : Int)] En232 Hv230 rfl rfl rfl fun ac233 En234 => ?_
       refine f_o ?_
       refine op_lit (d := some 59) (t := 47) (T := 54) (m := 1) (parts := #[(0, .agg #[.string (bstr x41a), .int .u64 ((UInt64.toNat (x41b + v) : Nat) : Int)])]) (xs := List.flatMap fCnt ([(x41a, x41b + v, ())] : List (RCnt))) (sz := 2) En234 (by kernel_rfl) (by kernel_rfl) rfl (by decide) Hv230 ?_
       intro ac236 wo237 bk235 En238 Hv239
       refine f_o ?_
       refine op_append (d := some 60) (t := 47) (tx := 47) (ty := 47) (k := 1) (p := List.length ot) (m := 1) (x := .slice (some ⟨bk235, 0, none⟩) 1 1) (bytes := 24) En238 (by kernel_rfl) Hv239 rfl (sv_len (f := fCnt) (sz := 2) (fun _ => rfl) _) (Reads.src (size := 2) (tx := 47) (e' := 54) (by kernel_rfl) (Hv239.heap.reads (k := 3) rfl) rfl (fun e => by cases e) (flat_one (f := fCnt) (fun _ => one_all rfl) _)) (by kernel_rfl) (z := .agg #[.string (bstr []), .int .u64 0]) (by kernel_rfl) rfl (by decide) (by omega) (by unfold maxLen; omega) ?_
       intro ac244 wo245 ao240 cp241 En246 Hv247 hnz _
       clear hnz
       rw [← List.flatMap_append] at Hv247
       have ehz242 : (List.length ot) + 1 = List.length (ot ++ ([(x41a, x41b + v, ())] : List (RCnt))) := (by first | (simp; done) | (simp; omega) | omega)
       rw [ehz242] at En246
       refine d_e [0,1,2,6,7,9,10,11,12] [] En246 fun ac248 En249 => ?_
       refine block_normal ?_
       refine then_normal ?_
       refine d_r [0,1,2,6,7,9,10,11,12] [(1, g_n (w_a i 1))] En249 fun ac250 En251 => ?_
       refine then_normal ?_
       refine ⟨_, ⟨i + 1, true, ao240, cp241, (ot ++ ([(x41a, x41b + v, ())] : List (RCnt))), rfl, En251.sub (by kernel_rfl), Hv247.pick [0, 1] (by kernel_rfl) (by decide), (by omega), (go_eq hot hx40 (by assumption) (sat_le (by assumption))), (by simp only [List.length_append, List.length_cons, List.length_nil]; omega), (by intro q; cases q)⟩, ?_⟩
       omega
     ·
      replace hc184 : ¬ (x41a = nm) := ne_of_beq_false hc184
      refine wp_skip ?_
      refine then_normal ?_
      refine region_from ?_
      refine d_k [0,1,2,6,7,9,10,11,12,57] [] 1 En183 fun ac252 En253 => ?_
      refine f_o ?_
      refine m_a 2 0 2 [.string (bstr x41a), uv64 x41b] En253 Hv56 rfl rfl rfl fun ac254 En255 => ?_
      refine f_o ?_
      refine op_lit (d := some 59) (t := 47) (T := 54) (m := 1) (parts := #[(0, .agg #[.string (bstr x41a), uv64 x41b])]) (xs := List.flatMap fCnt ([(x41a, x41b, ())] : List (RCnt))) (sz := 2) En255 (by kernel_rfl) (by kernel_rfl) rfl (by decide) Hv56 ?_
      intro ac257 wo258 bk256 En259 Hv260
      refine f_o ?_
      refine op_append (d := some 60) (t := 47) (tx := 47) (ty := 47) (k := 1) (p := List.length ot) (m := 1) (x := .slice (some ⟨bk256, 0, none⟩) 1 1) (bytes := 24) En259 (by kernel_rfl) Hv260 rfl (sv_len (f := fCnt) (sz := 2) (fun _ => rfl) _) (Reads.src (size := 2) (tx := 47) (e' := 54) (by kernel_rfl) (Hv260.heap.reads (k := 3) rfl) rfl (fun e => by cases e) (flat_one (f := fCnt) (fun _ => one_all rfl) _)) (by kernel_rfl) (z := .agg #[.string (bstr []), .int .u64 0]) (by kernel_rfl) rfl (by decide) (by omega) (by unfold maxLen; omega) ?_
      intro ac265 wo266 ao261 cp262 En267 Hv268 hnz _
      clear hnz
      rw [← List.flatMap_append] at Hv268
      have ehz263 : (List.length ot) + 1 = List.length (ot ++ ([(x41a, x41b, ())] : List (RCnt))) := (by first | (simp; done) | (simp; omega) | omega)
      rw [ehz263] at En267
      refine d_e [0,1,2,6,7,9,10,11,12] [] En267 fun ac269 En270 => ?_
      refine block_normal ?_
      refine then_normal ?_
      refine d_r [0,1,2,6,7,9,10,11,12] [(1, g_n (w_a i 1))] En270 fun ac271 En272 => ?_
      refine then_normal ?_
      refine ⟨_, ⟨i + 1, false, ao261, cp262, (ot ++ ([(x41a, x41b, ())] : List (RCnt))), rfl, En272.sub (by kernel_rfl), Hv268.pick [0, 1] (by kernel_rfl) (by decide), (by omega), (go_f hot hx40 (by assumption) (by assumption)), (by simp only [List.length_append, List.length_cons, List.length_nil]; omega), (by intro _; simp only [List.length_append, List.length_cons, List.length_nil]; omega)⟩, ?_⟩
      omega
   | true =>
    have hb275 : i < List.length xs := (by omega)
    obtain ⟨adr273, had274⟩ := some_of (sv_nz (f := fCnt) (sz := 2) Hv31.heap (k := 0) rfl (fun _ => rfl) (by decide)) hb275
    have hb276 : i < List.length xs := by omega
    obtain ⟨⟨x278a, x278b, _⟩, hx277⟩ : ∃ x, (xs)[i]? = some x := ⟨_, List.getElem?_eq_getElem hb276⟩
    refine region_from ?_
    refine d_k [0,1,2,6,7,9,10,11,24,25] [] 2 En34 fun ac279 En280 => ?_
    refine f_o ?_
    refine q_v (x := Instr.indexAt 47 (.slice a (List.length xs) c) (ni i)) (v := .pointer (some (Addr.add adr273 (i * 2)))) En280 (Go.Dbr.run_indexsl (e := 54) (sz := 2) (j := i) (jo := i * 2) had274 (by kernel_rfl) (by kernel_rfl) (by omega) hb275 rfl _) fun ac281 En282 => ?_
    refine f_o ?_
    refine op_loadaggat (d := some 27) (t := 54) (ad := adr273) (ao := a) (ys := List.flatMap fCnt xs) (o := i * 2) (m := 2) (xs := [.string (bstr x278a), uv64 x278b]) En282 (by kernel_rfl) rfl (Hv31.heap.reads (k := 0) rfl) had274 (fun j hj => ?_) rfl (by kernel_rfl) (by kernel_rfl) ?_
    ·
     exact flat_sub (sz := 2) (off := 0) (m := 2) (fun _ _ => rfl) hx277 (by decide) rfl j hj
    intro ac283 En284
    refine f_o ?_
    refine m_z 54 [.string (bstr []), .int .u64 0] En284 Hv31 fun ac286 wo287 bk285 En288 Hv289 => ?_
    refine f_o ?_
    refine m_g 2 0 2 [.string (bstr x278a), uv64 x278b] [.string (bstr x278a), uv64 x278b] [.vec a c 2 (List.flatMap fCnt xs) 54, .vec a2 c2 2 (List.flatMap fCnt ot) 54, .box bk285 [.string (bstr x278a), uv64 x278b] 54] En288 Hv289 rfl rfl (by simp) (one_all (by kernel_rfl)) rfl rfl fun ac290 wo291 En292 Hv293 => ?_
    refine f_e ?_
    refine then_normal ?_
    refine wp_seq ?_
    refine wp_seq ?_
    refine d_r [0,1,2,6,7,9,10,11,12,35] [] En292 fun ac294 En295 => ?_
    refine then_normal ?_
    refine c_f En295 ?_
    refine wp_skip ?_
    refine then_normal ?_
    refine wp_seq ?_
    refine wp_seq ?_
    refine region_from ?_
    refine d_k [0,1,2,6,7,9,10,11,12,42] [] 1 En295 fun ac296 En297 => ?_
    refine f_o ?_
    refine m_l 2 En297 Hv293 fun ac298 En299 => ?_
    refine d_e [0,1,2,6,7,9,10,11,12,45] [(3, g_v (show (.bool (ByteArray.toList (bstr x278a) == ByteArray.toList (bstr nm)) : Value) = .bool (x278a == nm) by rw [Go.Dbr.bstr_eq x278a nm] <;> rfl))] En299 fun ac300 En301 => ?_
    refine then_normal ?_
    refine cond_at En301 (t := x278a == nm) (by kernel_rfl) (fun hc302 => ?_) (fun hc302 => ?_)
    ·
     replace hc302 : x278a = nm := eq_of_beq hc302
     refine wp_seq ?_
     refine d_r [0,1,2,6,7,9,10,11,12] [] En301 fun ac303 En304 => ?_
     refine then_normal ?_
     refine wp_seq ?_
     refine region_from ?_
     refine d_k [0,1,2,6,7,9,10,11,12,46] [] 1 En304 fun ac305 En306 => ?_
     refine f_o ?_
     refine m_l 2 En306 Hv293 fun ac307 En308 => ?_
     refine d_e [0,1,2,6,7,9,10,11,12,50] [(3, g_i .u64 (Go.Dbr.u64_sub (x := (18446744073709551615 : UInt64)) (y := v) rfl rfl))] En308 fun ac309 En310 => ?_
     refine then_normal ?_
     refine c_d (((UInt64.toNat x278b : Nat) : Int) > ((UInt64.toNat ((18446744073709551615 : UInt64) - v) : Nat) : Int)) En310 (fun hc311 => ?_) (fun hc311 => ?_)
     ·
      refine region_from ?_
      refine d_k [0,1,2,6,7,9,10,11,12,51] [] 1 En310 fun ac312 En313 => ?_
      refine f_o ?_
      refine m_s 2 [.vec a c 2 (List.flatMap fCnt xs) 54, .vec a2 c2 2 (List.flatMap fCnt ot) 54, .box bk285 [.string (bstr x278a), .int .u64 18446744073709551615] 54] En313 Hv293 fun ac314 wo315 En316 Hv317 => ?_
      refine f_e ?_
      refine then_normal ?_
      refine region_from ?_
      refine d_k [0,1,2,6,7,9,10,11,12,57] [] 1 En316 fun ac318 En319 => ?_
      refine f_o ?_
      refine m_a 2 0 2 [.string (bstr x278a), .int .u64 18446744073709551615] En319 Hv317 rfl rfl rfl fun ac320 En321 => ?_
      refine f_o ?_
      refine op_lit (d := some 59) (t := 47) (T := 54) (m := 1) (parts := #[(0, .agg #[.string (bstr x278a), .int .u64 18446744073709551615])]) (xs := List.flatMap fCnt ([(x278a, (18446744073709551615 : UInt64), ())] : List (RCnt))) (sz := 2) En321 (by kernel_rfl) (by kernel_rfl) rfl (by decide) Hv317 ?_
      intro ac323 wo324 bk322 En325 Hv326
      refine f_o ?_
      refine op_append (d := some 60) (t := 47) (tx := 47) (ty := 47) (k := 1) (p := List.length ot) (m := 1) (x := .slice (some ⟨bk322, 0, none⟩) 1 1) (bytes := 24) En325 (by kernel_rfl) Hv326 rfl (sv_len (f := fCnt) (sz := 2) (fun _ => rfl) _) (Reads.src (size := 2) (tx := 47) (e' := 54) (by kernel_rfl) (Hv326.heap.reads (k := 3) rfl) rfl (fun e => by cases e) (flat_one (f := fCnt) (fun _ => one_all rfl) _)) (by kernel_rfl) (z := .agg #[.string (bstr []), .int .u64 0]) (by kernel_rfl) rfl (by decide) (by omega) (by unfold maxLen; omega) ?_
      intro ac331 wo332 ao327 cp328 En333 Hv334 hnz _
      clear hnz
      rw [← List.flatMap_append] at Hv334
      have ehz329 : (List.length ot) + 1 = List.length (ot ++ ([(x278a, (18446744073709551615 : UInt64), ())] : List (RCnt))) := (by first | (simp; done) | (simp; omega) | omega)
      rw [ehz329] at En333
      refine d_e [0,1,2,6,7,9,10,11,12] [] En333 fun ac335 En336 => ?_
      refine block_normal ?_
      refine then_normal ?_
      refine d_r [0,1,2,6,7,9,10,11,12] [(1, g_n (w_a i 1))] En336 fun ac337 En338 => ?_
      refine then_normal ?_
      refine ⟨_, ⟨i + 1, true, ao327, cp328, (ot ++ ([(x278a, (18446744073709551615 : UInt64), ())] : List (RCnt))), rfl, En338.sub (by kernel_rfl), Hv334.pick [0, 1] (by kernel_rfl) (by decide), (by omega), (go_eq hot hx277 (by assumption) (sat_gt (by assumption))), (by simp only [List.length_append, List.length_cons, List.length_nil]; omega), (by intro q; cases q)⟩, ?_⟩
      omega
     ·
      refine region_from ?_
      refine d_k [0,1,2,6,7,9,10,11,12,52] [] 1 En310 fun ac339 En340 => ?_
      refine f_o ?_
      refine m_l 2 En340 Hv293 fun ac341 En342 => ?_
      refine d_k [0,1,2,6,7,9,10,11,12,55,56] [(3, g_i .u64 (Go.Dbr.u64_add (x := x278b) (y := v) rfl rfl))] 5 En342 fun ac343 En344 => ?_
      refine f_o ?_
      refine m_s 2 [.vec a c 2 (List.flatMap fCnt xs) 54, .vec a2 c2 2 (List.flatMap fCnt ot) 54, .box bk285 [.string (bstr x278a), .int .u64 ((UInt64.toNat (x278b + v) : Nat) : Int)] 54] En344 Hv293 fun ac345 wo346 En347 Hv348 => ?_
      refine f_e ?_
      refine then_normal ?_
      refine region_from ?_
      refine d_k [0,1,2,6,7,9,10,11,12,57] [] 1 En347 fun ac349 En350 => ?_
      refine f_o ?_
      refine m_a 2 0 2 [.string (bstr x278a), .int .u64 ((UInt64.toNat (x278b + v) : Nat) : Int)] En350 Hv348 rfl rfl rfl fun ac351 En352 => ?_
      refine f_o ?_
      refine op_lit (d := some 59) (t := 47) (T := 54) (m := 1) (parts := #[(0, .agg #[.string (bstr x278a), .int .u64 ((UInt64.toNat (x278b + v) : Nat) : Int)])]) (xs := List.flatMap fCnt ([(x278a, x278b + v, ())] : List (RCnt))) (sz := 2) En352 (by kernel_rfl) (by kernel_rfl) rfl (by decide) Hv348 ?_
      intro ac354 wo355 bk353 En356 Hv357
      refine f_o ?_
      refine op_append (d := some 60) (t := 47) (tx := 47) (ty := 47) (k := 1) (p := List.length ot) (m := 1) (x := .slice (some ⟨bk353, 0, none⟩) 1 1) (bytes := 24) En356 (by kernel_rfl) Hv357 rfl (sv_len (f := fCnt) (sz := 2) (fun _ => rfl) _) (Reads.src (size := 2) (tx := 47) (e' := 54) (by kernel_rfl) (Hv357.heap.reads (k := 3) rfl) rfl (fun e => by cases e) (flat_one (f := fCnt) (fun _ => one_all rfl) _)) (by kernel_rfl) (z := .agg #[.string (bstr []), .int .u64 0]) (by kernel_rfl) rfl (by decide) (by omega) (by unfold maxLen; omega) ?_
      intro ac362 wo363 ao358 cp359 En364 Hv365 hnz _
      clear hnz
      rw [← List.flatMap_append] at Hv365
      have ehz360 : (List.length ot) + 1 = List.length (ot ++ ([(x278a, x278b + v, ())] : List (RCnt))) := (by first | (simp; done) | (simp; omega) | omega)
      rw [ehz360] at En364
      refine d_e [0,1,2,6,7,9,10,11,12] [] En364 fun ac366 En367 => ?_
      refine block_normal ?_
      refine then_normal ?_
      refine d_r [0,1,2,6,7,9,10,11,12] [(1, g_n (w_a i 1))] En367 fun ac368 En369 => ?_
      refine then_normal ?_
      refine ⟨_, ⟨i + 1, true, ao358, cp359, (ot ++ ([(x278a, x278b + v, ())] : List (RCnt))), rfl, En369.sub (by kernel_rfl), Hv365.pick [0, 1] (by kernel_rfl) (by decide), (by omega), (go_eq hot hx277 (by assumption) (sat_le (by assumption))), (by simp only [List.length_append, List.length_cons, List.length_nil]; omega), (by intro q; cases q)⟩, ?_⟩
      omega
    ·
     replace hc302 : ¬ (x278a = nm) := ne_of_beq_false hc302
     refine wp_skip ?_
     refine then_normal ?_
     refine region_from ?_
     refine d_k [0,1,2,6,7,9,10,11,12,57] [] 1 En301 fun ac370 En371 => ?_
     refine f_o ?_
     refine m_a 2 0 2 [.string (bstr x278a), uv64 x278b] En371 Hv293 rfl rfl rfl fun ac372 En373 => ?_
     refine f_o ?_
     refine op_lit (d := some 59) (t := 47) (T := 54) (m := 1) (parts := #[(0, .agg #[.string (bstr x278a), uv64 x278b])]) (xs := List.flatMap fCnt ([(x278a, x278b, ())] : List (RCnt))) (sz := 2) En373 (by kernel_rfl) (by kernel_rfl) rfl (by decide) Hv293 ?_
     intro ac375 wo376 bk374 En377 Hv378
     refine f_o ?_
     refine op_append (d := some 60) (t := 47) (tx := 47) (ty := 47) (k := 1) (p := List.length ot) (m := 1) (x := .slice (some ⟨bk374, 0, none⟩) 1 1) (bytes := 24) En377 (by kernel_rfl) Hv378 rfl (sv_len (f := fCnt) (sz := 2) (fun _ => rfl) _) (Reads.src (size := 2) (tx := 47) (e' := 54) (by kernel_rfl) (Hv378.heap.reads (k := 3) rfl) rfl (fun e => by cases e) (flat_one (f := fCnt) (fun _ => one_all rfl) _)) (by kernel_rfl) (z := .agg #[.string (bstr []), .int .u64 0]) (by kernel_rfl) rfl (by decide) (by omega) (by unfold maxLen; omega) ?_
     intro ac383 wo384 ao379 cp380 En385 Hv386 hnz _
     clear hnz
     rw [← List.flatMap_append] at Hv386
     have ehz381 : (List.length ot) + 1 = List.length (ot ++ ([(x278a, x278b, ())] : List (RCnt))) := (by first | (simp; done) | (simp; omega) | omega)
     rw [ehz381] at En385
     refine d_e [0,1,2,6,7,9,10,11,12] [] En385 fun ac387 En388 => ?_
     refine block_normal ?_
     refine then_normal ?_
     refine d_r [0,1,2,6,7,9,10,11,12] [(1, g_n (w_a i 1))] En388 fun ac389 En390 => ?_
     refine then_normal ?_
     refine ⟨_, ⟨i + 1, true, ao379, cp380, (ot ++ ([(x278a, x278b, ())] : List (RCnt))), rfl, En390.sub (by kernel_rfl), Hv386.pick [0, 1] (by kernel_rfl) (by decide), (by omega), (go_t hot hx277 (by assumption)), (by simp only [List.length_append, List.length_cons, List.length_nil]; omega), (by intro q; cases q)⟩, ?_⟩
     omega
  ·
   refine wp_exit ?_
   refine then_exit ?_
   refine then_exit ?_
   refine block_exit ?_
   refine then_normal ?_
   refine wp_seq ?_
   refine wp_seq ?_
   cases dn with
   | false =>
    refine d_r [0,1,2,6,7,9,10,11,62] [] En34 fun ac391 En392 => ?_
    refine then_normal ?_
    refine c_t En392 ?_
    refine region_from ?_
    refine d_k [0,1,2,6,7,9,10,11,63,66] [] 4 En392 fun ac393 En394 => ?_
    refine f_o ?_
    refine op_lit (d := some 67) (t := 47) (T := 54) (m := 1) (parts := #[(0, .agg #[.string (bstr nm), uv64 v])]) (xs := List.flatMap fCnt ([(nm, v, ())] : List (RCnt))) (sz := 2) En394 (by kernel_rfl) (by kernel_rfl) rfl (by decide) Hv31 ?_
    intro ac396 wo397 bk395 En398 Hv399
    refine f_o ?_
    refine op_append (d := some 68) (t := 47) (tx := 47) (ty := 47) (k := 1) (p := List.length ot) (m := 1) (x := .slice (some ⟨bk395, 0, none⟩) 1 1) (bytes := 24) En398 (by kernel_rfl) Hv399 rfl (sv_len (f := fCnt) (sz := 2) (fun _ => rfl) _) (Reads.src (size := 2) (tx := 47) (e' := 54) (by kernel_rfl) (Hv399.heap.reads (k := 2) rfl) rfl (fun e => by cases e) (flat_one (f := fCnt) (fun _ => one_all rfl) _)) (by kernel_rfl) (z := .agg #[.string (bstr []), .int .u64 0]) (by kernel_rfl) rfl (by decide) (by omega) (by unfold maxLen; omega) ?_
    intro ac404 wo405 ao400 cp401 En406 Hv407 hnz _
    clear hnz
    rw [← List.flatMap_append] at Hv407
    have ehz402 : (List.length ot) + 1 = List.length (ot ++ ([(nm, v, ())] : List (RCnt))) := (by first | (simp; done) | (simp; omega) | omega)
    rw [ehz402] at En406
    refine d_e [0,1,2,6,7,9,10,11] [] En406 fun ac408 En409 => ?_
    refine then_normal ?_
    refine wp_seq ?_
    refine d_r [0,1,2,6,7,9,10,11] [] En409 fun ac410 En411 => ?_
    refine then_normal ?_
    refine wp_ret ?_
    refine d_ret2 (t := 6) (u := 7) (v := .slice ao400 (List.length (ot ++ ([(nm, v, ())] : List (RCnt)))) cp401) (x := .int .i64 0) En411 (by kernel_rfl) (by kernel_rfl) (by kernel_rfl) ?_
    rw [show cntX xs nm v = ot ++ ([(nm, v, ())] : List (RCnt)) from (if_pos (by assumption)).trans (by first | exact end_t hot (by omega) | exact end_f hot (by omega)), show cntE nm = 0 from if_pos (by assumption)]
    exact ⟨ao400, cp401, rfl, Hv407.pick [1] (by kernel_rfl) (by decide)⟩
   | true =>
    refine d_r [0,1,2,6,7,9,10,11,62] [] En34 fun ac412 En413 => ?_
    refine then_normal ?_
    refine c_f En413 ?_
    refine wp_skip ?_
    refine then_normal ?_
    refine wp_seq ?_
    refine d_r [0,1,2,6,7,9,10,11] [] En413 fun ac414 En415 => ?_
    refine then_normal ?_
    refine wp_ret ?_
    refine d_ret2 (t := 6) (u := 7) (v := .slice a2 (List.length ot) c2) (x := .int .i64 0) En415 (by kernel_rfl) (by kernel_rfl) (by kernel_rfl) ?_
    rw [show cntX xs nm v = ot from (if_pos (by assumption)).trans (by first | exact end_t hot (by omega) | exact end_f hot (by omega)), show cntE nm = 0 from if_pos (by assumption)]
    exact ⟨a2, c2, rfl, Hv31.pick [1] (by kernel_rfl) (by decide)⟩

end Go.Proofs.YtfcfgbejpcmmkaaDoor
