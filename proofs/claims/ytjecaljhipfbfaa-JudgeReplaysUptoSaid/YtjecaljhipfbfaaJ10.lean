/- Ideal relays: new ones, their stories, alike? -/
import Derived.Test.YtjecaljhipfbfaaJ8
namespace Go.Proofs.Ytjecaljhipfbfaa
open Go.Dbr
set_option maxRecDepth 100000
set_option maxHeartbeats 2000000
set_option linter.unusedVariables false
set_option linter.unusedSimpArgs false

theorem ynew_go (w : World) (ax : Option Addr) (nx cx : Nat) (lx : List UInt8) (ex : nx = List.length lx) (ix : InB w [] ax cx lx) : Calls Try.prog 18 #[.slice ax nx cx] w fun e w' => ∃ b ao co au cu, e = .returned (.pointer (some ⟨b, 0, none⟩)) ∧ Ev w [] w' [.box b [.slice ao (List.length lx) co, .slice none 0 0, .slice au (List.length lx) cu, .slice none 0 0, .slice none 0 0, .bool false, .bool false, .slice none 0 0, .slice none 0 0, .bool false, .bool false] 53, .vec ao co 1 (bys lx) 5, .vec au cu 1 (bys lx) 5] := by
  subst ex
  have hs := ix.small
  refine d_start [(0, .slice ax (List.length lx) cx)] 12 Go.Proofs.Try.func18 Go.Proofs.Try.ntmps18 rfl (by kernel_rfl) (by kernel_rfl) ?_
  intro act0 En0
  have Hv0 : Ev w [] w [] := Ev.refl (Heap.nil _)
  refine wp_seq ?_
  refine region_from ?_  -- region 0
  refine d_pures [(0, .slice ax (List.length lx) cx), (2, .pointer none)] [.pointer none] 1 En0 (by kernel_rfl) (by kernel_rfl) rfl ?_
  intro ac1 En2
  refine from_end (by kernel_rfl) ?_
  refine then_normal ?_
  refine wp_seq ?_
  refine region_from ?_  -- region 1
  refine from_op (by kernel_rfl) ?_
  refine op_lit (d := some 3) (t := 22) (T := 5) (m := 0) (parts := #[]) (xs := bys []) (sz := 1) En2 (by kernel_rfl) (by kernel_rfl) rfl (by decide) Hv0 ?_
  intro ac4 wo5 bk3 En6 Hv7
  refine d_pures [(0, .slice ax (List.length lx) cx), (2, .pointer none), (3, .slice (some ⟨bk3, 0, none⟩) 0 0), (4, .slice ax (List.length lx) cx)] [.slice ax (List.length lx) cx] 2 En6 (by kernel_rfl) (by kernel_rfl) rfl ?_
  intro ac8 En9
  refine from_op (by kernel_rfl) ?_
  have hsm10 := ix.small
  refine op_append (d := some 5) (t := 22) (tx := 22) (ty := 22) (k := 0) (p := 0) (m := List.length lx) (x := .slice ax (List.length lx) cx) (bytes := 1) En9 (by kernel_rfl) Hv7 rfl rfl (Reads.src (size := 1) (tx := 22) (e' := 5) (by kernel_rfl) (ix.ev Hv7).reads (bys_len _) ix.nz (bys_one _)) (by kernel_rfl) (z := .int .u8 0) (by kernel_rfl) rfl (by decide) (by omega) (by unfold maxLen; omega) ?_
  intro ac15 wo16 ao11 cp12 En17 Hv18 _ _
  rw [bys_nil_append] at Hv18
  have ehz13 : 0 + (List.length lx) = List.length lx := (by first | (simp; done) | (simp; omega) | omega)
  rw [ehz13] at En17
  refine from_op (by kernel_rfl) ?_
  refine op_lit (d := some 6) (t := 22) (T := 5) (m := 0) (parts := #[]) (xs := bys []) (sz := 1) En17 (by kernel_rfl) (by kernel_rfl) rfl (by decide) Hv18 ?_
  intro ac20 wo21 bk19 En22 Hv23
  refine d_pures [(2, .pointer none), (5, .slice ao11 (List.length lx) cp12), (6, .slice (some ⟨bk19, 0, none⟩) 0 0), (7, .slice ax (List.length lx) cx)] [.slice ax (List.length lx) cx] 5 En22 (by kernel_rfl) (by kernel_rfl) rfl ?_
  intro ac24 En25
  refine from_op (by kernel_rfl) ?_
  have hsm26 := ix.small
  refine op_append (d := some 8) (t := 22) (tx := 22) (ty := 22) (k := 1) (p := 0) (m := List.length lx) (x := .slice ax (List.length lx) cx) (bytes := 1) En25 (by kernel_rfl) Hv23 rfl rfl (Reads.src (size := 1) (tx := 22) (e' := 5) (by kernel_rfl) (ix.ev Hv23).reads (bys_len _) ix.nz (bys_one _)) (by kernel_rfl) (z := .int .u8 0) (by kernel_rfl) rfl (by decide) (by omega) (by unfold maxLen; omega) ?_
  intro ac31 wo32 ao27 cp28 En33 Hv34 _ _
  rw [bys_nil_append] at Hv34
  have ehz29 : 0 + (List.length lx) = List.length lx := (by first | (simp; done) | (simp; omega) | omega)
  rw [ehz29] at En33
  refine d_pures [(2, .pointer none), (10, .agg #[.slice ao11 (List.length lx) cp12, .slice none 0 0, .slice ao27 (List.length lx) cp28, .slice none 0 0, .slice none 0 0, .bool false, .bool false, .slice none 0 0, .slice none 0 0, .bool false, .bool false])] [.agg #[.slice ao27 (List.length lx) cp28, .slice none 0 0, .slice none 0 0, .bool false, .bool false, .slice none 0 0, .slice none 0 0, .bool false, .bool false], .agg #[.slice ao11 (List.length lx) cp12, .slice none 0 0, .slice ao27 (List.length lx) cp28, .slice none 0 0, .slice none 0 0, .bool false, .bool false, .slice none 0 0, .slice none 0 0, .bool false, .bool false]] 8 En33 (by kernel_rfl) (by kernel_rfl) rfl ?_
  intro ac35 En36
  refine from_op (by kernel_rfl) ?_
  refine op_newbox (d := some 11) (T := 53) (v := .agg #[.slice ao11 (List.length lx) cp12, .slice none 0 0, .slice ao27 (List.length lx) cp28, .slice none 0 0, .slice none 0 0, .bool false, .bool false, .slice none 0 0, .slice none 0 0, .bool false, .bool false]) (cs := [.slice ao11 (List.length lx) cp12, .slice none 0 0, .slice ao27 (List.length lx) cp28, .slice none 0 0, .slice none 0 0, .bool false, .bool false, .slice none 0 0, .slice none 0 0, .bool false, .bool false]) En36 (by kernel_rfl) rfl Hv34 ?_
  intro ac38 wo39 bk37 En40 Hv41
  refine d_pures [(2, .pointer (some ⟨bk37, 0, none⟩))] [.pointer (some ⟨bk37, 0, none⟩)] 10 En40 (by kernel_rfl) (by kernel_rfl) rfl ?_
  intro ac42 En43
  refine from_end (by kernel_rfl) ?_
  refine then_normal ?_
  refine wp_ret ?_
  refine d_ret1 (t := 2) (v := .pointer (some ⟨bk37, 0, none⟩)) En43 (by kernel_rfl) (by kernel_rfl) ?_
  exact ⟨bk37, ao11, cp12, ao27, cp28, rfl, Hv41.pick [2, 0, 1] (by kernel_rfl) (by decide)⟩

theorem cloned_go (w : World) (aw : Option Addr) (nw cw : Nat) (lw : List UInt8) (ew : nw = List.length lw) (iw : InB w [] aw cw lw) (ar : Option Addr) (nr cr : Nat) (lr : List UInt8) (er : nr = List.length lr) (ir : InB w [] ar cr lr) (k e : Bool) : Calls Try.prog 41 #[.agg #[.slice aw nw cw, .slice ar nr cr, .bool k, .bool e]] w fun e' w' => ∃ ap cp aq cq, e' = .returned (.agg #[.slice ap (List.length lw) cp, .slice aq (List.length lr) cq, .bool k, .bool e]) ∧ Ev w [] w' [.vec ap cp 1 (bys lw) 5, .vec aq cq 1 (bys lr) 5] := by
  subst ew er
  have hs1 := iw.small
  have hs2 := ir.small
  refine d_start [(0, .agg #[.slice aw (List.length lw) cw, .slice ar (List.length lr) cr, .bool k, .bool e])] 12 Go.Proofs.Try.func41 Go.Proofs.Try.ntmps41 rfl (by kernel_rfl) (by kernel_rfl) ?_
  intro act0 En0
  have Hv0 : Ev w [] w [] := Ev.refl (Heap.nil _)
  refine wp_seq ?_
  refine region_from ?_  -- region 0
  refine from_op (by kernel_rfl) ?_
  refine op_newbox (d := some 1) (T := 24) (v := .agg #[.slice aw (List.length lw) cw, .slice ar (List.length lr) cr, .bool k, .bool e]) (cs := [.slice aw (List.length lw) cw, .slice ar (List.length lr) cr, .bool k, .bool e]) En0 (by kernel_rfl) rfl Hv0 ?_
  intro ac2 wo3 bk1 En4 Hv5
  refine from_op (by kernel_rfl) ?_
  refine op_alloc (d := some 2) (T := 24) (x := .tuple #[]) (z := .agg #[.slice none 0 0, .slice none 0 0, .bool false, .bool false]) (cs := [.slice none 0 0, .slice none 0 0, .bool false, .bool false]) En4 (by kernel_rfl) (by kernel_rfl) (by kernel_rfl) Hv5 ?_
  intro ac7 wo8 bk6 En9 Hv10
  refine from_end (by kernel_rfl) ?_
  refine then_normal ?_
  refine wp_seq ?_
  refine region_cut (F := fun ac wo => ∃ (aoq18 : _) (coq18 : _) (aoq29 : _) (coq29 : _), Env ac 12 [(1, .pointer (some ⟨bk1, 0, none⟩)), (2, .pointer (some ⟨bk6, 0, none⟩))] ∧ Ev w [] wo [.vec aoq29 coq29 1 (bys lr) 5, .vec aoq18 coq18 1 (bys lw) 5, .box bk1 [.slice aoq18 (List.length lw) coq18, .slice aoq29 (List.length lr) coq29, .bool k, .bool e] 24, .box bk6 [.slice none 0 0, .slice none 0 0, .bool false, .bool false] 24]) ?_ ?_
  ·
    refine draw_any (by kernel_rfl) 10 (by kernel_rfl) ?_  -- region 1
    have wo11 := Hv10.trans (Ev.drew Hv10.heap)
    refine any_name fun G hG => ?_
    have nd104 : ∀ (ac : Act) (wo : World) (aoq18 : _) (coq18 : _), Env ac 12 [(1, .pointer (some ⟨bk1, 0, none⟩)), (2, .pointer (some ⟨bk6, 0, none⟩)), (5, .slice aoq18 (List.length lw) coq18), (6, .pointer (some ⟨bk1, 1, none⟩))] → Ev w [] wo [.vec aoq18 coq18 1 (bys lw) 5, .box bk1 [.slice aw (List.length lw) cw, .slice ar (List.length lr) cr, .bool k, .bool e] 24, .box bk6 [.slice none 0 0, .slice none 0 0, .bool false, .bool false] 24] → G 6 #[true, true, true, true, false, false, false, false, false, false] ac wo := by
      intro ac105 wo106 aoq18 coq18 En107 Hv108
      refine any_from hG ?_
      refine any_at 4 (by kernel_rfl) rfl ?_
      refine op_loadbox (d := some 7) (t := 22) (b := bk1) (off := 1) (k := 1) (v := .slice ar (List.length lr) cr) En107 (by kernel_rfl) Hv108 rfl rfl (by kernel_rfl) ?_
      intro ac109 En110
      refine any_pureR (d := some 9) En110 (v := .pointer (some ⟨bk1, 0, none⟩)) 6 (by kernel_rfl) (by kernel_rfl) rfl ?_
      intro ac111 En112
      refine any_at 5 (by kernel_rfl) rfl ?_
      have hM114 : Heap wo106 [] := Hv108.heap.pick [] (by kernel_rfl) (by decide)
      refine op_call (d := some 8) (f := 35) (args := #[.slice ar (List.length lr) cr]) En112 (by kernel_rfl) ((clone_go _ ar (List.length lr) cr lr (by first | rfl | (simp; done) | (simp; omega) | omega) ((ir.ev Hv108).pick [] (by kernel_rfl))).mono ?_)
      rintro _ wo116 ⟨aoq113, coq113, rfl, he119⟩
      refine ⟨_, rfl, ?_⟩
      intro ac115 En117
      have Hv118 : Ev w [] wo116 [.vec aoq113 coq113 1 (bys lr) 5, .vec aoq18 coq18 1 (bys lw) 5, .box bk1 [.slice aw (List.length lw) cw, .slice ar (List.length lr) cr, .bool k, .bool e] 24, .box bk6 [.slice none 0 0, .slice none 0 0, .bool false, .bool false] 24] := Hv108.trans (Ev.call (R := [.vec aoq18 coq18 1 (bys lw) 5, .box bk1 [.slice aw (List.length lw) cw, .slice ar (List.length lr) cr, .bool k, .bool e] 24, .box bk6 [.slice none 0 0, .slice none 0 0, .bool false, .bool false] 24]) Hv108.heap [0, 1, 2] (by kernel_rfl) (by decide) he119)
      clear hM114 he119
      refine any_at 7 (by kernel_rfl) rfl ?_
      refine op_storebox2 (d := none) (t := 22) (b := bk1) (off := 0) (k := 2) (v := .slice aoq18 (List.length lw) coq18) En117 (by kernel_rfl) Hv118 rfl rfl (by kernel_rfl) rfl rfl rfl ?_
      intro ac120 wo121  En122 Hv123
      refine any_pureR (d := some 10) En122 (v := .pointer (some ⟨bk1, 1, none⟩)) 8 (by kernel_rfl) (by kernel_rfl) rfl ?_
      intro ac124 En125
      refine any_at 9 (by kernel_rfl) rfl ?_
      refine op_storebox2 (d := none) (t := 22) (b := bk1) (off := 1) (k := 2) (v := .slice aoq113 (List.length lr) coq113) En125 (by kernel_rfl) Hv123 rfl rfl (by kernel_rfl) rfl rfl rfl ?_
      intro ac126 wo127  En128 Hv129
      exact any_end (by kernel_rfl) ⟨aoq18, coq18, aoq113, coq113, En128.sub (by kernel_rfl), Hv129.pick [0, 1, 2, 3] (by kernel_rfl) (by decide)⟩
    have nd130 : ∀ (ac : Act) (wo : World), Env ac 12 [(1, .pointer (some ⟨bk1, 0, none⟩)), (2, .pointer (some ⟨bk6, 0, none⟩)), (4, .slice aw (List.length lw) cw), (7, .slice ar (List.length lr) cr)] → Ev w [] wo [.box bk1 [.slice aw (List.length lw) cw, .slice ar (List.length lr) cr, .bool k, .bool e] 24, .box bk6 [.slice none 0 0, .slice none 0 0, .bool false, .bool false] 24] → G 6 #[true, true, false, true, true, false, false, false, false, false] ac wo := by
      intro ac131 wo132 En133 Hv134
      refine any_from hG ?_
      refine any_at 2 (by kernel_rfl) rfl ?_
      have hM136 : Heap wo132 [] := Hv134.heap.pick [] (by kernel_rfl) (by decide)
      refine op_call (d := some 5) (f := 35) (args := #[.slice aw (List.length lw) cw]) En133 (by kernel_rfl) ((clone_go _ aw (List.length lw) cw lw (by first | rfl | (simp; done) | (simp; omega) | omega) ((iw.ev Hv134).pick [] (by kernel_rfl))).mono ?_)
      rintro _ wo138 ⟨aoq135, coq135, rfl, he141⟩
      refine ⟨_, rfl, ?_⟩
      intro ac137 En139
      have Hv140 : Ev w [] wo138 [.vec aoq135 coq135 1 (bys lw) 5, .box bk1 [.slice aw (List.length lw) cw, .slice ar (List.length lr) cr, .bool k, .bool e] 24, .box bk6 [.slice none 0 0, .slice none 0 0, .bool false, .bool false] 24] := Hv134.trans (Ev.call (R := [.box bk1 [.slice aw (List.length lw) cw, .slice ar (List.length lr) cr, .bool k, .bool e] 24, .box bk6 [.slice none 0 0, .slice none 0 0, .bool false, .bool false] 24]) Hv134.heap [0, 1] (by kernel_rfl) (by decide) he141)
      clear hM136 he141
      refine any_pureR (d := some 9) En139 (v := .pointer (some ⟨bk1, 0, none⟩)) 6 (by kernel_rfl) (by kernel_rfl) rfl ?_
      intro ac142 En143
      refine any_at 5 (by kernel_rfl) rfl ?_
      have hM145 : Heap wo138 [] := Hv140.heap.pick [] (by kernel_rfl) (by decide)
      refine op_call (d := some 8) (f := 35) (args := #[.slice ar (List.length lr) cr]) En143 (by kernel_rfl) ((clone_go _ ar (List.length lr) cr lr (by first | rfl | (simp; done) | (simp; omega) | omega) ((ir.ev Hv140).pick [] (by kernel_rfl))).mono ?_)
      rintro _ wo147 ⟨aoq144, coq144, rfl, he150⟩
      refine ⟨_, rfl, ?_⟩
      intro ac146 En148
      have Hv149 : Ev w [] wo147 [.vec aoq144 coq144 1 (bys lr) 5, .vec aoq135 coq135 1 (bys lw) 5, .box bk1 [.slice aw (List.length lw) cw, .slice ar (List.length lr) cr, .bool k, .bool e] 24, .box bk6 [.slice none 0 0, .slice none 0 0, .bool false, .bool false] 24] := Hv140.trans (Ev.call (R := [.vec aoq135 coq135 1 (bys lw) 5, .box bk1 [.slice aw (List.length lw) cw, .slice ar (List.length lr) cr, .bool k, .bool e] 24, .box bk6 [.slice none 0 0, .slice none 0 0, .bool false, .bool false] 24]) Hv140.heap [0, 1, 2] (by kernel_rfl) (by decide) he150)
      clear hM145 he150
      refine any_at 7 (by kernel_rfl) rfl ?_
      refine op_storebox2 (d := none) (t := 22) (b := bk1) (off := 0) (k := 2) (v := .slice aoq135 (List.length lw) coq135) En148 (by kernel_rfl) Hv149 rfl rfl (by kernel_rfl) rfl rfl rfl ?_
      intro ac151 wo152  En153 Hv154
      refine any_pureR (d := some 10) En153 (v := .pointer (some ⟨bk1, 1, none⟩)) 8 (by kernel_rfl) (by kernel_rfl) rfl ?_
      intro ac155 En156
      refine any_at 9 (by kernel_rfl) rfl ?_
      refine op_storebox2 (d := none) (t := 22) (b := bk1) (off := 1) (k := 2) (v := .slice aoq144 (List.length lr) coq144) En156 (by kernel_rfl) Hv154 rfl rfl (by kernel_rfl) rfl rfl rfl ?_
      intro ac157 wo158  En159 Hv160
      exact any_end (by kernel_rfl) ⟨aoq135, coq135, aoq144, coq144, En159.sub (by kernel_rfl), Hv160.pick [0, 1, 2, 3] (by kernel_rfl) (by decide)⟩
    have nd161 : ∀ (ac : Act) (wo : World), Env ac 12 [(1, .pointer (some ⟨bk1, 0, none⟩)), (2, .pointer (some ⟨bk6, 0, none⟩)), (4, .slice aw (List.length lw) cw), (6, .pointer (some ⟨bk1, 1, none⟩))] → Ev w [] wo [.box bk1 [.slice aw (List.length lw) cw, .slice ar (List.length lr) cr, .bool k, .bool e] 24, .box bk6 [.slice none 0 0, .slice none 0 0, .bool false, .bool false] 24] → G 7 #[true, true, false, true, false, false, false, false, false, false] ac wo := by
      intro ac162 wo163 En164 Hv165
      refine any_from hG ?_
      refine any_two 2 4 (by kernel_rfl) ?_ ?_
      · rintro _ rfl
        have hM167 : Heap wo163 [] := Hv165.heap.pick [] (by kernel_rfl) (by decide)
        refine op_call (d := some 5) (f := 35) (args := #[.slice aw (List.length lw) cw]) En164 (by kernel_rfl) ((clone_go _ aw (List.length lw) cw lw (by first | rfl | (simp; done) | (simp; omega) | omega) ((iw.ev Hv165).pick [] (by kernel_rfl))).mono ?_)
        rintro _ wo169 ⟨aoq166, coq166, rfl, he172⟩
        refine ⟨_, rfl, ?_⟩
        intro ac168 En170
        have Hv171 : Ev w [] wo169 [.vec aoq166 coq166 1 (bys lw) 5, .box bk1 [.slice aw (List.length lw) cw, .slice ar (List.length lr) cr, .bool k, .bool e] 24, .box bk6 [.slice none 0 0, .slice none 0 0, .bool false, .bool false] 24] := Hv165.trans (Ev.call (R := [.box bk1 [.slice aw (List.length lw) cw, .slice ar (List.length lr) cr, .bool k, .bool e] 24, .box bk6 [.slice none 0 0, .slice none 0 0, .bool false, .bool false] 24]) Hv165.heap [0, 1] (by kernel_rfl) (by decide) he172)
        clear hM167 he172
        exact any_to hG (by kernel_rfl) (nd104 _ _ aoq166 coq166 (En170.sub (by kernel_rfl)) (Hv171.pick [0, 1, 2] (by kernel_rfl) (by decide)))
      · rintro _ rfl
        refine op_loadbox (d := some 7) (t := 22) (b := bk1) (off := 1) (k := 0) (v := .slice ar (List.length lr) cr) En164 (by kernel_rfl) Hv165 rfl rfl (by kernel_rfl) ?_
        intro ac173 En174
        exact any_to hG (by kernel_rfl) (nd130 _ _ (En174.sub (by kernel_rfl)) (Hv165.pick [0, 1] (by kernel_rfl) (by decide)))
    have nd175 : ∀ (ac : Act) (wo : World), Env ac 12 [(1, .pointer (some ⟨bk1, 0, none⟩)), (2, .pointer (some ⟨bk6, 0, none⟩)), (3, .pointer (some ⟨bk1, 0, none⟩)), (7, .slice ar (List.length lr) cr)] → Ev w [] wo [.box bk1 [.slice aw (List.length lw) cw, .slice ar (List.length lr) cr, .bool k, .bool e] 24, .box bk6 [.slice none 0 0, .slice none 0 0, .bool false, .bool false] 24] → G 7 #[true, false, false, true, true, false, false, false, false, false] ac wo := by
      intro ac176 wo177 En178 Hv179
      refine any_from hG ?_
      refine any_at 1 (by kernel_rfl) rfl ?_
      refine op_loadbox (d := some 4) (t := 22) (b := bk1) (off := 0) (k := 0) (v := .slice aw (List.length lw) cw) En178 (by kernel_rfl) Hv179 rfl rfl (by kernel_rfl) ?_
      intro ac180 En181
      refine any_at 2 (by kernel_rfl) rfl ?_
      have hM183 : Heap wo177 [] := Hv179.heap.pick [] (by kernel_rfl) (by decide)
      refine op_call (d := some 5) (f := 35) (args := #[.slice aw (List.length lw) cw]) En181 (by kernel_rfl) ((clone_go _ aw (List.length lw) cw lw (by first | rfl | (simp; done) | (simp; omega) | omega) ((iw.ev Hv179).pick [] (by kernel_rfl))).mono ?_)
      rintro _ wo185 ⟨aoq182, coq182, rfl, he188⟩
      refine ⟨_, rfl, ?_⟩
      intro ac184 En186
      have Hv187 : Ev w [] wo185 [.vec aoq182 coq182 1 (bys lw) 5, .box bk1 [.slice aw (List.length lw) cw, .slice ar (List.length lr) cr, .bool k, .bool e] 24, .box bk6 [.slice none 0 0, .slice none 0 0, .bool false, .bool false] 24] := Hv179.trans (Ev.call (R := [.box bk1 [.slice aw (List.length lw) cw, .slice ar (List.length lr) cr, .bool k, .bool e] 24, .box bk6 [.slice none 0 0, .slice none 0 0, .bool false, .bool false] 24]) Hv179.heap [0, 1] (by kernel_rfl) (by decide) he188)
      clear hM183 he188
      refine any_pureR (d := some 9) En186 (v := .pointer (some ⟨bk1, 0, none⟩)) 6 (by kernel_rfl) (by kernel_rfl) rfl ?_
      intro ac189 En190
      refine any_at 5 (by kernel_rfl) rfl ?_
      have hM192 : Heap wo185 [] := Hv187.heap.pick [] (by kernel_rfl) (by decide)
      refine op_call (d := some 8) (f := 35) (args := #[.slice ar (List.length lr) cr]) En190 (by kernel_rfl) ((clone_go _ ar (List.length lr) cr lr (by first | rfl | (simp; done) | (simp; omega) | omega) ((ir.ev Hv187).pick [] (by kernel_rfl))).mono ?_)
      rintro _ wo194 ⟨aoq191, coq191, rfl, he197⟩
      refine ⟨_, rfl, ?_⟩
      intro ac193 En195
      have Hv196 : Ev w [] wo194 [.vec aoq191 coq191 1 (bys lr) 5, .vec aoq182 coq182 1 (bys lw) 5, .box bk1 [.slice aw (List.length lw) cw, .slice ar (List.length lr) cr, .bool k, .bool e] 24, .box bk6 [.slice none 0 0, .slice none 0 0, .bool false, .bool false] 24] := Hv187.trans (Ev.call (R := [.vec aoq182 coq182 1 (bys lw) 5, .box bk1 [.slice aw (List.length lw) cw, .slice ar (List.length lr) cr, .bool k, .bool e] 24, .box bk6 [.slice none 0 0, .slice none 0 0, .bool false, .bool false] 24]) Hv187.heap [0, 1, 2] (by kernel_rfl) (by decide) he197)
      clear hM192 he197
      refine any_at 7 (by kernel_rfl) rfl ?_
      refine op_storebox2 (d := none) (t := 22) (b := bk1) (off := 0) (k := 2) (v := .slice aoq182 (List.length lw) coq182) En195 (by kernel_rfl) Hv196 rfl rfl (by kernel_rfl) rfl rfl rfl ?_
      intro ac198 wo199  En200 Hv201
      refine any_pureR (d := some 10) En200 (v := .pointer (some ⟨bk1, 1, none⟩)) 8 (by kernel_rfl) (by kernel_rfl) rfl ?_
      intro ac202 En203
      refine any_at 9 (by kernel_rfl) rfl ?_
      refine op_storebox2 (d := none) (t := 22) (b := bk1) (off := 1) (k := 2) (v := .slice aoq191 (List.length lr) coq191) En203 (by kernel_rfl) Hv201 rfl rfl (by kernel_rfl) rfl rfl rfl ?_
      intro ac204 wo205  En206 Hv207
      exact any_end (by kernel_rfl) ⟨aoq182, coq182, aoq191, coq191, En206.sub (by kernel_rfl), Hv207.pick [0, 1, 2, 3] (by kernel_rfl) (by decide)⟩
    refine any_from hG ?_
    refine any_pureR (d := some 3) En9 (v := .pointer (some ⟨bk1, 0, none⟩)) 0 (by kernel_rfl) (by kernel_rfl) rfl ?_
    intro ac208 En209
    refine any_pureR (d := some 6) En209 (v := .pointer (some ⟨bk1, 1, none⟩)) 3 (by kernel_rfl) (by kernel_rfl) rfl ?_
    intro ac210 En211
    refine any_two 1 4 (by kernel_rfl) ?_ ?_
    · rintro _ rfl
      refine op_loadbox (d := some 4) (t := 22) (b := bk1) (off := 0) (k := 0) (v := .slice aw (List.length lw) cw) En211 (by kernel_rfl) wo11 rfl rfl (by kernel_rfl) ?_
      intro ac212 En213
      exact any_to hG (by kernel_rfl) (nd161 _ _ (En213.sub (by kernel_rfl)) (wo11.pick [0, 1] (by kernel_rfl) (by decide)))
    · rintro _ rfl
      refine op_loadbox (d := some 7) (t := 22) (b := bk1) (off := 1) (k := 0) (v := .slice ar (List.length lr) cr) En211 (by kernel_rfl) wo11 rfl rfl (by kernel_rfl) ?_
      intro ac214 En215
      exact any_to hG (by kernel_rfl) (nd175 _ _ (En215.sub (by kernel_rfl)) (wo11.pick [0, 1] (by kernel_rfl) (by decide)))
  rintro ac216 wo217 ⟨aoq18, coq18, aoq29, coq29, En218, Hv219⟩
  refine then_normal ?_
  refine wp_seq ?_
  refine region_from ?_  -- region 2
  refine from_op (by kernel_rfl) ?_
  refine op_loadaggbox (d := some 11) (t := 24) (b := bk1) (off := 0) (k := 2) (m := 4) (xs := [.slice aoq18 (List.length lw) coq18, .slice aoq29 (List.length lr) coq29, .bool k, .bool e]) En218 (by kernel_rfl) Hv219 rfl rfl rfl (by kernel_rfl) (by kernel_rfl) ?_
  intro ac220 En221
  refine from_op (by kernel_rfl) ?_
  refine op_storeaggbox (d := none) (t := 24) (b := bk6) (off := 0) (k := 3) (m := 4) (xs := [.slice aoq18 (List.length lw) coq18, .slice aoq29 (List.length lr) coq29, .bool k, .bool e]) (v := .agg #[.slice aoq18 (List.length lw) coq18, .slice aoq29 (List.length lr) coq29, .bool k, .bool e]) (cs' := [.slice aoq18 (List.length lw) coq18, .slice aoq29 (List.length lr) coq29, .bool k, .bool e]) En221 (by kernel_rfl) Hv219 rfl rfl rfl (by simp) (by kernel_rfl) (one_all (by kernel_rfl)) rfl (L' := [.vec aoq29 coq29 1 (bys lr) 5, .vec aoq18 coq18 1 (bys lw) 5, .box bk1 [.slice aoq18 (List.length lw) coq18, .slice aoq29 (List.length lr) coq29, .bool k, .bool e] 24, .box bk6 [.slice aoq18 (List.length lw) coq18, .slice aoq29 (List.length lr) coq29, .bool k, .bool e] 24]) rfl ?_
  intro ac222 wo223  En224 Hv225
  refine from_end (by kernel_rfl) ?_
  refine then_normal ?_
  refine wp_ret ?_
  refine d_cell1 (v := .agg #[.slice aoq18 (List.length lw) coq18, .slice aoq29 (List.length lr) coq29, .bool k, .bool e]) (t := 2) (T := 24) (ad := ⟨bk6, 0, none⟩) En224 (by kernel_rfl) (by kernel_rfl) (Ev.cellAgg (t := 24) (k := 3) (off := 0) (m := 4) (xs := [.slice aoq18 (List.length lw) coq18, .slice aoq29 (List.length lr) coq29, .bool k, .bool e]) Hv225 rfl rfl rfl (by kernel_rfl) (by kernel_rfl)) ?_
  exact ⟨aoq18, coq18, aoq29, coq29, rfl, Hv225.pick [1, 0] (by kernel_rfl) (by decide)⟩

theorem story_go (w : World) (b : Nat) (au ad ah ap aq ar av : Option Addr) (cu cd ch cp cq cr cv : Nat) (lu ld lh lp lq lr lv : List UInt8) (fc fe bc be : Bool) (hH : Heap w [.box b [.slice au (List.length lu) cu, .bool fc, .slice ad (List.length ld) cd, .bool bc, .slice ah (List.length lh) ch, .slice ap (List.length lp) cp, .slice aq (List.length lq) cq, .bool fc, .bool fe, .slice ar (List.length lr) cr, .slice av (List.length lv) cv, .bool bc, .bool be] 66, .vec ah ch 1 (bys lh) 5, .vec ap cp 1 (bys lp) 5, .vec aq cq 1 (bys lq) 5, .vec ar cr 1 (bys lr) 5, .vec av cv 1 (bys lv) 5]) (hS : List.length lu + List.length ld + List.length lh + List.length lp + List.length lq + List.length lr + List.length lv ≤ 140737488351232) : Calls Try.prog 26 #[.pointer (some ⟨b, 0, none⟩)] w fun e' w' => ∃ nh np nq nr nv, ∃ mh mp mq mr mv, e' = .returned (.agg #[.slice nh (List.length lh) mh, .slice np (List.length lp) mp, .slice nq (List.length lq) mq, .bool fc, .bool fe, .slice nr (List.length lr) mr, .slice nv (List.length lv) mv, .bool bc, .bool be]) ∧ Ev w [.box b [.slice au (List.length lu) cu, .bool fc, .slice ad (List.length ld) cd, .bool bc, .slice ah (List.length lh) ch, .slice ap (List.length lp) cp, .slice aq (List.length lq) cq, .bool fc, .bool fe, .slice ar (List.length lr) cr, .slice av (List.length lv) cv, .bool bc, .bool be] 66, .vec ah ch 1 (bys lh) 5, .vec ap cp 1 (bys lp) 5, .vec aq cq 1 (bys lq) 5, .vec ar cr 1 (bys lr) 5, .vec av cv 1 (bys lv) 5] w' [.box b [.slice au (List.length lu) cu, .bool fc, .slice ad (List.length ld) cd, .bool bc, .slice ah (List.length lh) ch, .slice ap (List.length lp) cp, .slice aq (List.length lq) cq, .bool fc, .bool fe, .slice ar (List.length lr) cr, .slice av (List.length lv) cv, .bool bc, .bool be] 66, .vec ah ch 1 (bys lh) 5, .vec ap cp 1 (bys lp) 5, .vec aq cq 1 (bys lq) 5, .vec ar cr 1 (bys lr) 5, .vec av cv 1 (bys lv) 5, .vec nh mh 1 (bys lh) 5, .vec np mp 1 (bys lp) 5, .vec nq mq 1 (bys lq) 5, .vec nr mr 1 (bys lr) 5, .vec nv mv 1 (bys lv) 5] := by
  refine d_start [(0, .pointer (some ⟨b, 0, none⟩))] 22 Go.Proofs.Try.func26 Go.Proofs.Try.ntmps26 rfl (by kernel_rfl) (by kernel_rfl) ?_
  intro act0 En0
  have Hv0 : Ev w [.box b [.slice au (List.length lu) cu, .bool fc, .slice ad (List.length ld) cd, .bool bc, .slice ah (List.length lh) ch, .slice ap (List.length lp) cp, .slice aq (List.length lq) cq, .bool fc, .bool fe, .slice ar (List.length lr) cr, .slice av (List.length lv) cv, .bool bc, .bool be] 66, .vec ah ch 1 (bys lh) 5, .vec ap cp 1 (bys lp) 5, .vec aq cq 1 (bys lq) 5, .vec ar cr 1 (bys lr) 5, .vec av cv 1 (bys lv) 5] w [.box b [.slice au (List.length lu) cu, .bool fc, .slice ad (List.length ld) cd, .bool bc, .slice ah (List.length lh) ch, .slice ap (List.length lp) cp, .slice aq (List.length lq) cq, .bool fc, .bool fe, .slice ar (List.length lr) cr, .slice av (List.length lv) cv, .bool bc, .bool be] 66, .vec ah ch 1 (bys lh) 5, .vec ap cp 1 (bys lp) 5, .vec aq cq 1 (bys lq) 5, .vec ar cr 1 (bys lr) 5, .vec av cv 1 (bys lv) 5] := Ev.refl (hH)
  refine wp_seq ?_
  refine region_from ?_  -- region 0
  refine from_op (by kernel_rfl) ?_
  refine op_alloc (d := some 2) (T := 26) (x := .tuple #[]) (z := .agg #[.slice none 0 0, .slice none 0 0, .slice none 0 0, .bool false, .bool false, .slice none 0 0, .slice none 0 0, .bool false, .bool false]) (cs := [.slice none 0 0, .slice none 0 0, .slice none 0 0, .bool false, .bool false, .slice none 0 0, .slice none 0 0, .bool false, .bool false]) En0 (by kernel_rfl) (by kernel_rfl) (by kernel_rfl) Hv0 ?_
  intro ac2 wo3 bk1 En4 Hv5
  refine from_end (by kernel_rfl) ?_
  refine then_normal ?_
  refine wp_seq ?_
  refine region_cut (F := fun ac wo => ∃ (aoq33 : _) (coq33 : _) (apq42 : _) (cpq42 : _) (aqq42 : _) (cqq42 : _) (apq51 : _) (cpq51 : _) (aqq51 : _) (cqq51 : _), Env ac 22 [(2, .pointer (some ⟨bk1, 0, none⟩))] ∧ Ev w [.box b [.slice au (List.length lu) cu, .bool fc, .slice ad (List.length ld) cd, .bool bc, .slice ah (List.length lh) ch, .slice ap (List.length lp) cp, .slice aq (List.length lq) cq, .bool fc, .bool fe, .slice ar (List.length lr) cr, .slice av (List.length lv) cv, .bool bc, .bool be] 66, .vec ah ch 1 (bys lh) 5, .vec ap cp 1 (bys lp) 5, .vec aq cq 1 (bys lq) 5, .vec ar cr 1 (bys lr) 5, .vec av cv 1 (bys lv) 5] wo [.vec apq51 cpq51 1 (bys lr) 5, .vec aqq51 cqq51 1 (bys lv) 5, .vec apq42 cpq42 1 (bys lp) 5, .vec aqq42 cqq42 1 (bys lq) 5, .vec aoq33 coq33 1 (bys lh) 5, .box b [.slice au (List.length lu) cu, .bool fc, .slice ad (List.length ld) cd, .bool bc, .slice ah (List.length lh) ch, .slice ap (List.length lp) cp, .slice aq (List.length lq) cq, .bool fc, .bool fe, .slice ar (List.length lr) cr, .slice av (List.length lv) cv, .bool bc, .bool be] 66, .vec ah ch 1 (bys lh) 5, .vec ap cp 1 (bys lp) 5, .vec aq cq 1 (bys lq) 5, .vec ar cr 1 (bys lr) 5, .vec av cv 1 (bys lv) 5, .box bk1 [.slice aoq33 (List.length lh) coq33, .slice apq42 (List.length lp) cpq42, .slice aqq42 (List.length lq) cqq42, .bool fc, .bool fe, .slice apq51 (List.length lr) cpq51, .slice aqq51 (List.length lv) cqq51, .bool bc, .bool be] 26]) ?_ ?_
  ·
    refine draw_any (by kernel_rfl) 20 (by kernel_rfl) ?_  -- region 1
    have wo6 := Hv5.trans (Ev.drew Hv5.heap)
    refine any_name fun G hG => ?_
    have nd200 : ∀ (ac : Act) (wo : World) (aoq33 : _) (coq33 : _) (apq42 : _) (cpq42 : _) (aqq42 : _) (cqq42 : _), Env ac 22 [(2, .pointer (some ⟨bk1, 0, none⟩)), (8, .slice aoq33 (List.length lh) coq33), (14, .agg #[.slice apq42 (List.length lp) cpq42, .slice aqq42 (List.length lq) cqq42, .bool fc, .bool fe]), (18, .pointer (some ⟨b, 9, none⟩))] → Ev w [.box b [.slice au (List.length lu) cu, .bool fc, .slice ad (List.length ld) cd, .bool bc, .slice ah (List.length lh) ch, .slice ap (List.length lp) cp, .slice aq (List.length lq) cq, .bool fc, .bool fe, .slice ar (List.length lr) cr, .slice av (List.length lv) cv, .bool bc, .bool be] 66, .vec ah ch 1 (bys lh) 5, .vec ap cp 1 (bys lp) 5, .vec aq cq 1 (bys lq) 5, .vec ar cr 1 (bys lr) 5, .vec av cv 1 (bys lv) 5] wo [.vec apq42 cpq42 1 (bys lp) 5, .vec aqq42 cqq42 1 (bys lq) 5, .vec aoq33 coq33 1 (bys lh) 5, .box b [.slice au (List.length lu) cu, .bool fc, .slice ad (List.length ld) cd, .bool bc, .slice ah (List.length lh) ch, .slice ap (List.length lp) cp, .slice aq (List.length lq) cq, .bool fc, .bool fe, .slice ar (List.length lr) cr, .slice av (List.length lv) cv, .bool bc, .bool be] 66, .vec ah ch 1 (bys lh) 5, .vec ap cp 1 (bys lp) 5, .vec aq cq 1 (bys lq) 5, .vec ar cr 1 (bys lr) 5, .vec av cv 1 (bys lv) 5, .box bk1 [.slice none 0 0, .slice none 0 0, .slice none 0 0, .bool false, .bool false, .slice none 0 0, .slice none 0 0, .bool false, .bool false] 26] → G 4 #[true, true, true, true, true, true, true, true, true, true, true, true, true, true, true, true, false, false, false, false] ac wo := by
      intro ac201 wo202 aoq33 coq33 apq42 cpq42 aqq42 cqq42 En203 Hv204
      refine any_from hG ?_
      refine any_at 16 (by kernel_rfl) rfl ?_
      refine op_loadaggbox (d := some 19) (t := 24) (b := b) (off := 9) (k := 3) (m := 4) (xs := [.slice ar (List.length lr) cr, .slice av (List.length lv) cv, .bool bc, .bool be]) En203 (by kernel_rfl) Hv204 rfl rfl rfl (by kernel_rfl) (by kernel_rfl) ?_
      intro ac205 En206
      refine any_at 17 (by kernel_rfl) rfl ?_
      have hM208 : Heap wo202 [] := Hv204.heap.pick [] (by kernel_rfl) (by decide)
      refine op_call (d := some 20) (f := 41) (args := #[.agg #[.slice ar (List.length lr) cr, .slice av (List.length lv) cv, .bool bc, .bool be]]) En206 (by kernel_rfl) ((cloned_go _ ar (List.length lr) cr lr (by first | rfl | (simp; done) | (simp; omega) | omega) (bys_in Hv204.heap (k := 7) rfl [] (by kernel_rfl) rfl (by first | omega | (simp; done) | (simp; omega))) av (List.length lv) cv lv (by first | rfl | (simp; done) | (simp; omega) | omega) (bys_in Hv204.heap (k := 8) rfl [] (by kernel_rfl) rfl (by first | omega | (simp; done) | (simp; omega))) bc be).mono ?_)
      rintro _ wo210 ⟨apq207, cpq207, aqq207, cqq207, rfl, he213⟩
      refine ⟨_, rfl, ?_⟩
      intro ac209 En211
      have Hv212 : Ev w [.box b [.slice au (List.length lu) cu, .bool fc, .slice ad (List.length ld) cd, .bool bc, .slice ah (List.length lh) ch, .slice ap (List.length lp) cp, .slice aq (List.length lq) cq, .bool fc, .bool fe, .slice ar (List.length lr) cr, .slice av (List.length lv) cv, .bool bc, .bool be] 66, .vec ah ch 1 (bys lh) 5, .vec ap cp 1 (bys lp) 5, .vec aq cq 1 (bys lq) 5, .vec ar cr 1 (bys lr) 5, .vec av cv 1 (bys lv) 5] wo210 [.vec apq207 cpq207 1 (bys lr) 5, .vec aqq207 cqq207 1 (bys lv) 5, .vec apq42 cpq42 1 (bys lp) 5, .vec aqq42 cqq42 1 (bys lq) 5, .vec aoq33 coq33 1 (bys lh) 5, .box b [.slice au (List.length lu) cu, .bool fc, .slice ad (List.length ld) cd, .bool bc, .slice ah (List.length lh) ch, .slice ap (List.length lp) cp, .slice aq (List.length lq) cq, .bool fc, .bool fe, .slice ar (List.length lr) cr, .slice av (List.length lv) cv, .bool bc, .bool be] 66, .vec ah ch 1 (bys lh) 5, .vec ap cp 1 (bys lp) 5, .vec aq cq 1 (bys lq) 5, .vec ar cr 1 (bys lr) 5, .vec av cv 1 (bys lv) 5, .box bk1 [.slice none 0 0, .slice none 0 0, .slice none 0 0, .bool false, .bool false, .slice none 0 0, .slice none 0 0, .bool false, .bool false] 26] := Hv204.trans (Ev.call (R := [.vec apq42 cpq42 1 (bys lp) 5, .vec aqq42 cqq42 1 (bys lq) 5, .vec aoq33 coq33 1 (bys lh) 5, .box b [.slice au (List.length lu) cu, .bool fc, .slice ad (List.length ld) cd, .bool bc, .slice ah (List.length lh) ch, .slice ap (List.length lp) cp, .slice aq (List.length lq) cq, .bool fc, .bool fe, .slice ar (List.length lr) cr, .slice av (List.length lv) cv, .bool bc, .bool be] 66, .vec ah ch 1 (bys lh) 5, .vec ap cp 1 (bys lp) 5, .vec aq cq 1 (bys lq) 5, .vec ar cr 1 (bys lr) 5, .vec av cv 1 (bys lv) 5, .box bk1 [.slice none 0 0, .slice none 0 0, .slice none 0 0, .bool false, .bool false, .slice none 0 0, .slice none 0 0, .bool false, .bool false] 26]) Hv204.heap [0, 1, 2, 3, 4, 5, 6, 7, 8, 9] (by kernel_rfl) (by decide) he213)
      clear hM208 he213
      refine any_pureR (d := some 21) En211 (v := .agg #[.slice aoq33 (List.length lh) coq33, .slice apq42 (List.length lp) cpq42, .slice aqq42 (List.length lq) cqq42, .bool fc, .bool fe, .slice apq207 (List.length lr) cpq207, .slice aqq207 (List.length lv) cqq207, .bool bc, .bool be]) 18 (by kernel_rfl) (by kernel_rfl) rfl ?_
      intro ac214 En215
      refine any_at 19 (by kernel_rfl) rfl ?_
      refine op_storeaggbox (d := none) (t := 26) (b := bk1) (off := 0) (k := 11) (m := 9) (xs := [.slice aoq33 (List.length lh) coq33, .slice apq42 (List.length lp) cpq42, .slice aqq42 (List.length lq) cqq42, .bool fc, .bool fe, .slice apq207 (List.length lr) cpq207, .slice aqq207 (List.length lv) cqq207, .bool bc, .bool be]) (v := .agg #[.slice aoq33 (List.length lh) coq33, .slice apq42 (List.length lp) cpq42, .slice aqq42 (List.length lq) cqq42, .bool fc, .bool fe, .slice apq207 (List.length lr) cpq207, .slice aqq207 (List.length lv) cqq207, .bool bc, .bool be]) (cs' := [.slice aoq33 (List.length lh) coq33, .slice apq42 (List.length lp) cpq42, .slice aqq42 (List.length lq) cqq42, .bool fc, .bool fe, .slice apq207 (List.length lr) cpq207, .slice aqq207 (List.length lv) cqq207, .bool bc, .bool be]) En215 (by kernel_rfl) Hv212 rfl rfl rfl (by simp) (by kernel_rfl) (one_all (by kernel_rfl)) rfl (L' := [.vec apq207 cpq207 1 (bys lr) 5, .vec aqq207 cqq207 1 (bys lv) 5, .vec apq42 cpq42 1 (bys lp) 5, .vec aqq42 cqq42 1 (bys lq) 5, .vec aoq33 coq33 1 (bys lh) 5, .box b [.slice au (List.length lu) cu, .bool fc, .slice ad (List.length ld) cd, .bool bc, .slice ah (List.length lh) ch, .slice ap (List.length lp) cp, .slice aq (List.length lq) cq, .bool fc, .bool fe, .slice ar (List.length lr) cr, .slice av (List.length lv) cv, .bool bc, .bool be] 66, .vec ah ch 1 (bys lh) 5, .vec ap cp 1 (bys lp) 5, .vec aq cq 1 (bys lq) 5, .vec ar cr 1 (bys lr) 5, .vec av cv 1 (bys lv) 5, .box bk1 [.slice aoq33 (List.length lh) coq33, .slice apq42 (List.length lp) cpq42, .slice aqq42 (List.length lq) cqq42, .bool fc, .bool fe, .slice apq207 (List.length lr) cpq207, .slice aqq207 (List.length lv) cqq207, .bool bc, .bool be] 26]) rfl ?_
      intro ac216 wo217  En218 Hv219
      exact any_end (by kernel_rfl) ⟨aoq33, coq33, apq42, cpq42, aqq42, cqq42, apq207, cpq207, aqq207, cqq207, En218.sub (by kernel_rfl), Hv219.pick [0, 1, 2, 3, 4, 5, 6, 7, 8, 9, 10, 11] (by kernel_rfl) (by decide)⟩
    have nd220 : ∀ (ac : Act) (wo : World) (aoq33 : _) (coq33 : _), Env ac 22 [(2, .pointer (some ⟨bk1, 0, none⟩)), (8, .slice aoq33 (List.length lh) coq33), (13, .agg #[.slice ap (List.length lp) cp, .slice aq (List.length lq) cq, .bool fc, .bool fe]), (19, .agg #[.slice ar (List.length lr) cr, .slice av (List.length lv) cv, .bool bc, .bool be])] → Ev w [.box b [.slice au (List.length lu) cu, .bool fc, .slice ad (List.length ld) cd, .bool bc, .slice ah (List.length lh) ch, .slice ap (List.length lp) cp, .slice aq (List.length lq) cq, .bool fc, .bool fe, .slice ar (List.length lr) cr, .slice av (List.length lv) cv, .bool bc, .bool be] 66, .vec ah ch 1 (bys lh) 5, .vec ap cp 1 (bys lp) 5, .vec aq cq 1 (bys lq) 5, .vec ar cr 1 (bys lr) 5, .vec av cv 1 (bys lv) 5] wo [.vec aoq33 coq33 1 (bys lh) 5, .box b [.slice au (List.length lu) cu, .bool fc, .slice ad (List.length ld) cd, .bool bc, .slice ah (List.length lh) ch, .slice ap (List.length lp) cp, .slice aq (List.length lq) cq, .bool fc, .bool fe, .slice ar (List.length lr) cr, .slice av (List.length lv) cv, .bool bc, .bool be] 66, .vec ah ch 1 (bys lh) 5, .vec ap cp 1 (bys lp) 5, .vec aq cq 1 (bys lq) 5, .vec ar cr 1 (bys lr) 5, .vec av cv 1 (bys lv) 5, .box bk1 [.slice none 0 0, .slice none 0 0, .slice none 0 0, .bool false, .bool false, .slice none 0 0, .slice none 0 0, .bool false, .bool false] 26] → G 4 #[true, true, true, true, true, true, true, true, true, true, true, false, true, true, true, true, true, false, false, false] ac wo := by
      intro ac221 wo222 aoq33 coq33 En223 Hv224
      refine any_from hG ?_
      refine any_at 11 (by kernel_rfl) rfl ?_
      have hM226 : Heap wo222 [] := Hv224.heap.pick [] (by kernel_rfl) (by decide)
      refine op_call (d := some 14) (f := 41) (args := #[.agg #[.slice ap (List.length lp) cp, .slice aq (List.length lq) cq, .bool fc, .bool fe]]) En223 (by kernel_rfl) ((cloned_go _ ap (List.length lp) cp lp (by first | rfl | (simp; done) | (simp; omega) | omega) (bys_in Hv224.heap (k := 3) rfl [] (by kernel_rfl) rfl (by first | omega | (simp; done) | (simp; omega))) aq (List.length lq) cq lq (by first | rfl | (simp; done) | (simp; omega) | omega) (bys_in Hv224.heap (k := 4) rfl [] (by kernel_rfl) rfl (by first | omega | (simp; done) | (simp; omega))) fc fe).mono ?_)
      rintro _ wo228 ⟨apq225, cpq225, aqq225, cqq225, rfl, he231⟩
      refine ⟨_, rfl, ?_⟩
      intro ac227 En229
      have Hv230 : Ev w [.box b [.slice au (List.length lu) cu, .bool fc, .slice ad (List.length ld) cd, .bool bc, .slice ah (List.length lh) ch, .slice ap (List.length lp) cp, .slice aq (List.length lq) cq, .bool fc, .bool fe, .slice ar (List.length lr) cr, .slice av (List.length lv) cv, .bool bc, .bool be] 66, .vec ah ch 1 (bys lh) 5, .vec ap cp 1 (bys lp) 5, .vec aq cq 1 (bys lq) 5, .vec ar cr 1 (bys lr) 5, .vec av cv 1 (bys lv) 5] wo228 [.vec apq225 cpq225 1 (bys lp) 5, .vec aqq225 cqq225 1 (bys lq) 5, .vec aoq33 coq33 1 (bys lh) 5, .box b [.slice au (List.length lu) cu, .bool fc, .slice ad (List.length ld) cd, .bool bc, .slice ah (List.length lh) ch, .slice ap (List.length lp) cp, .slice aq (List.length lq) cq, .bool fc, .bool fe, .slice ar (List.length lr) cr, .slice av (List.length lv) cv, .bool bc, .bool be] 66, .vec ah ch 1 (bys lh) 5, .vec ap cp 1 (bys lp) 5, .vec aq cq 1 (bys lq) 5, .vec ar cr 1 (bys lr) 5, .vec av cv 1 (bys lv) 5, .box bk1 [.slice none 0 0, .slice none 0 0, .slice none 0 0, .bool false, .bool false, .slice none 0 0, .slice none 0 0, .bool false, .bool false] 26] := Hv224.trans (Ev.call (R := [.vec aoq33 coq33 1 (bys lh) 5, .box b [.slice au (List.length lu) cu, .bool fc, .slice ad (List.length ld) cd, .bool bc, .slice ah (List.length lh) ch, .slice ap (List.length lp) cp, .slice aq (List.length lq) cq, .bool fc, .bool fe, .slice ar (List.length lr) cr, .slice av (List.length lv) cv, .bool bc, .bool be] 66, .vec ah ch 1 (bys lh) 5, .vec ap cp 1 (bys lp) 5, .vec aq cq 1 (bys lq) 5, .vec ar cr 1 (bys lr) 5, .vec av cv 1 (bys lv) 5, .box bk1 [.slice none 0 0, .slice none 0 0, .slice none 0 0, .bool false, .bool false, .slice none 0 0, .slice none 0 0, .bool false, .bool false] 26]) Hv224.heap [0, 1, 2, 3, 4, 5, 6, 7] (by kernel_rfl) (by decide) he231)
      clear hM226 he231
      refine any_at 17 (by kernel_rfl) rfl ?_
      have hM233 : Heap wo228 [] := Hv230.heap.pick [] (by kernel_rfl) (by decide)
      refine op_call (d := some 20) (f := 41) (args := #[.agg #[.slice ar (List.length lr) cr, .slice av (List.length lv) cv, .bool bc, .bool be]]) En229 (by kernel_rfl) ((cloned_go _ ar (List.length lr) cr lr (by first | rfl | (simp; done) | (simp; omega) | omega) (bys_in Hv230.heap (k := 7) rfl [] (by kernel_rfl) rfl (by first | omega | (simp; done) | (simp; omega))) av (List.length lv) cv lv (by first | rfl | (simp; done) | (simp; omega) | omega) (bys_in Hv230.heap (k := 8) rfl [] (by kernel_rfl) rfl (by first | omega | (simp; done) | (simp; omega))) bc be).mono ?_)
      rintro _ wo235 ⟨apq232, cpq232, aqq232, cqq232, rfl, he238⟩
      refine ⟨_, rfl, ?_⟩
      intro ac234 En236
      have Hv237 : Ev w [.box b [.slice au (List.length lu) cu, .bool fc, .slice ad (List.length ld) cd, .bool bc, .slice ah (List.length lh) ch, .slice ap (List.length lp) cp, .slice aq (List.length lq) cq, .bool fc, .bool fe, .slice ar (List.length lr) cr, .slice av (List.length lv) cv, .bool bc, .bool be] 66, .vec ah ch 1 (bys lh) 5, .vec ap cp 1 (bys lp) 5, .vec aq cq 1 (bys lq) 5, .vec ar cr 1 (bys lr) 5, .vec av cv 1 (bys lv) 5] wo235 [.vec apq232 cpq232 1 (bys lr) 5, .vec aqq232 cqq232 1 (bys lv) 5, .vec apq225 cpq225 1 (bys lp) 5, .vec aqq225 cqq225 1 (bys lq) 5, .vec aoq33 coq33 1 (bys lh) 5, .box b [.slice au (List.length lu) cu, .bool fc, .slice ad (List.length ld) cd, .bool bc, .slice ah (List.length lh) ch, .slice ap (List.length lp) cp, .slice aq (List.length lq) cq, .bool fc, .bool fe, .slice ar (List.length lr) cr, .slice av (List.length lv) cv, .bool bc, .bool be] 66, .vec ah ch 1 (bys lh) 5, .vec ap cp 1 (bys lp) 5, .vec aq cq 1 (bys lq) 5, .vec ar cr 1 (bys lr) 5, .vec av cv 1 (bys lv) 5, .box bk1 [.slice none 0 0, .slice none 0 0, .slice none 0 0, .bool false, .bool false, .slice none 0 0, .slice none 0 0, .bool false, .bool false] 26] := Hv230.trans (Ev.call (R := [.vec apq225 cpq225 1 (bys lp) 5, .vec aqq225 cqq225 1 (bys lq) 5, .vec aoq33 coq33 1 (bys lh) 5, .box b [.slice au (List.length lu) cu, .bool fc, .slice ad (List.length ld) cd, .bool bc, .slice ah (List.length lh) ch, .slice ap (List.length lp) cp, .slice aq (List.length lq) cq, .bool fc, .bool fe, .slice ar (List.length lr) cr, .slice av (List.length lv) cv, .bool bc, .bool be] 66, .vec ah ch 1 (bys lh) 5, .vec ap cp 1 (bys lp) 5, .vec aq cq 1 (bys lq) 5, .vec ar cr 1 (bys lr) 5, .vec av cv 1 (bys lv) 5, .box bk1 [.slice none 0 0, .slice none 0 0, .slice none 0 0, .bool false, .bool false, .slice none 0 0, .slice none 0 0, .bool false, .bool false] 26]) Hv230.heap [0, 1, 2, 3, 4, 5, 6, 7, 8, 9] (by kernel_rfl) (by decide) he238)
      clear hM233 he238
      refine any_pureR (d := some 21) En236 (v := .agg #[.slice aoq33 (List.length lh) coq33, .slice apq225 (List.length lp) cpq225, .slice aqq225 (List.length lq) cqq225, .bool fc, .bool fe, .slice apq232 (List.length lr) cpq232, .slice aqq232 (List.length lv) cqq232, .bool bc, .bool be]) 18 (by kernel_rfl) (by kernel_rfl) rfl ?_
      intro ac239 En240
      refine any_at 19 (by kernel_rfl) rfl ?_
      refine op_storeaggbox (d := none) (t := 26) (b := bk1) (off := 0) (k := 11) (m := 9) (xs := [.slice aoq33 (List.length lh) coq33, .slice apq225 (List.length lp) cpq225, .slice aqq225 (List.length lq) cqq225, .bool fc, .bool fe, .slice apq232 (List.length lr) cpq232, .slice aqq232 (List.length lv) cqq232, .bool bc, .bool be]) (v := .agg #[.slice aoq33 (List.length lh) coq33, .slice apq225 (List.length lp) cpq225, .slice aqq225 (List.length lq) cqq225, .bool fc, .bool fe, .slice apq232 (List.length lr) cpq232, .slice aqq232 (List.length lv) cqq232, .bool bc, .bool be]) (cs' := [.slice aoq33 (List.length lh) coq33, .slice apq225 (List.length lp) cpq225, .slice aqq225 (List.length lq) cqq225, .bool fc, .bool fe, .slice apq232 (List.length lr) cpq232, .slice aqq232 (List.length lv) cqq232, .bool bc, .bool be]) En240 (by kernel_rfl) Hv237 rfl rfl rfl (by simp) (by kernel_rfl) (one_all (by kernel_rfl)) rfl (L' := [.vec apq232 cpq232 1 (bys lr) 5, .vec aqq232 cqq232 1 (bys lv) 5, .vec apq225 cpq225 1 (bys lp) 5, .vec aqq225 cqq225 1 (bys lq) 5, .vec aoq33 coq33 1 (bys lh) 5, .box b [.slice au (List.length lu) cu, .bool fc, .slice ad (List.length ld) cd, .bool bc, .slice ah (List.length lh) ch, .slice ap (List.length lp) cp, .slice aq (List.length lq) cq, .bool fc, .bool fe, .slice ar (List.length lr) cr, .slice av (List.length lv) cv, .bool bc, .bool be] 66, .vec ah ch 1 (bys lh) 5, .vec ap cp 1 (bys lp) 5, .vec aq cq 1 (bys lq) 5, .vec ar cr 1 (bys lr) 5, .vec av cv 1 (bys lv) 5, .box bk1 [.slice aoq33 (List.length lh) coq33, .slice apq225 (List.length lp) cpq225, .slice aqq225 (List.length lq) cqq225, .bool fc, .bool fe, .slice apq232 (List.length lr) cpq232, .slice aqq232 (List.length lv) cqq232, .bool bc, .bool be] 26]) rfl ?_
      intro ac241 wo242  En243 Hv244
      exact any_end (by kernel_rfl) ⟨aoq33, coq33, apq225, cpq225, aqq225, cqq225, apq232, cpq232, aqq232, cqq232, En243.sub (by kernel_rfl), Hv244.pick [0, 1, 2, 3, 4, 5, 6, 7, 8, 9, 10, 11] (by kernel_rfl) (by decide)⟩
    have nd245 : ∀ (ac : Act) (wo : World) (aoq33 : _) (coq33 : _), Env ac 22 [(2, .pointer (some ⟨bk1, 0, none⟩)), (8, .slice aoq33 (List.length lh) coq33), (13, .agg #[.slice ap (List.length lp) cp, .slice aq (List.length lq) cq, .bool fc, .bool fe]), (18, .pointer (some ⟨b, 9, none⟩))] → Ev w [.box b [.slice au (List.length lu) cu, .bool fc, .slice ad (List.length ld) cd, .bool bc, .slice ah (List.length lh) ch, .slice ap (List.length lp) cp, .slice aq (List.length lq) cq, .bool fc, .bool fe, .slice ar (List.length lr) cr, .slice av (List.length lv) cv, .bool bc, .bool be] 66, .vec ah ch 1 (bys lh) 5, .vec ap cp 1 (bys lp) 5, .vec aq cq 1 (bys lq) 5, .vec ar cr 1 (bys lr) 5, .vec av cv 1 (bys lv) 5] wo [.vec aoq33 coq33 1 (bys lh) 5, .box b [.slice au (List.length lu) cu, .bool fc, .slice ad (List.length ld) cd, .bool bc, .slice ah (List.length lh) ch, .slice ap (List.length lp) cp, .slice aq (List.length lq) cq, .bool fc, .bool fe, .slice ar (List.length lr) cr, .slice av (List.length lv) cv, .bool bc, .bool be] 66, .vec ah ch 1 (bys lh) 5, .vec ap cp 1 (bys lp) 5, .vec aq cq 1 (bys lq) 5, .vec ar cr 1 (bys lr) 5, .vec av cv 1 (bys lv) 5, .box bk1 [.slice none 0 0, .slice none 0 0, .slice none 0 0, .bool false, .bool false, .slice none 0 0, .slice none 0 0, .bool false, .bool false] 26] → G 5 #[true, true, true, true, true, true, true, true, true, true, true, false, true, true, true, true, false, false, false, false] ac wo := by
      intro ac246 wo247 aoq33 coq33 En248 Hv249
      refine any_from hG ?_
      refine any_two 11 16 (by kernel_rfl) ?_ ?_
      · rintro _ rfl
        have hM251 : Heap wo247 [] := Hv249.heap.pick [] (by kernel_rfl) (by decide)
        refine op_call (d := some 14) (f := 41) (args := #[.agg #[.slice ap (List.length lp) cp, .slice aq (List.length lq) cq, .bool fc, .bool fe]]) En248 (by kernel_rfl) ((cloned_go _ ap (List.length lp) cp lp (by first | rfl | (simp; done) | (simp; omega) | omega) (bys_in Hv249.heap (k := 3) rfl [] (by kernel_rfl) rfl (by first | omega | (simp; done) | (simp; omega))) aq (List.length lq) cq lq (by first | rfl | (simp; done) | (simp; omega) | omega) (bys_in Hv249.heap (k := 4) rfl [] (by kernel_rfl) rfl (by first | omega | (simp; done) | (simp; omega))) fc fe).mono ?_)
        rintro _ wo253 ⟨apq250, cpq250, aqq250, cqq250, rfl, he256⟩
        refine ⟨_, rfl, ?_⟩
        intro ac252 En254
        have Hv255 : Ev w [.box b [.slice au (List.length lu) cu, .bool fc, .slice ad (List.length ld) cd, .bool bc, .slice ah (List.length lh) ch, .slice ap (List.length lp) cp, .slice aq (List.length lq) cq, .bool fc, .bool fe, .slice ar (List.length lr) cr, .slice av (List.length lv) cv, .bool bc, .bool be] 66, .vec ah ch 1 (bys lh) 5, .vec ap cp 1 (bys lp) 5, .vec aq cq 1 (bys lq) 5, .vec ar cr 1 (bys lr) 5, .vec av cv 1 (bys lv) 5] wo253 [.vec apq250 cpq250 1 (bys lp) 5, .vec aqq250 cqq250 1 (bys lq) 5, .vec aoq33 coq33 1 (bys lh) 5, .box b [.slice au (List.length lu) cu, .bool fc, .slice ad (List.length ld) cd, .bool bc, .slice ah (List.length lh) ch, .slice ap (List.length lp) cp, .slice aq (List.length lq) cq, .bool fc, .bool fe, .slice ar (List.length lr) cr, .slice av (List.length lv) cv, .bool bc, .bool be] 66, .vec ah ch 1 (bys lh) 5, .vec ap cp 1 (bys lp) 5, .vec aq cq 1 (bys lq) 5, .vec ar cr 1 (bys lr) 5, .vec av cv 1 (bys lv) 5, .box bk1 [.slice none 0 0, .slice none 0 0, .slice none 0 0, .bool false, .bool false, .slice none 0 0, .slice none 0 0, .bool false, .bool false] 26] := Hv249.trans (Ev.call (R := [.vec aoq33 coq33 1 (bys lh) 5, .box b [.slice au (List.length lu) cu, .bool fc, .slice ad (List.length ld) cd, .bool bc, .slice ah (List.length lh) ch, .slice ap (List.length lp) cp, .slice aq (List.length lq) cq, .bool fc, .bool fe, .slice ar (List.length lr) cr, .slice av (List.length lv) cv, .bool bc, .bool be] 66, .vec ah ch 1 (bys lh) 5, .vec ap cp 1 (bys lp) 5, .vec aq cq 1 (bys lq) 5, .vec ar cr 1 (bys lr) 5, .vec av cv 1 (bys lv) 5, .box bk1 [.slice none 0 0, .slice none 0 0, .slice none 0 0, .bool false, .bool false, .slice none 0 0, .slice none 0 0, .bool false, .bool false] 26]) Hv249.heap [0, 1, 2, 3, 4, 5, 6, 7] (by kernel_rfl) (by decide) he256)
        clear hM251 he256
        exact any_to hG (by kernel_rfl) (nd200 _ _ aoq33 coq33 apq250 cpq250 aqq250 cqq250 (En254.sub (by kernel_rfl)) (Hv255.pick [0, 1, 2, 3, 4, 5, 6, 7, 8, 9] (by kernel_rfl) (by decide)))
      · rintro _ rfl
        refine op_loadaggbox (d := some 19) (t := 24) (b := b) (off := 9) (k := 1) (m := 4) (xs := [.slice ar (List.length lr) cr, .slice av (List.length lv) cv, .bool bc, .bool be]) En248 (by kernel_rfl) Hv249 rfl rfl rfl (by kernel_rfl) (by kernel_rfl) ?_
        intro ac257 En258
        exact any_to hG (by kernel_rfl) (nd220 _ _ aoq33 coq33 (En258.sub (by kernel_rfl)) (Hv249.pick [0, 1, 2, 3, 4, 5, 6, 7] (by kernel_rfl) (by decide)))
    have nd259 : ∀ (ac : Act) (wo : World) (aoq33 : _) (coq33 : _), Env ac 22 [(2, .pointer (some ⟨bk1, 0, none⟩)), (8, .slice aoq33 (List.length lh) coq33), (12, .pointer (some ⟨b, 5, none⟩)), (19, .agg #[.slice ar (List.length lr) cr, .slice av (List.length lv) cv, .bool bc, .bool be])] → Ev w [.box b [.slice au (List.length lu) cu, .bool fc, .slice ad (List.length ld) cd, .bool bc, .slice ah (List.length lh) ch, .slice ap (List.length lp) cp, .slice aq (List.length lq) cq, .bool fc, .bool fe, .slice ar (List.length lr) cr, .slice av (List.length lv) cv, .bool bc, .bool be] 66, .vec ah ch 1 (bys lh) 5, .vec ap cp 1 (bys lp) 5, .vec aq cq 1 (bys lq) 5, .vec ar cr 1 (bys lr) 5, .vec av cv 1 (bys lv) 5] wo [.vec aoq33 coq33 1 (bys lh) 5, .box b [.slice au (List.length lu) cu, .bool fc, .slice ad (List.length ld) cd, .bool bc, .slice ah (List.length lh) ch, .slice ap (List.length lp) cp, .slice aq (List.length lq) cq, .bool fc, .bool fe, .slice ar (List.length lr) cr, .slice av (List.length lv) cv, .bool bc, .bool be] 66, .vec ah ch 1 (bys lh) 5, .vec ap cp 1 (bys lp) 5, .vec aq cq 1 (bys lq) 5, .vec ar cr 1 (bys lr) 5, .vec av cv 1 (bys lv) 5, .box bk1 [.slice none 0 0, .slice none 0 0, .slice none 0 0, .bool false, .bool false, .slice none 0 0, .slice none 0 0, .bool false, .bool false] 26] → G 5 #[true, true, true, true, true, true, true, true, true, true, false, false, true, true, true, true, true, false, false, false] ac wo := by
      intro ac260 wo261 aoq33 coq33 En262 Hv263
      refine any_from hG ?_
      refine any_at 10 (by kernel_rfl) rfl ?_
      refine op_loadaggbox (d := some 13) (t := 24) (b := b) (off := 5) (k := 1) (m := 4) (xs := [.slice ap (List.length lp) cp, .slice aq (List.length lq) cq, .bool fc, .bool fe]) En262 (by kernel_rfl) Hv263 rfl rfl rfl (by kernel_rfl) (by kernel_rfl) ?_
      intro ac264 En265
      refine any_at 11 (by kernel_rfl) rfl ?_
      have hM267 : Heap wo261 [] := Hv263.heap.pick [] (by kernel_rfl) (by decide)
      refine op_call (d := some 14) (f := 41) (args := #[.agg #[.slice ap (List.length lp) cp, .slice aq (List.length lq) cq, .bool fc, .bool fe]]) En265 (by kernel_rfl) ((cloned_go _ ap (List.length lp) cp lp (by first | rfl | (simp; done) | (simp; omega) | omega) (bys_in Hv263.heap (k := 3) rfl [] (by kernel_rfl) rfl (by first | omega | (simp; done) | (simp; omega))) aq (List.length lq) cq lq (by first | rfl | (simp; done) | (simp; omega) | omega) (bys_in Hv263.heap (k := 4) rfl [] (by kernel_rfl) rfl (by first | omega | (simp; done) | (simp; omega))) fc fe).mono ?_)
      rintro _ wo269 ⟨apq266, cpq266, aqq266, cqq266, rfl, he272⟩
      refine ⟨_, rfl, ?_⟩
      intro ac268 En270
      have Hv271 : Ev w [.box b [.slice au (List.length lu) cu, .bool fc, .slice ad (List.length ld) cd, .bool bc, .slice ah (List.length lh) ch, .slice ap (List.length lp) cp, .slice aq (List.length lq) cq, .bool fc, .bool fe, .slice ar (List.length lr) cr, .slice av (List.length lv) cv, .bool bc, .bool be] 66, .vec ah ch 1 (bys lh) 5, .vec ap cp 1 (bys lp) 5, .vec aq cq 1 (bys lq) 5, .vec ar cr 1 (bys lr) 5, .vec av cv 1 (bys lv) 5] wo269 [.vec apq266 cpq266 1 (bys lp) 5, .vec aqq266 cqq266 1 (bys lq) 5, .vec aoq33 coq33 1 (bys lh) 5, .box b [.slice au (List.length lu) cu, .bool fc, .slice ad (List.length ld) cd, .bool bc, .slice ah (List.length lh) ch, .slice ap (List.length lp) cp, .slice aq (List.length lq) cq, .bool fc, .bool fe, .slice ar (List.length lr) cr, .slice av (List.length lv) cv, .bool bc, .bool be] 66, .vec ah ch 1 (bys lh) 5, .vec ap cp 1 (bys lp) 5, .vec aq cq 1 (bys lq) 5, .vec ar cr 1 (bys lr) 5, .vec av cv 1 (bys lv) 5, .box bk1 [.slice none 0 0, .slice none 0 0, .slice none 0 0, .bool false, .bool false, .slice none 0 0, .slice none 0 0, .bool false, .bool false] 26] := Hv263.trans (Ev.call (R := [.vec aoq33 coq33 1 (bys lh) 5, .box b [.slice au (List.length lu) cu, .bool fc, .slice ad (List.length ld) cd, .bool bc, .slice ah (List.length lh) ch, .slice ap (List.length lp) cp, .slice aq (List.length lq) cq, .bool fc, .bool fe, .slice ar (List.length lr) cr, .slice av (List.length lv) cv, .bool bc, .bool be] 66, .vec ah ch 1 (bys lh) 5, .vec ap cp 1 (bys lp) 5, .vec aq cq 1 (bys lq) 5, .vec ar cr 1 (bys lr) 5, .vec av cv 1 (bys lv) 5, .box bk1 [.slice none 0 0, .slice none 0 0, .slice none 0 0, .bool false, .bool false, .slice none 0 0, .slice none 0 0, .bool false, .bool false] 26]) Hv263.heap [0, 1, 2, 3, 4, 5, 6, 7] (by kernel_rfl) (by decide) he272)
      clear hM267 he272
      refine any_at 17 (by kernel_rfl) rfl ?_
      have hM274 : Heap wo269 [] := Hv271.heap.pick [] (by kernel_rfl) (by decide)
      refine op_call (d := some 20) (f := 41) (args := #[.agg #[.slice ar (List.length lr) cr, .slice av (List.length lv) cv, .bool bc, .bool be]]) En270 (by kernel_rfl) ((cloned_go _ ar (List.length lr) cr lr (by first | rfl | (simp; done) | (simp; omega) | omega) (bys_in Hv271.heap (k := 7) rfl [] (by kernel_rfl) rfl (by first | omega | (simp; done) | (simp; omega))) av (List.length lv) cv lv (by first | rfl | (simp; done) | (simp; omega) | omega) (bys_in Hv271.heap (k := 8) rfl [] (by kernel_rfl) rfl (by first | omega | (simp; done) | (simp; omega))) bc be).mono ?_)
      rintro _ wo276 ⟨apq273, cpq273, aqq273, cqq273, rfl, he279⟩
      refine ⟨_, rfl, ?_⟩
      intro ac275 En277
      have Hv278 : Ev w [.box b [.slice au (List.length lu) cu, .bool fc, .slice ad (List.length ld) cd, .bool bc, .slice ah (List.length lh) ch, .slice ap (List.length lp) cp, .slice aq (List.length lq) cq, .bool fc, .bool fe, .slice ar (List.length lr) cr, .slice av (List.length lv) cv, .bool bc, .bool be] 66, .vec ah ch 1 (bys lh) 5, .vec ap cp 1 (bys lp) 5, .vec aq cq 1 (bys lq) 5, .vec ar cr 1 (bys lr) 5, .vec av cv 1 (bys lv) 5] wo276 [.vec apq273 cpq273 1 (bys lr) 5, .vec aqq273 cqq273 1 (bys lv) 5, .vec apq266 cpq266 1 (bys lp) 5, .vec aqq266 cqq266 1 (bys lq) 5, .vec aoq33 coq33 1 (bys lh) 5, .box b [.slice au (List.length lu) cu, .bool fc, .slice ad (List.length ld) cd, .bool bc, .slice ah (List.length lh) ch, .slice ap (List.length lp) cp, .slice aq (List.length lq) cq, .bool fc, .bool fe, .slice ar (List.length lr) cr, .slice av (List.length lv) cv, .bool bc, .bool be] 66, .vec ah ch 1 (bys lh) 5, .vec ap cp 1 (bys lp) 5, .vec aq cq 1 (bys lq) 5, .vec ar cr 1 (bys lr) 5, .vec av cv 1 (bys lv) 5, .box bk1 [.slice none 0 0, .slice none 0 0, .slice none 0 0, .bool false, .bool false, .slice none 0 0, .slice none 0 0, .bool false, .bool false] 26] := Hv271.trans (Ev.call (R := [.vec apq266 cpq266 1 (bys lp) 5, .vec aqq266 cqq266 1 (bys lq) 5, .vec aoq33 coq33 1 (bys lh) 5, .box b [.slice au (List.length lu) cu, .bool fc, .slice ad (List.length ld) cd, .bool bc, .slice ah (List.length lh) ch, .slice ap (List.length lp) cp, .slice aq (List.length lq) cq, .bool fc, .bool fe, .slice ar (List.length lr) cr, .slice av (List.length lv) cv, .bool bc, .bool be] 66, .vec ah ch 1 (bys lh) 5, .vec ap cp 1 (bys lp) 5, .vec aq cq 1 (bys lq) 5, .vec ar cr 1 (bys lr) 5, .vec av cv 1 (bys lv) 5, .box bk1 [.slice none 0 0, .slice none 0 0, .slice none 0 0, .bool false, .bool false, .slice none 0 0, .slice none 0 0, .bool false, .bool false] 26]) Hv271.heap [0, 1, 2, 3, 4, 5, 6, 7, 8, 9] (by kernel_rfl) (by decide) he279)
      clear hM274 he279
      refine any_pureR (d := some 21) En277 (v := .agg #[.slice aoq33 (List.length lh) coq33, .slice apq266 (List.length lp) cpq266, .slice aqq266 (List.length lq) cqq266, .bool fc, .bool fe, .slice apq273 (List.length lr) cpq273, .slice aqq273 (List.length lv) cqq273, .bool bc, .bool be]) 18 (by kernel_rfl) (by kernel_rfl) rfl ?_
      intro ac280 En281
      refine any_at 19 (by kernel_rfl) rfl ?_
      refine op_storeaggbox (d := none) (t := 26) (b := bk1) (off := 0) (k := 11) (m := 9) (xs := [.slice aoq33 (List.length lh) coq33, .slice apq266 (List.length lp) cpq266, .slice aqq266 (List.length lq) cqq266, .bool fc, .bool fe, .slice apq273 (List.length lr) cpq273, .slice aqq273 (List.length lv) cqq273, .bool bc, .bool be]) (v := .agg #[.slice aoq33 (List.length lh) coq33, .slice apq266 (List.length lp) cpq266, .slice aqq266 (List.length lq) cqq266, .bool fc, .bool fe, .slice apq273 (List.length lr) cpq273, .slice aqq273 (List.length lv) cqq273, .bool bc, .bool be]) (cs' := [.slice aoq33 (List.length lh) coq33, .slice apq266 (List.length lp) cpq266, .slice aqq266 (List.length lq) cqq266, .bool fc, .bool fe, .slice apq273 (List.length lr) cpq273, .slice aqq273 (List.length lv) cqq273, .bool bc, .bool be]) En281 (by kernel_rfl) Hv278 rfl rfl rfl (by simp) (by kernel_rfl) (one_all (by kernel_rfl)) rfl (L' := [.vec apq273 cpq273 1 (bys lr) 5, .vec aqq273 cqq273 1 (bys lv) 5, .vec apq266 cpq266 1 (bys lp) 5, .vec aqq266 cqq266 1 (bys lq) 5, .vec aoq33 coq33 1 (bys lh) 5, .box b [.slice au (List.length lu) cu, .bool fc, .slice ad (List.length ld) cd, .bool bc, .slice ah (List.length lh) ch, .slice ap (List.length lp) cp, .slice aq (List.length lq) cq, .bool fc, .bool fe, .slice ar (List.length lr) cr, .slice av (List.length lv) cv, .bool bc, .bool be] 66, .vec ah ch 1 (bys lh) 5, .vec ap cp 1 (bys lp) 5, .vec aq cq 1 (bys lq) 5, .vec ar cr 1 (bys lr) 5, .vec av cv 1 (bys lv) 5, .box bk1 [.slice aoq33 (List.length lh) coq33, .slice apq266 (List.length lp) cpq266, .slice aqq266 (List.length lq) cqq266, .bool fc, .bool fe, .slice apq273 (List.length lr) cpq273, .slice aqq273 (List.length lv) cqq273, .bool bc, .bool be] 26]) rfl ?_
      intro ac282 wo283  En284 Hv285
      exact any_end (by kernel_rfl) ⟨aoq33, coq33, apq266, cpq266, aqq266, cqq266, apq273, cpq273, aqq273, cqq273, En284.sub (by kernel_rfl), Hv285.pick [0, 1, 2, 3, 4, 5, 6, 7, 8, 9, 10, 11] (by kernel_rfl) (by decide)⟩
    have nd286 : ∀ (ac : Act) (wo : World), Env ac 22 [(2, .pointer (some ⟨bk1, 0, none⟩)), (7, .slice ah (List.length lh) ch), (13, .agg #[.slice ap (List.length lp) cp, .slice aq (List.length lq) cq, .bool fc, .bool fe]), (19, .agg #[.slice ar (List.length lr) cr, .slice av (List.length lv) cv, .bool bc, .bool be])] → Ev w [.box b [.slice au (List.length lu) cu, .bool fc, .slice ad (List.length ld) cd, .bool bc, .slice ah (List.length lh) ch, .slice ap (List.length lp) cp, .slice aq (List.length lq) cq, .bool fc, .bool fe, .slice ar (List.length lr) cr, .slice av (List.length lv) cv, .bool bc, .bool be] 66, .vec ah ch 1 (bys lh) 5, .vec ap cp 1 (bys lp) 5, .vec aq cq 1 (bys lq) 5, .vec ar cr 1 (bys lr) 5, .vec av cv 1 (bys lv) 5] wo [.box b [.slice au (List.length lu) cu, .bool fc, .slice ad (List.length ld) cd, .bool bc, .slice ah (List.length lh) ch, .slice ap (List.length lp) cp, .slice aq (List.length lq) cq, .bool fc, .bool fe, .slice ar (List.length lr) cr, .slice av (List.length lv) cv, .bool bc, .bool be] 66, .vec ah ch 1 (bys lh) 5, .vec ap cp 1 (bys lp) 5, .vec aq cq 1 (bys lq) 5, .vec ar cr 1 (bys lr) 5, .vec av cv 1 (bys lv) 5, .box bk1 [.slice none 0 0, .slice none 0 0, .slice none 0 0, .bool false, .bool false, .slice none 0 0, .slice none 0 0, .bool false, .bool false] 26] → G 5 #[true, true, true, true, true, false, true, true, true, true, true, false, true, true, true, true, true, false, false, false] ac wo := by
      intro ac287 wo288 En289 Hv290
      refine any_from hG ?_
      refine any_at 5 (by kernel_rfl) rfl ?_
      have hM292 : Heap wo288 [] := Hv290.heap.pick [] (by kernel_rfl) (by decide)
      refine op_call (d := some 8) (f := 35) (args := #[.slice ah (List.length lh) ch]) En289 (by kernel_rfl) ((clone_go _ ah (List.length lh) ch lh (by first | rfl | (simp; done) | (simp; omega) | omega) (bys_in Hv290.heap (k := 1) rfl [] (by kernel_rfl) rfl (by first | omega | (simp; done) | (simp; omega)))).mono ?_)
      rintro _ wo294 ⟨aoq291, coq291, rfl, he297⟩
      refine ⟨_, rfl, ?_⟩
      intro ac293 En295
      have Hv296 : Ev w [.box b [.slice au (List.length lu) cu, .bool fc, .slice ad (List.length ld) cd, .bool bc, .slice ah (List.length lh) ch, .slice ap (List.length lp) cp, .slice aq (List.length lq) cq, .bool fc, .bool fe, .slice ar (List.length lr) cr, .slice av (List.length lv) cv, .bool bc, .bool be] 66, .vec ah ch 1 (bys lh) 5, .vec ap cp 1 (bys lp) 5, .vec aq cq 1 (bys lq) 5, .vec ar cr 1 (bys lr) 5, .vec av cv 1 (bys lv) 5] wo294 [.vec aoq291 coq291 1 (bys lh) 5, .box b [.slice au (List.length lu) cu, .bool fc, .slice ad (List.length ld) cd, .bool bc, .slice ah (List.length lh) ch, .slice ap (List.length lp) cp, .slice aq (List.length lq) cq, .bool fc, .bool fe, .slice ar (List.length lr) cr, .slice av (List.length lv) cv, .bool bc, .bool be] 66, .vec ah ch 1 (bys lh) 5, .vec ap cp 1 (bys lp) 5, .vec aq cq 1 (bys lq) 5, .vec ar cr 1 (bys lr) 5, .vec av cv 1 (bys lv) 5, .box bk1 [.slice none 0 0, .slice none 0 0, .slice none 0 0, .bool false, .bool false, .slice none 0 0, .slice none 0 0, .bool false, .bool false] 26] := Hv290.trans (Ev.call (R := [.box b [.slice au (List.length lu) cu, .bool fc, .slice ad (List.length ld) cd, .bool bc, .slice ah (List.length lh) ch, .slice ap (List.length lp) cp, .slice aq (List.length lq) cq, .bool fc, .bool fe, .slice ar (List.length lr) cr, .slice av (List.length lv) cv, .bool bc, .bool be] 66, .vec ah ch 1 (bys lh) 5, .vec ap cp 1 (bys lp) 5, .vec aq cq 1 (bys lq) 5, .vec ar cr 1 (bys lr) 5, .vec av cv 1 (bys lv) 5, .box bk1 [.slice none 0 0, .slice none 0 0, .slice none 0 0, .bool false, .bool false, .slice none 0 0, .slice none 0 0, .bool false, .bool false] 26]) Hv290.heap [0, 1, 2, 3, 4, 5, 6] (by kernel_rfl) (by decide) he297)
      clear hM292 he297
      refine any_at 11 (by kernel_rfl) rfl ?_
      have hM299 : Heap wo294 [] := Hv296.heap.pick [] (by kernel_rfl) (by decide)
      refine op_call (d := some 14) (f := 41) (args := #[.agg #[.slice ap (List.length lp) cp, .slice aq (List.length lq) cq, .bool fc, .bool fe]]) En295 (by kernel_rfl) ((cloned_go _ ap (List.length lp) cp lp (by first | rfl | (simp; done) | (simp; omega) | omega) (bys_in Hv296.heap (k := 3) rfl [] (by kernel_rfl) rfl (by first | omega | (simp; done) | (simp; omega))) aq (List.length lq) cq lq (by first | rfl | (simp; done) | (simp; omega) | omega) (bys_in Hv296.heap (k := 4) rfl [] (by kernel_rfl) rfl (by first | omega | (simp; done) | (simp; omega))) fc fe).mono ?_)
      rintro _ wo301 ⟨apq298, cpq298, aqq298, cqq298, rfl, he304⟩
      refine ⟨_, rfl, ?_⟩
      intro ac300 En302
      have Hv303 : Ev w [.box b [.slice au (List.length lu) cu, .bool fc, .slice ad (List.length ld) cd, .bool bc, .slice ah (List.length lh) ch, .slice ap (List.length lp) cp, .slice aq (List.length lq) cq, .bool fc, .bool fe, .slice ar (List.length lr) cr, .slice av (List.length lv) cv, .bool bc, .bool be] 66, .vec ah ch 1 (bys lh) 5, .vec ap cp 1 (bys lp) 5, .vec aq cq 1 (bys lq) 5, .vec ar cr 1 (bys lr) 5, .vec av cv 1 (bys lv) 5] wo301 [.vec apq298 cpq298 1 (bys lp) 5, .vec aqq298 cqq298 1 (bys lq) 5, .vec aoq291 coq291 1 (bys lh) 5, .box b [.slice au (List.length lu) cu, .bool fc, .slice ad (List.length ld) cd, .bool bc, .slice ah (List.length lh) ch, .slice ap (List.length lp) cp, .slice aq (List.length lq) cq, .bool fc, .bool fe, .slice ar (List.length lr) cr, .slice av (List.length lv) cv, .bool bc, .bool be] 66, .vec ah ch 1 (bys lh) 5, .vec ap cp 1 (bys lp) 5, .vec aq cq 1 (bys lq) 5, .vec ar cr 1 (bys lr) 5, .vec av cv 1 (bys lv) 5, .box bk1 [.slice none 0 0, .slice none 0 0, .slice none 0 0, .bool false, .bool false, .slice none 0 0, .slice none 0 0, .bool false, .bool false] 26] := Hv296.trans (Ev.call (R := [.vec aoq291 coq291 1 (bys lh) 5, .box b [.slice au (List.length lu) cu, .bool fc, .slice ad (List.length ld) cd, .bool bc, .slice ah (List.length lh) ch, .slice ap (List.length lp) cp, .slice aq (List.length lq) cq, .bool fc, .bool fe, .slice ar (List.length lr) cr, .slice av (List.length lv) cv, .bool bc, .bool be] 66, .vec ah ch 1 (bys lh) 5, .vec ap cp 1 (bys lp) 5, .vec aq cq 1 (bys lq) 5, .vec ar cr 1 (bys lr) 5, .vec av cv 1 (bys lv) 5, .box bk1 [.slice none 0 0, .slice none 0 0, .slice none 0 0, .bool false, .bool false, .slice none 0 0, .slice none 0 0, .bool false, .bool false] 26]) Hv296.heap [0, 1, 2, 3, 4, 5, 6, 7] (by kernel_rfl) (by decide) he304)
      clear hM299 he304
      refine any_at 17 (by kernel_rfl) rfl ?_
      have hM306 : Heap wo301 [] := Hv303.heap.pick [] (by kernel_rfl) (by decide)
      refine op_call (d := some 20) (f := 41) (args := #[.agg #[.slice ar (List.length lr) cr, .slice av (List.length lv) cv, .bool bc, .bool be]]) En302 (by kernel_rfl) ((cloned_go _ ar (List.length lr) cr lr (by first | rfl | (simp; done) | (simp; omega) | omega) (bys_in Hv303.heap (k := 7) rfl [] (by kernel_rfl) rfl (by first | omega | (simp; done) | (simp; omega))) av (List.length lv) cv lv (by first | rfl | (simp; done) | (simp; omega) | omega) (bys_in Hv303.heap (k := 8) rfl [] (by kernel_rfl) rfl (by first | omega | (simp; done) | (simp; omega))) bc be).mono ?_)
      rintro _ wo308 ⟨apq305, cpq305, aqq305, cqq305, rfl, he311⟩
      refine ⟨_, rfl, ?_⟩
      intro ac307 En309
      have Hv310 : Ev w [.box b [.slice au (List.length lu) cu, .bool fc, .slice ad (List.length ld) cd, .bool bc, .slice ah (List.length lh) ch, .slice ap (List.length lp) cp, .slice aq (List.length lq) cq, .bool fc, .bool fe, .slice ar (List.length lr) cr, .slice av (List.length lv) cv, .bool bc, .bool be] 66, .vec ah ch 1 (bys lh) 5, .vec ap cp 1 (bys lp) 5, .vec aq cq 1 (bys lq) 5, .vec ar cr 1 (bys lr) 5, .vec av cv 1 (bys lv) 5] wo308 [.vec apq305 cpq305 1 (bys lr) 5, .vec aqq305 cqq305 1 (bys lv) 5, .vec apq298 cpq298 1 (bys lp) 5, .vec aqq298 cqq298 1 (bys lq) 5, .vec aoq291 coq291 1 (bys lh) 5, .box b [.slice au (List.length lu) cu, .bool fc, .slice ad (List.length ld) cd, .bool bc, .slice ah (List.length lh) ch, .slice ap (List.length lp) cp, .slice aq (List.length lq) cq, .bool fc, .bool fe, .slice ar (List.length lr) cr, .slice av (List.length lv) cv, .bool bc, .bool be] 66, .vec ah ch 1 (bys lh) 5, .vec ap cp 1 (bys lp) 5, .vec aq cq 1 (bys lq) 5, .vec ar cr 1 (bys lr) 5, .vec av cv 1 (bys lv) 5, .box bk1 [.slice none 0 0, .slice none 0 0, .slice none 0 0, .bool false, .bool false, .slice none 0 0, .slice none 0 0, .bool false, .bool false] 26] := Hv303.trans (Ev.call (R := [.vec apq298 cpq298 1 (bys lp) 5, .vec aqq298 cqq298 1 (bys lq) 5, .vec aoq291 coq291 1 (bys lh) 5, .box b [.slice au (List.length lu) cu, .bool fc, .slice ad (List.length ld) cd, .bool bc, .slice ah (List.length lh) ch, .slice ap (List.length lp) cp, .slice aq (List.length lq) cq, .bool fc, .bool fe, .slice ar (List.length lr) cr, .slice av (List.length lv) cv, .bool bc, .bool be] 66, .vec ah ch 1 (bys lh) 5, .vec ap cp 1 (bys lp) 5, .vec aq cq 1 (bys lq) 5, .vec ar cr 1 (bys lr) 5, .vec av cv 1 (bys lv) 5, .box bk1 [.slice none 0 0, .slice none 0 0, .slice none 0 0, .bool false, .bool false, .slice none 0 0, .slice none 0 0, .bool false, .bool false] 26]) Hv303.heap [0, 1, 2, 3, 4, 5, 6, 7, 8, 9] (by kernel_rfl) (by decide) he311)
      clear hM306 he311
      refine any_pureR (d := some 21) En309 (v := .agg #[.slice aoq291 (List.length lh) coq291, .slice apq298 (List.length lp) cpq298, .slice aqq298 (List.length lq) cqq298, .bool fc, .bool fe, .slice apq305 (List.length lr) cpq305, .slice aqq305 (List.length lv) cqq305, .bool bc, .bool be]) 18 (by kernel_rfl) (by kernel_rfl) rfl ?_
      intro ac312 En313
      refine any_at 19 (by kernel_rfl) rfl ?_
      refine op_storeaggbox (d := none) (t := 26) (b := bk1) (off := 0) (k := 11) (m := 9) (xs := [.slice aoq291 (List.length lh) coq291, .slice apq298 (List.length lp) cpq298, .slice aqq298 (List.length lq) cqq298, .bool fc, .bool fe, .slice apq305 (List.length lr) cpq305, .slice aqq305 (List.length lv) cqq305, .bool bc, .bool be]) (v := .agg #[.slice aoq291 (List.length lh) coq291, .slice apq298 (List.length lp) cpq298, .slice aqq298 (List.length lq) cqq298, .bool fc, .bool fe, .slice apq305 (List.length lr) cpq305, .slice aqq305 (List.length lv) cqq305, .bool bc, .bool be]) (cs' := [.slice aoq291 (List.length lh) coq291, .slice apq298 (List.length lp) cpq298, .slice aqq298 (List.length lq) cqq298, .bool fc, .bool fe, .slice apq305 (List.length lr) cpq305, .slice aqq305 (List.length lv) cqq305, .bool bc, .bool be]) En313 (by kernel_rfl) Hv310 rfl rfl rfl (by simp) (by kernel_rfl) (one_all (by kernel_rfl)) rfl (L' := [.vec apq305 cpq305 1 (bys lr) 5, .vec aqq305 cqq305 1 (bys lv) 5, .vec apq298 cpq298 1 (bys lp) 5, .vec aqq298 cqq298 1 (bys lq) 5, .vec aoq291 coq291 1 (bys lh) 5, .box b [.slice au (List.length lu) cu, .bool fc, .slice ad (List.length ld) cd, .bool bc, .slice ah (List.length lh) ch, .slice ap (List.length lp) cp, .slice aq (List.length lq) cq, .bool fc, .bool fe, .slice ar (List.length lr) cr, .slice av (List.length lv) cv, .bool bc, .bool be] 66, .vec ah ch 1 (bys lh) 5, .vec ap cp 1 (bys lp) 5, .vec aq cq 1 (bys lq) 5, .vec ar cr 1 (bys lr) 5, .vec av cv 1 (bys lv) 5, .box bk1 [.slice aoq291 (List.length lh) coq291, .slice apq298 (List.length lp) cpq298, .slice aqq298 (List.length lq) cqq298, .bool fc, .bool fe, .slice apq305 (List.length lr) cpq305, .slice aqq305 (List.length lv) cqq305, .bool bc, .bool be] 26]) rfl ?_
      intro ac314 wo315  En316 Hv317
      exact any_end (by kernel_rfl) ⟨aoq291, coq291, apq298, cpq298, aqq298, cqq298, apq305, cpq305, aqq305, cqq305, En316.sub (by kernel_rfl), Hv317.pick [0, 1, 2, 3, 4, 5, 6, 7, 8, 9, 10, 11] (by kernel_rfl) (by decide)⟩
    have nd318 : ∀ (ac : Act) (wo : World) (aoq33 : _) (coq33 : _), Env ac 22 [(2, .pointer (some ⟨bk1, 0, none⟩)), (8, .slice aoq33 (List.length lh) coq33), (12, .pointer (some ⟨b, 5, none⟩)), (18, .pointer (some ⟨b, 9, none⟩))] → Ev w [.box b [.slice au (List.length lu) cu, .bool fc, .slice ad (List.length ld) cd, .bool bc, .slice ah (List.length lh) ch, .slice ap (List.length lp) cp, .slice aq (List.length lq) cq, .bool fc, .bool fe, .slice ar (List.length lr) cr, .slice av (List.length lv) cv, .bool bc, .bool be] 66, .vec ah ch 1 (bys lh) 5, .vec ap cp 1 (bys lp) 5, .vec aq cq 1 (bys lq) 5, .vec ar cr 1 (bys lr) 5, .vec av cv 1 (bys lv) 5] wo [.vec aoq33 coq33 1 (bys lh) 5, .box b [.slice au (List.length lu) cu, .bool fc, .slice ad (List.length ld) cd, .bool bc, .slice ah (List.length lh) ch, .slice ap (List.length lp) cp, .slice aq (List.length lq) cq, .bool fc, .bool fe, .slice ar (List.length lr) cr, .slice av (List.length lv) cv, .bool bc, .bool be] 66, .vec ah ch 1 (bys lh) 5, .vec ap cp 1 (bys lp) 5, .vec aq cq 1 (bys lq) 5, .vec ar cr 1 (bys lr) 5, .vec av cv 1 (bys lv) 5, .box bk1 [.slice none 0 0, .slice none 0 0, .slice none 0 0, .bool false, .bool false, .slice none 0 0, .slice none 0 0, .bool false, .bool false] 26] → G 6 #[true, true, true, true, true, true, true, true, true, true, false, false, true, true, true, true, false, false, false, false] ac wo := by
      intro ac319 wo320 aoq33 coq33 En321 Hv322
      refine any_from hG ?_
      refine any_two 10 16 (by kernel_rfl) ?_ ?_
      · rintro _ rfl
        refine op_loadaggbox (d := some 13) (t := 24) (b := b) (off := 5) (k := 1) (m := 4) (xs := [.slice ap (List.length lp) cp, .slice aq (List.length lq) cq, .bool fc, .bool fe]) En321 (by kernel_rfl) Hv322 rfl rfl rfl (by kernel_rfl) (by kernel_rfl) ?_
        intro ac323 En324
        exact any_to hG (by kernel_rfl) (nd245 _ _ aoq33 coq33 (En324.sub (by kernel_rfl)) (Hv322.pick [0, 1, 2, 3, 4, 5, 6, 7] (by kernel_rfl) (by decide)))
      · rintro _ rfl
        refine op_loadaggbox (d := some 19) (t := 24) (b := b) (off := 9) (k := 1) (m := 4) (xs := [.slice ar (List.length lr) cr, .slice av (List.length lv) cv, .bool bc, .bool be]) En321 (by kernel_rfl) Hv322 rfl rfl rfl (by kernel_rfl) (by kernel_rfl) ?_
        intro ac325 En326
        exact any_to hG (by kernel_rfl) (nd259 _ _ aoq33 coq33 (En326.sub (by kernel_rfl)) (Hv322.pick [0, 1, 2, 3, 4, 5, 6, 7] (by kernel_rfl) (by decide)))
    have nd327 : ∀ (ac : Act) (wo : World), Env ac 22 [(2, .pointer (some ⟨bk1, 0, none⟩)), (7, .slice ah (List.length lh) ch), (13, .agg #[.slice ap (List.length lp) cp, .slice aq (List.length lq) cq, .bool fc, .bool fe]), (18, .pointer (some ⟨b, 9, none⟩))] → Ev w [.box b [.slice au (List.length lu) cu, .bool fc, .slice ad (List.length ld) cd, .bool bc, .slice ah (List.length lh) ch, .slice ap (List.length lp) cp, .slice aq (List.length lq) cq, .bool fc, .bool fe, .slice ar (List.length lr) cr, .slice av (List.length lv) cv, .bool bc, .bool be] 66, .vec ah ch 1 (bys lh) 5, .vec ap cp 1 (bys lp) 5, .vec aq cq 1 (bys lq) 5, .vec ar cr 1 (bys lr) 5, .vec av cv 1 (bys lv) 5] wo [.box b [.slice au (List.length lu) cu, .bool fc, .slice ad (List.length ld) cd, .bool bc, .slice ah (List.length lh) ch, .slice ap (List.length lp) cp, .slice aq (List.length lq) cq, .bool fc, .bool fe, .slice ar (List.length lr) cr, .slice av (List.length lv) cv, .bool bc, .bool be] 66, .vec ah ch 1 (bys lh) 5, .vec ap cp 1 (bys lp) 5, .vec aq cq 1 (bys lq) 5, .vec ar cr 1 (bys lr) 5, .vec av cv 1 (bys lv) 5, .box bk1 [.slice none 0 0, .slice none 0 0, .slice none 0 0, .bool false, .bool false, .slice none 0 0, .slice none 0 0, .bool false, .bool false] 26] → G 6 #[true, true, true, true, true, false, true, true, true, true, true, false, true, true, true, true, false, false, false, false] ac wo := by
      intro ac328 wo329 En330 Hv331
      refine any_from hG ?_
      refine any_two 5 16 (by kernel_rfl) ?_ ?_
      · rintro _ rfl
        have hM333 : Heap wo329 [] := Hv331.heap.pick [] (by kernel_rfl) (by decide)
        refine op_call (d := some 8) (f := 35) (args := #[.slice ah (List.length lh) ch]) En330 (by kernel_rfl) ((clone_go _ ah (List.length lh) ch lh (by first | rfl | (simp; done) | (simp; omega) | omega) (bys_in Hv331.heap (k := 1) rfl [] (by kernel_rfl) rfl (by first | omega | (simp; done) | (simp; omega)))).mono ?_)
        rintro _ wo335 ⟨aoq332, coq332, rfl, he338⟩
        refine ⟨_, rfl, ?_⟩
        intro ac334 En336
        have Hv337 : Ev w [.box b [.slice au (List.length lu) cu, .bool fc, .slice ad (List.length ld) cd, .bool bc, .slice ah (List.length lh) ch, .slice ap (List.length lp) cp, .slice aq (List.length lq) cq, .bool fc, .bool fe, .slice ar (List.length lr) cr, .slice av (List.length lv) cv, .bool bc, .bool be] 66, .vec ah ch 1 (bys lh) 5, .vec ap cp 1 (bys lp) 5, .vec aq cq 1 (bys lq) 5, .vec ar cr 1 (bys lr) 5, .vec av cv 1 (bys lv) 5] wo335 [.vec aoq332 coq332 1 (bys lh) 5, .box b [.slice au (List.length lu) cu, .bool fc, .slice ad (List.length ld) cd, .bool bc, .slice ah (List.length lh) ch, .slice ap (List.length lp) cp, .slice aq (List.length lq) cq, .bool fc, .bool fe, .slice ar (List.length lr) cr, .slice av (List.length lv) cv, .bool bc, .bool be] 66, .vec ah ch 1 (bys lh) 5, .vec ap cp 1 (bys lp) 5, .vec aq cq 1 (bys lq) 5, .vec ar cr 1 (bys lr) 5, .vec av cv 1 (bys lv) 5, .box bk1 [.slice none 0 0, .slice none 0 0, .slice none 0 0, .bool false, .bool false, .slice none 0 0, .slice none 0 0, .bool false, .bool false] 26] := Hv331.trans (Ev.call (R := [.box b [.slice au (List.length lu) cu, .bool fc, .slice ad (List.length ld) cd, .bool bc, .slice ah (List.length lh) ch, .slice ap (List.length lp) cp, .slice aq (List.length lq) cq, .bool fc, .bool fe, .slice ar (List.length lr) cr, .slice av (List.length lv) cv, .bool bc, .bool be] 66, .vec ah ch 1 (bys lh) 5, .vec ap cp 1 (bys lp) 5, .vec aq cq 1 (bys lq) 5, .vec ar cr 1 (bys lr) 5, .vec av cv 1 (bys lv) 5, .box bk1 [.slice none 0 0, .slice none 0 0, .slice none 0 0, .bool false, .bool false, .slice none 0 0, .slice none 0 0, .bool false, .bool false] 26]) Hv331.heap [0, 1, 2, 3, 4, 5, 6] (by kernel_rfl) (by decide) he338)
        clear hM333 he338
        exact any_to hG (by kernel_rfl) (nd245 _ _ aoq332 coq332 (En336.sub (by kernel_rfl)) (Hv337.pick [0, 1, 2, 3, 4, 5, 6, 7] (by kernel_rfl) (by decide)))
      · rintro _ rfl
        refine op_loadaggbox (d := some 19) (t := 24) (b := b) (off := 9) (k := 0) (m := 4) (xs := [.slice ar (List.length lr) cr, .slice av (List.length lv) cv, .bool bc, .bool be]) En330 (by kernel_rfl) Hv331 rfl rfl rfl (by kernel_rfl) (by kernel_rfl) ?_
        intro ac339 En340
        exact any_to hG (by kernel_rfl) (nd286 _ _ (En340.sub (by kernel_rfl)) (Hv331.pick [0, 1, 2, 3, 4, 5, 6] (by kernel_rfl) (by decide)))
    have nd341 : ∀ (ac : Act) (wo : World), Env ac 22 [(2, .pointer (some ⟨bk1, 0, none⟩)), (7, .slice ah (List.length lh) ch), (12, .pointer (some ⟨b, 5, none⟩)), (19, .agg #[.slice ar (List.length lr) cr, .slice av (List.length lv) cv, .bool bc, .bool be])] → Ev w [.box b [.slice au (List.length lu) cu, .bool fc, .slice ad (List.length ld) cd, .bool bc, .slice ah (List.length lh) ch, .slice ap (List.length lp) cp, .slice aq (List.length lq) cq, .bool fc, .bool fe, .slice ar (List.length lr) cr, .slice av (List.length lv) cv, .bool bc, .bool be] 66, .vec ah ch 1 (bys lh) 5, .vec ap cp 1 (bys lp) 5, .vec aq cq 1 (bys lq) 5, .vec ar cr 1 (bys lr) 5, .vec av cv 1 (bys lv) 5] wo [.box b [.slice au (List.length lu) cu, .bool fc, .slice ad (List.length ld) cd, .bool bc, .slice ah (List.length lh) ch, .slice ap (List.length lp) cp, .slice aq (List.length lq) cq, .bool fc, .bool fe, .slice ar (List.length lr) cr, .slice av (List.length lv) cv, .bool bc, .bool be] 66, .vec ah ch 1 (bys lh) 5, .vec ap cp 1 (bys lp) 5, .vec aq cq 1 (bys lq) 5, .vec ar cr 1 (bys lr) 5, .vec av cv 1 (bys lv) 5, .box bk1 [.slice none 0 0, .slice none 0 0, .slice none 0 0, .bool false, .bool false, .slice none 0 0, .slice none 0 0, .bool false, .bool false] 26] → G 6 #[true, true, true, true, true, false, true, true, true, true, false, false, true, true, true, true, true, false, false, false] ac wo := by
      intro ac342 wo343 En344 Hv345
      refine any_from hG ?_
      refine any_two 5 10 (by kernel_rfl) ?_ ?_
      · rintro _ rfl
        have hM347 : Heap wo343 [] := Hv345.heap.pick [] (by kernel_rfl) (by decide)
        refine op_call (d := some 8) (f := 35) (args := #[.slice ah (List.length lh) ch]) En344 (by kernel_rfl) ((clone_go _ ah (List.length lh) ch lh (by first | rfl | (simp; done) | (simp; omega) | omega) (bys_in Hv345.heap (k := 1) rfl [] (by kernel_rfl) rfl (by first | omega | (simp; done) | (simp; omega)))).mono ?_)
        rintro _ wo349 ⟨aoq346, coq346, rfl, he352⟩
        refine ⟨_, rfl, ?_⟩
        intro ac348 En350
        have Hv351 : Ev w [.box b [.slice au (List.length lu) cu, .bool fc, .slice ad (List.length ld) cd, .bool bc, .slice ah (List.length lh) ch, .slice ap (List.length lp) cp, .slice aq (List.length lq) cq, .bool fc, .bool fe, .slice ar (List.length lr) cr, .slice av (List.length lv) cv, .bool bc, .bool be] 66, .vec ah ch 1 (bys lh) 5, .vec ap cp 1 (bys lp) 5, .vec aq cq 1 (bys lq) 5, .vec ar cr 1 (bys lr) 5, .vec av cv 1 (bys lv) 5] wo349 [.vec aoq346 coq346 1 (bys lh) 5, .box b [.slice au (List.length lu) cu, .bool fc, .slice ad (List.length ld) cd, .bool bc, .slice ah (List.length lh) ch, .slice ap (List.length lp) cp, .slice aq (List.length lq) cq, .bool fc, .bool fe, .slice ar (List.length lr) cr, .slice av (List.length lv) cv, .bool bc, .bool be] 66, .vec ah ch 1 (bys lh) 5, .vec ap cp 1 (bys lp) 5, .vec aq cq 1 (bys lq) 5, .vec ar cr 1 (bys lr) 5, .vec av cv 1 (bys lv) 5, .box bk1 [.slice none 0 0, .slice none 0 0, .slice none 0 0, .bool false, .bool false, .slice none 0 0, .slice none 0 0, .bool false, .bool false] 26] := Hv345.trans (Ev.call (R := [.box b [.slice au (List.length lu) cu, .bool fc, .slice ad (List.length ld) cd, .bool bc, .slice ah (List.length lh) ch, .slice ap (List.length lp) cp, .slice aq (List.length lq) cq, .bool fc, .bool fe, .slice ar (List.length lr) cr, .slice av (List.length lv) cv, .bool bc, .bool be] 66, .vec ah ch 1 (bys lh) 5, .vec ap cp 1 (bys lp) 5, .vec aq cq 1 (bys lq) 5, .vec ar cr 1 (bys lr) 5, .vec av cv 1 (bys lv) 5, .box bk1 [.slice none 0 0, .slice none 0 0, .slice none 0 0, .bool false, .bool false, .slice none 0 0, .slice none 0 0, .bool false, .bool false] 26]) Hv345.heap [0, 1, 2, 3, 4, 5, 6] (by kernel_rfl) (by decide) he352)
        clear hM347 he352
        exact any_to hG (by kernel_rfl) (nd259 _ _ aoq346 coq346 (En350.sub (by kernel_rfl)) (Hv351.pick [0, 1, 2, 3, 4, 5, 6, 7] (by kernel_rfl) (by decide)))
      · rintro _ rfl
        refine op_loadaggbox (d := some 13) (t := 24) (b := b) (off := 5) (k := 0) (m := 4) (xs := [.slice ap (List.length lp) cp, .slice aq (List.length lq) cq, .bool fc, .bool fe]) En344 (by kernel_rfl) Hv345 rfl rfl rfl (by kernel_rfl) (by kernel_rfl) ?_
        intro ac353 En354
        exact any_to hG (by kernel_rfl) (nd286 _ _ (En354.sub (by kernel_rfl)) (Hv345.pick [0, 1, 2, 3, 4, 5, 6] (by kernel_rfl) (by decide)))
    have nd355 : ∀ (ac : Act) (wo : World), Env ac 22 [(2, .pointer (some ⟨bk1, 0, none⟩)), (6, .pointer (some ⟨b, 4, none⟩)), (13, .agg #[.slice ap (List.length lp) cp, .slice aq (List.length lq) cq, .bool fc, .bool fe]), (19, .agg #[.slice ar (List.length lr) cr, .slice av (List.length lv) cv, .bool bc, .bool be])] → Ev w [.box b [.slice au (List.length lu) cu, .bool fc, .slice ad (List.length ld) cd, .bool bc, .slice ah (List.length lh) ch, .slice ap (List.length lp) cp, .slice aq (List.length lq) cq, .bool fc, .bool fe, .slice ar (List.length lr) cr, .slice av (List.length lv) cv, .bool bc, .bool be] 66, .vec ah ch 1 (bys lh) 5, .vec ap cp 1 (bys lp) 5, .vec aq cq 1 (bys lq) 5, .vec ar cr 1 (bys lr) 5, .vec av cv 1 (bys lv) 5] wo [.box b [.slice au (List.length lu) cu, .bool fc, .slice ad (List.length ld) cd, .bool bc, .slice ah (List.length lh) ch, .slice ap (List.length lp) cp, .slice aq (List.length lq) cq, .bool fc, .bool fe, .slice ar (List.length lr) cr, .slice av (List.length lv) cv, .bool bc, .bool be] 66, .vec ah ch 1 (bys lh) 5, .vec ap cp 1 (bys lp) 5, .vec aq cq 1 (bys lq) 5, .vec ar cr 1 (bys lr) 5, .vec av cv 1 (bys lv) 5, .box bk1 [.slice none 0 0, .slice none 0 0, .slice none 0 0, .bool false, .bool false, .slice none 0 0, .slice none 0 0, .bool false, .bool false] 26] → G 6 #[true, true, true, true, false, false, true, true, true, true, true, false, true, true, true, true, true, false, false, false] ac wo := by
      intro ac356 wo357 En358 Hv359
      refine any_from hG ?_
      refine any_at 4 (by kernel_rfl) rfl ?_
      refine op_loadbox (d := some 7) (t := 22) (b := b) (off := 4) (k := 0) (v := .slice ah (List.length lh) ch) En358 (by kernel_rfl) Hv359 rfl rfl (by kernel_rfl) ?_
      intro ac360 En361
      refine any_at 5 (by kernel_rfl) rfl ?_
      have hM363 : Heap wo357 [] := Hv359.heap.pick [] (by kernel_rfl) (by decide)
      refine op_call (d := some 8) (f := 35) (args := #[.slice ah (List.length lh) ch]) En361 (by kernel_rfl) ((clone_go _ ah (List.length lh) ch lh (by first | rfl | (simp; done) | (simp; omega) | omega) (bys_in Hv359.heap (k := 1) rfl [] (by kernel_rfl) rfl (by first | omega | (simp; done) | (simp; omega)))).mono ?_)
      rintro _ wo365 ⟨aoq362, coq362, rfl, he368⟩
      refine ⟨_, rfl, ?_⟩
      intro ac364 En366
      have Hv367 : Ev w [.box b [.slice au (List.length lu) cu, .bool fc, .slice ad (List.length ld) cd, .bool bc, .slice ah (List.length lh) ch, .slice ap (List.length lp) cp, .slice aq (List.length lq) cq, .bool fc, .bool fe, .slice ar (List.length lr) cr, .slice av (List.length lv) cv, .bool bc, .bool be] 66, .vec ah ch 1 (bys lh) 5, .vec ap cp 1 (bys lp) 5, .vec aq cq 1 (bys lq) 5, .vec ar cr 1 (bys lr) 5, .vec av cv 1 (bys lv) 5] wo365 [.vec aoq362 coq362 1 (bys lh) 5, .box b [.slice au (List.length lu) cu, .bool fc, .slice ad (List.length ld) cd, .bool bc, .slice ah (List.length lh) ch, .slice ap (List.length lp) cp, .slice aq (List.length lq) cq, .bool fc, .bool fe, .slice ar (List.length lr) cr, .slice av (List.length lv) cv, .bool bc, .bool be] 66, .vec ah ch 1 (bys lh) 5, .vec ap cp 1 (bys lp) 5, .vec aq cq 1 (bys lq) 5, .vec ar cr 1 (bys lr) 5, .vec av cv 1 (bys lv) 5, .box bk1 [.slice none 0 0, .slice none 0 0, .slice none 0 0, .bool false, .bool false, .slice none 0 0, .slice none 0 0, .bool false, .bool false] 26] := Hv359.trans (Ev.call (R := [.box b [.slice au (List.length lu) cu, .bool fc, .slice ad (List.length ld) cd, .bool bc, .slice ah (List.length lh) ch, .slice ap (List.length lp) cp, .slice aq (List.length lq) cq, .bool fc, .bool fe, .slice ar (List.length lr) cr, .slice av (List.length lv) cv, .bool bc, .bool be] 66, .vec ah ch 1 (bys lh) 5, .vec ap cp 1 (bys lp) 5, .vec aq cq 1 (bys lq) 5, .vec ar cr 1 (bys lr) 5, .vec av cv 1 (bys lv) 5, .box bk1 [.slice none 0 0, .slice none 0 0, .slice none 0 0, .bool false, .bool false, .slice none 0 0, .slice none 0 0, .bool false, .bool false] 26]) Hv359.heap [0, 1, 2, 3, 4, 5, 6] (by kernel_rfl) (by decide) he368)
      clear hM363 he368
      refine any_at 11 (by kernel_rfl) rfl ?_
      have hM370 : Heap wo365 [] := Hv367.heap.pick [] (by kernel_rfl) (by decide)
      refine op_call (d := some 14) (f := 41) (args := #[.agg #[.slice ap (List.length lp) cp, .slice aq (List.length lq) cq, .bool fc, .bool fe]]) En366 (by kernel_rfl) ((cloned_go _ ap (List.length lp) cp lp (by first | rfl | (simp; done) | (simp; omega) | omega) (bys_in Hv367.heap (k := 3) rfl [] (by kernel_rfl) rfl (by first | omega | (simp; done) | (simp; omega))) aq (List.length lq) cq lq (by first | rfl | (simp; done) | (simp; omega) | omega) (bys_in Hv367.heap (k := 4) rfl [] (by kernel_rfl) rfl (by first | omega | (simp; done) | (simp; omega))) fc fe).mono ?_)
      rintro _ wo372 ⟨apq369, cpq369, aqq369, cqq369, rfl, he375⟩
      refine ⟨_, rfl, ?_⟩
      intro ac371 En373
      have Hv374 : Ev w [.box b [.slice au (List.length lu) cu, .bool fc, .slice ad (List.length ld) cd, .bool bc, .slice ah (List.length lh) ch, .slice ap (List.length lp) cp, .slice aq (List.length lq) cq, .bool fc, .bool fe, .slice ar (List.length lr) cr, .slice av (List.length lv) cv, .bool bc, .bool be] 66, .vec ah ch 1 (bys lh) 5, .vec ap cp 1 (bys lp) 5, .vec aq cq 1 (bys lq) 5, .vec ar cr 1 (bys lr) 5, .vec av cv 1 (bys lv) 5] wo372 [.vec apq369 cpq369 1 (bys lp) 5, .vec aqq369 cqq369 1 (bys lq) 5, .vec aoq362 coq362 1 (bys lh) 5, .box b [.slice au (List.length lu) cu, .bool fc, .slice ad (List.length ld) cd, .bool bc, .slice ah (List.length lh) ch, .slice ap (List.length lp) cp, .slice aq (List.length lq) cq, .bool fc, .bool fe, .slice ar (List.length lr) cr, .slice av (List.length lv) cv, .bool bc, .bool be] 66, .vec ah ch 1 (bys lh) 5, .vec ap cp 1 (bys lp) 5, .vec aq cq 1 (bys lq) 5, .vec ar cr 1 (bys lr) 5, .vec av cv 1 (bys lv) 5, .box bk1 [.slice none 0 0, .slice none 0 0, .slice none 0 0, .bool false, .bool false, .slice none 0 0, .slice none 0 0, .bool false, .bool false] 26] := Hv367.trans (Ev.call (R := [.vec aoq362 coq362 1 (bys lh) 5, .box b [.slice au (List.length lu) cu, .bool fc, .slice ad (List.length ld) cd, .bool bc, .slice ah (List.length lh) ch, .slice ap (List.length lp) cp, .slice aq (List.length lq) cq, .bool fc, .bool fe, .slice ar (List.length lr) cr, .slice av (List.length lv) cv, .bool bc, .bool be] 66, .vec ah ch 1 (bys lh) 5, .vec ap cp 1 (bys lp) 5, .vec aq cq 1 (bys lq) 5, .vec ar cr 1 (bys lr) 5, .vec av cv 1 (bys lv) 5, .box bk1 [.slice none 0 0, .slice none 0 0, .slice none 0 0, .bool false, .bool false, .slice none 0 0, .slice none 0 0, .bool false, .bool false] 26]) Hv367.heap [0, 1, 2, 3, 4, 5, 6, 7] (by kernel_rfl) (by decide) he375)
      clear hM370 he375
      refine any_at 17 (by kernel_rfl) rfl ?_
      have hM377 : Heap wo372 [] := Hv374.heap.pick [] (by kernel_rfl) (by decide)
      refine op_call (d := some 20) (f := 41) (args := #[.agg #[.slice ar (List.length lr) cr, .slice av (List.length lv) cv, .bool bc, .bool be]]) En373 (by kernel_rfl) ((cloned_go _ ar (List.length lr) cr lr (by first | rfl | (simp; done) | (simp; omega) | omega) (bys_in Hv374.heap (k := 7) rfl [] (by kernel_rfl) rfl (by first | omega | (simp; done) | (simp; omega))) av (List.length lv) cv lv (by first | rfl | (simp; done) | (simp; omega) | omega) (bys_in Hv374.heap (k := 8) rfl [] (by kernel_rfl) rfl (by first | omega | (simp; done) | (simp; omega))) bc be).mono ?_)
      rintro _ wo379 ⟨apq376, cpq376, aqq376, cqq376, rfl, he382⟩
      refine ⟨_, rfl, ?_⟩
      intro ac378 En380
      have Hv381 : Ev w [.box b [.slice au (List.length lu) cu, .bool fc, .slice ad (List.length ld) cd, .bool bc, .slice ah (List.length lh) ch, .slice ap (List.length lp) cp, .slice aq (List.length lq) cq, .bool fc, .bool fe, .slice ar (List.length lr) cr, .slice av (List.length lv) cv, .bool bc, .bool be] 66, .vec ah ch 1 (bys lh) 5, .vec ap cp 1 (bys lp) 5, .vec aq cq 1 (bys lq) 5, .vec ar cr 1 (bys lr) 5, .vec av cv 1 (bys lv) 5] wo379 [.vec apq376 cpq376 1 (bys lr) 5, .vec aqq376 cqq376 1 (bys lv) 5, .vec apq369 cpq369 1 (bys lp) 5, .vec aqq369 cqq369 1 (bys lq) 5, .vec aoq362 coq362 1 (bys lh) 5, .box b [.slice au (List.length lu) cu, .bool fc, .slice ad (List.length ld) cd, .bool bc, .slice ah (List.length lh) ch, .slice ap (List.length lp) cp, .slice aq (List.length lq) cq, .bool fc, .bool fe, .slice ar (List.length lr) cr, .slice av (List.length lv) cv, .bool bc, .bool be] 66, .vec ah ch 1 (bys lh) 5, .vec ap cp 1 (bys lp) 5, .vec aq cq 1 (bys lq) 5, .vec ar cr 1 (bys lr) 5, .vec av cv 1 (bys lv) 5, .box bk1 [.slice none 0 0, .slice none 0 0, .slice none 0 0, .bool false, .bool false, .slice none 0 0, .slice none 0 0, .bool false, .bool false] 26] := Hv374.trans (Ev.call (R := [.vec apq369 cpq369 1 (bys lp) 5, .vec aqq369 cqq369 1 (bys lq) 5, .vec aoq362 coq362 1 (bys lh) 5, .box b [.slice au (List.length lu) cu, .bool fc, .slice ad (List.length ld) cd, .bool bc, .slice ah (List.length lh) ch, .slice ap (List.length lp) cp, .slice aq (List.length lq) cq, .bool fc, .bool fe, .slice ar (List.length lr) cr, .slice av (List.length lv) cv, .bool bc, .bool be] 66, .vec ah ch 1 (bys lh) 5, .vec ap cp 1 (bys lp) 5, .vec aq cq 1 (bys lq) 5, .vec ar cr 1 (bys lr) 5, .vec av cv 1 (bys lv) 5, .box bk1 [.slice none 0 0, .slice none 0 0, .slice none 0 0, .bool false, .bool false, .slice none 0 0, .slice none 0 0, .bool false, .bool false] 26]) Hv374.heap [0, 1, 2, 3, 4, 5, 6, 7, 8, 9] (by kernel_rfl) (by decide) he382)
      clear hM377 he382
      refine any_pureR (d := some 21) En380 (v := .agg #[.slice aoq362 (List.length lh) coq362, .slice apq369 (List.length lp) cpq369, .slice aqq369 (List.length lq) cqq369, .bool fc, .bool fe, .slice apq376 (List.length lr) cpq376, .slice aqq376 (List.length lv) cqq376, .bool bc, .bool be]) 18 (by kernel_rfl) (by kernel_rfl) rfl ?_
      intro ac383 En384
      refine any_at 19 (by kernel_rfl) rfl ?_
      refine op_storeaggbox (d := none) (t := 26) (b := bk1) (off := 0) (k := 11) (m := 9) (xs := [.slice aoq362 (List.length lh) coq362, .slice apq369 (List.length lp) cpq369, .slice aqq369 (List.length lq) cqq369, .bool fc, .bool fe, .slice apq376 (List.length lr) cpq376, .slice aqq376 (List.length lv) cqq376, .bool bc, .bool be]) (v := .agg #[.slice aoq362 (List.length lh) coq362, .slice apq369 (List.length lp) cpq369, .slice aqq369 (List.length lq) cqq369, .bool fc, .bool fe, .slice apq376 (List.length lr) cpq376, .slice aqq376 (List.length lv) cqq376, .bool bc, .bool be]) (cs' := [.slice aoq362 (List.length lh) coq362, .slice apq369 (List.length lp) cpq369, .slice aqq369 (List.length lq) cqq369, .bool fc, .bool fe, .slice apq376 (List.length lr) cpq376, .slice aqq376 (List.length lv) cqq376, .bool bc, .bool be]) En384 (by kernel_rfl) Hv381 rfl rfl rfl (by simp) (by kernel_rfl) (one_all (by kernel_rfl)) rfl (L' := [.vec apq376 cpq376 1 (bys lr) 5, .vec aqq376 cqq376 1 (bys lv) 5, .vec apq369 cpq369 1 (bys lp) 5, .vec aqq369 cqq369 1 (bys lq) 5, .vec aoq362 coq362 1 (bys lh) 5, .box b [.slice au (List.length lu) cu, .bool fc, .slice ad (List.length ld) cd, .bool bc, .slice ah (List.length lh) ch, .slice ap (List.length lp) cp, .slice aq (List.length lq) cq, .bool fc, .bool fe, .slice ar (List.length lr) cr, .slice av (List.length lv) cv, .bool bc, .bool be] 66, .vec ah ch 1 (bys lh) 5, .vec ap cp 1 (bys lp) 5, .vec aq cq 1 (bys lq) 5, .vec ar cr 1 (bys lr) 5, .vec av cv 1 (bys lv) 5, .box bk1 [.slice aoq362 (List.length lh) coq362, .slice apq369 (List.length lp) cpq369, .slice aqq369 (List.length lq) cqq369, .bool fc, .bool fe, .slice apq376 (List.length lr) cpq376, .slice aqq376 (List.length lv) cqq376, .bool bc, .bool be] 26]) rfl ?_
      intro ac385 wo386  En387 Hv388
      exact any_end (by kernel_rfl) ⟨aoq362, coq362, apq369, cpq369, aqq369, cqq369, apq376, cpq376, aqq376, cqq376, En387.sub (by kernel_rfl), Hv388.pick [0, 1, 2, 3, 4, 5, 6, 7, 8, 9, 10, 11] (by kernel_rfl) (by decide)⟩
    have nd389 : ∀ (ac : Act) (wo : World), Env ac 22 [(2, .pointer (some ⟨bk1, 0, none⟩)), (7, .slice ah (List.length lh) ch), (12, .pointer (some ⟨b, 5, none⟩)), (18, .pointer (some ⟨b, 9, none⟩))] → Ev w [.box b [.slice au (List.length lu) cu, .bool fc, .slice ad (List.length ld) cd, .bool bc, .slice ah (List.length lh) ch, .slice ap (List.length lp) cp, .slice aq (List.length lq) cq, .bool fc, .bool fe, .slice ar (List.length lr) cr, .slice av (List.length lv) cv, .bool bc, .bool be] 66, .vec ah ch 1 (bys lh) 5, .vec ap cp 1 (bys lp) 5, .vec aq cq 1 (bys lq) 5, .vec ar cr 1 (bys lr) 5, .vec av cv 1 (bys lv) 5] wo [.box b [.slice au (List.length lu) cu, .bool fc, .slice ad (List.length ld) cd, .bool bc, .slice ah (List.length lh) ch, .slice ap (List.length lp) cp, .slice aq (List.length lq) cq, .bool fc, .bool fe, .slice ar (List.length lr) cr, .slice av (List.length lv) cv, .bool bc, .bool be] 66, .vec ah ch 1 (bys lh) 5, .vec ap cp 1 (bys lp) 5, .vec aq cq 1 (bys lq) 5, .vec ar cr 1 (bys lr) 5, .vec av cv 1 (bys lv) 5, .box bk1 [.slice none 0 0, .slice none 0 0, .slice none 0 0, .bool false, .bool false, .slice none 0 0, .slice none 0 0, .bool false, .bool false] 26] → G 7 #[true, true, true, true, true, false, true, true, true, true, false, false, true, true, true, true, false, false, false, false] ac wo := by
      intro ac390 wo391 En392 Hv393
      refine any_from hG ?_
      refine any_ways [5, 10, 16] (by kernel_rfl) rfl ?_
      refine ⟨?_, ?_, ?_, trivial⟩
      · rintro _ rfl
        have hM395 : Heap wo391 [] := Hv393.heap.pick [] (by kernel_rfl) (by decide)
        refine op_call (d := some 8) (f := 35) (args := #[.slice ah (List.length lh) ch]) En392 (by kernel_rfl) ((clone_go _ ah (List.length lh) ch lh (by first | rfl | (simp; done) | (simp; omega) | omega) (bys_in Hv393.heap (k := 1) rfl [] (by kernel_rfl) rfl (by first | omega | (simp; done) | (simp; omega)))).mono ?_)
        rintro _ wo397 ⟨aoq394, coq394, rfl, he400⟩
        refine ⟨_, rfl, ?_⟩
        intro ac396 En398
        have Hv399 : Ev w [.box b [.slice au (List.length lu) cu, .bool fc, .slice ad (List.length ld) cd, .bool bc, .slice ah (List.length lh) ch, .slice ap (List.length lp) cp, .slice aq (List.length lq) cq, .bool fc, .bool fe, .slice ar (List.length lr) cr, .slice av (List.length lv) cv, .bool bc, .bool be] 66, .vec ah ch 1 (bys lh) 5, .vec ap cp 1 (bys lp) 5, .vec aq cq 1 (bys lq) 5, .vec ar cr 1 (bys lr) 5, .vec av cv 1 (bys lv) 5] wo397 [.vec aoq394 coq394 1 (bys lh) 5, .box b [.slice au (List.length lu) cu, .bool fc, .slice ad (List.length ld) cd, .bool bc, .slice ah (List.length lh) ch, .slice ap (List.length lp) cp, .slice aq (List.length lq) cq, .bool fc, .bool fe, .slice ar (List.length lr) cr, .slice av (List.length lv) cv, .bool bc, .bool be] 66, .vec ah ch 1 (bys lh) 5, .vec ap cp 1 (bys lp) 5, .vec aq cq 1 (bys lq) 5, .vec ar cr 1 (bys lr) 5, .vec av cv 1 (bys lv) 5, .box bk1 [.slice none 0 0, .slice none 0 0, .slice none 0 0, .bool false, .bool false, .slice none 0 0, .slice none 0 0, .bool false, .bool false] 26] := Hv393.trans (Ev.call (R := [.box b [.slice au (List.length lu) cu, .bool fc, .slice ad (List.length ld) cd, .bool bc, .slice ah (List.length lh) ch, .slice ap (List.length lp) cp, .slice aq (List.length lq) cq, .bool fc, .bool fe, .slice ar (List.length lr) cr, .slice av (List.length lv) cv, .bool bc, .bool be] 66, .vec ah ch 1 (bys lh) 5, .vec ap cp 1 (bys lp) 5, .vec aq cq 1 (bys lq) 5, .vec ar cr 1 (bys lr) 5, .vec av cv 1 (bys lv) 5, .box bk1 [.slice none 0 0, .slice none 0 0, .slice none 0 0, .bool false, .bool false, .slice none 0 0, .slice none 0 0, .bool false, .bool false] 26]) Hv393.heap [0, 1, 2, 3, 4, 5, 6] (by kernel_rfl) (by decide) he400)
        clear hM395 he400
        exact any_to hG (by kernel_rfl) (nd318 _ _ aoq394 coq394 (En398.sub (by kernel_rfl)) (Hv399.pick [0, 1, 2, 3, 4, 5, 6, 7] (by kernel_rfl) (by decide)))
      · rintro _ rfl
        refine op_loadaggbox (d := some 13) (t := 24) (b := b) (off := 5) (k := 0) (m := 4) (xs := [.slice ap (List.length lp) cp, .slice aq (List.length lq) cq, .bool fc, .bool fe]) En392 (by kernel_rfl) Hv393 rfl rfl rfl (by kernel_rfl) (by kernel_rfl) ?_
        intro ac401 En402
        exact any_to hG (by kernel_rfl) (nd327 _ _ (En402.sub (by kernel_rfl)) (Hv393.pick [0, 1, 2, 3, 4, 5, 6] (by kernel_rfl) (by decide)))
      · rintro _ rfl
        refine op_loadaggbox (d := some 19) (t := 24) (b := b) (off := 9) (k := 0) (m := 4) (xs := [.slice ar (List.length lr) cr, .slice av (List.length lv) cv, .bool bc, .bool be]) En392 (by kernel_rfl) Hv393 rfl rfl rfl (by kernel_rfl) (by kernel_rfl) ?_
        intro ac403 En404
        exact any_to hG (by kernel_rfl) (nd341 _ _ (En404.sub (by kernel_rfl)) (Hv393.pick [0, 1, 2, 3, 4, 5, 6] (by kernel_rfl) (by decide)))
    have nd405 : ∀ (ac : Act) (wo : World), Env ac 22 [(2, .pointer (some ⟨bk1, 0, none⟩)), (6, .pointer (some ⟨b, 4, none⟩)), (13, .agg #[.slice ap (List.length lp) cp, .slice aq (List.length lq) cq, .bool fc, .bool fe]), (18, .pointer (some ⟨b, 9, none⟩))] → Ev w [.box b [.slice au (List.length lu) cu, .bool fc, .slice ad (List.length ld) cd, .bool bc, .slice ah (List.length lh) ch, .slice ap (List.length lp) cp, .slice aq (List.length lq) cq, .bool fc, .bool fe, .slice ar (List.length lr) cr, .slice av (List.length lv) cv, .bool bc, .bool be] 66, .vec ah ch 1 (bys lh) 5, .vec ap cp 1 (bys lp) 5, .vec aq cq 1 (bys lq) 5, .vec ar cr 1 (bys lr) 5, .vec av cv 1 (bys lv) 5] wo [.box b [.slice au (List.length lu) cu, .bool fc, .slice ad (List.length ld) cd, .bool bc, .slice ah (List.length lh) ch, .slice ap (List.length lp) cp, .slice aq (List.length lq) cq, .bool fc, .bool fe, .slice ar (List.length lr) cr, .slice av (List.length lv) cv, .bool bc, .bool be] 66, .vec ah ch 1 (bys lh) 5, .vec ap cp 1 (bys lp) 5, .vec aq cq 1 (bys lq) 5, .vec ar cr 1 (bys lr) 5, .vec av cv 1 (bys lv) 5, .box bk1 [.slice none 0 0, .slice none 0 0, .slice none 0 0, .bool false, .bool false, .slice none 0 0, .slice none 0 0, .bool false, .bool false] 26] → G 7 #[true, true, true, true, false, false, true, true, true, true, true, false, true, true, true, true, false, false, false, false] ac wo := by
      intro ac406 wo407 En408 Hv409
      refine any_from hG ?_
      refine any_two 4 16 (by kernel_rfl) ?_ ?_
      · rintro _ rfl
        refine op_loadbox (d := some 7) (t := 22) (b := b) (off := 4) (k := 0) (v := .slice ah (List.length lh) ch) En408 (by kernel_rfl) Hv409 rfl rfl (by kernel_rfl) ?_
        intro ac410 En411
        exact any_to hG (by kernel_rfl) (nd327 _ _ (En411.sub (by kernel_rfl)) (Hv409.pick [0, 1, 2, 3, 4, 5, 6] (by kernel_rfl) (by decide)))
      · rintro _ rfl
        refine op_loadaggbox (d := some 19) (t := 24) (b := b) (off := 9) (k := 0) (m := 4) (xs := [.slice ar (List.length lr) cr, .slice av (List.length lv) cv, .bool bc, .bool be]) En408 (by kernel_rfl) Hv409 rfl rfl rfl (by kernel_rfl) (by kernel_rfl) ?_
        intro ac412 En413
        exact any_to hG (by kernel_rfl) (nd355 _ _ (En413.sub (by kernel_rfl)) (Hv409.pick [0, 1, 2, 3, 4, 5, 6] (by kernel_rfl) (by decide)))
    have nd414 : ∀ (ac : Act) (wo : World), Env ac 22 [(2, .pointer (some ⟨bk1, 0, none⟩)), (6, .pointer (some ⟨b, 4, none⟩)), (12, .pointer (some ⟨b, 5, none⟩)), (19, .agg #[.slice ar (List.length lr) cr, .slice av (List.length lv) cv, .bool bc, .bool be])] → Ev w [.box b [.slice au (List.length lu) cu, .bool fc, .slice ad (List.length ld) cd, .bool bc, .slice ah (List.length lh) ch, .slice ap (List.length lp) cp, .slice aq (List.length lq) cq, .bool fc, .bool fe, .slice ar (List.length lr) cr, .slice av (List.length lv) cv, .bool bc, .bool be] 66, .vec ah ch 1 (bys lh) 5, .vec ap cp 1 (bys lp) 5, .vec aq cq 1 (bys lq) 5, .vec ar cr 1 (bys lr) 5, .vec av cv 1 (bys lv) 5] wo [.box b [.slice au (List.length lu) cu, .bool fc, .slice ad (List.length ld) cd, .bool bc, .slice ah (List.length lh) ch, .slice ap (List.length lp) cp, .slice aq (List.length lq) cq, .bool fc, .bool fe, .slice ar (List.length lr) cr, .slice av (List.length lv) cv, .bool bc, .bool be] 66, .vec ah ch 1 (bys lh) 5, .vec ap cp 1 (bys lp) 5, .vec aq cq 1 (bys lq) 5, .vec ar cr 1 (bys lr) 5, .vec av cv 1 (bys lv) 5, .box bk1 [.slice none 0 0, .slice none 0 0, .slice none 0 0, .bool false, .bool false, .slice none 0 0, .slice none 0 0, .bool false, .bool false] 26] → G 7 #[true, true, true, true, false, false, true, true, true, true, false, false, true, true, true, true, true, false, false, false] ac wo := by
      intro ac415 wo416 En417 Hv418
      refine any_from hG ?_
      refine any_two 4 10 (by kernel_rfl) ?_ ?_
      · rintro _ rfl
        refine op_loadbox (d := some 7) (t := 22) (b := b) (off := 4) (k := 0) (v := .slice ah (List.length lh) ch) En417 (by kernel_rfl) Hv418 rfl rfl (by kernel_rfl) ?_
        intro ac419 En420
        exact any_to hG (by kernel_rfl) (nd341 _ _ (En420.sub (by kernel_rfl)) (Hv418.pick [0, 1, 2, 3, 4, 5, 6] (by kernel_rfl) (by decide)))
      · rintro _ rfl
        refine op_loadaggbox (d := some 13) (t := 24) (b := b) (off := 5) (k := 0) (m := 4) (xs := [.slice ap (List.length lp) cp, .slice aq (List.length lq) cq, .bool fc, .bool fe]) En417 (by kernel_rfl) Hv418 rfl rfl rfl (by kernel_rfl) (by kernel_rfl) ?_
        intro ac421 En422
        exact any_to hG (by kernel_rfl) (nd355 _ _ (En422.sub (by kernel_rfl)) (Hv418.pick [0, 1, 2, 3, 4, 5, 6] (by kernel_rfl) (by decide)))
    refine any_from hG ?_
    refine any_pureR (d := some 3) En4 (v := .pointer (some ⟨b, 0, none⟩)) 0 (by kernel_rfl) (by kernel_rfl) rfl ?_
    intro ac423 En424
    refine any_pureR (d := some 4) En424 (v := .pointer (some ⟨b, 0, none⟩)) 1 (by kernel_rfl) (by kernel_rfl) rfl ?_
    intro ac425 En426
    refine any_pureR (d := some 5) En426 (v := .pointer (some ⟨b, 4, none⟩)) 2 (by kernel_rfl) (by kernel_rfl) rfl ?_
    intro ac427 En428
    refine any_pureR (d := some 6) En428 (v := .pointer (some ⟨b, 4, none⟩)) 3 (by kernel_rfl) (by kernel_rfl) rfl ?_
    intro ac429 En430
    refine any_pureR (d := some 9) En430 (v := .pointer (some ⟨b, 0, none⟩)) 6 (by kernel_rfl) (by kernel_rfl) rfl ?_
    intro ac431 En432
    refine any_pureR (d := some 10) En432 (v := .pointer (some ⟨b, 0, none⟩)) 7 (by kernel_rfl) (by kernel_rfl) rfl ?_
    intro ac433 En434
    refine any_pureR (d := some 11) En434 (v := .pointer (some ⟨b, 4, none⟩)) 8 (by kernel_rfl) (by kernel_rfl) rfl ?_
    intro ac435 En436
    refine any_pureR (d := some 12) En436 (v := .pointer (some ⟨b, 5, none⟩)) 9 (by kernel_rfl) (by kernel_rfl) rfl ?_
    intro ac437 En438
    refine any_pureR (d := some 15) En438 (v := .pointer (some ⟨b, 0, none⟩)) 12 (by kernel_rfl) (by kernel_rfl) rfl ?_
    intro ac439 En440
    refine any_pureR (d := some 16) En440 (v := .pointer (some ⟨b, 0, none⟩)) 13 (by kernel_rfl) (by kernel_rfl) rfl ?_
    intro ac441 En442
    refine any_pureR (d := some 17) En442 (v := .pointer (some ⟨b, 4, none⟩)) 14 (by kernel_rfl) (by kernel_rfl) rfl ?_
    intro ac443 En444
    refine any_pureR (d := some 18) En444 (v := .pointer (some ⟨b, 9, none⟩)) 15 (by kernel_rfl) (by kernel_rfl) rfl ?_
    intro ac445 En446
    refine any_ways [4, 10, 16] (by kernel_rfl) rfl ?_
    refine ⟨?_, ?_, ?_, trivial⟩
    · rintro _ rfl
      refine op_loadbox (d := some 7) (t := 22) (b := b) (off := 4) (k := 0) (v := .slice ah (List.length lh) ch) En446 (by kernel_rfl) wo6 rfl rfl (by kernel_rfl) ?_
      intro ac447 En448
      exact any_to hG (by kernel_rfl) (nd389 _ _ (En448.sub (by kernel_rfl)) (wo6.pick [0, 1, 2, 3, 4, 5, 6] (by kernel_rfl) (by decide)))
    · rintro _ rfl
      refine op_loadaggbox (d := some 13) (t := 24) (b := b) (off := 5) (k := 0) (m := 4) (xs := [.slice ap (List.length lp) cp, .slice aq (List.length lq) cq, .bool fc, .bool fe]) En446 (by kernel_rfl) wo6 rfl rfl rfl (by kernel_rfl) (by kernel_rfl) ?_
      intro ac449 En450
      exact any_to hG (by kernel_rfl) (nd405 _ _ (En450.sub (by kernel_rfl)) (wo6.pick [0, 1, 2, 3, 4, 5, 6] (by kernel_rfl) (by decide)))
    · rintro _ rfl
      refine op_loadaggbox (d := some 19) (t := 24) (b := b) (off := 9) (k := 0) (m := 4) (xs := [.slice ar (List.length lr) cr, .slice av (List.length lv) cv, .bool bc, .bool be]) En446 (by kernel_rfl) wo6 rfl rfl rfl (by kernel_rfl) (by kernel_rfl) ?_
      intro ac451 En452
      exact any_to hG (by kernel_rfl) (nd414 _ _ (En452.sub (by kernel_rfl)) (wo6.pick [0, 1, 2, 3, 4, 5, 6] (by kernel_rfl) (by decide)))
  rintro ac453 wo454 ⟨aoq33, coq33, apq42, cpq42, aqq42, cqq42, apq51, cpq51, aqq51, cqq51, En455, Hv456⟩
  refine then_normal ?_
  refine wp_ret ?_
  refine d_cell1 (v := .agg #[.slice aoq33 (List.length lh) coq33, .slice apq42 (List.length lp) cpq42, .slice aqq42 (List.length lq) cqq42, .bool fc, .bool fe, .slice apq51 (List.length lr) cpq51, .slice aqq51 (List.length lv) cqq51, .bool bc, .bool be]) (t := 2) (T := 26) (ad := ⟨bk1, 0, none⟩) En455 (by kernel_rfl) (by kernel_rfl) (Ev.cellAgg (t := 26) (k := 11) (off := 0) (m := 9) (xs := [.slice aoq33 (List.length lh) coq33, .slice apq42 (List.length lp) cpq42, .slice aqq42 (List.length lq) cqq42, .bool fc, .bool fe, .slice apq51 (List.length lr) cpq51, .slice aqq51 (List.length lv) cqq51, .bool bc, .bool be]) Hv456 rfl rfl rfl (by kernel_rfl) (by kernel_rfl)) ?_
  exact ⟨aoq33, apq42, aqq42, apq51, aqq51, coq33, cpq42, cqq42, cpq51, cqq51, rfl, Hv456.pick [5, 6, 7, 8, 9, 10, 4, 2, 3, 0, 1] (by kernel_rfl) (by decide)⟩

theorem same_end (w : World) (aw : Option Addr) (nw cw : Nat) (lw : List UInt8) (ew : nw = List.length lw) (iw : InB w [] aw cw lw) (ar : Option Addr) (nr cr : Nat) (lr : List UInt8) (er : nr = List.length lr) (ir : InB w [] ar cr lr) (k e : Bool) (ax : Option Addr) (nx cx : Nat) (lx : List UInt8) (ex : nx = List.length lx) (ix : InB w [] ax cx lx) (ay : Option Addr) (ny cy : Nat) (ly : List UInt8) (ey : ny = List.length ly) (iy : InB w [] ay cy ly) (m n : Bool) : Calls Try.prog 40 #[.agg #[.slice aw nw cw, .slice ar nr cr, .bool k, .bool e], .agg #[.slice ax nx cx, .slice ay ny cy, .bool m, .bool n]] w fun e' w' => e' = .returned (.bool (lw == lx && (lr == ly && (k == m && e == n)))) ∧ Ev w [] w' [] := by
  subst ew er
  subst ex ey
  refine d_start [(0, .agg #[.slice aw (List.length lw) cw, .slice ar (List.length lr) cr, .bool k, .bool e]), (1, .agg #[.slice ax (List.length lx) cx, .slice ay (List.length ly) cy, .bool m, .bool n])] 35 Go.Proofs.Try.func40 Go.Proofs.Try.ntmps40 rfl (by kernel_rfl) (by kernel_rfl) ?_
  intro act0 En0
  have Hv0 : Ev w [] w [] := Ev.refl (Heap.nil _)
  refine wp_seq ?_
  refine region_from ?_  -- region 0
  refine from_op (by kernel_rfl) ?_
  refine op_newbox (d := some 2) (T := 24) (v := .agg #[.slice aw (List.length lw) cw, .slice ar (List.length lr) cr, .bool k, .bool e]) (cs := [.slice aw (List.length lw) cw, .slice ar (List.length lr) cr, .bool k, .bool e]) En0 (by kernel_rfl) rfl Hv0 ?_
  intro ac2 wo3 bk1 En4 Hv5
  refine from_op (by kernel_rfl) ?_
  refine op_newbox (d := some 3) (T := 24) (v := .agg #[.slice ax (List.length lx) cx, .slice ay (List.length ly) cy, .bool m, .bool n]) (cs := [.slice ax (List.length lx) cx, .slice ay (List.length ly) cy, .bool m, .bool n]) En4 (by kernel_rfl) rfl Hv5 ?_
  intro ac7 wo8 bk6 En9 Hv10
  refine d_pures [(2, .pointer (some ⟨bk1, 0, none⟩)), (3, .pointer (some ⟨bk6, 0, none⟩)), (4, .bool false)] [.bool false] 3 En9 (by kernel_rfl) (by kernel_rfl) rfl ?_
  intro ac11 En12
  refine from_end (by kernel_rfl) ?_
  refine then_normal ?_
  refine wp_seq ?_
  refine region_from ?_  -- region 1
  refine d_pures [(2, .pointer (some ⟨bk1, 0, none⟩)), (3, .pointer (some ⟨bk6, 0, none⟩)), (4, .bool false), (5, .pointer (some ⟨bk1, 0, none⟩))] [.pointer (some ⟨bk1, 0, none⟩)] 1 En12 (by kernel_rfl) (by kernel_rfl) rfl ?_
  intro ac13 En14
  refine from_op (by kernel_rfl) ?_
  refine op_loadbox (d := some 6) (t := 22) (b := bk1) (off := 0) (k := 0) (v := .slice aw (List.length lw) cw) En14 (by kernel_rfl) Hv10 rfl rfl (by kernel_rfl) ?_
  intro ac15 En16
  refine from_op (by kernel_rfl) ?_
  refine op_str (d := some 7) (src := 22) (dst := 9) (e := 5) (ao := aw) (cap := cw) (p := List.length lw) (bs := lw) En16 (by kernel_rfl) rfl (by kernel_rfl) (by kernel_rfl) (by kernel_rfl) (iw.ev Hv10).reads iw.nz ?_
  intro ac17 En18
  refine d_pures [(2, .pointer (some ⟨bk1, 0, none⟩)), (3, .pointer (some ⟨bk6, 0, none⟩)), (4, .bool false), (7, .string (bstr lw)), (8, .pointer (some ⟨bk6, 0, none⟩))] [.pointer (some ⟨bk6, 0, none⟩)] 4 En18 (by kernel_rfl) (by kernel_rfl) rfl ?_
  intro ac19 En20
  refine from_op (by kernel_rfl) ?_
  refine op_loadbox (d := some 9) (t := 22) (b := bk6) (off := 0) (k := 1) (v := .slice ax (List.length lx) cx) En20 (by kernel_rfl) Hv10 rfl rfl (by kernel_rfl) ?_
  intro ac21 En22
  refine from_op (by kernel_rfl) ?_
  refine op_str (d := some 10) (src := 22) (dst := 9) (e := 5) (ao := ax) (cap := cx) (p := List.length lx) (bs := lx) En22 (by kernel_rfl) rfl (by kernel_rfl) (by kernel_rfl) (by kernel_rfl) (ix.ev Hv10).reads ix.nz ?_
  intro ac23 En24
  refine d_pures [(2, .pointer (some ⟨bk1, 0, none⟩)), (3, .pointer (some ⟨bk6, 0, none⟩)), (4, .bool false), (11, .bool (ByteArray.toList (bstr lw) == ByteArray.toList (bstr lx)))] [.bool (ByteArray.toList (bstr lw) == ByteArray.toList (bstr lx))] 7 En24 (by kernel_rfl) (by kernel_rfl) rfl ?_
  intro ac25 En26
  rw [Go.Dbr.bstr_eq lw lx] at En26
  refine d_pures [(2, .pointer (some ⟨bk1, 0, none⟩)), (3, .pointer (some ⟨bk6, 0, none⟩)), (4, .bool false), (12, .bool (lw == lx))] [.bool (lw == lx)] 8 En26 (by kernel_rfl) (by kernel_rfl) rfl ?_
  intro ac27 En28
  rcases Bool.eq_false_or_eq_true (lw == lx) with hb29 | hb29
  · rw [hb29] at En28
    have hp30 : lw = lx := eq_of_beq hb29
    refine d_pures [(2, .pointer (some ⟨bk1, 0, none⟩)), (3, .pointer (some ⟨bk6, 0, none⟩)), (4, .bool false), (12, .bool true), (13, .pointer (some ⟨bk1, 1, none⟩))] [.pointer (some ⟨bk1, 1, none⟩)] 9 En28 (by kernel_rfl) (by kernel_rfl) rfl ?_
    intro ac31 En32
    refine from_op (by kernel_rfl) ?_
    refine op_loadbox (d := some 14) (t := 22) (b := bk1) (off := 1) (k := 0) (v := .slice ar (List.length lr) cr) En32 (by kernel_rfl) Hv10 rfl rfl (by kernel_rfl) ?_
    intro ac33 En34
    refine from_op (by kernel_rfl) ?_
    refine op_str (d := some 15) (src := 22) (dst := 9) (e := 5) (ao := ar) (cap := cr) (p := List.length lr) (bs := lr) En34 (by kernel_rfl) rfl (by kernel_rfl) (by kernel_rfl) (by kernel_rfl) (ir.ev Hv10).reads ir.nz ?_
    intro ac35 En36
    refine d_pures [(2, .pointer (some ⟨bk1, 0, none⟩)), (3, .pointer (some ⟨bk6, 0, none⟩)), (4, .bool false), (12, .bool true), (15, .string (bstr lr)), (16, .pointer (some ⟨bk6, 1, none⟩))] [.pointer (some ⟨bk6, 1, none⟩)] 12 En36 (by kernel_rfl) (by kernel_rfl) rfl ?_
    intro ac37 En38
    refine from_op (by kernel_rfl) ?_
    refine op_loadbox (d := some 17) (t := 22) (b := bk6) (off := 1) (k := 1) (v := .slice ay (List.length ly) cy) En38 (by kernel_rfl) Hv10 rfl rfl (by kernel_rfl) ?_
    intro ac39 En40
    refine from_op (by kernel_rfl) ?_
    refine op_str (d := some 18) (src := 22) (dst := 9) (e := 5) (ao := ay) (cap := cy) (p := List.length ly) (bs := ly) En40 (by kernel_rfl) rfl (by kernel_rfl) (by kernel_rfl) (by kernel_rfl) (iy.ev Hv10).reads iy.nz ?_
    intro ac41 En42
    refine d_pures [(2, .pointer (some ⟨bk1, 0, none⟩)), (3, .pointer (some ⟨bk6, 0, none⟩)), (4, .bool false), (12, .bool true), (19, .bool (ByteArray.toList (bstr lr) == ByteArray.toList (bstr ly)))] [.bool (ByteArray.toList (bstr lr) == ByteArray.toList (bstr ly))] 15 En42 (by kernel_rfl) (by kernel_rfl) rfl ?_
    intro ac43 En44
    rw [Go.Dbr.bstr_eq lr ly] at En44
    refine d_pures [(2, .pointer (some ⟨bk1, 0, none⟩)), (3, .pointer (some ⟨bk6, 0, none⟩)), (4, .bool false), (21, .bool (lr == ly))] [.bool (lr == ly), .bool (lr == ly)] 17 En44 (by kernel_rfl) (by kernel_rfl) rfl ?_
    intro ac45 En46
    rcases Bool.eq_false_or_eq_true (lr == ly) with hb47 | hb47
    · rw [hb47] at En46
      have hp48 : lr = ly := eq_of_beq hb47
      refine d_pures [(2, .pointer (some ⟨bk1, 0, none⟩)), (3, .pointer (some ⟨bk6, 0, none⟩)), (4, .bool false), (21, .bool true), (22, .pointer (some ⟨bk1, 2, none⟩))] [.pointer (some ⟨bk1, 2, none⟩)] 18 En46 (by kernel_rfl) (by kernel_rfl) rfl ?_
      intro ac49 En50
      refine from_op (by kernel_rfl) ?_
      refine op_loadbox (d := some 23) (t := 4) (b := bk1) (off := 2) (k := 0) (v := .bool k) En50 (by kernel_rfl) Hv10 rfl rfl (by kernel_rfl) ?_
      intro ac51 En52
      refine d_pures [(2, .pointer (some ⟨bk1, 0, none⟩)), (3, .pointer (some ⟨bk6, 0, none⟩)), (4, .bool false), (21, .bool true), (23, .bool k), (24, .pointer (some ⟨bk6, 2, none⟩))] [.pointer (some ⟨bk6, 2, none⟩)] 20 En52 (by kernel_rfl) (by kernel_rfl) rfl ?_
      intro ac53 En54
      refine from_op (by kernel_rfl) ?_
      refine op_loadbox (d := some 25) (t := 4) (b := bk6) (off := 2) (k := 1) (v := .bool m) En54 (by kernel_rfl) Hv10 rfl rfl (by kernel_rfl) ?_
      intro ac55 En56
      refine d_pures [(2, .pointer (some ⟨bk1, 0, none⟩)), (3, .pointer (some ⟨bk6, 0, none⟩)), (4, .bool false), (28, .bool (k == m))] [.bool (k == m), .bool (k == m), .bool (k == m)] 24 En56 (by kernel_rfl) (by kernel_rfl) rfl ?_
      intro ac57 En58
      rcases Bool.eq_false_or_eq_true (k == m) with hb59 | hb59
      · rw [hb59] at En58
        refine d_pures [(3, .pointer (some ⟨bk6, 0, none⟩)), (4, .bool false), (28, .bool true), (29, .pointer (some ⟨bk1, 3, none⟩))] [.pointer (some ⟨bk1, 3, none⟩)] 25 En58 (by kernel_rfl) (by kernel_rfl) rfl ?_
        intro ac60 En61
        refine from_op (by kernel_rfl) ?_
        refine op_loadbox (d := some 30) (t := 4) (b := bk1) (off := 3) (k := 0) (v := .bool e) En61 (by kernel_rfl) Hv10 rfl rfl (by kernel_rfl) ?_
        intro ac62 En63
        refine d_pures [(4, .bool false), (28, .bool true), (30, .bool e), (31, .pointer (some ⟨bk6, 3, none⟩))] [.pointer (some ⟨bk6, 3, none⟩)] 27 En63 (by kernel_rfl) (by kernel_rfl) rfl ?_
        intro ac64 En65
        refine from_op (by kernel_rfl) ?_
        refine op_loadbox (d := some 32) (t := 4) (b := bk6) (off := 3) (k := 1) (v := .bool n) En65 (by kernel_rfl) Hv10 rfl rfl (by kernel_rfl) ?_
        intro ac66 En67
        refine d_pures [(4, .bool (e == n))] [.bool (e == n), .bool (e == n), .bool (e == n)] 31 En67 (by kernel_rfl) (by kernel_rfl) rfl ?_
        intro ac68 En69
        refine from_end (by kernel_rfl) ?_
        refine then_normal ?_
        refine wp_ret ?_
        refine d_ret1 (t := 4) (v := .bool (e == n)) En69 (by kernel_rfl) (by kernel_rfl) ?_
        have e1 : (e == n) = (lw == lx && (lr == ly && (k == m && e == n))) := by simp [hp30, hp48, hb59]
        exact ⟨congrArg (fun b => Ending.returned (.bool b)) e1, Hv10.pick [] (by kernel_rfl) (by decide)⟩
      · rw [hb59] at En58
        refine d_pures [(4, .bool false)] [undef, undef, undef, undef, undef, .bool false, .bool false] 31 En58 (by kernel_rfl) (by kernel_rfl) rfl ?_
        intro ac70 En71
        refine from_end (by kernel_rfl) ?_
        refine then_normal ?_
        refine wp_ret ?_
        refine d_ret1 (t := 4) (v := .bool false) En71 (by kernel_rfl) (by kernel_rfl) ?_
        have e1 : (false) = (lw == lx && (lr == ly && (k == m && e == n))) := by simp [hp30, hp48, hb59]
        exact ⟨congrArg (fun b => Ending.returned (.bool b)) e1, Hv10.pick [] (by kernel_rfl) (by decide)⟩
    · rw [hb47] at En46
      have hp72 : ¬ (lr = ly) := ne_of_beq_false hb47
      refine d_pures [(4, .bool false)] [undef, undef, undef, undef, undef, .bool false, .bool false, undef, undef, undef, undef, undef, .bool false, .bool false] 31 En46 (by kernel_rfl) (by kernel_rfl) rfl ?_
      intro ac73 En74
      refine from_end (by kernel_rfl) ?_
      refine then_normal ?_
      refine wp_ret ?_
      refine d_ret1 (t := 4) (v := .bool false) En74 (by kernel_rfl) (by kernel_rfl) ?_
      have e1 : (false) = (lw == lx && (lr == ly && (k == m && e == n))) := by simp [hp30, hp72]
      exact ⟨congrArg (fun b => Ending.returned (.bool b)) e1, Hv10.pick [] (by kernel_rfl) (by decide)⟩
  · rw [hb29] at En28
    have hp75 : ¬ (lw = lx) := ne_of_beq_false hb29
    refine d_pures [(4, .bool false)] [undef, undef, undef, undef, undef, undef, undef, .bool false, .bool false, undef, undef, undef, undef, undef, .bool false, .bool false, undef, undef, undef, undef, undef, .bool false, .bool false] 31 En28 (by kernel_rfl) (by kernel_rfl) rfl ?_
    intro ac76 En77
    refine from_end (by kernel_rfl) ?_
    refine then_normal ?_
    refine wp_ret ?_
    refine d_ret1 (t := 4) (v := .bool false) En77 (by kernel_rfl) (by kernel_rfl) ?_
    have e1 : (false) = (lw == lx && (lr == ly && (k == m && e == n))) := by simp [hp75]
    exact ⟨congrArg (fun b => Ending.returned (.bool b)) e1, Hv10.pick [] (by kernel_rfl) (by decide)⟩

theorem same_ref (w : World) (ah1 : Option Addr) (nh1 ch1 : Nat) (lh1 : List UInt8) (eh1 : nh1 = List.length lh1) (ih1 : InB w [] ah1 ch1 lh1) (ap1 : Option Addr) (np1 cp1 : Nat) (lp1 : List UInt8) (ep1 : np1 = List.length lp1) (ip1 : InB w [] ap1 cp1 lp1) (aq1 : Option Addr) (nq1 cq1 : Nat) (lq1 : List UInt8) (eq1 : nq1 = List.length lq1) (iq1 : InB w [] aq1 cq1 lq1) (fc1 : Bool) (fe1 : Bool) (ar1 : Option Addr) (nr1 cr1 : Nat) (lr1 : List UInt8) (er1 : nr1 = List.length lr1) (ir1 : InB w [] ar1 cr1 lr1) (av1 : Option Addr) (nv1 cv1 : Nat) (lv1 : List UInt8) (ev1 : nv1 = List.length lv1) (iv1 : InB w [] av1 cv1 lv1) (bc1 : Bool) (be1 : Bool) (ah2 : Option Addr) (nh2 ch2 : Nat) (lh2 : List UInt8) (eh2 : nh2 = List.length lh2) (ih2 : InB w [] ah2 ch2 lh2) (ap2 : Option Addr) (np2 cp2 : Nat) (lp2 : List UInt8) (ep2 : np2 = List.length lp2) (ip2 : InB w [] ap2 cp2 lp2) (aq2 : Option Addr) (nq2 cq2 : Nat) (lq2 : List UInt8) (eq2 : nq2 = List.length lq2) (iq2 : InB w [] aq2 cq2 lq2) (fc2 : Bool) (fe2 : Bool) (ar2 : Option Addr) (nr2 cr2 : Nat) (lr2 : List UInt8) (er2 : nr2 = List.length lr2) (ir2 : InB w [] ar2 cr2 lr2) (av2 : Option Addr) (nv2 cv2 : Nat) (lv2 : List UInt8) (ev2 : nv2 = List.length lv2) (iv2 : InB w [] av2 cv2 lv2) (bc2 : Bool) (be2 : Bool) : Calls Try.prog 25 #[.agg #[.slice ah1 nh1 ch1, .slice ap1 np1 cp1, .slice aq1 nq1 cq1, .bool fc1, .bool fe1, .slice ar1 nr1 cr1, .slice av1 nv1 cv1, .bool bc1, .bool be1], .agg #[.slice ah2 nh2 ch2, .slice ap2 np2 cp2, .slice aq2 nq2 cq2, .bool fc2, .bool fe2, .slice ar2 nr2 cr2, .slice av2 nv2 cv2, .bool bc2, .bool be2]] w fun e' w' => e' = .returned (.bool ((lp1 == lp2 && (lq1 == lq2 && (fc1 == fc2 && fe1 == fe2))) && ((lr1 == lr2 && (lv1 == lv2 && (bc1 == bc2 && be1 == be2))) && lh1 == lh2))) ∧ Ev w [] w' [] := by
  subst eh1 ep1 eq1 er1 ev1 eh2 ep2 eq2 er2 ev2
  refine d_start [(0, .agg #[.slice ah1 (List.length lh1) ch1, .slice ap1 (List.length lp1) cp1, .slice aq1 (List.length lq1) cq1, .bool fc1, .bool fe1, .slice ar1 (List.length lr1) cr1, .slice av1 (List.length lv1) cv1, .bool bc1, .bool be1]), (1, .agg #[.slice ah2 (List.length lh2) ch2, .slice ap2 (List.length lp2) cp2, .slice aq2 (List.length lq2) cq2, .bool fc2, .bool fe2, .slice ar2 (List.length lr2) cr2, .slice av2 (List.length lv2) cv2, .bool bc2, .bool be2])] 30 Go.Proofs.Try.func25 Go.Proofs.Try.ntmps25 rfl (by kernel_rfl) (by kernel_rfl) ?_
  intro act0 En0
  have Hv0 : Ev w [] w [] := Ev.refl (Heap.nil _)
  refine wp_seq ?_
  refine region_from ?_  -- region 0
  refine from_op (by kernel_rfl) ?_
  refine op_newbox (d := some 2) (T := 26) (v := .agg #[.slice ah1 (List.length lh1) ch1, .slice ap1 (List.length lp1) cp1, .slice aq1 (List.length lq1) cq1, .bool fc1, .bool fe1, .slice ar1 (List.length lr1) cr1, .slice av1 (List.length lv1) cv1, .bool bc1, .bool be1]) (cs := [.slice ah1 (List.length lh1) ch1, .slice ap1 (List.length lp1) cp1, .slice aq1 (List.length lq1) cq1, .bool fc1, .bool fe1, .slice ar1 (List.length lr1) cr1, .slice av1 (List.length lv1) cv1, .bool bc1, .bool be1]) En0 (by kernel_rfl) rfl Hv0 ?_
  intro ac2 wo3 bk1 En4 Hv5
  refine from_op (by kernel_rfl) ?_
  refine op_newbox (d := some 3) (T := 26) (v := .agg #[.slice ah2 (List.length lh2) ch2, .slice ap2 (List.length lp2) cp2, .slice aq2 (List.length lq2) cq2, .bool fc2, .bool fe2, .slice ar2 (List.length lr2) cr2, .slice av2 (List.length lv2) cv2, .bool bc2, .bool be2]) (cs := [.slice ah2 (List.length lh2) ch2, .slice ap2 (List.length lp2) cp2, .slice aq2 (List.length lq2) cq2, .bool fc2, .bool fe2, .slice ar2 (List.length lr2) cr2, .slice av2 (List.length lv2) cv2, .bool bc2, .bool be2]) En4 (by kernel_rfl) rfl Hv5 ?_
  intro ac7 wo8 bk6 En9 Hv10
  refine d_pures [(2, .pointer (some ⟨bk1, 0, none⟩)), (3, .pointer (some ⟨bk6, 0, none⟩)), (4, .bool false)] [.bool false] 3 En9 (by kernel_rfl) (by kernel_rfl) rfl ?_
  intro ac11 En12
  refine from_end (by kernel_rfl) ?_
  refine then_normal ?_
  refine wp_seq ?_
  refine region_from ?_  -- region 1
  refine d_pures [(2, .pointer (some ⟨bk1, 0, none⟩)), (3, .pointer (some ⟨bk6, 0, none⟩)), (4, .bool false), (7, .pointer (some ⟨bk1, 1, none⟩))] [.pointer (some ⟨bk1, 1, none⟩)] 1 En12 (by kernel_rfl) (by kernel_rfl) rfl ?_
  intro ac13 En14
  refine from_op (by kernel_rfl) ?_
  refine op_loadaggbox (d := some 8) (t := 24) (b := bk1) (off := 1) (k := 0) (m := 4) (xs := [.slice ap1 (List.length lp1) cp1, .slice aq1 (List.length lq1) cq1, .bool fc1, .bool fe1]) En14 (by kernel_rfl) Hv10 rfl rfl rfl (by kernel_rfl) (by kernel_rfl) ?_
  intro ac15 En16
  refine d_pures [(2, .pointer (some ⟨bk1, 0, none⟩)), (3, .pointer (some ⟨bk6, 0, none⟩)), (4, .bool false), (8, .agg #[.slice ap1 (List.length lp1) cp1, .slice aq1 (List.length lq1) cq1, .bool fc1, .bool fe1]), (9, .pointer (some ⟨bk6, 1, none⟩))] [.pointer (some ⟨bk6, 1, none⟩)] 3 En16 (by kernel_rfl) (by kernel_rfl) rfl ?_
  intro ac17 En18
  refine from_op (by kernel_rfl) ?_
  refine op_loadaggbox (d := some 10) (t := 24) (b := bk6) (off := 1) (k := 1) (m := 4) (xs := [.slice ap2 (List.length lp2) cp2, .slice aq2 (List.length lq2) cq2, .bool fc2, .bool fe2]) En18 (by kernel_rfl) Hv10 rfl rfl rfl (by kernel_rfl) (by kernel_rfl) ?_
  intro ac19 En20
  refine from_op (by kernel_rfl) ?_
  have hM21 : Heap wo8 [] := Hv10.heap.pick [] (by kernel_rfl) (by decide)
  refine op_call (d := some 11) (f := 40) (args := #[.agg #[.slice ap1 (List.length lp1) cp1, .slice aq1 (List.length lq1) cq1, .bool fc1, .bool fe1], .agg #[.slice ap2 (List.length lp2) cp2, .slice aq2 (List.length lq2) cq2, .bool fc2, .bool fe2]]) En20 (by kernel_rfl) ((same_end _ ap1 (List.length lp1) cp1 lp1 (by first | rfl | (simp; done) | (simp; omega) | omega) ((ip1.ev Hv10).pick [] (by kernel_rfl)) aq1 (List.length lq1) cq1 lq1 (by first | rfl | (simp; done) | (simp; omega) | omega) ((iq1.ev Hv10).pick [] (by kernel_rfl)) fc1 fe1 ap2 (List.length lp2) cp2 lp2 (by first | rfl | (simp; done) | (simp; omega) | omega) ((ip2.ev Hv10).pick [] (by kernel_rfl)) aq2 (List.length lq2) cq2 lq2 (by first | rfl | (simp; done) | (simp; omega) | omega) ((iq2.ev Hv10).pick [] (by kernel_rfl)) fc2 fe2).mono ?_)
  rintro _ wo23 ⟨rfl, he26⟩
  refine ⟨_, rfl, ?_⟩
  intro ac22 En24
  have Hv25 : Ev w [] wo23 [.box bk1 [.slice ah1 (List.length lh1) ch1, .slice ap1 (List.length lp1) cp1, .slice aq1 (List.length lq1) cq1, .bool fc1, .bool fe1, .slice ar1 (List.length lr1) cr1, .slice av1 (List.length lv1) cv1, .bool bc1, .bool be1] 26, .box bk6 [.slice ah2 (List.length lh2) ch2, .slice ap2 (List.length lp2) cp2, .slice aq2 (List.length lq2) cq2, .bool fc2, .bool fe2, .slice ar2 (List.length lr2) cr2, .slice av2 (List.length lv2) cv2, .bool bc2, .bool be2] 26] := Hv10.trans (Ev.call (R := [.box bk1 [.slice ah1 (List.length lh1) ch1, .slice ap1 (List.length lp1) cp1, .slice aq1 (List.length lq1) cq1, .bool fc1, .bool fe1, .slice ar1 (List.length lr1) cr1, .slice av1 (List.length lv1) cv1, .bool bc1, .bool be1] 26, .box bk6 [.slice ah2 (List.length lh2) ch2, .slice ap2 (List.length lp2) cp2, .slice aq2 (List.length lq2) cq2, .bool fc2, .bool fe2, .slice ar2 (List.length lr2) cr2, .slice av2 (List.length lv2) cv2, .bool bc2, .bool be2] 26]) Hv10.heap [0, 1] (by kernel_rfl) (by decide) he26)
  clear hM21 he26
  refine d_pures [(2, .pointer (some ⟨bk1, 0, none⟩)), (3, .pointer (some ⟨bk6, 0, none⟩)), (4, .bool false), (5, .bool (lp1 == lp2 && (lq1 == lq2 && (fc1 == fc2 && fe1 == fe2))))] [.bool (lp1 == lp2 && (lq1 == lq2 && (fc1 == fc2 && fe1 == fe2)))] 6 En24 (by kernel_rfl) (by kernel_rfl) rfl ?_
  intro ac27 En28
  refine from_end (by kernel_rfl) ?_
  refine then_normal ?_
  refine wp_seq ?_
  refine region_from ?_  -- region 2
  refine d_pures [(2, .pointer (some ⟨bk1, 0, none⟩)), (3, .pointer (some ⟨bk6, 0, none⟩)), (4, .bool false), (5, .bool (lp1 == lp2 && (lq1 == lq2 && (fc1 == fc2 && fe1 == fe2)))), (12, .pointer (some ⟨bk1, 5, none⟩))] [.pointer (some ⟨bk1, 5, none⟩)] 1 En28 (by kernel_rfl) (by kernel_rfl) rfl ?_
  intro ac29 En30
  refine from_op (by kernel_rfl) ?_
  refine op_loadaggbox (d := some 13) (t := 24) (b := bk1) (off := 5) (k := 0) (m := 4) (xs := [.slice ar1 (List.length lr1) cr1, .slice av1 (List.length lv1) cv1, .bool bc1, .bool be1]) En30 (by kernel_rfl) Hv25 rfl rfl rfl (by kernel_rfl) (by kernel_rfl) ?_
  intro ac31 En32
  refine d_pures [(2, .pointer (some ⟨bk1, 0, none⟩)), (3, .pointer (some ⟨bk6, 0, none⟩)), (4, .bool false), (5, .bool (lp1 == lp2 && (lq1 == lq2 && (fc1 == fc2 && fe1 == fe2)))), (13, .agg #[.slice ar1 (List.length lr1) cr1, .slice av1 (List.length lv1) cv1, .bool bc1, .bool be1]), (14, .pointer (some ⟨bk6, 5, none⟩))] [.pointer (some ⟨bk6, 5, none⟩)] 3 En32 (by kernel_rfl) (by kernel_rfl) rfl ?_
  intro ac33 En34
  refine from_op (by kernel_rfl) ?_
  refine op_loadaggbox (d := some 15) (t := 24) (b := bk6) (off := 5) (k := 1) (m := 4) (xs := [.slice ar2 (List.length lr2) cr2, .slice av2 (List.length lv2) cv2, .bool bc2, .bool be2]) En34 (by kernel_rfl) Hv25 rfl rfl rfl (by kernel_rfl) (by kernel_rfl) ?_
  intro ac35 En36
  refine from_op (by kernel_rfl) ?_
  have hM37 : Heap wo23 [] := Hv25.heap.pick [] (by kernel_rfl) (by decide)
  refine op_call (d := some 16) (f := 40) (args := #[.agg #[.slice ar1 (List.length lr1) cr1, .slice av1 (List.length lv1) cv1, .bool bc1, .bool be1], .agg #[.slice ar2 (List.length lr2) cr2, .slice av2 (List.length lv2) cv2, .bool bc2, .bool be2]]) En36 (by kernel_rfl) ((same_end _ ar1 (List.length lr1) cr1 lr1 (by first | rfl | (simp; done) | (simp; omega) | omega) ((ir1.ev Hv25).pick [] (by kernel_rfl)) av1 (List.length lv1) cv1 lv1 (by first | rfl | (simp; done) | (simp; omega) | omega) ((iv1.ev Hv25).pick [] (by kernel_rfl)) bc1 be1 ar2 (List.length lr2) cr2 lr2 (by first | rfl | (simp; done) | (simp; omega) | omega) ((ir2.ev Hv25).pick [] (by kernel_rfl)) av2 (List.length lv2) cv2 lv2 (by first | rfl | (simp; done) | (simp; omega) | omega) ((iv2.ev Hv25).pick [] (by kernel_rfl)) bc2 be2).mono ?_)
  rintro _ wo39 ⟨rfl, he42⟩
  refine ⟨_, rfl, ?_⟩
  intro ac38 En40
  have Hv41 : Ev w [] wo39 [.box bk1 [.slice ah1 (List.length lh1) ch1, .slice ap1 (List.length lp1) cp1, .slice aq1 (List.length lq1) cq1, .bool fc1, .bool fe1, .slice ar1 (List.length lr1) cr1, .slice av1 (List.length lv1) cv1, .bool bc1, .bool be1] 26, .box bk6 [.slice ah2 (List.length lh2) ch2, .slice ap2 (List.length lp2) cp2, .slice aq2 (List.length lq2) cq2, .bool fc2, .bool fe2, .slice ar2 (List.length lr2) cr2, .slice av2 (List.length lv2) cv2, .bool bc2, .bool be2] 26] := Hv25.trans (Ev.call (R := [.box bk1 [.slice ah1 (List.length lh1) ch1, .slice ap1 (List.length lp1) cp1, .slice aq1 (List.length lq1) cq1, .bool fc1, .bool fe1, .slice ar1 (List.length lr1) cr1, .slice av1 (List.length lv1) cv1, .bool bc1, .bool be1] 26, .box bk6 [.slice ah2 (List.length lh2) ch2, .slice ap2 (List.length lp2) cp2, .slice aq2 (List.length lq2) cq2, .bool fc2, .bool fe2, .slice ar2 (List.length lr2) cr2, .slice av2 (List.length lv2) cv2, .bool bc2, .bool be2] 26]) Hv25.heap [0, 1] (by kernel_rfl) (by decide) he42)
  clear hM37 he42
  refine d_pures [(2, .pointer (some ⟨bk1, 0, none⟩)), (3, .pointer (some ⟨bk6, 0, none⟩)), (4, .bool false), (5, .bool (lp1 == lp2 && (lq1 == lq2 && (fc1 == fc2 && fe1 == fe2)))), (6, .bool (lr1 == lr2 && (lv1 == lv2 && (bc1 == bc2 && be1 == be2))))] [.bool (lr1 == lr2 && (lv1 == lv2 && (bc1 == bc2 && be1 == be2)))] 6 En40 (by kernel_rfl) (by kernel_rfl) rfl ?_
  intro ac43 En44
  refine from_end (by kernel_rfl) ?_
  refine then_normal ?_
  refine wp_seq ?_
  refine region_from ?_  -- region 3
  refine d_pures [(2, .pointer (some ⟨bk1, 0, none⟩)), (3, .pointer (some ⟨bk6, 0, none⟩)), (4, .bool false), (6, .bool (lr1 == lr2 && (lv1 == lv2 && (bc1 == bc2 && be1 == be2)))), (18, .bool (lp1 == lp2 && (lq1 == lq2 && (fc1 == fc2 && fe1 == fe2))))] [.bool (lp1 == lp2 && (lq1 == lq2 && (fc1 == fc2 && fe1 == fe2))), .bool (lp1 == lp2 && (lq1 == lq2 && (fc1 == fc2 && fe1 == fe2)))] 2 En44 (by kernel_rfl) (by kernel_rfl) rfl ?_
  intro ac45 En46
  rcases Bool.eq_false_or_eq_true (lp1 == lp2 && (lq1 == lq2 && (fc1 == fc2 && fe1 == fe2))) with hb47 | hb47
  · rw [hb47] at En46
    refine d_pures [(2, .pointer (some ⟨bk1, 0, none⟩)), (3, .pointer (some ⟨bk6, 0, none⟩)), (4, .bool false), (21, .bool (lr1 == lr2 && (lv1 == lv2 && (bc1 == bc2 && be1 == be2))))] [.bool (lr1 == lr2 && (lv1 == lv2 && (bc1 == bc2 && be1 == be2))), .bool (lr1 == lr2 && (lv1 == lv2 && (bc1 == bc2 && be1 == be2))), .bool (lr1 == lr2 && (lv1 == lv2 && (bc1 == bc2 && be1 == be2)))] 5 En46 (by kernel_rfl) (by kernel_rfl) rfl ?_
    intro ac48 En49
    rcases Bool.eq_false_or_eq_true (lr1 == lr2 && (lv1 == lv2 && (bc1 == bc2 && be1 == be2))) with hb50 | hb50
    · rw [hb50] at En49
      refine d_pures [(2, .pointer (some ⟨bk1, 0, none⟩)), (3, .pointer (some ⟨bk6, 0, none⟩)), (4, .bool false), (21, .bool true), (22, .pointer (some ⟨bk1, 0, none⟩))] [.pointer (some ⟨bk1, 0, none⟩)] 6 En49 (by kernel_rfl) (by kernel_rfl) rfl ?_
      intro ac51 En52
      refine from_op (by kernel_rfl) ?_
      refine op_loadbox (d := some 23) (t := 22) (b := bk1) (off := 0) (k := 0) (v := .slice ah1 (List.length lh1) ch1) En52 (by kernel_rfl) Hv41 rfl rfl (by kernel_rfl) ?_
      intro ac53 En54
      refine from_op (by kernel_rfl) ?_
      refine op_str (d := some 24) (src := 22) (dst := 9) (e := 5) (ao := ah1) (cap := ch1) (p := List.length lh1) (bs := lh1) En54 (by kernel_rfl) rfl (by kernel_rfl) (by kernel_rfl) (by kernel_rfl) (ih1.ev Hv41).reads ih1.nz ?_
      intro ac55 En56
      refine d_pures [(2, .pointer (some ⟨bk1, 0, none⟩)), (3, .pointer (some ⟨bk6, 0, none⟩)), (4, .bool false), (21, .bool true), (24, .string (bstr lh1)), (25, .pointer (some ⟨bk6, 0, none⟩))] [.pointer (some ⟨bk6, 0, none⟩)] 9 En56 (by kernel_rfl) (by kernel_rfl) rfl ?_
      intro ac57 En58
      refine from_op (by kernel_rfl) ?_
      refine op_loadbox (d := some 26) (t := 22) (b := bk6) (off := 0) (k := 1) (v := .slice ah2 (List.length lh2) ch2) En58 (by kernel_rfl) Hv41 rfl rfl (by kernel_rfl) ?_
      intro ac59 En60
      refine from_op (by kernel_rfl) ?_
      refine op_str (d := some 27) (src := 22) (dst := 9) (e := 5) (ao := ah2) (cap := ch2) (p := List.length lh2) (bs := lh2) En60 (by kernel_rfl) rfl (by kernel_rfl) (by kernel_rfl) (by kernel_rfl) (ih2.ev Hv41).reads ih2.nz ?_
      intro ac61 En62
      refine d_pures [(2, .pointer (some ⟨bk1, 0, none⟩)), (3, .pointer (some ⟨bk6, 0, none⟩)), (4, .bool false), (21, .bool true), (28, .bool (ByteArray.toList (bstr lh1) == ByteArray.toList (bstr lh2)))] [.bool (ByteArray.toList (bstr lh1) == ByteArray.toList (bstr lh2))] 12 En62 (by kernel_rfl) (by kernel_rfl) rfl ?_
      intro ac63 En64
      rw [Go.Dbr.bstr_eq lh1 lh2] at En64
      refine d_pures [(2, .pointer (some ⟨bk1, 0, none⟩)), (3, .pointer (some ⟨bk6, 0, none⟩)), (4, .bool (lh1 == lh2))] [.bool (lh1 == lh2), .bool (lh1 == lh2)] 14 En64 (by kernel_rfl) (by kernel_rfl) rfl ?_
      intro ac65 En66
      refine from_end (by kernel_rfl) ?_
      refine then_normal ?_
      refine wp_ret ?_
      refine d_ret1 (t := 4) (v := .bool (lh1 == lh2)) En66 (by kernel_rfl) (by kernel_rfl) ?_
      have e1 : (lh1 == lh2) = ((lp1 == lp2 && (lq1 == lq2 && (fc1 == fc2 && fe1 == fe2))) && ((lr1 == lr2 && (lv1 == lv2 && (bc1 == bc2 && be1 == be2))) && lh1 == lh2)) := by simp only [hb47, hb50, Bool.true_and, Bool.false_and, Bool.and_true, Bool.and_false]
      exact ⟨congrArg (fun b => Ending.returned (.bool b)) e1, Hv41.pick [] (by kernel_rfl) (by decide)⟩
    · rw [hb50] at En49
      refine d_pures [(2, .pointer (some ⟨bk1, 0, none⟩)), (3, .pointer (some ⟨bk6, 0, none⟩)), (4, .bool false)] [undef, undef, undef, undef, undef, undef, undef, .bool false, .bool false] 14 En49 (by kernel_rfl) (by kernel_rfl) rfl ?_
      intro ac67 En68
      refine from_end (by kernel_rfl) ?_
      refine then_normal ?_
      refine wp_ret ?_
      refine d_ret1 (t := 4) (v := .bool false) En68 (by kernel_rfl) (by kernel_rfl) ?_
      have e1 : (false) = ((lp1 == lp2 && (lq1 == lq2 && (fc1 == fc2 && fe1 == fe2))) && ((lr1 == lr2 && (lv1 == lv2 && (bc1 == bc2 && be1 == be2))) && lh1 == lh2)) := by simp only [hb47, hb50, Bool.true_and, Bool.false_and, Bool.and_true, Bool.and_false]
      exact ⟨congrArg (fun b => Ending.returned (.bool b)) e1, Hv41.pick [] (by kernel_rfl) (by decide)⟩
  · rw [hb47] at En46
    refine d_pures [(2, .pointer (some ⟨bk1, 0, none⟩)), (3, .pointer (some ⟨bk6, 0, none⟩)), (4, .bool false)] [undef, .bool false, .bool false, undef, undef, undef, undef, undef, undef, undef, .bool false, .bool false] 14 En46 (by kernel_rfl) (by kernel_rfl) rfl ?_
    intro ac69 En70
    refine from_end (by kernel_rfl) ?_
    refine then_normal ?_
    refine wp_ret ?_
    refine d_ret1 (t := 4) (v := .bool false) En70 (by kernel_rfl) (by kernel_rfl) ?_
    have e1 : (false) = ((lp1 == lp2 && (lq1 == lq2 && (fc1 == fc2 && fe1 == fe2))) && ((lr1 == lr2 && (lv1 == lv2 && (bc1 == bc2 && be1 == be2))) && lh1 == lh2)) := by simp only [hb47, Bool.true_and, Bool.false_and, Bool.and_true, Bool.and_false]
    exact ⟨congrArg (fun b => Ending.returned (.bool b)) e1, Hv41.pick [] (by kernel_rfl) (by decide)⟩

end Go.Proofs.Ytjecaljhipfbfaa
