/- Layer 24: walks of what looks at stories. -/
import Derived.Test.YtjecaljhipfbfaaJ1
namespace Go.Proofs.Ytjecaljhipfbfaa
open Go.Dbr
set_option maxRecDepth 100000
set_option linter.unusedVariables false
def relayF (h fw fr : List UInt8) (fc fe : Bool) (bw br : List UInt8) (bc be : Bool) : Int :=
  if begins br (h ++ fw) = false then 1 else if begins fr bw = false then 2
  else if be = true ∧ ¬ (fc = true ∧ br.length = (h ++ fw).length) then 3 else if fe = true ∧ ¬ (bc = true ∧ fr.length = bw.length) then 4 else 0

theorem concat_two (w : World) {n : Nat} {a : Option Addr} {c : Nat} {ls : List (Sl UInt8)} {l : List UInt8} (h : Calls Try.prog 42 #[.slice a n c] w fun e w' => ∃ ao co, e = .returned (.slice ao (List.length (List.flatMap (fun s : Sl UInt8 => s.l) ls)) co) ∧ Ev w [] w' [.vec ao co 1 (bys (List.flatMap (fun s : Sl UInt8 => s.l) ls)) 5]) (e : List.flatMap (fun s : Sl UInt8 => s.l) ls = l) : Calls Try.prog 42 #[.slice a n c] w fun e w' => ∃ ao co, e = .returned (.slice ao (List.length l) co) ∧ Ev w [] w' [.vec ao co 1 (bys l) 5] := by subst e; exact h

theorem whole_go (w : World) (ah : Option Addr) (nh ch : Nat) (lh : List UInt8) (eh : nh = List.length lh) (ih : InB w [] ah ch lh) (afw : Option Addr) (nfw cfw : Nat) (lfw : List UInt8) (efw : nfw = List.length lfw) (ifw : InB w [] afw cfw lfw) (afr : Option Addr) (nfr cfr : Nat) (lfr : List UInt8) (efr : nfr = List.length lfr) (ifr : InB w [] afr cfr lfr) (fc fe : Bool) (abw : Option Addr) (nbw cbw : Nat) (lbw : List UInt8) (ebw : nbw = List.length lbw) (ibw : InB w [] abw cbw lbw) (abr : Option Addr) (nbr cbr : Nat) (lbr : List UInt8) (ebr : nbr = List.length lbr) (ibr : InB w [] abr cbr lbr) (bc be : Bool) (hT : List.length lh + List.length lfw ≤ 140737488351232) : Calls Try.prog 28 #[.agg #[.slice ah nh ch, .slice afw nfw cfw, .slice afr nfr cfr, .bool fc, .bool fe, .slice abw nbw cbw, .slice abr nbr cbr, .bool bc, .bool be]] w fun e w' => ∃ ao co, e = .returned (.slice ao (List.length (lh ++ lfw)) co) ∧ Ev w [] w' [.vec ao co 1 (bys (lh ++ lfw)) 5] := by
  subst eh efw efr ebw ebr
  refine d_start [(0, .agg #[.slice ah (List.length lh) ch, .slice afw (List.length lfw) cfw, .slice afr (List.length lfr) cfr, .bool fc, .bool fe, .slice abw (List.length lbw) cbw, .slice abr (List.length lbr) cbr, .bool bc, .bool be])] 10 Go.Proofs.Try.func28 Go.Proofs.Try.ntmps28 rfl (by kernel_rfl) (by kernel_rfl) ?_
  intro act0 En0
  have Hv0 : Ev w [] w [] := Ev.refl (Heap.nil _)
  refine wp_seq ?_
  refine region_from ?_  -- region 0
  refine from_op (by kernel_rfl) ?_
  refine op_newbox (d := some 1) (T := 26) (v := .agg #[.slice ah (List.length lh) ch, .slice afw (List.length lfw) cfw, .slice afr (List.length lfr) cfr, .bool fc, .bool fe, .slice abw (List.length lbw) cbw, .slice abr (List.length lbr) cbr, .bool bc, .bool be]) (cs := [.slice ah (List.length lh) ch, .slice afw (List.length lfw) cfw, .slice afr (List.length lfr) cfr, .bool fc, .bool fe, .slice abw (List.length lbw) cbw, .slice abr (List.length lbr) cbr, .bool bc, .bool be]) En0 (by kernel_rfl) rfl Hv0 ?_
  intro ac2 wo3 bk1 En4 Hv5
  refine d_pures [(1, .pointer (some ⟨bk1, 0, none⟩)), (2, .slice none 0 0)] [.slice none 0 0] 2 En4 (by kernel_rfl) (by kernel_rfl) rfl ?_
  intro ac6 En7
  refine from_end (by kernel_rfl) ?_
  refine then_normal ?_
  refine wp_seq ?_
  refine region_from ?_  -- region 1
  refine d_pures [(1, .pointer (some ⟨bk1, 0, none⟩)), (2, .slice none 0 0), (3, .pointer (some ⟨bk1, 0, none⟩))] [.pointer (some ⟨bk1, 0, none⟩)] 1 En7 (by kernel_rfl) (by kernel_rfl) rfl ?_
  intro ac8 En9
  refine from_op (by kernel_rfl) ?_
  refine op_loadbox (d := some 4) (t := 22) (b := bk1) (off := 0) (k := 0) (v := .slice ah (List.length lh) ch) En9 (by kernel_rfl) Hv5 rfl rfl (by kernel_rfl) ?_
  intro ac10 En11
  refine d_pures [(2, .slice none 0 0), (4, .slice ah (List.length lh) ch), (6, .pointer (some ⟨bk1, 1, none⟩))] [.pointer (some ⟨bk1, 1, none⟩), .pointer (some ⟨bk1, 1, none⟩)] 4 En11 (by kernel_rfl) (by kernel_rfl) rfl ?_
  intro ac12 En13
  refine from_op (by kernel_rfl) ?_
  refine op_loadbox (d := some 7) (t := 22) (b := bk1) (off := 1) (k := 0) (v := .slice afw (List.length lfw) cfw) En13 (by kernel_rfl) Hv5 rfl rfl (by kernel_rfl) ?_
  intro ac14 En15
  refine from_op (by kernel_rfl) ?_
  refine op_lit (d := some 8) (t := 32) (T := 22) (m := 2) (parts := #[(0, .slice ah (List.length lh) ch), (1, .slice afw (List.length lfw) cfw)]) (xs := [.slice ah (List.length lh) ch, .slice afw (List.length lfw) cfw]) (sz := 1) En15 (by kernel_rfl) (by kernel_rfl) rfl (by decide) Hv5 ?_
  intro ac17 wo18 bk16 En19 Hv20
  refine from_op (by kernel_rfl) ?_
  have hM22 : Heap wo18 [] := Hv20.heap.pick [] (by kernel_rfl) (by decide)
  refine op_call (d := some 9) (f := 42) (args := #[.slice (some ⟨bk16, 0, none⟩) 2 2]) En19 (by kernel_rfl) ((concat_two _ (concat_go _ (some ⟨bk16, 0, none⟩) 2 2 ([⟨ah, ch, lh⟩, ⟨afw, cfw, lfw⟩] : List (Sl UInt8)) rfl ⟨Hv20.heap.ro (k := 1) rfl [] (by kernel_rfl) rfl, (fun e => by cases e), (by simp), (by simp), (List.forall_mem_cons.2 ⟨((ih.ev Hv20).pick [] (by kernel_rfl)), (List.forall_mem_cons.2 ⟨((ifw.ev Hv20).pick [] (by kernel_rfl)), (fun x h => absurd h List.not_mem_nil)⟩)⟩)⟩ (by simp; omega)) (l := lh ++ lfw) (by simp)).mono ?_)
  rintro _ wo24 ⟨aoq21, coq21, rfl, he27⟩
  refine ⟨_, rfl, ?_⟩
  intro ac23 En25
  have Hv26 : Ev w [] wo24 [.vec aoq21 coq21 1 (bys (lh ++ lfw)) 5, .box bk1 [.slice ah (List.length lh) ch, .slice afw (List.length lfw) cfw, .slice afr (List.length lfr) cfr, .bool fc, .bool fe, .slice abw (List.length lbw) cbw, .slice abr (List.length lbr) cbr, .bool bc, .bool be] 26, .vec (some ⟨bk16, 0, none⟩) 2 1 [.slice ah (List.length lh) ch, .slice afw (List.length lfw) cfw] 22] := Hv20.trans (Ev.call (R := [.box bk1 [.slice ah (List.length lh) ch, .slice afw (List.length lfw) cfw, .slice afr (List.length lfr) cfr, .bool fc, .bool fe, .slice abw (List.length lbw) cbw, .slice abr (List.length lbr) cbr, .bool bc, .bool be] 26, .vec (some ⟨bk16, 0, none⟩) 2 1 [.slice ah (List.length lh) ch, .slice afw (List.length lfw) cfw] 22]) Hv20.heap [0, 1] (by kernel_rfl) (by decide) he27)
  clear hM22 he27
  refine d_pures [(2, .slice aoq21 (List.length (lh ++ lfw)) coq21)] [.slice aoq21 (List.length (lh ++ lfw)) coq21] 8 En25 (by kernel_rfl) (by kernel_rfl) rfl ?_
  intro ac28 En29
  refine from_end (by kernel_rfl) ?_
  refine then_normal ?_
  refine wp_ret ?_
  refine d_ret1 (t := 2) (v := .slice aoq21 (List.length (lh ++ lfw)) coq21) En29 (by kernel_rfl) (by kernel_rfl) ?_
  exact ⟨aoq21, coq21, rfl, Hv26.pick [0] (by kernel_rfl) (by decide)⟩

theorem relay_go (w : World) (ah : Option Addr) (nh ch : Nat) (lh : List UInt8) (eh : nh = List.length lh) (ih : InB w [] ah ch lh) (afw : Option Addr) (nfw cfw : Nat) (lfw : List UInt8) (efw : nfw = List.length lfw) (ifw : InB w [] afw cfw lfw) (afr : Option Addr) (nfr cfr : Nat) (lfr : List UInt8) (efr : nfr = List.length lfr) (ifr : InB w [] afr cfr lfr) (fc fe : Bool) (abw : Option Addr) (nbw cbw : Nat) (lbw : List UInt8) (ebw : nbw = List.length lbw) (ibw : InB w [] abw cbw lbw) (abr : Option Addr) (nbr cbr : Nat) (lbr : List UInt8) (ebr : nbr = List.length lbr) (ibr : InB w [] abr cbr lbr) (bc be : Bool) (hT : List.length lh + List.length lfw ≤ 140737488351232) : Calls Try.prog 9 #[.agg #[.slice ah nh ch, .slice afw nfw cfw, .slice afr nfr cfr, .bool fc, .bool fe, .slice abw nbw cbw, .slice abr nbr cbr, .bool bc, .bool be]] w fun e w' => e = .returned (.int .i64 (relayF lh lfw lfr fc fe lbw lbr bc be)) ∧ Ev w [] w' [] := by
  subst eh efw efr ebw ebr
  have sh := ih.small
  have sfw := ifw.small
  have sfr := ifr.small
  have sbw := ibw.small
  have sbr := ibr.small
  refine d_start [(0, .agg #[.slice ah (List.length lh) ch, .slice afw (List.length lfw) cfw, .slice afr (List.length lfr) cfr, .bool fc, .bool fe, .slice abw (List.length lbw) cbw, .slice abr (List.length lbr) cbr, .bool bc, .bool be])] 62 Go.Proofs.Try.func9 Go.Proofs.Try.ntmps9 rfl (by kernel_rfl) (by kernel_rfl) ?_
  intro act0 En0
  have Hv0 : Ev w [] w [] := Ev.refl (Heap.nil _)
  refine wp_seq ?_
  refine region_from ?_  -- region 0
  refine from_op (by kernel_rfl) ?_
  refine op_newbox (d := some 1) (T := 26) (v := .agg #[.slice ah (List.length lh) ch, .slice afw (List.length lfw) cfw, .slice afr (List.length lfr) cfr, .bool fc, .bool fe, .slice abw (List.length lbw) cbw, .slice abr (List.length lbr) cbr, .bool bc, .bool be]) (cs := [.slice ah (List.length lh) ch, .slice afw (List.length lfw) cfw, .slice afr (List.length lfr) cfr, .bool fc, .bool fe, .slice abw (List.length lbw) cbw, .slice abr (List.length lbr) cbr, .bool bc, .bool be]) En0 (by kernel_rfl) rfl Hv0 ?_
  intro ac2 wo3 bk1 En4 Hv5
  refine d_pures [(1, .pointer (some ⟨bk1, 0, none⟩)), (2, .int .i64 0)] [.int .i64 0] 2 En4 (by kernel_rfl) (by kernel_rfl) rfl ?_
  intro ac6 En7
  refine from_end (by kernel_rfl) ?_
  refine then_normal ?_
  refine wp_seq ?_
  refine region_from ?_  -- region 1
  refine from_op (by kernel_rfl) ?_
  refine op_loadaggbox (d := some 4) (t := 26) (b := bk1) (off := 0) (k := 0) (m := 9) (xs := [.slice ah (List.length lh) ch, .slice afw (List.length lfw) cfw, .slice afr (List.length lfr) cfr, .bool fc, .bool fe, .slice abw (List.length lbw) cbw, .slice abr (List.length lbr) cbr, .bool bc, .bool be]) En7 (by kernel_rfl) Hv5 rfl rfl rfl (by kernel_rfl) (by kernel_rfl) ?_
  intro ac8 En9
  refine from_op (by kernel_rfl) ?_
  have hM11 : Heap wo3 [] := Hv5.heap.pick [] (by kernel_rfl) (by decide)
  refine op_call (d := some 5) (f := 28) (args := #[.agg #[.slice ah (List.length lh) ch, .slice afw (List.length lfw) cfw, .slice afr (List.length lfr) cfr, .bool fc, .bool fe, .slice abw (List.length lbw) cbw, .slice abr (List.length lbr) cbr, .bool bc, .bool be]]) En9 (by kernel_rfl) ((whole_go _ ah (List.length lh) ch lh (by first | rfl | (simp; done) | (simp; omega) | omega) ((ih.ev Hv5).pick [] (by kernel_rfl)) afw (List.length lfw) cfw lfw (by first | rfl | (simp; done) | (simp; omega) | omega) ((ifw.ev Hv5).pick [] (by kernel_rfl)) afr (List.length lfr) cfr lfr (by first | rfl | (simp; done) | (simp; omega) | omega) ((ifr.ev Hv5).pick [] (by kernel_rfl)) fc fe abw (List.length lbw) cbw lbw (by first | rfl | (simp; done) | (simp; omega) | omega) ((ibw.ev Hv5).pick [] (by kernel_rfl)) abr (List.length lbr) cbr lbr (by first | rfl | (simp; done) | (simp; omega) | omega) ((ibr.ev Hv5).pick [] (by kernel_rfl)) bc be (by first | omega | (simp; done) | (simp; omega))).mono ?_)
  rintro _ wo13 ⟨aoq10, coq10, rfl, he16⟩
  refine ⟨_, rfl, ?_⟩
  intro ac12 En14
  have Hv15 : Ev w [] wo13 [.vec aoq10 coq10 1 (bys (lh ++ lfw)) 5, .box bk1 [.slice ah (List.length lh) ch, .slice afw (List.length lfw) cfw, .slice afr (List.length lfr) cfr, .bool fc, .bool fe, .slice abw (List.length lbw) cbw, .slice abr (List.length lbr) cbr, .bool bc, .bool be] 26] := Hv5.trans (Ev.call (R := [.box bk1 [.slice ah (List.length lh) ch, .slice afw (List.length lfw) cfw, .slice afr (List.length lfr) cfr, .bool fc, .bool fe, .slice abw (List.length lbw) cbw, .slice abr (List.length lbr) cbr, .bool bc, .bool be] 26]) Hv5.heap [0] (by kernel_rfl) (by decide) he16)
  clear hM11 he16
  refine d_pures [(1, .pointer (some ⟨bk1, 0, none⟩)), (2, .int .i64 0), (3, .slice aoq10 (List.length (lh ++ lfw)) coq10)] [.slice aoq10 (List.length (lh ++ lfw)) coq10] 3 En14 (by kernel_rfl) (by kernel_rfl) rfl ?_
  intro ac17 En18
  refine from_end (by kernel_rfl) ?_
  refine then_normal ?_
  refine wp_seq ?_
  refine wp_block ?_
  refine wp_seq ?_
  refine region_from ?_  -- region 2
  refine d_pures [(1, .pointer (some ⟨bk1, 0, none⟩)), (2, .int .i64 0), (3, .slice aoq10 (List.length (lh ++ lfw)) coq10), (7, .slice aoq10 (List.length (lh ++ lfw)) coq10), (9, .pointer (some ⟨bk1, 6, none⟩))] [.slice aoq10 (List.length (lh ++ lfw)) coq10, .pointer (some ⟨bk1, 5, none⟩), .pointer (some ⟨bk1, 6, none⟩)] 3 En18 (by kernel_rfl) (by kernel_rfl) rfl ?_
  intro ac19 En20
  refine from_op (by kernel_rfl) ?_
  refine op_loadbox (d := some 10) (t := 22) (b := bk1) (off := 6) (k := 1) (v := .slice abr (List.length lbr) cbr) En20 (by kernel_rfl) Hv15 rfl rfl (by kernel_rfl) ?_
  intro ac21 En22
  refine from_op (by kernel_rfl) ?_
  have hM23 : Heap wo13 [] := Hv15.heap.pick [] (by kernel_rfl) (by decide)
  refine op_call (d := some 11) (f := 29) (args := #[.slice aoq10 (List.length (lh ++ lfw)) coq10, .slice abr (List.length lbr) cbr]) En22 (by kernel_rfl) ((hasprefix_go _ aoq10 (List.length (lh ++ lfw)) coq10 (lh ++ lfw) (by first | rfl | (simp; done) | (simp; omega) | omega) (bys_in Hv15.heap (k := 0) rfl [] (by kernel_rfl) rfl (by first | omega | (simp; done) | (simp; omega))) abr (List.length lbr) cbr lbr (by first | rfl | (simp; done) | (simp; omega) | omega) ((ibr.ev Hv15).pick [] (by kernel_rfl))).mono ?_)
  rintro _ wo25 ⟨rfl, he28⟩
  refine ⟨_, rfl, ?_⟩
  intro ac24 En26
  have Hv27 : Ev w [] wo25 [.vec aoq10 coq10 1 (bys (lh ++ lfw)) 5, .box bk1 [.slice ah (List.length lh) ch, .slice afw (List.length lfw) cfw, .slice afr (List.length lfr) cfr, .bool fc, .bool fe, .slice abw (List.length lbw) cbw, .slice abr (List.length lbr) cbr, .bool bc, .bool be] 26] := Hv15.trans (Ev.call (R := [.vec aoq10 coq10 1 (bys (lh ++ lfw)) 5, .box bk1 [.slice ah (List.length lh) ch, .slice afw (List.length lfw) cfw, .slice afr (List.length lfr) cfr, .bool fc, .bool fe, .slice abw (List.length lbw) cbw, .slice abr (List.length lbr) cbr, .bool bc, .bool be] 26]) Hv15.heap [0, 1] (by kernel_rfl) (by decide) he28)
  clear hM23 he28
  refine d_pures [(1, .pointer (some ⟨bk1, 0, none⟩)), (2, .int .i64 0), (3, .slice aoq10 (List.length (lh ++ lfw)) coq10), (6, .bool (!(begins lbr (lh ++ lfw))))] [.bool (!(begins lbr (lh ++ lfw))), .bool (!(begins lbr (lh ++ lfw)))] 7 En26 (by kernel_rfl) (by kernel_rfl) rfl ?_
  intro ac29 En30
  refine from_end (by kernel_rfl) ?_
  refine then_normal ?_
  refine cond_at En30 (t := !(begins lbr (lh ++ lfw))) (by kernel_rfl) (fun hc31 => ?_) (fun hc31 => ?_)
  ·
    replace hc31 : ¬ (begins lbr (lh ++ lfw) = true) := by simpa using hc31
    refine wp_seq ?_
    refine region_from ?_  -- region 3
    refine d_pures [(1, .pointer (some ⟨bk1, 0, none⟩)), (2, .int .i64 1), (3, .slice aoq10 (List.length (lh ++ lfw)) coq10)] [.int .i64 1] 1 En30 (by kernel_rfl) (by kernel_rfl) rfl ?_
    intro ac32 En33
    refine from_end (by kernel_rfl) ?_
    refine then_normal ?_
    refine wp_ret ?_
    refine block_ret ?_
    refine then_ret ?_
    refine d_ret1 (t := 2) (v := .int .i64 1) En33 (by kernel_rfl) (by kernel_rfl) ?_
    refine ⟨?_, Hv27.pick [] (by kernel_rfl) (by decide)⟩
    try rw [Int.natCast_inj] at hc31
    try rw [List.length_append] at hc31
    have e : relayF lh lfw lfr fc fe lbw lbr bc be = 1 := by
      unfold relayF
      simp [hc31]
    rw [e]
  ·
    replace hc31 : begins lbr (lh ++ lfw) = true := by simpa using hc31
    refine wp_seq ?_
    refine region_from ?_  -- region 4
    refine d_pures [(1, .pointer (some ⟨bk1, 0, none⟩)), (2, .int .i64 0), (3, .slice aoq10 (List.length (lh ++ lfw)) coq10), (15, .pointer (some ⟨bk1, 5, none⟩))] [.pointer (some ⟨bk1, 5, none⟩), .pointer (some ⟨bk1, 5, none⟩)] 2 En30 (by kernel_rfl) (by kernel_rfl) rfl ?_
    intro ac34 En35
    refine from_op (by kernel_rfl) ?_
    refine op_loadbox (d := some 16) (t := 22) (b := bk1) (off := 5) (k := 1) (v := .slice abw (List.length lbw) cbw) En35 (by kernel_rfl) Hv27 rfl rfl (by kernel_rfl) ?_
    intro ac36 En37
    refine d_pures [(1, .pointer (some ⟨bk1, 0, none⟩)), (2, .int .i64 0), (3, .slice aoq10 (List.length (lh ++ lfw)) coq10), (16, .slice abw (List.length lbw) cbw), (18, .pointer (some ⟨bk1, 2, none⟩))] [.pointer (some ⟨bk1, 1, none⟩), .pointer (some ⟨bk1, 2, none⟩)] 5 En37 (by kernel_rfl) (by kernel_rfl) rfl ?_
    intro ac38 En39
    refine from_op (by kernel_rfl) ?_
    refine op_loadbox (d := some 19) (t := 22) (b := bk1) (off := 2) (k := 1) (v := .slice afr (List.length lfr) cfr) En39 (by kernel_rfl) Hv27 rfl rfl (by kernel_rfl) ?_
    intro ac40 En41
    refine from_op (by kernel_rfl) ?_
    have hM42 : Heap wo25 [] := Hv27.heap.pick [] (by kernel_rfl) (by decide)
    refine op_call (d := some 20) (f := 29) (args := #[.slice abw (List.length lbw) cbw, .slice afr (List.length lfr) cfr]) En41 (by kernel_rfl) ((hasprefix_go _ abw (List.length lbw) cbw lbw (by first | rfl | (simp; done) | (simp; omega) | omega) ((ibw.ev Hv27).pick [] (by kernel_rfl)) afr (List.length lfr) cfr lfr (by first | rfl | (simp; done) | (simp; omega) | omega) ((ifr.ev Hv27).pick [] (by kernel_rfl))).mono ?_)
    rintro _ wo44 ⟨rfl, he47⟩
    refine ⟨_, rfl, ?_⟩
    intro ac43 En45
    have Hv46 : Ev w [] wo44 [.vec aoq10 coq10 1 (bys (lh ++ lfw)) 5, .box bk1 [.slice ah (List.length lh) ch, .slice afw (List.length lfw) cfw, .slice afr (List.length lfr) cfr, .bool fc, .bool fe, .slice abw (List.length lbw) cbw, .slice abr (List.length lbr) cbr, .bool bc, .bool be] 26] := Hv27.trans (Ev.call (R := [.vec aoq10 coq10 1 (bys (lh ++ lfw)) 5, .box bk1 [.slice ah (List.length lh) ch, .slice afw (List.length lfw) cfw, .slice afr (List.length lfr) cfr, .bool fc, .bool fe, .slice abw (List.length lbw) cbw, .slice abr (List.length lbr) cbr, .bool bc, .bool be] 26]) Hv27.heap [0, 1] (by kernel_rfl) (by decide) he47)
    clear hM42 he47
    refine d_pures [(1, .pointer (some ⟨bk1, 0, none⟩)), (2, .int .i64 0), (3, .slice aoq10 (List.length (lh ++ lfw)) coq10), (13, .bool (!(begins lfr lbw)))] [.bool (!(begins lfr lbw)), .bool (!(begins lfr lbw))] 9 En45 (by kernel_rfl) (by kernel_rfl) rfl ?_
    intro ac48 En49
    refine from_end (by kernel_rfl) ?_
    refine then_normal ?_
    refine cond_at En49 (t := !(begins lfr lbw)) (by kernel_rfl) (fun hc50 => ?_) (fun hc50 => ?_)
    ·
      replace hc50 : ¬ (begins lfr lbw = true) := by simpa using hc50
      refine wp_seq ?_
      refine region_from ?_  -- region 5
      refine d_pures [(1, .pointer (some ⟨bk1, 0, none⟩)), (2, .int .i64 2), (3, .slice aoq10 (List.length (lh ++ lfw)) coq10)] [.int .i64 2] 1 En49 (by kernel_rfl) (by kernel_rfl) rfl ?_
      intro ac51 En52
      refine from_end (by kernel_rfl) ?_
      refine then_normal ?_
      refine wp_ret ?_
      refine block_ret ?_
      refine then_ret ?_
      refine d_ret1 (t := 2) (v := .int .i64 2) En52 (by kernel_rfl) (by kernel_rfl) ?_
      refine ⟨?_, Hv46.pick [] (by kernel_rfl) (by decide)⟩
      try rw [Int.natCast_inj] at hc31
      try rw [List.length_append] at hc31
      try rw [Int.natCast_inj] at hc50
      try rw [List.length_append] at hc50
      have e : relayF lh lfw lfr fc fe lbw lbr bc be = 2 := by
        unfold relayF
        simp [hc31, hc50]
      rw [e]
    ·
      replace hc50 : begins lfr lbw = true := by simpa using hc50
      refine wp_seq ?_
      refine region_from ?_  -- region 6
      refine d_pures [(1, .pointer (some ⟨bk1, 0, none⟩)), (2, .int .i64 0), (3, .slice aoq10 (List.length (lh ++ lfw)) coq10), (24, .pointer (some ⟨bk1, 8, none⟩))] [.pointer (some ⟨bk1, 5, none⟩), .pointer (some ⟨bk1, 8, none⟩)] 2 En49 (by kernel_rfl) (by kernel_rfl) rfl ?_
      intro ac53 En54
      refine from_op (by kernel_rfl) ?_
      refine op_loadbox (d := some 25) (t := 4) (b := bk1) (off := 8) (k := 1) (v := .bool be) En54 (by kernel_rfl) Hv46 rfl rfl (by kernel_rfl) ?_
      intro ac55 En56
      refine d_pures [(1, .pointer (some ⟨bk1, 0, none⟩)), (2, .int .i64 0), (3, .slice aoq10 (List.length (lh ++ lfw)) coq10), (26, .bool be)] [.bool be] 4 En56 (by kernel_rfl) (by kernel_rfl) rfl ?_
      intro ac57 En58
      rcases Bool.eq_false_or_eq_true (be) with hb59 | hb59
      · rw [hb59] at En58
        have hp60 : be = true := hb59
        refine d_pures [(1, .pointer (some ⟨bk1, 0, none⟩)), (2, .int .i64 0), (3, .slice aoq10 (List.length (lh ++ lfw)) coq10), (26, .bool true), (28, .pointer (some ⟨bk1, 3, none⟩))] [.pointer (some ⟨bk1, 1, none⟩), .pointer (some ⟨bk1, 3, none⟩)] 6 En58 (by kernel_rfl) (by kernel_rfl) rfl ?_
        intro ac61 En62
        refine from_op (by kernel_rfl) ?_
        refine op_loadbox (d := some 29) (t := 4) (b := bk1) (off := 3) (k := 1) (v := .bool fc) En62 (by kernel_rfl) Hv46 rfl rfl (by kernel_rfl) ?_
        intro ac63 En64
        refine d_pures [(1, .pointer (some ⟨bk1, 0, none⟩)), (2, .int .i64 0), (3, .slice aoq10 (List.length (lh ++ lfw)) coq10), (26, .bool true), (30, .bool fc)] [.bool fc] 8 En64 (by kernel_rfl) (by kernel_rfl) rfl ?_
        intro ac65 En66
        rcases Bool.eq_false_or_eq_true (fc) with hb67 | hb67
        · rw [hb67] at En66
          have hp68 : fc = true := hb67
          refine d_pures [(1, .pointer (some ⟨bk1, 0, none⟩)), (2, .int .i64 0), (3, .slice aoq10 (List.length (lh ++ lfw)) coq10), (26, .bool true), (30, .bool true), (32, .pointer (some ⟨bk1, 6, none⟩))] [.pointer (some ⟨bk1, 5, none⟩), .pointer (some ⟨bk1, 6, none⟩)] 10 En66 (by kernel_rfl) (by kernel_rfl) rfl ?_
          intro ac69 En70
          refine from_op (by kernel_rfl) ?_
          refine op_loadbox (d := some 33) (t := 22) (b := bk1) (off := 6) (k := 1) (v := .slice abr (List.length lbr) cbr) En70 (by kernel_rfl) Hv46 rfl rfl (by kernel_rfl) ?_
          intro ac71 En72
          refine d_pures [(1, .pointer (some ⟨bk1, 0, none⟩)), (2, .int .i64 0), (3, .slice aoq10 (List.length (lh ++ lfw)) coq10), (22, .bool (!(((List.length lbr : Nat) : Int) == ((List.length (lh ++ lfw) : Nat) : Int))))] [.int .i64 ((List.length lbr : Nat) : Int), .slice aoq10 (List.length (lh ++ lfw)) coq10, .int .i64 ((List.length (lh ++ lfw) : Nat) : Int), .bool (((List.length lbr : Nat) : Int) == ((List.length (lh ++ lfw) : Nat) : Int)), .bool (((List.length lbr : Nat) : Int) == ((List.length (lh ++ lfw) : Nat) : Int)), .bool (!(((List.length lbr : Nat) : Int) == ((List.length (lh ++ lfw) : Nat) : Int))), .bool (!(((List.length lbr : Nat) : Int) == ((List.length (lh ++ lfw) : Nat) : Int))), .bool (!(((List.length lbr : Nat) : Int) == ((List.length (lh ++ lfw) : Nat) : Int)))] 19 En72 (by kernel_rfl) (by kernel_rfl) rfl ?_
          intro ac73 En74
          refine from_end (by kernel_rfl) ?_
          refine then_normal ?_
          refine cond_at En74 (t := !(((List.length lbr : Nat) : Int) == ((List.length (lh ++ lfw) : Nat) : Int))) (by kernel_rfl) (fun hc75 => ?_) (fun hc75 => ?_)
          ·
            replace hc75 : ¬ (((List.length lbr : Nat) : Int) = ((List.length (lh ++ lfw) : Nat) : Int)) := by simpa using hc75
            refine wp_seq ?_
            refine region_from ?_  -- region 7
            refine d_pures [(1, .pointer (some ⟨bk1, 0, none⟩)), (2, .int .i64 3), (3, .slice aoq10 (List.length (lh ++ lfw)) coq10)] [.int .i64 3] 1 En74 (by kernel_rfl) (by kernel_rfl) rfl ?_
            intro ac76 En77
            refine from_end (by kernel_rfl) ?_
            refine then_normal ?_
            refine wp_ret ?_
            refine block_ret ?_
            refine then_ret ?_
            refine d_ret1 (t := 2) (v := .int .i64 3) En77 (by kernel_rfl) (by kernel_rfl) ?_
            refine ⟨?_, Hv46.pick [] (by kernel_rfl) (by decide)⟩
            try rw [Int.natCast_inj] at hc31
            try rw [List.length_append] at hc31
            try rw [Int.natCast_inj] at hc50
            try rw [List.length_append] at hc50
            try rw [Int.natCast_inj] at hp60
            try rw [List.length_append] at hp60
            try rw [Int.natCast_inj] at hp68
            try rw [List.length_append] at hp68
            try rw [Int.natCast_inj] at hc75
            try rw [List.length_append] at hc75
            have e : relayF lh lfw lfr fc fe lbw lbr bc be = 3 := by
              unfold relayF
              simp [hc31, hc50, hp60, hp68, hc75]
            rw [e]
          ·
            replace hc75 : ((List.length lbr : Nat) : Int) = ((List.length (lh ++ lfw) : Nat) : Int) := by simpa using hc75
            refine wp_seq ?_
            refine region_from ?_  -- region 8
            refine d_pures [(1, .pointer (some ⟨bk1, 0, none⟩)), (2, .int .i64 0), (3, .slice aoq10 (List.length (lh ++ lfw)) coq10), (43, .pointer (some ⟨bk1, 4, none⟩))] [.pointer (some ⟨bk1, 1, none⟩), .pointer (some ⟨bk1, 4, none⟩)] 2 En74 (by kernel_rfl) (by kernel_rfl) rfl ?_
            intro ac78 En79
            refine from_op (by kernel_rfl) ?_
            refine op_loadbox (d := some 44) (t := 4) (b := bk1) (off := 4) (k := 1) (v := .bool fe) En79 (by kernel_rfl) Hv46 rfl rfl (by kernel_rfl) ?_
            intro ac80 En81
            refine d_pures [(1, .pointer (some ⟨bk1, 0, none⟩)), (2, .int .i64 0), (3, .slice aoq10 (List.length (lh ++ lfw)) coq10), (45, .bool fe)] [.bool fe] 4 En81 (by kernel_rfl) (by kernel_rfl) rfl ?_
            intro ac82 En83
            rcases Bool.eq_false_or_eq_true (fe) with hb84 | hb84
            · rw [hb84] at En83
              have hp85 : fe = true := hb84
              refine d_pures [(1, .pointer (some ⟨bk1, 0, none⟩)), (2, .int .i64 0), (3, .slice aoq10 (List.length (lh ++ lfw)) coq10), (45, .bool true), (47, .pointer (some ⟨bk1, 7, none⟩))] [.pointer (some ⟨bk1, 5, none⟩), .pointer (some ⟨bk1, 7, none⟩)] 6 En83 (by kernel_rfl) (by kernel_rfl) rfl ?_
              intro ac86 En87
              refine from_op (by kernel_rfl) ?_
              refine op_loadbox (d := some 48) (t := 4) (b := bk1) (off := 7) (k := 1) (v := .bool bc) En87 (by kernel_rfl) Hv46 rfl rfl (by kernel_rfl) ?_
              intro ac88 En89
              refine d_pures [(1, .pointer (some ⟨bk1, 0, none⟩)), (2, .int .i64 0), (3, .slice aoq10 (List.length (lh ++ lfw)) coq10), (45, .bool true), (49, .bool bc)] [.bool bc] 8 En89 (by kernel_rfl) (by kernel_rfl) rfl ?_
              intro ac90 En91
              rcases Bool.eq_false_or_eq_true (bc) with hb92 | hb92
              · rw [hb92] at En91
                have hp93 : bc = true := hb92
                refine d_pures [(1, .pointer (some ⟨bk1, 0, none⟩)), (2, .int .i64 0), (3, .slice aoq10 (List.length (lh ++ lfw)) coq10), (45, .bool true), (49, .bool true), (51, .pointer (some ⟨bk1, 2, none⟩))] [.pointer (some ⟨bk1, 1, none⟩), .pointer (some ⟨bk1, 2, none⟩)] 10 En91 (by kernel_rfl) (by kernel_rfl) rfl ?_
                intro ac94 En95
                refine from_op (by kernel_rfl) ?_
                refine op_loadbox (d := some 52) (t := 22) (b := bk1) (off := 2) (k := 1) (v := .slice afr (List.length lfr) cfr) En95 (by kernel_rfl) Hv46 rfl rfl (by kernel_rfl) ?_
                intro ac96 En97
                refine d_pures [(1, .pointer (some ⟨bk1, 0, none⟩)), (2, .int .i64 0), (3, .slice aoq10 (List.length (lh ++ lfw)) coq10), (45, .bool true), (49, .bool true), (53, .int .i64 ((List.length lfr : Nat) : Int)), (55, .pointer (some ⟨bk1, 5, none⟩))] [.int .i64 ((List.length lfr : Nat) : Int), .pointer (some ⟨bk1, 5, none⟩), .pointer (some ⟨bk1, 5, none⟩)] 14 En97 (by kernel_rfl) (by kernel_rfl) rfl ?_
                intro ac98 En99
                refine from_op (by kernel_rfl) ?_
                refine op_loadbox (d := some 56) (t := 22) (b := bk1) (off := 5) (k := 1) (v := .slice abw (List.length lbw) cbw) En99 (by kernel_rfl) Hv46 rfl rfl (by kernel_rfl) ?_
                intro ac100 En101
                refine d_pures [(1, .pointer (some ⟨bk1, 0, none⟩)), (2, .int .i64 0), (3, .slice aoq10 (List.length (lh ++ lfw)) coq10), (41, .bool (!(((List.length lfr : Nat) : Int) == ((List.length lbw : Nat) : Int))))] [.int .i64 ((List.length lbw : Nat) : Int), .bool (((List.length lfr : Nat) : Int) == ((List.length lbw : Nat) : Int)), .bool (((List.length lfr : Nat) : Int) == ((List.length lbw : Nat) : Int)), .bool (!(((List.length lfr : Nat) : Int) == ((List.length lbw : Nat) : Int))), .bool (!(((List.length lfr : Nat) : Int) == ((List.length lbw : Nat) : Int))), .bool (!(((List.length lfr : Nat) : Int) == ((List.length lbw : Nat) : Int)))] 21 En101 (by kernel_rfl) (by kernel_rfl) rfl ?_
                intro ac102 En103
                refine from_end (by kernel_rfl) ?_
                refine then_normal ?_
                refine cond_at En103 (t := !(((List.length lfr : Nat) : Int) == ((List.length lbw : Nat) : Int))) (by kernel_rfl) (fun hc104 => ?_) (fun hc104 => ?_)
                ·
                  replace hc104 : ¬ (((List.length lfr : Nat) : Int) = ((List.length lbw : Nat) : Int)) := by simpa using hc104
                  refine wp_seq ?_
                  refine region_from ?_  -- region 9
                  refine d_pures [(1, .pointer (some ⟨bk1, 0, none⟩)), (2, .int .i64 4), (3, .slice aoq10 (List.length (lh ++ lfw)) coq10)] [.int .i64 4] 1 En103 (by kernel_rfl) (by kernel_rfl) rfl ?_
                  intro ac105 En106
                  refine from_end (by kernel_rfl) ?_
                  refine then_normal ?_
                  refine wp_ret ?_
                  refine block_ret ?_
                  refine then_ret ?_
                  refine d_ret1 (t := 2) (v := .int .i64 4) En106 (by kernel_rfl) (by kernel_rfl) ?_
                  refine ⟨?_, Hv46.pick [] (by kernel_rfl) (by decide)⟩
                  try rw [Int.natCast_inj] at hc31
                  try rw [List.length_append] at hc31
                  try rw [Int.natCast_inj] at hc50
                  try rw [List.length_append] at hc50
                  try rw [Int.natCast_inj] at hp60
                  try rw [List.length_append] at hp60
                  try rw [Int.natCast_inj] at hp68
                  try rw [List.length_append] at hp68
                  try rw [Int.natCast_inj] at hc75
                  try rw [List.length_append] at hc75
                  try rw [Int.natCast_inj] at hp85
                  try rw [List.length_append] at hp85
                  try rw [Int.natCast_inj] at hp93
                  try rw [List.length_append] at hp93
                  try rw [Int.natCast_inj] at hc104
                  try rw [List.length_append] at hc104
                  have e : relayF lh lfw lfr fc fe lbw lbr bc be = 4 := by
                    unfold relayF
                    simp [hc31, hc50, hp60, hp68, hc75, hp85, hp93, hc104]
                  rw [e]
                ·
                  replace hc104 : ((List.length lfr : Nat) : Int) = ((List.length lbw : Nat) : Int) := by simpa using hc104
                  refine wp_skip ?_
                  refine block_normal ?_
                  refine then_normal ?_
                  refine wp_seq ?_
                  refine region_from ?_  -- region 10
                  refine d_pures [(1, .pointer (some ⟨bk1, 0, none⟩)), (2, .int .i64 0), (3, .slice aoq10 (List.length (lh ++ lfw)) coq10)] [.int .i64 0] 1 En103 (by kernel_rfl) (by kernel_rfl) rfl ?_
                  intro ac107 En108
                  refine from_end (by kernel_rfl) ?_
                  refine then_normal ?_
                  refine wp_ret ?_
                  refine d_ret1 (t := 2) (v := .int .i64 0) En108 (by kernel_rfl) (by kernel_rfl) ?_
                  refine ⟨?_, Hv46.pick [] (by kernel_rfl) (by decide)⟩
                  try rw [Int.natCast_inj] at hc31
                  try rw [List.length_append] at hc31
                  try rw [Int.natCast_inj] at hc50
                  try rw [List.length_append] at hc50
                  try rw [Int.natCast_inj] at hp60
                  try rw [List.length_append] at hp60
                  try rw [Int.natCast_inj] at hp68
                  try rw [List.length_append] at hp68
                  try rw [Int.natCast_inj] at hc75
                  try rw [List.length_append] at hc75
                  try rw [Int.natCast_inj] at hp85
                  try rw [List.length_append] at hp85
                  try rw [Int.natCast_inj] at hp93
                  try rw [List.length_append] at hp93
                  try rw [Int.natCast_inj] at hc104
                  try rw [List.length_append] at hc104
                  have e : relayF lh lfw lfr fc fe lbw lbr bc be = 0 := by
                    unfold relayF
                    simp [hc31, hc50, hp60, hp68, hc75, hp85, hp93, hc104]
                  rw [e]
              · rw [hb92] at En91
                have hp109 : ¬ (bc = true) := Bool.eq_false_iff.1 hb92
                refine d_pures [(1, .pointer (some ⟨bk1, 0, none⟩)), (2, .int .i64 0), (3, .slice aoq10 (List.length (lh ++ lfw)) coq10), (41, .bool true)] [undef, undef, undef, undef, undef, undef, undef, undef, undef, .bool false, .bool true, .bool true, .bool true] 21 En91 (by kernel_rfl) (by kernel_rfl) rfl ?_
                intro ac110 En111
                refine from_end (by kernel_rfl) ?_
                refine then_normal ?_
                refine cond_true En111 (t := true) (by kernel_rfl) rfl ?_
                refine wp_seq ?_
                refine region_from ?_  -- region 9
                refine d_pures [(1, .pointer (some ⟨bk1, 0, none⟩)), (2, .int .i64 4), (3, .slice aoq10 (List.length (lh ++ lfw)) coq10)] [.int .i64 4] 1 En111 (by kernel_rfl) (by kernel_rfl) rfl ?_
                intro ac112 En113
                refine from_end (by kernel_rfl) ?_
                refine then_normal ?_
                refine wp_ret ?_
                refine block_ret ?_
                refine then_ret ?_
                refine d_ret1 (t := 2) (v := .int .i64 4) En113 (by kernel_rfl) (by kernel_rfl) ?_
                refine ⟨?_, Hv46.pick [] (by kernel_rfl) (by decide)⟩
                try rw [Int.natCast_inj] at hc31
                try rw [List.length_append] at hc31
                try rw [Int.natCast_inj] at hc50
                try rw [List.length_append] at hc50
                try rw [Int.natCast_inj] at hp60
                try rw [List.length_append] at hp60
                try rw [Int.natCast_inj] at hp68
                try rw [List.length_append] at hp68
                try rw [Int.natCast_inj] at hc75
                try rw [List.length_append] at hc75
                try rw [Int.natCast_inj] at hp85
                try rw [List.length_append] at hp85
                try rw [Int.natCast_inj] at hp109
                try rw [List.length_append] at hp109
                have e : relayF lh lfw lfr fc fe lbw lbr bc be = 4 := by
                  unfold relayF
                  simp [hc31, hc50, hp60, hp68, hc75, hp85, hp109]
                rw [e]
            · rw [hb84] at En83
              have hp114 : ¬ (fe = true) := Bool.eq_false_iff.1 hb84
              refine d_pures [(1, .pointer (some ⟨bk1, 0, none⟩)), (2, .int .i64 0), (3, .slice aoq10 (List.length (lh ++ lfw)) coq10), (41, .bool false)] [undef, undef, undef, undef, undef, undef, undef, undef, undef, undef, undef, undef, undef, undef, undef, .bool false, .bool false] 21 En83 (by kernel_rfl) (by kernel_rfl) rfl ?_
              intro ac115 En116
              refine from_end (by kernel_rfl) ?_
              refine then_normal ?_
              refine cond_false En116 (t := false) (by kernel_rfl) rfl ?_
              refine wp_skip ?_
              refine block_normal ?_
              refine then_normal ?_
              refine wp_seq ?_
              refine region_from ?_  -- region 10
              refine d_pures [(1, .pointer (some ⟨bk1, 0, none⟩)), (2, .int .i64 0), (3, .slice aoq10 (List.length (lh ++ lfw)) coq10)] [.int .i64 0] 1 En116 (by kernel_rfl) (by kernel_rfl) rfl ?_
              intro ac117 En118
              refine from_end (by kernel_rfl) ?_
              refine then_normal ?_
              refine wp_ret ?_
              refine d_ret1 (t := 2) (v := .int .i64 0) En118 (by kernel_rfl) (by kernel_rfl) ?_
              refine ⟨?_, Hv46.pick [] (by kernel_rfl) (by decide)⟩
              try rw [Int.natCast_inj] at hc31
              try rw [List.length_append] at hc31
              try rw [Int.natCast_inj] at hc50
              try rw [List.length_append] at hc50
              try rw [Int.natCast_inj] at hp60
              try rw [List.length_append] at hp60
              try rw [Int.natCast_inj] at hp68
              try rw [List.length_append] at hp68
              try rw [Int.natCast_inj] at hc75
              try rw [List.length_append] at hc75
              try rw [Int.natCast_inj] at hp114
              try rw [List.length_append] at hp114
              have e : relayF lh lfw lfr fc fe lbw lbr bc be = 0 := by
                unfold relayF
                simp [hc31, hc50, hp60, hp68, hc75, hp114]
              rw [e]
        · rw [hb67] at En66
          have hp119 : ¬ (fc = true) := Bool.eq_false_iff.1 hb67
          refine d_pures [(1, .pointer (some ⟨bk1, 0, none⟩)), (2, .int .i64 0), (3, .slice aoq10 (List.length (lh ++ lfw)) coq10), (22, .bool true)] [undef, undef, undef, undef, undef, undef, undef, .bool false, .bool true, .bool true, .bool true] 19 En66 (by kernel_rfl) (by kernel_rfl) rfl ?_
          intro ac120 En121
          refine from_end (by kernel_rfl) ?_
          refine then_normal ?_
          refine cond_true En121 (t := true) (by kernel_rfl) rfl ?_
          refine wp_seq ?_
          refine region_from ?_  -- region 7
          refine d_pures [(1, .pointer (some ⟨bk1, 0, none⟩)), (2, .int .i64 3), (3, .slice aoq10 (List.length (lh ++ lfw)) coq10)] [.int .i64 3] 1 En121 (by kernel_rfl) (by kernel_rfl) rfl ?_
          intro ac122 En123
          refine from_end (by kernel_rfl) ?_
          refine then_normal ?_
          refine wp_ret ?_
          refine block_ret ?_
          refine then_ret ?_
          refine d_ret1 (t := 2) (v := .int .i64 3) En123 (by kernel_rfl) (by kernel_rfl) ?_
          refine ⟨?_, Hv46.pick [] (by kernel_rfl) (by decide)⟩
          try rw [Int.natCast_inj] at hc31
          try rw [List.length_append] at hc31
          try rw [Int.natCast_inj] at hc50
          try rw [List.length_append] at hc50
          try rw [Int.natCast_inj] at hp60
          try rw [List.length_append] at hp60
          try rw [Int.natCast_inj] at hp119
          try rw [List.length_append] at hp119
          have e : relayF lh lfw lfr fc fe lbw lbr bc be = 3 := by
            unfold relayF
            simp [hc31, hc50, hp60, hp119]
          rw [e]
      · rw [hb59] at En58
        have hp124 : ¬ (be = true) := Bool.eq_false_iff.1 hb59
        refine d_pures [(1, .pointer (some ⟨bk1, 0, none⟩)), (2, .int .i64 0), (3, .slice aoq10 (List.length (lh ++ lfw)) coq10), (22, .bool false)] [undef, undef, undef, undef, undef, undef, undef, undef, undef, undef, undef, undef, undef, .bool false, .bool false] 19 En58 (by kernel_rfl) (by kernel_rfl) rfl ?_
        intro ac125 En126
        refine from_end (by kernel_rfl) ?_
        refine then_normal ?_
        refine cond_false En126 (t := false) (by kernel_rfl) rfl ?_
        refine wp_seq ?_
        refine region_from ?_  -- region 8
        refine d_pures [(1, .pointer (some ⟨bk1, 0, none⟩)), (2, .int .i64 0), (3, .slice aoq10 (List.length (lh ++ lfw)) coq10), (43, .pointer (some ⟨bk1, 4, none⟩))] [.pointer (some ⟨bk1, 1, none⟩), .pointer (some ⟨bk1, 4, none⟩)] 2 En126 (by kernel_rfl) (by kernel_rfl) rfl ?_
        intro ac127 En128
        refine from_op (by kernel_rfl) ?_
        refine op_loadbox (d := some 44) (t := 4) (b := bk1) (off := 4) (k := 1) (v := .bool fe) En128 (by kernel_rfl) Hv46 rfl rfl (by kernel_rfl) ?_
        intro ac129 En130
        refine d_pures [(1, .pointer (some ⟨bk1, 0, none⟩)), (2, .int .i64 0), (3, .slice aoq10 (List.length (lh ++ lfw)) coq10), (45, .bool fe)] [.bool fe] 4 En130 (by kernel_rfl) (by kernel_rfl) rfl ?_
        intro ac131 En132
        rcases Bool.eq_false_or_eq_true (fe) with hb133 | hb133
        · rw [hb133] at En132
          have hp134 : fe = true := hb133
          refine d_pures [(1, .pointer (some ⟨bk1, 0, none⟩)), (2, .int .i64 0), (3, .slice aoq10 (List.length (lh ++ lfw)) coq10), (45, .bool true), (47, .pointer (some ⟨bk1, 7, none⟩))] [.pointer (some ⟨bk1, 5, none⟩), .pointer (some ⟨bk1, 7, none⟩)] 6 En132 (by kernel_rfl) (by kernel_rfl) rfl ?_
          intro ac135 En136
          refine from_op (by kernel_rfl) ?_
          refine op_loadbox (d := some 48) (t := 4) (b := bk1) (off := 7) (k := 1) (v := .bool bc) En136 (by kernel_rfl) Hv46 rfl rfl (by kernel_rfl) ?_
          intro ac137 En138
          refine d_pures [(1, .pointer (some ⟨bk1, 0, none⟩)), (2, .int .i64 0), (3, .slice aoq10 (List.length (lh ++ lfw)) coq10), (45, .bool true), (49, .bool bc)] [.bool bc] 8 En138 (by kernel_rfl) (by kernel_rfl) rfl ?_
          intro ac139 En140
          rcases Bool.eq_false_or_eq_true (bc) with hb141 | hb141
          · rw [hb141] at En140
            have hp142 : bc = true := hb141
            refine d_pures [(1, .pointer (some ⟨bk1, 0, none⟩)), (2, .int .i64 0), (3, .slice aoq10 (List.length (lh ++ lfw)) coq10), (45, .bool true), (49, .bool true), (51, .pointer (some ⟨bk1, 2, none⟩))] [.pointer (some ⟨bk1, 1, none⟩), .pointer (some ⟨bk1, 2, none⟩)] 10 En140 (by kernel_rfl) (by kernel_rfl) rfl ?_
            intro ac143 En144
            refine from_op (by kernel_rfl) ?_
            refine op_loadbox (d := some 52) (t := 22) (b := bk1) (off := 2) (k := 1) (v := .slice afr (List.length lfr) cfr) En144 (by kernel_rfl) Hv46 rfl rfl (by kernel_rfl) ?_
            intro ac145 En146
            refine d_pures [(1, .pointer (some ⟨bk1, 0, none⟩)), (2, .int .i64 0), (3, .slice aoq10 (List.length (lh ++ lfw)) coq10), (45, .bool true), (49, .bool true), (53, .int .i64 ((List.length lfr : Nat) : Int)), (55, .pointer (some ⟨bk1, 5, none⟩))] [.int .i64 ((List.length lfr : Nat) : Int), .pointer (some ⟨bk1, 5, none⟩), .pointer (some ⟨bk1, 5, none⟩)] 14 En146 (by kernel_rfl) (by kernel_rfl) rfl ?_
            intro ac147 En148
            refine from_op (by kernel_rfl) ?_
            refine op_loadbox (d := some 56) (t := 22) (b := bk1) (off := 5) (k := 1) (v := .slice abw (List.length lbw) cbw) En148 (by kernel_rfl) Hv46 rfl rfl (by kernel_rfl) ?_
            intro ac149 En150
            refine d_pures [(1, .pointer (some ⟨bk1, 0, none⟩)), (2, .int .i64 0), (3, .slice aoq10 (List.length (lh ++ lfw)) coq10), (41, .bool (!(((List.length lfr : Nat) : Int) == ((List.length lbw : Nat) : Int))))] [.int .i64 ((List.length lbw : Nat) : Int), .bool (((List.length lfr : Nat) : Int) == ((List.length lbw : Nat) : Int)), .bool (((List.length lfr : Nat) : Int) == ((List.length lbw : Nat) : Int)), .bool (!(((List.length lfr : Nat) : Int) == ((List.length lbw : Nat) : Int))), .bool (!(((List.length lfr : Nat) : Int) == ((List.length lbw : Nat) : Int))), .bool (!(((List.length lfr : Nat) : Int) == ((List.length lbw : Nat) : Int)))] 21 En150 (by kernel_rfl) (by kernel_rfl) rfl ?_
            intro ac151 En152
            refine from_end (by kernel_rfl) ?_
            refine then_normal ?_
            refine cond_at En152 (t := !(((List.length lfr : Nat) : Int) == ((List.length lbw : Nat) : Int))) (by kernel_rfl) (fun hc153 => ?_) (fun hc153 => ?_)
            ·
              replace hc153 : ¬ (((List.length lfr : Nat) : Int) = ((List.length lbw : Nat) : Int)) := by simpa using hc153
              refine wp_seq ?_
              refine region_from ?_  -- region 9
              refine d_pures [(1, .pointer (some ⟨bk1, 0, none⟩)), (2, .int .i64 4), (3, .slice aoq10 (List.length (lh ++ lfw)) coq10)] [.int .i64 4] 1 En152 (by kernel_rfl) (by kernel_rfl) rfl ?_
              intro ac154 En155
              refine from_end (by kernel_rfl) ?_
              refine then_normal ?_
              refine wp_ret ?_
              refine block_ret ?_
              refine then_ret ?_
              refine d_ret1 (t := 2) (v := .int .i64 4) En155 (by kernel_rfl) (by kernel_rfl) ?_
              refine ⟨?_, Hv46.pick [] (by kernel_rfl) (by decide)⟩
              try rw [Int.natCast_inj] at hc31
              try rw [List.length_append] at hc31
              try rw [Int.natCast_inj] at hc50
              try rw [List.length_append] at hc50
              try rw [Int.natCast_inj] at hp124
              try rw [List.length_append] at hp124
              try rw [Int.natCast_inj] at hp134
              try rw [List.length_append] at hp134
              try rw [Int.natCast_inj] at hp142
              try rw [List.length_append] at hp142
              try rw [Int.natCast_inj] at hc153
              try rw [List.length_append] at hc153
              have e : relayF lh lfw lfr fc fe lbw lbr bc be = 4 := by
                unfold relayF
                simp [hc31, hc50, hp124, hp134, hp142, hc153]
              rw [e]
            ·
              replace hc153 : ((List.length lfr : Nat) : Int) = ((List.length lbw : Nat) : Int) := by simpa using hc153
              refine wp_skip ?_
              refine block_normal ?_
              refine then_normal ?_
              refine wp_seq ?_
              refine region_from ?_  -- region 10
              refine d_pures [(1, .pointer (some ⟨bk1, 0, none⟩)), (2, .int .i64 0), (3, .slice aoq10 (List.length (lh ++ lfw)) coq10)] [.int .i64 0] 1 En152 (by kernel_rfl) (by kernel_rfl) rfl ?_
              intro ac156 En157
              refine from_end (by kernel_rfl) ?_
              refine then_normal ?_
              refine wp_ret ?_
              refine d_ret1 (t := 2) (v := .int .i64 0) En157 (by kernel_rfl) (by kernel_rfl) ?_
              refine ⟨?_, Hv46.pick [] (by kernel_rfl) (by decide)⟩
              try rw [Int.natCast_inj] at hc31
              try rw [List.length_append] at hc31
              try rw [Int.natCast_inj] at hc50
              try rw [List.length_append] at hc50
              try rw [Int.natCast_inj] at hp124
              try rw [List.length_append] at hp124
              try rw [Int.natCast_inj] at hp134
              try rw [List.length_append] at hp134
              try rw [Int.natCast_inj] at hp142
              try rw [List.length_append] at hp142
              try rw [Int.natCast_inj] at hc153
              try rw [List.length_append] at hc153
              have e : relayF lh lfw lfr fc fe lbw lbr bc be = 0 := by
                unfold relayF
                simp [hc31, hc50, hp124, hp134, hp142, hc153]
              rw [e]
          · rw [hb141] at En140
            have hp158 : ¬ (bc = true) := Bool.eq_false_iff.1 hb141
            refine d_pures [(1, .pointer (some ⟨bk1, 0, none⟩)), (2, .int .i64 0), (3, .slice aoq10 (List.length (lh ++ lfw)) coq10), (41, .bool true)] [undef, undef, undef, undef, undef, undef, undef, undef, undef, .bool false, .bool true, .bool true, .bool true] 21 En140 (by kernel_rfl) (by kernel_rfl) rfl ?_
            intro ac159 En160
            refine from_end (by kernel_rfl) ?_
            refine then_normal ?_
            refine cond_true En160 (t := true) (by kernel_rfl) rfl ?_
            refine wp_seq ?_
            refine region_from ?_  -- region 9
            refine d_pures [(1, .pointer (some ⟨bk1, 0, none⟩)), (2, .int .i64 4), (3, .slice aoq10 (List.length (lh ++ lfw)) coq10)] [.int .i64 4] 1 En160 (by kernel_rfl) (by kernel_rfl) rfl ?_
            intro ac161 En162
            refine from_end (by kernel_rfl) ?_
            refine then_normal ?_
            refine wp_ret ?_
            refine block_ret ?_
            refine then_ret ?_
            refine d_ret1 (t := 2) (v := .int .i64 4) En162 (by kernel_rfl) (by kernel_rfl) ?_
            refine ⟨?_, Hv46.pick [] (by kernel_rfl) (by decide)⟩
            try rw [Int.natCast_inj] at hc31
            try rw [List.length_append] at hc31
            try rw [Int.natCast_inj] at hc50
            try rw [List.length_append] at hc50
            try rw [Int.natCast_inj] at hp124
            try rw [List.length_append] at hp124
            try rw [Int.natCast_inj] at hp134
            try rw [List.length_append] at hp134
            try rw [Int.natCast_inj] at hp158
            try rw [List.length_append] at hp158
            have e : relayF lh lfw lfr fc fe lbw lbr bc be = 4 := by
              unfold relayF
              simp [hc31, hc50, hp124, hp134, hp158]
            rw [e]
        · rw [hb133] at En132
          have hp163 : ¬ (fe = true) := Bool.eq_false_iff.1 hb133
          refine d_pures [(1, .pointer (some ⟨bk1, 0, none⟩)), (2, .int .i64 0), (3, .slice aoq10 (List.length (lh ++ lfw)) coq10), (41, .bool false)] [undef, undef, undef, undef, undef, undef, undef, undef, undef, undef, undef, undef, undef, undef, undef, .bool false, .bool false] 21 En132 (by kernel_rfl) (by kernel_rfl) rfl ?_
          intro ac164 En165
          refine from_end (by kernel_rfl) ?_
          refine then_normal ?_
          refine cond_false En165 (t := false) (by kernel_rfl) rfl ?_
          refine wp_skip ?_
          refine block_normal ?_
          refine then_normal ?_
          refine wp_seq ?_
          refine region_from ?_  -- region 10
          refine d_pures [(1, .pointer (some ⟨bk1, 0, none⟩)), (2, .int .i64 0), (3, .slice aoq10 (List.length (lh ++ lfw)) coq10)] [.int .i64 0] 1 En165 (by kernel_rfl) (by kernel_rfl) rfl ?_
          intro ac166 En167
          refine from_end (by kernel_rfl) ?_
          refine then_normal ?_
          refine wp_ret ?_
          refine d_ret1 (t := 2) (v := .int .i64 0) En167 (by kernel_rfl) (by kernel_rfl) ?_
          refine ⟨?_, Hv46.pick [] (by kernel_rfl) (by decide)⟩
          try rw [Int.natCast_inj] at hc31
          try rw [List.length_append] at hc31
          try rw [Int.natCast_inj] at hc50
          try rw [List.length_append] at hc50
          try rw [Int.natCast_inj] at hp124
          try rw [List.length_append] at hp124
          try rw [Int.natCast_inj] at hp163
          try rw [List.length_append] at hp163
          have e : relayF lh lfw lfr fc fe lbw lbr bc be = 0 := by
            unfold relayF
            simp [hc31, hc50, hp124, hp163]
          rw [e]

theorem relay_ref (w : World) (ah : Option Addr) (nh ch : Nat) (lh : List UInt8) (eh : nh = List.length lh) (ih : InB w [] ah ch lh) (afw : Option Addr) (nfw cfw : Nat) (lfw : List UInt8) (efw : nfw = List.length lfw) (ifw : InB w [] afw cfw lfw) (afr : Option Addr) (nfr cfr : Nat) (lfr : List UInt8) (efr : nfr = List.length lfr) (ifr : InB w [] afr cfr lfr) (fc fe : Bool) (abw : Option Addr) (nbw cbw : Nat) (lbw : List UInt8) (ebw : nbw = List.length lbw) (ibw : InB w [] abw cbw lbw) (abr : Option Addr) (nbr cbr : Nat) (lbr : List UInt8) (ebr : nbr = List.length lbr) (ibr : InB w [] abr cbr lbr) (bc be : Bool) (hT : List.length lh + List.length lfw ≤ 140737488351232) : Calls Try.prog 10 #[.agg #[.slice ah nh ch, .slice afw nfw cfw, .slice afr nfr cfr, .bool fc, .bool fe, .slice abw nbw cbw, .slice abr nbr cbr, .bool bc, .bool be]] w fun e w' => e = .returned (.int .i64 (relayF lh lfw lfr fc fe lbw lbr bc be)) ∧ Ev w [] w' [] := by
  subst eh efw efr ebw ebr
  have sh := ih.small
  have sfw := ifw.small
  have sfr := ifr.small
  have sbw := ibw.small
  have sbr := ibr.small
  refine d_start [(0, .agg #[.slice ah (List.length lh) ch, .slice afw (List.length lfw) cfw, .slice afr (List.length lfr) cfr, .bool fc, .bool fe, .slice abw (List.length lbw) cbw, .slice abr (List.length lbr) cbr, .bool bc, .bool be])] 72 Go.Proofs.Try.func10 Go.Proofs.Try.ntmps10 rfl (by kernel_rfl) (by kernel_rfl) ?_
  intro act0 En0
  have Hv0 : Ev w [] w [] := Ev.refl (Heap.nil _)
  refine wp_seq ?_
  refine region_from ?_  -- region 0
  refine from_op (by kernel_rfl) ?_
  refine op_newbox (d := some 1) (T := 26) (v := .agg #[.slice ah (List.length lh) ch, .slice afw (List.length lfw) cfw, .slice afr (List.length lfr) cfr, .bool fc, .bool fe, .slice abw (List.length lbw) cbw, .slice abr (List.length lbr) cbr, .bool bc, .bool be]) (cs := [.slice ah (List.length lh) ch, .slice afw (List.length lfw) cfw, .slice afr (List.length lfr) cfr, .bool fc, .bool fe, .slice abw (List.length lbw) cbw, .slice abr (List.length lbr) cbr, .bool bc, .bool be]) En0 (by kernel_rfl) rfl Hv0 ?_
  intro ac2 wo3 bk1 En4 Hv5
  refine d_pures [(1, .pointer (some ⟨bk1, 0, none⟩)), (2, .int .i64 0)] [.int .i64 0] 2 En4 (by kernel_rfl) (by kernel_rfl) rfl ?_
  intro ac6 En7
  refine from_end (by kernel_rfl) ?_
  refine then_normal ?_
  refine wp_seq ?_
  refine region_cut (F := fun ac wo => ∃ (ao32 : Option Addr) (cp33 : Nat), Env ac 72 [(1, .pointer (some ⟨bk1, 0, none⟩)), (2, .int .i64 0), (3, .slice ao32 (List.length (lh ++ lfw)) cp33)] ∧ Ev w [] wo [.box bk1 [.slice ah (List.length lh) ch, .slice afw (List.length lfw) cfw, .slice afr (List.length lfr) cfr, .bool fc, .bool fe, .slice abw (List.length lbw) cbw, .slice abr (List.length lbr) cbr, .bool bc, .bool be] 26, .vec ao32 cp33 1 (bys (lh ++ lfw)) 5]) ?_ ?_
  ·
    refine draw_any (by kernel_rfl) 9 (by kernel_rfl) ?_  -- region 1
    have wo8 := Hv5.trans (Ev.drew Hv5.heap)
    refine any_pureR (d := some 7) En7 (v := .pointer (some ⟨bk1, 0, none⟩)) 1 (by kernel_rfl) (by kernel_rfl) rfl ?_
    intro ac9 En10
    refine any_pureR (d := some 10) En10 (v := .pointer (some ⟨bk1, 1, none⟩)) 4 (by kernel_rfl) (by kernel_rfl) rfl ?_
    intro ac11 En12
    refine any_pureR (d := some 11) En12 (v := .pointer (some ⟨bk1, 1, none⟩)) 5 (by kernel_rfl) (by kernel_rfl) rfl ?_
    intro ac13 En14
    refine any_ways [0, 2, 6] (by kernel_rfl) rfl ?_
    refine ⟨?_, ?_, ?_, trivial⟩
    · rintro _ rfl
      refine op_lit (d := some 6) (t := 22) (T := 5) (m := 0) (parts := #[]) (xs := bys []) (sz := 1) En14 (by kernel_rfl) (by kernel_rfl) rfl (by decide) wo8 ?_
      intro ac16 wo17 bk15 En18 Hv19
      refine any_two 2 6 (by kernel_rfl) ?_ ?_
      · rintro _ rfl
        refine op_loadbox (d := some 8) (t := 22) (b := bk1) (off := 0) (k := 0) (v := .slice ah (List.length lh) ch) En18 (by kernel_rfl) Hv19 rfl rfl (by kernel_rfl) ?_
        intro ac20 En21
        refine any_two 3 6 (by kernel_rfl) ?_ ?_
        · rintro _ rfl
          refine op_append (d := some 9) (t := 22) (tx := 22) (ty := 22) (k := 1) (p := 0) (m := List.length lh) (x := .slice ah (List.length lh) ch) (bytes := 1) En21 (by kernel_rfl) Hv19 rfl rfl (Reads.src (size := 1) (tx := 22) (e' := 5) (by kernel_rfl) (ih.ev Hv19).reads (bys_len _) ih.nz (bys_one _)) (by kernel_rfl) (z := .int .u8 0) (by kernel_rfl) rfl (by decide) (by omega) (by unfold maxLen; omega) ?_
          intro ac26 wo27 ao22 cp23 En28 Hv29 _ _
          rw [bys_nil_append] at Hv29
          have ehz24 : 0 + List.length lh = List.length lh := (by first | (simp; done) | (simp; omega) | omega)
          rw [ehz24] at En28
          refine any_at 6 (by kernel_rfl) rfl ?_
          refine op_loadbox (d := some 12) (t := 22) (b := bk1) (off := 1) (k := 0) (v := .slice afw (List.length lfw) cfw) En28 (by kernel_rfl) Hv29 rfl rfl (by kernel_rfl) ?_
          intro ac30 En31
          refine any_at 7 (by kernel_rfl) rfl ?_
          refine op_append (d := some 13) (t := 22) (tx := 22) (ty := 22) (k := 1) (p := List.length lh) (m := List.length lfw) (x := .slice afw (List.length lfw) cfw) (bytes := 1) En31 (by kernel_rfl) Hv29 rfl (bys_len _) (Reads.src (size := 1) (tx := 22) (e' := 5) (by kernel_rfl) (ifw.ev Hv29).reads (bys_len _) ifw.nz (bys_one _)) (by kernel_rfl) (z := .int .u8 0) (by kernel_rfl) rfl (by decide) (by omega) (by unfold maxLen; omega) ?_
          intro ac36 wo37 ao32 cp33 En38 Hv39 _ _
          rw [← bys_append] at Hv39
          have ehz34 : (List.length lh) + List.length lfw = List.length (lh ++ lfw) := (by first | (simp; done) | (simp; omega) | omega)
          rw [ehz34] at En38
          refine any_pureR (d := some 3) En38 (v := .slice ao32 (List.length (lh ++ lfw)) cp33) 8 (by kernel_rfl) (by kernel_rfl) rfl ?_
          intro ac40 En41
          exact any_end (by kernel_rfl) ⟨ao32, cp33, En41.sub (by kernel_rfl), Hv39.pick [0, 1] (by kernel_rfl) (by decide)⟩
        · rintro _ rfl
          refine op_loadbox (d := some 12) (t := 22) (b := bk1) (off := 1) (k := 0) (v := .slice afw (List.length lfw) cfw) En21 (by kernel_rfl) Hv19 rfl rfl (by kernel_rfl) ?_
          intro ac42 En43
          refine any_at 3 (by kernel_rfl) rfl ?_
          refine op_append (d := some 9) (t := 22) (tx := 22) (ty := 22) (k := 1) (p := 0) (m := List.length lh) (x := .slice ah (List.length lh) ch) (bytes := 1) En43 (by kernel_rfl) Hv19 rfl rfl (Reads.src (size := 1) (tx := 22) (e' := 5) (by kernel_rfl) (ih.ev Hv19).reads (bys_len _) ih.nz (bys_one _)) (by kernel_rfl) (z := .int .u8 0) (by kernel_rfl) rfl (by decide) (by omega) (by unfold maxLen; omega) ?_
          intro ac48 wo49 ao44 cp45 En50 Hv51 _ _
          rw [bys_nil_append] at Hv51
          have ehz46 : 0 + List.length lh = List.length lh := (by first | (simp; done) | (simp; omega) | omega)
          rw [ehz46] at En50
          refine any_at 7 (by kernel_rfl) rfl ?_
          refine op_append (d := some 13) (t := 22) (tx := 22) (ty := 22) (k := 1) (p := List.length lh) (m := List.length lfw) (x := .slice afw (List.length lfw) cfw) (bytes := 1) En50 (by kernel_rfl) Hv51 rfl (bys_len _) (Reads.src (size := 1) (tx := 22) (e' := 5) (by kernel_rfl) (ifw.ev Hv51).reads (bys_len _) ifw.nz (bys_one _)) (by kernel_rfl) (z := .int .u8 0) (by kernel_rfl) rfl (by decide) (by omega) (by unfold maxLen; omega) ?_
          intro ac56 wo57 ao52 cp53 En58 Hv59 _ _
          rw [← bys_append] at Hv59
          have ehz54 : (List.length lh) + List.length lfw = List.length (lh ++ lfw) := (by first | (simp; done) | (simp; omega) | omega)
          rw [ehz54] at En58
          refine any_pureR (d := some 3) En58 (v := .slice ao52 (List.length (lh ++ lfw)) cp53) 8 (by kernel_rfl) (by kernel_rfl) rfl ?_
          intro ac60 En61
          exact any_end (by kernel_rfl) ⟨ao52, cp53, En61.sub (by kernel_rfl), Hv59.pick [0, 1] (by kernel_rfl) (by decide)⟩
      · rintro _ rfl
        refine op_loadbox (d := some 12) (t := 22) (b := bk1) (off := 1) (k := 0) (v := .slice afw (List.length lfw) cfw) En18 (by kernel_rfl) Hv19 rfl rfl (by kernel_rfl) ?_
        intro ac62 En63
        refine any_at 2 (by kernel_rfl) rfl ?_
        refine op_loadbox (d := some 8) (t := 22) (b := bk1) (off := 0) (k := 0) (v := .slice ah (List.length lh) ch) En63 (by kernel_rfl) Hv19 rfl rfl (by kernel_rfl) ?_
        intro ac64 En65
        refine any_at 3 (by kernel_rfl) rfl ?_
        refine op_append (d := some 9) (t := 22) (tx := 22) (ty := 22) (k := 1) (p := 0) (m := List.length lh) (x := .slice ah (List.length lh) ch) (bytes := 1) En65 (by kernel_rfl) Hv19 rfl rfl (Reads.src (size := 1) (tx := 22) (e' := 5) (by kernel_rfl) (ih.ev Hv19).reads (bys_len _) ih.nz (bys_one _)) (by kernel_rfl) (z := .int .u8 0) (by kernel_rfl) rfl (by decide) (by omega) (by unfold maxLen; omega) ?_
        intro ac70 wo71 ao66 cp67 En72 Hv73 _ _
        rw [bys_nil_append] at Hv73
        have ehz68 : 0 + List.length lh = List.length lh := (by first | (simp; done) | (simp; omega) | omega)
        rw [ehz68] at En72
        refine any_at 7 (by kernel_rfl) rfl ?_
        refine op_append (d := some 13) (t := 22) (tx := 22) (ty := 22) (k := 1) (p := List.length lh) (m := List.length lfw) (x := .slice afw (List.length lfw) cfw) (bytes := 1) En72 (by kernel_rfl) Hv73 rfl (bys_len _) (Reads.src (size := 1) (tx := 22) (e' := 5) (by kernel_rfl) (ifw.ev Hv73).reads (bys_len _) ifw.nz (bys_one _)) (by kernel_rfl) (z := .int .u8 0) (by kernel_rfl) rfl (by decide) (by omega) (by unfold maxLen; omega) ?_
        intro ac78 wo79 ao74 cp75 En80 Hv81 _ _
        rw [← bys_append] at Hv81
        have ehz76 : (List.length lh) + List.length lfw = List.length (lh ++ lfw) := (by first | (simp; done) | (simp; omega) | omega)
        rw [ehz76] at En80
        refine any_pureR (d := some 3) En80 (v := .slice ao74 (List.length (lh ++ lfw)) cp75) 8 (by kernel_rfl) (by kernel_rfl) rfl ?_
        intro ac82 En83
        exact any_end (by kernel_rfl) ⟨ao74, cp75, En83.sub (by kernel_rfl), Hv81.pick [0, 1] (by kernel_rfl) (by decide)⟩
    · rintro _ rfl
      refine op_loadbox (d := some 8) (t := 22) (b := bk1) (off := 0) (k := 0) (v := .slice ah (List.length lh) ch) En14 (by kernel_rfl) wo8 rfl rfl (by kernel_rfl) ?_
      intro ac84 En85
      refine any_two 0 6 (by kernel_rfl) ?_ ?_
      · rintro _ rfl
        refine op_lit (d := some 6) (t := 22) (T := 5) (m := 0) (parts := #[]) (xs := bys []) (sz := 1) En85 (by kernel_rfl) (by kernel_rfl) rfl (by decide) wo8 ?_
        intro ac87 wo88 bk86 En89 Hv90
        refine any_two 3 6 (by kernel_rfl) ?_ ?_
        · rintro _ rfl
          refine op_append (d := some 9) (t := 22) (tx := 22) (ty := 22) (k := 1) (p := 0) (m := List.length lh) (x := .slice ah (List.length lh) ch) (bytes := 1) En89 (by kernel_rfl) Hv90 rfl rfl (Reads.src (size := 1) (tx := 22) (e' := 5) (by kernel_rfl) (ih.ev Hv90).reads (bys_len _) ih.nz (bys_one _)) (by kernel_rfl) (z := .int .u8 0) (by kernel_rfl) rfl (by decide) (by omega) (by unfold maxLen; omega) ?_
          intro ac95 wo96 ao91 cp92 En97 Hv98 _ _
          rw [bys_nil_append] at Hv98
          have ehz93 : 0 + List.length lh = List.length lh := (by first | (simp; done) | (simp; omega) | omega)
          rw [ehz93] at En97
          refine any_at 6 (by kernel_rfl) rfl ?_
          refine op_loadbox (d := some 12) (t := 22) (b := bk1) (off := 1) (k := 0) (v := .slice afw (List.length lfw) cfw) En97 (by kernel_rfl) Hv98 rfl rfl (by kernel_rfl) ?_
          intro ac99 En100
          refine any_at 7 (by kernel_rfl) rfl ?_
          refine op_append (d := some 13) (t := 22) (tx := 22) (ty := 22) (k := 1) (p := List.length lh) (m := List.length lfw) (x := .slice afw (List.length lfw) cfw) (bytes := 1) En100 (by kernel_rfl) Hv98 rfl (bys_len _) (Reads.src (size := 1) (tx := 22) (e' := 5) (by kernel_rfl) (ifw.ev Hv98).reads (bys_len _) ifw.nz (bys_one _)) (by kernel_rfl) (z := .int .u8 0) (by kernel_rfl) rfl (by decide) (by omega) (by unfold maxLen; omega) ?_
          intro ac105 wo106 ao101 cp102 En107 Hv108 _ _
          rw [← bys_append] at Hv108
          have ehz103 : (List.length lh) + List.length lfw = List.length (lh ++ lfw) := (by first | (simp; done) | (simp; omega) | omega)
          rw [ehz103] at En107
          refine any_pureR (d := some 3) En107 (v := .slice ao101 (List.length (lh ++ lfw)) cp102) 8 (by kernel_rfl) (by kernel_rfl) rfl ?_
          intro ac109 En110
          exact any_end (by kernel_rfl) ⟨ao101, cp102, En110.sub (by kernel_rfl), Hv108.pick [0, 1] (by kernel_rfl) (by decide)⟩
        · rintro _ rfl
          refine op_loadbox (d := some 12) (t := 22) (b := bk1) (off := 1) (k := 0) (v := .slice afw (List.length lfw) cfw) En89 (by kernel_rfl) Hv90 rfl rfl (by kernel_rfl) ?_
          intro ac111 En112
          refine any_at 3 (by kernel_rfl) rfl ?_
          refine op_append (d := some 9) (t := 22) (tx := 22) (ty := 22) (k := 1) (p := 0) (m := List.length lh) (x := .slice ah (List.length lh) ch) (bytes := 1) En112 (by kernel_rfl) Hv90 rfl rfl (Reads.src (size := 1) (tx := 22) (e' := 5) (by kernel_rfl) (ih.ev Hv90).reads (bys_len _) ih.nz (bys_one _)) (by kernel_rfl) (z := .int .u8 0) (by kernel_rfl) rfl (by decide) (by omega) (by unfold maxLen; omega) ?_
          intro ac117 wo118 ao113 cp114 En119 Hv120 _ _
          rw [bys_nil_append] at Hv120
          have ehz115 : 0 + List.length lh = List.length lh := (by first | (simp; done) | (simp; omega) | omega)
          rw [ehz115] at En119
          refine any_at 7 (by kernel_rfl) rfl ?_
          refine op_append (d := some 13) (t := 22) (tx := 22) (ty := 22) (k := 1) (p := List.length lh) (m := List.length lfw) (x := .slice afw (List.length lfw) cfw) (bytes := 1) En119 (by kernel_rfl) Hv120 rfl (bys_len _) (Reads.src (size := 1) (tx := 22) (e' := 5) (by kernel_rfl) (ifw.ev Hv120).reads (bys_len _) ifw.nz (bys_one _)) (by kernel_rfl) (z := .int .u8 0) (by kernel_rfl) rfl (by decide) (by omega) (by unfold maxLen; omega) ?_
          intro ac125 wo126 ao121 cp122 En127 Hv128 _ _
          rw [← bys_append] at Hv128
          have ehz123 : (List.length lh) + List.length lfw = List.length (lh ++ lfw) := (by first | (simp; done) | (simp; omega) | omega)
          rw [ehz123] at En127
          refine any_pureR (d := some 3) En127 (v := .slice ao121 (List.length (lh ++ lfw)) cp122) 8 (by kernel_rfl) (by kernel_rfl) rfl ?_
          intro ac129 En130
          exact any_end (by kernel_rfl) ⟨ao121, cp122, En130.sub (by kernel_rfl), Hv128.pick [0, 1] (by kernel_rfl) (by decide)⟩
      · rintro _ rfl
        refine op_loadbox (d := some 12) (t := 22) (b := bk1) (off := 1) (k := 0) (v := .slice afw (List.length lfw) cfw) En85 (by kernel_rfl) wo8 rfl rfl (by kernel_rfl) ?_
        intro ac131 En132
        refine any_at 0 (by kernel_rfl) rfl ?_
        refine op_lit (d := some 6) (t := 22) (T := 5) (m := 0) (parts := #[]) (xs := bys []) (sz := 1) En132 (by kernel_rfl) (by kernel_rfl) rfl (by decide) wo8 ?_
        intro ac134 wo135 bk133 En136 Hv137
        refine any_at 3 (by kernel_rfl) rfl ?_
        refine op_append (d := some 9) (t := 22) (tx := 22) (ty := 22) (k := 1) (p := 0) (m := List.length lh) (x := .slice ah (List.length lh) ch) (bytes := 1) En136 (by kernel_rfl) Hv137 rfl rfl (Reads.src (size := 1) (tx := 22) (e' := 5) (by kernel_rfl) (ih.ev Hv137).reads (bys_len _) ih.nz (bys_one _)) (by kernel_rfl) (z := .int .u8 0) (by kernel_rfl) rfl (by decide) (by omega) (by unfold maxLen; omega) ?_
        intro ac142 wo143 ao138 cp139 En144 Hv145 _ _
        rw [bys_nil_append] at Hv145
        have ehz140 : 0 + List.length lh = List.length lh := (by first | (simp; done) | (simp; omega) | omega)
        rw [ehz140] at En144
        refine any_at 7 (by kernel_rfl) rfl ?_
        refine op_append (d := some 13) (t := 22) (tx := 22) (ty := 22) (k := 1) (p := List.length lh) (m := List.length lfw) (x := .slice afw (List.length lfw) cfw) (bytes := 1) En144 (by kernel_rfl) Hv145 rfl (bys_len _) (Reads.src (size := 1) (tx := 22) (e' := 5) (by kernel_rfl) (ifw.ev Hv145).reads (bys_len _) ifw.nz (bys_one _)) (by kernel_rfl) (z := .int .u8 0) (by kernel_rfl) rfl (by decide) (by omega) (by unfold maxLen; omega) ?_
        intro ac150 wo151 ao146 cp147 En152 Hv153 _ _
        rw [← bys_append] at Hv153
        have ehz148 : (List.length lh) + List.length lfw = List.length (lh ++ lfw) := (by first | (simp; done) | (simp; omega) | omega)
        rw [ehz148] at En152
        refine any_pureR (d := some 3) En152 (v := .slice ao146 (List.length (lh ++ lfw)) cp147) 8 (by kernel_rfl) (by kernel_rfl) rfl ?_
        intro ac154 En155
        exact any_end (by kernel_rfl) ⟨ao146, cp147, En155.sub (by kernel_rfl), Hv153.pick [0, 1] (by kernel_rfl) (by decide)⟩
    · rintro _ rfl
      refine op_loadbox (d := some 12) (t := 22) (b := bk1) (off := 1) (k := 0) (v := .slice afw (List.length lfw) cfw) En14 (by kernel_rfl) wo8 rfl rfl (by kernel_rfl) ?_
      intro ac156 En157
      refine any_two 0 2 (by kernel_rfl) ?_ ?_
      · rintro _ rfl
        refine op_lit (d := some 6) (t := 22) (T := 5) (m := 0) (parts := #[]) (xs := bys []) (sz := 1) En157 (by kernel_rfl) (by kernel_rfl) rfl (by decide) wo8 ?_
        intro ac159 wo160 bk158 En161 Hv162
        refine any_at 2 (by kernel_rfl) rfl ?_
        refine op_loadbox (d := some 8) (t := 22) (b := bk1) (off := 0) (k := 0) (v := .slice ah (List.length lh) ch) En161 (by kernel_rfl) Hv162 rfl rfl (by kernel_rfl) ?_
        intro ac163 En164
        refine any_at 3 (by kernel_rfl) rfl ?_
        refine op_append (d := some 9) (t := 22) (tx := 22) (ty := 22) (k := 1) (p := 0) (m := List.length lh) (x := .slice ah (List.length lh) ch) (bytes := 1) En164 (by kernel_rfl) Hv162 rfl rfl (Reads.src (size := 1) (tx := 22) (e' := 5) (by kernel_rfl) (ih.ev Hv162).reads (bys_len _) ih.nz (bys_one _)) (by kernel_rfl) (z := .int .u8 0) (by kernel_rfl) rfl (by decide) (by omega) (by unfold maxLen; omega) ?_
        intro ac169 wo170 ao165 cp166 En171 Hv172 _ _
        rw [bys_nil_append] at Hv172
        have ehz167 : 0 + List.length lh = List.length lh := (by first | (simp; done) | (simp; omega) | omega)
        rw [ehz167] at En171
        refine any_at 7 (by kernel_rfl) rfl ?_
        refine op_append (d := some 13) (t := 22) (tx := 22) (ty := 22) (k := 1) (p := List.length lh) (m := List.length lfw) (x := .slice afw (List.length lfw) cfw) (bytes := 1) En171 (by kernel_rfl) Hv172 rfl (bys_len _) (Reads.src (size := 1) (tx := 22) (e' := 5) (by kernel_rfl) (ifw.ev Hv172).reads (bys_len _) ifw.nz (bys_one _)) (by kernel_rfl) (z := .int .u8 0) (by kernel_rfl) rfl (by decide) (by omega) (by unfold maxLen; omega) ?_
        intro ac177 wo178 ao173 cp174 En179 Hv180 _ _
        rw [← bys_append] at Hv180
        have ehz175 : (List.length lh) + List.length lfw = List.length (lh ++ lfw) := (by first | (simp; done) | (simp; omega) | omega)
        rw [ehz175] at En179
        refine any_pureR (d := some 3) En179 (v := .slice ao173 (List.length (lh ++ lfw)) cp174) 8 (by kernel_rfl) (by kernel_rfl) rfl ?_
        intro ac181 En182
        exact any_end (by kernel_rfl) ⟨ao173, cp174, En182.sub (by kernel_rfl), Hv180.pick [0, 1] (by kernel_rfl) (by decide)⟩
      · rintro _ rfl
        refine op_loadbox (d := some 8) (t := 22) (b := bk1) (off := 0) (k := 0) (v := .slice ah (List.length lh) ch) En157 (by kernel_rfl) wo8 rfl rfl (by kernel_rfl) ?_
        intro ac183 En184
        refine any_at 0 (by kernel_rfl) rfl ?_
        refine op_lit (d := some 6) (t := 22) (T := 5) (m := 0) (parts := #[]) (xs := bys []) (sz := 1) En184 (by kernel_rfl) (by kernel_rfl) rfl (by decide) wo8 ?_
        intro ac186 wo187 bk185 En188 Hv189
        refine any_at 3 (by kernel_rfl) rfl ?_
        refine op_append (d := some 9) (t := 22) (tx := 22) (ty := 22) (k := 1) (p := 0) (m := List.length lh) (x := .slice ah (List.length lh) ch) (bytes := 1) En188 (by kernel_rfl) Hv189 rfl rfl (Reads.src (size := 1) (tx := 22) (e' := 5) (by kernel_rfl) (ih.ev Hv189).reads (bys_len _) ih.nz (bys_one _)) (by kernel_rfl) (z := .int .u8 0) (by kernel_rfl) rfl (by decide) (by omega) (by unfold maxLen; omega) ?_
        intro ac194 wo195 ao190 cp191 En196 Hv197 _ _
        rw [bys_nil_append] at Hv197
        have ehz192 : 0 + List.length lh = List.length lh := (by first | (simp; done) | (simp; omega) | omega)
        rw [ehz192] at En196
        refine any_at 7 (by kernel_rfl) rfl ?_
        refine op_append (d := some 13) (t := 22) (tx := 22) (ty := 22) (k := 1) (p := List.length lh) (m := List.length lfw) (x := .slice afw (List.length lfw) cfw) (bytes := 1) En196 (by kernel_rfl) Hv197 rfl (bys_len _) (Reads.src (size := 1) (tx := 22) (e' := 5) (by kernel_rfl) (ifw.ev Hv197).reads (bys_len _) ifw.nz (bys_one _)) (by kernel_rfl) (z := .int .u8 0) (by kernel_rfl) rfl (by decide) (by omega) (by unfold maxLen; omega) ?_
        intro ac202 wo203 ao198 cp199 En204 Hv205 _ _
        rw [← bys_append] at Hv205
        have ehz200 : (List.length lh) + List.length lfw = List.length (lh ++ lfw) := (by first | (simp; done) | (simp; omega) | omega)
        rw [ehz200] at En204
        refine any_pureR (d := some 3) En204 (v := .slice ao198 (List.length (lh ++ lfw)) cp199) 8 (by kernel_rfl) (by kernel_rfl) rfl ?_
        intro ac206 En207
        exact any_end (by kernel_rfl) ⟨ao198, cp199, En207.sub (by kernel_rfl), Hv205.pick [0, 1] (by kernel_rfl) (by decide)⟩
  rintro ac208 wo209 ⟨ao32, cp33, En210, Hv211⟩
  refine then_normal ?_
  refine wp_seq ?_
  refine region_from ?_  -- region 2
  refine d_pures [(1, .pointer (some ⟨bk1, 0, none⟩)), (2, .int .i64 0), (3, .slice ao32 (List.length (lh ++ lfw)) cp33), (15, .pointer (some ⟨bk1, 6, none⟩))] [.pointer (some ⟨bk1, 5, none⟩), .pointer (some ⟨bk1, 6, none⟩)] 2 En210 (by kernel_rfl) (by kernel_rfl) rfl ?_
  intro ac212 En213
  refine from_op (by kernel_rfl) ?_
  refine op_loadbox (d := some 16) (t := 22) (b := bk1) (off := 6) (k := 0) (v := .slice abr (List.length lbr) cbr) En213 (by kernel_rfl) Hv211 rfl rfl (by kernel_rfl) ?_
  intro ac214 En215
  refine d_pures [(1, .pointer (some ⟨bk1, 0, none⟩)), (2, .int .i64 0), (3, .slice ao32 (List.length (lh ++ lfw)) cp33), (16, .slice abr (List.length lbr) cbr), (17, .slice ao32 (List.length (lh ++ lfw)) cp33)] [.slice ao32 (List.length (lh ++ lfw)) cp33] 4 En215 (by kernel_rfl) (by kernel_rfl) rfl ?_
  intro ac216 En217
  refine from_op (by kernel_rfl) ?_
  have hM218 : Heap wo209 [] := Hv211.heap.pick [] (by kernel_rfl) (by decide)
  refine op_call (d := some 18) (f := 30) (args := #[.slice abr (List.length lbr) cbr, .slice ao32 (List.length (lh ++ lfw)) cp33]) En217 (by kernel_rfl) ((begins_ref _ abr (List.length lbr) cbr lbr (by first | rfl | (simp; done) | (simp; omega) | omega) ((ibr.ev Hv211).pick [] (by kernel_rfl)) ao32 (List.length (lh ++ lfw)) cp33 (lh ++ lfw) (by first | rfl | (simp; done) | (simp; omega) | omega) (bys_in Hv211.heap (k := 1) rfl [] (by kernel_rfl) rfl (by first | omega | (simp; done) | (simp; omega)))).mono ?_)
  rintro _ wo220 ⟨rfl, he223⟩
  refine ⟨_, rfl, ?_⟩
  intro ac219 En221
  have Hv222 : Ev w [] wo220 [.box bk1 [.slice ah (List.length lh) ch, .slice afw (List.length lfw) cfw, .slice afr (List.length lfr) cfr, .bool fc, .bool fe, .slice abw (List.length lbw) cbw, .slice abr (List.length lbr) cbr, .bool bc, .bool be] 26, .vec ao32 cp33 1 (bys (lh ++ lfw)) 5] := Hv211.trans (Ev.call (R := [.box bk1 [.slice ah (List.length lh) ch, .slice afw (List.length lfw) cfw, .slice afr (List.length lfr) cfr, .bool fc, .bool fe, .slice abw (List.length lbw) cbw, .slice abr (List.length lbr) cbr, .bool bc, .bool be] 26, .vec ao32 cp33 1 (bys (lh ++ lfw)) 5]) Hv211.heap [0, 1] (by kernel_rfl) (by decide) he223)
  clear hM218 he223
  refine d_pures [(1, .pointer (some ⟨bk1, 0, none⟩)), (2, .int .i64 0), (3, .slice ao32 (List.length (lh ++ lfw)) cp33), (4, .bool (begins lbr (lh ++ lfw)))] [.bool (begins lbr (lh ++ lfw))] 6 En221 (by kernel_rfl) (by kernel_rfl) rfl ?_
  intro ac224 En225
  refine from_end (by kernel_rfl) ?_
  refine then_normal ?_
  refine wp_seq ?_
  refine region_from ?_  -- region 3
  refine d_pures [(1, .pointer (some ⟨bk1, 0, none⟩)), (2, .int .i64 0), (3, .slice ao32 (List.length (lh ++ lfw)) cp33), (4, .bool (begins lbr (lh ++ lfw))), (20, .pointer (some ⟨bk1, 2, none⟩))] [.pointer (some ⟨bk1, 1, none⟩), .pointer (some ⟨bk1, 2, none⟩)] 2 En225 (by kernel_rfl) (by kernel_rfl) rfl ?_
  intro ac226 En227
  refine from_op (by kernel_rfl) ?_
  refine op_loadbox (d := some 21) (t := 22) (b := bk1) (off := 2) (k := 0) (v := .slice afr (List.length lfr) cfr) En227 (by kernel_rfl) Hv222 rfl rfl (by kernel_rfl) ?_
  intro ac228 En229
  refine d_pures [(1, .pointer (some ⟨bk1, 0, none⟩)), (2, .int .i64 0), (3, .slice ao32 (List.length (lh ++ lfw)) cp33), (4, .bool (begins lbr (lh ++ lfw))), (21, .slice afr (List.length lfr) cfr), (23, .pointer (some ⟨bk1, 5, none⟩))] [.pointer (some ⟨bk1, 5, none⟩), .pointer (some ⟨bk1, 5, none⟩)] 5 En229 (by kernel_rfl) (by kernel_rfl) rfl ?_
  intro ac230 En231
  refine from_op (by kernel_rfl) ?_
  refine op_loadbox (d := some 24) (t := 22) (b := bk1) (off := 5) (k := 0) (v := .slice abw (List.length lbw) cbw) En231 (by kernel_rfl) Hv222 rfl rfl (by kernel_rfl) ?_
  intro ac232 En233
  refine from_op (by kernel_rfl) ?_
  have hM234 : Heap wo220 [] := Hv222.heap.pick [] (by kernel_rfl) (by decide)
  refine op_call (d := some 25) (f := 30) (args := #[.slice afr (List.length lfr) cfr, .slice abw (List.length lbw) cbw]) En233 (by kernel_rfl) ((begins_ref _ afr (List.length lfr) cfr lfr (by first | rfl | (simp; done) | (simp; omega) | omega) ((ifr.ev Hv222).pick [] (by kernel_rfl)) abw (List.length lbw) cbw lbw (by first | rfl | (simp; done) | (simp; omega) | omega) ((ibw.ev Hv222).pick [] (by kernel_rfl))).mono ?_)
  rintro _ wo236 ⟨rfl, he239⟩
  refine ⟨_, rfl, ?_⟩
  intro ac235 En237
  have Hv238 : Ev w [] wo236 [.box bk1 [.slice ah (List.length lh) ch, .slice afw (List.length lfw) cfw, .slice afr (List.length lfr) cfr, .bool fc, .bool fe, .slice abw (List.length lbw) cbw, .slice abr (List.length lbr) cbr, .bool bc, .bool be] 26, .vec ao32 cp33 1 (bys (lh ++ lfw)) 5] := Hv222.trans (Ev.call (R := [.box bk1 [.slice ah (List.length lh) ch, .slice afw (List.length lfw) cfw, .slice afr (List.length lfr) cfr, .bool fc, .bool fe, .slice abw (List.length lbw) cbw, .slice abr (List.length lbr) cbr, .bool bc, .bool be] 26, .vec ao32 cp33 1 (bys (lh ++ lfw)) 5]) Hv222.heap [0, 1] (by kernel_rfl) (by decide) he239)
  clear hM234 he239
  refine d_pures [(1, .pointer (some ⟨bk1, 0, none⟩)), (2, .int .i64 0), (3, .slice ao32 (List.length (lh ++ lfw)) cp33), (4, .bool (begins lbr (lh ++ lfw))), (5, .bool (begins lfr lbw))] [.bool (begins lfr lbw)] 8 En237 (by kernel_rfl) (by kernel_rfl) rfl ?_
  intro ac240 En241
  refine from_end (by kernel_rfl) ?_
  refine then_normal ?_
  refine wp_seq ?_
  refine wp_block ?_
  refine wp_seq ?_
  refine region_from ?_  -- region 4
  refine d_pures [(1, .pointer (some ⟨bk1, 0, none⟩)), (2, .int .i64 0), (3, .slice ao32 (List.length (lh ++ lfw)) cp33), (5, .bool (begins lfr lbw)), (26, .bool (!(begins lbr (lh ++ lfw))))] [.bool (begins lbr (lh ++ lfw)), .bool (!(begins lbr (lh ++ lfw))), .bool (!(begins lbr (lh ++ lfw)))] 3 En241 (by kernel_rfl) (by kernel_rfl) rfl ?_
  intro ac242 En243
  refine from_end (by kernel_rfl) ?_
  refine then_normal ?_
  refine cond_at En243 (t := !(begins lbr (lh ++ lfw))) (by kernel_rfl) (fun hc244 => ?_) (fun hc244 => ?_)
  ·
    replace hc244 : ¬ (begins lbr (lh ++ lfw) = true) := by simpa using hc244
    refine wp_seq ?_
    refine region_from ?_  -- region 5
    refine d_pures [(1, .pointer (some ⟨bk1, 0, none⟩)), (2, .int .i64 1), (3, .slice ao32 (List.length (lh ++ lfw)) cp33), (5, .bool (begins lfr lbw))] [.int .i64 1] 1 En243 (by kernel_rfl) (by kernel_rfl) rfl ?_
    intro ac245 En246
    refine from_end (by kernel_rfl) ?_
    refine then_normal ?_
    refine wp_ret ?_
    refine block_ret ?_
    refine then_ret ?_
    refine d_ret1 (t := 2) (v := .int .i64 1) En246 (by kernel_rfl) (by kernel_rfl) ?_
    refine ⟨?_, Hv238.pick [] (by kernel_rfl) (by decide)⟩
    try rw [Int.natCast_inj] at hc244
    try rw [List.length_append] at hc244
    have e : relayF lh lfw lfr fc fe lbw lbr bc be = 1 := by
      unfold relayF
      simp [hc244]
    rw [e]
  ·
    replace hc244 : begins lbr (lh ++ lfw) = true := by simpa using hc244
    refine wp_seq ?_
    refine region_from ?_  -- region 6
    refine d_pures [(1, .pointer (some ⟨bk1, 0, none⟩)), (2, .int .i64 0), (3, .slice ao32 (List.length (lh ++ lfw)) cp33), (29, .bool (!(begins lfr lbw)))] [.bool (begins lfr lbw), .bool (!(begins lfr lbw)), .bool (!(begins lfr lbw))] 3 En243 (by kernel_rfl) (by kernel_rfl) rfl ?_
    intro ac247 En248
    refine from_end (by kernel_rfl) ?_
    refine then_normal ?_
    refine cond_at En248 (t := !(begins lfr lbw)) (by kernel_rfl) (fun hc249 => ?_) (fun hc249 => ?_)
    ·
      replace hc249 : ¬ (begins lfr lbw = true) := by simpa using hc249
      refine wp_seq ?_
      refine region_from ?_  -- region 7
      refine d_pures [(1, .pointer (some ⟨bk1, 0, none⟩)), (2, .int .i64 2), (3, .slice ao32 (List.length (lh ++ lfw)) cp33)] [.int .i64 2] 1 En248 (by kernel_rfl) (by kernel_rfl) rfl ?_
      intro ac250 En251
      refine from_end (by kernel_rfl) ?_
      refine then_normal ?_
      refine wp_ret ?_
      refine block_ret ?_
      refine then_ret ?_
      refine d_ret1 (t := 2) (v := .int .i64 2) En251 (by kernel_rfl) (by kernel_rfl) ?_
      refine ⟨?_, Hv238.pick [] (by kernel_rfl) (by decide)⟩
      try rw [Int.natCast_inj] at hc244
      try rw [List.length_append] at hc244
      try rw [Int.natCast_inj] at hc249
      try rw [List.length_append] at hc249
      have e : relayF lh lfw lfr fc fe lbw lbr bc be = 2 := by
        unfold relayF
        simp [hc244, hc249]
      rw [e]
    ·
      replace hc249 : begins lfr lbw = true := by simpa using hc249
      refine wp_seq ?_
      refine region_from ?_  -- region 8
      refine d_pures [(1, .pointer (some ⟨bk1, 0, none⟩)), (2, .int .i64 0), (3, .slice ao32 (List.length (lh ++ lfw)) cp33), (34, .pointer (some ⟨bk1, 8, none⟩))] [.pointer (some ⟨bk1, 5, none⟩), .pointer (some ⟨bk1, 8, none⟩)] 2 En248 (by kernel_rfl) (by kernel_rfl) rfl ?_
      intro ac252 En253
      refine from_op (by kernel_rfl) ?_
      refine op_loadbox (d := some 35) (t := 4) (b := bk1) (off := 8) (k := 0) (v := .bool be) En253 (by kernel_rfl) Hv238 rfl rfl (by kernel_rfl) ?_
      intro ac254 En255
      refine d_pures [(1, .pointer (some ⟨bk1, 0, none⟩)), (2, .int .i64 0), (3, .slice ao32 (List.length (lh ++ lfw)) cp33), (36, .bool be)] [.bool be] 4 En255 (by kernel_rfl) (by kernel_rfl) rfl ?_
      intro ac256 En257
      rcases Bool.eq_false_or_eq_true (be) with hb258 | hb258
      · rw [hb258] at En257
        have hp259 : be = true := hb258
        refine d_pures [(1, .pointer (some ⟨bk1, 0, none⟩)), (2, .int .i64 0), (3, .slice ao32 (List.length (lh ++ lfw)) cp33), (36, .bool true), (38, .pointer (some ⟨bk1, 3, none⟩))] [.pointer (some ⟨bk1, 1, none⟩), .pointer (some ⟨bk1, 3, none⟩)] 6 En257 (by kernel_rfl) (by kernel_rfl) rfl ?_
        intro ac260 En261
        refine from_op (by kernel_rfl) ?_
        refine op_loadbox (d := some 39) (t := 4) (b := bk1) (off := 3) (k := 0) (v := .bool fc) En261 (by kernel_rfl) Hv238 rfl rfl (by kernel_rfl) ?_
        intro ac262 En263
        refine d_pures [(1, .pointer (some ⟨bk1, 0, none⟩)), (2, .int .i64 0), (3, .slice ao32 (List.length (lh ++ lfw)) cp33), (36, .bool true), (41, .bool (!fc))] [.bool (!fc), .bool (!fc)] 9 En263 (by kernel_rfl) (by kernel_rfl) rfl ?_
        intro ac264 En265
        rcases Bool.eq_false_or_eq_true (!fc) with hb266 | hb266
        · rw [hb266] at En265
          have hp267 : ¬ (fc = true) := by simpa using hb266
          refine d_pures [(1, .pointer (some ⟨bk1, 0, none⟩)), (2, .int .i64 0), (3, .slice ao32 (List.length (lh ++ lfw)) cp33), (32, .bool true)] [undef, undef, undef, undef, undef, undef, undef, .bool true, .bool true, .bool true] 19 En265 (by kernel_rfl) (by kernel_rfl) rfl ?_
          intro ac268 En269
          refine from_end (by kernel_rfl) ?_
          refine then_normal ?_
          refine cond_true En269 (t := true) (by kernel_rfl) rfl ?_
          refine wp_seq ?_
          refine region_from ?_  -- region 9
          refine d_pures [(1, .pointer (some ⟨bk1, 0, none⟩)), (2, .int .i64 3), (3, .slice ao32 (List.length (lh ++ lfw)) cp33)] [.int .i64 3] 1 En269 (by kernel_rfl) (by kernel_rfl) rfl ?_
          intro ac270 En271
          refine from_end (by kernel_rfl) ?_
          refine then_normal ?_
          refine wp_ret ?_
          refine block_ret ?_
          refine then_ret ?_
          refine d_ret1 (t := 2) (v := .int .i64 3) En271 (by kernel_rfl) (by kernel_rfl) ?_
          refine ⟨?_, Hv238.pick [] (by kernel_rfl) (by decide)⟩
          try rw [Int.natCast_inj] at hc244
          try rw [List.length_append] at hc244
          try rw [Int.natCast_inj] at hc249
          try rw [List.length_append] at hc249
          try rw [Int.natCast_inj] at hp259
          try rw [List.length_append] at hp259
          try rw [Int.natCast_inj] at hp267
          try rw [List.length_append] at hp267
          have e : relayF lh lfw lfr fc fe lbw lbr bc be = 3 := by
            unfold relayF
            simp [hc244, hc249, hp259, hp267]
          rw [e]
        · rw [hb266] at En265
          have hp272 : fc = true := by simpa using hb266
          refine d_pures [(1, .pointer (some ⟨bk1, 0, none⟩)), (2, .int .i64 0), (3, .slice ao32 (List.length (lh ++ lfw)) cp33), (36, .bool true), (41, .bool false), (43, .pointer (some ⟨bk1, 6, none⟩))] [.pointer (some ⟨bk1, 5, none⟩), .pointer (some ⟨bk1, 6, none⟩)] 11 En265 (by kernel_rfl) (by kernel_rfl) rfl ?_
          intro ac273 En274
          refine from_op (by kernel_rfl) ?_
          refine op_loadbox (d := some 44) (t := 22) (b := bk1) (off := 6) (k := 0) (v := .slice abr (List.length lbr) cbr) En274 (by kernel_rfl) Hv238 rfl rfl (by kernel_rfl) ?_
          intro ac275 En276
          refine d_pures [(1, .pointer (some ⟨bk1, 0, none⟩)), (2, .int .i64 0), (3, .slice ao32 (List.length (lh ++ lfw)) cp33), (32, .bool (((List.length lbr : Nat) : Int) != ((List.length (lh ++ lfw) : Nat) : Int)))] [.int .i64 ((List.length lbr : Nat) : Int), .slice ao32 (List.length (lh ++ lfw)) cp33, .int .i64 ((List.length (lh ++ lfw) : Nat) : Int), .bool (((List.length lbr : Nat) : Int) != ((List.length (lh ++ lfw) : Nat) : Int)), .bool (((List.length lbr : Nat) : Int) != ((List.length (lh ++ lfw) : Nat) : Int)), .bool (((List.length lbr : Nat) : Int) != ((List.length (lh ++ lfw) : Nat) : Int)), .bool (((List.length lbr : Nat) : Int) != ((List.length (lh ++ lfw) : Nat) : Int))] 19 En276 (by kernel_rfl) (by kernel_rfl) rfl ?_
          intro ac277 En278
          refine from_end (by kernel_rfl) ?_
          refine then_normal ?_
          refine cond_at En278 (t := ((List.length lbr : Nat) : Int) != ((List.length (lh ++ lfw) : Nat) : Int)) (by kernel_rfl) (fun hc279 => ?_) (fun hc279 => ?_)
          ·
            replace hc279 : ¬ (((List.length lbr : Nat) : Int) = ((List.length (lh ++ lfw) : Nat) : Int)) := by simpa using hc279
            refine wp_seq ?_
            refine region_from ?_  -- region 9
            refine d_pures [(1, .pointer (some ⟨bk1, 0, none⟩)), (2, .int .i64 3), (3, .slice ao32 (List.length (lh ++ lfw)) cp33)] [.int .i64 3] 1 En278 (by kernel_rfl) (by kernel_rfl) rfl ?_
            intro ac280 En281
            refine from_end (by kernel_rfl) ?_
            refine then_normal ?_
            refine wp_ret ?_
            refine block_ret ?_
            refine then_ret ?_
            refine d_ret1 (t := 2) (v := .int .i64 3) En281 (by kernel_rfl) (by kernel_rfl) ?_
            refine ⟨?_, Hv238.pick [] (by kernel_rfl) (by decide)⟩
            try rw [Int.natCast_inj] at hc244
            try rw [List.length_append] at hc244
            try rw [Int.natCast_inj] at hc249
            try rw [List.length_append] at hc249
            try rw [Int.natCast_inj] at hp259
            try rw [List.length_append] at hp259
            try rw [Int.natCast_inj] at hp272
            try rw [List.length_append] at hp272
            try rw [Int.natCast_inj] at hc279
            try rw [List.length_append] at hc279
            have e : relayF lh lfw lfr fc fe lbw lbr bc be = 3 := by
              unfold relayF
              simp [hc244, hc249, hp259, hp272, hc279]
            rw [e]
          ·
            replace hc279 : ((List.length lbr : Nat) : Int) = ((List.length (lh ++ lfw) : Nat) : Int) := by simpa using hc279
            refine wp_seq ?_
            refine region_from ?_  -- region 10
            refine d_pures [(1, .pointer (some ⟨bk1, 0, none⟩)), (2, .int .i64 0), (3, .slice ao32 (List.length (lh ++ lfw)) cp33), (53, .pointer (some ⟨bk1, 4, none⟩))] [.pointer (some ⟨bk1, 1, none⟩), .pointer (some ⟨bk1, 4, none⟩)] 2 En278 (by kernel_rfl) (by kernel_rfl) rfl ?_
            intro ac282 En283
            refine from_op (by kernel_rfl) ?_
            refine op_loadbox (d := some 54) (t := 4) (b := bk1) (off := 4) (k := 0) (v := .bool fe) En283 (by kernel_rfl) Hv238 rfl rfl (by kernel_rfl) ?_
            intro ac284 En285
            refine d_pures [(1, .pointer (some ⟨bk1, 0, none⟩)), (2, .int .i64 0), (3, .slice ao32 (List.length (lh ++ lfw)) cp33), (55, .bool fe)] [.bool fe] 4 En285 (by kernel_rfl) (by kernel_rfl) rfl ?_
            intro ac286 En287
            rcases Bool.eq_false_or_eq_true (fe) with hb288 | hb288
            · rw [hb288] at En287
              have hp289 : fe = true := hb288
              refine d_pures [(1, .pointer (some ⟨bk1, 0, none⟩)), (2, .int .i64 0), (3, .slice ao32 (List.length (lh ++ lfw)) cp33), (55, .bool true), (57, .pointer (some ⟨bk1, 7, none⟩))] [.pointer (some ⟨bk1, 5, none⟩), .pointer (some ⟨bk1, 7, none⟩)] 6 En287 (by kernel_rfl) (by kernel_rfl) rfl ?_
              intro ac290 En291
              refine from_op (by kernel_rfl) ?_
              refine op_loadbox (d := some 58) (t := 4) (b := bk1) (off := 7) (k := 0) (v := .bool bc) En291 (by kernel_rfl) Hv238 rfl rfl (by kernel_rfl) ?_
              intro ac292 En293
              refine d_pures [(1, .pointer (some ⟨bk1, 0, none⟩)), (2, .int .i64 0), (3, .slice ao32 (List.length (lh ++ lfw)) cp33), (55, .bool true), (60, .bool (!bc))] [.bool (!bc), .bool (!bc)] 9 En293 (by kernel_rfl) (by kernel_rfl) rfl ?_
              intro ac294 En295
              rcases Bool.eq_false_or_eq_true (!bc) with hb296 | hb296
              · rw [hb296] at En295
                have hp297 : ¬ (bc = true) := by simpa using hb296
                refine d_pures [(1, .pointer (some ⟨bk1, 0, none⟩)), (2, .int .i64 0), (3, .slice ao32 (List.length (lh ++ lfw)) cp33), (51, .bool true)] [undef, undef, undef, undef, undef, undef, undef, undef, undef, .bool true, .bool true, .bool true] 21 En295 (by kernel_rfl) (by kernel_rfl) rfl ?_
                intro ac298 En299
                refine from_end (by kernel_rfl) ?_
                refine then_normal ?_
                refine cond_true En299 (t := true) (by kernel_rfl) rfl ?_
                refine wp_seq ?_
                refine region_from ?_  -- region 11
                refine d_pures [(1, .pointer (some ⟨bk1, 0, none⟩)), (2, .int .i64 4), (3, .slice ao32 (List.length (lh ++ lfw)) cp33)] [.int .i64 4] 1 En299 (by kernel_rfl) (by kernel_rfl) rfl ?_
                intro ac300 En301
                refine from_end (by kernel_rfl) ?_
                refine then_normal ?_
                refine wp_ret ?_
                refine block_ret ?_
                refine then_ret ?_
                refine d_ret1 (t := 2) (v := .int .i64 4) En301 (by kernel_rfl) (by kernel_rfl) ?_
                refine ⟨?_, Hv238.pick [] (by kernel_rfl) (by decide)⟩
                try rw [Int.natCast_inj] at hc244
                try rw [List.length_append] at hc244
                try rw [Int.natCast_inj] at hc249
                try rw [List.length_append] at hc249
                try rw [Int.natCast_inj] at hp259
                try rw [List.length_append] at hp259
                try rw [Int.natCast_inj] at hp272
                try rw [List.length_append] at hp272
                try rw [Int.natCast_inj] at hc279
                try rw [List.length_append] at hc279
                try rw [Int.natCast_inj] at hp289
                try rw [List.length_append] at hp289
                try rw [Int.natCast_inj] at hp297
                try rw [List.length_append] at hp297
                have e : relayF lh lfw lfr fc fe lbw lbr bc be = 4 := by
                  unfold relayF
                  simp [hc244, hc249, hp259, hp272, hc279, hp289, hp297]
                rw [e]
              · rw [hb296] at En295
                have hp302 : bc = true := by simpa using hb296
                refine d_pures [(1, .pointer (some ⟨bk1, 0, none⟩)), (2, .int .i64 0), (3, .slice ao32 (List.length (lh ++ lfw)) cp33), (55, .bool true), (60, .bool false), (62, .pointer (some ⟨bk1, 2, none⟩))] [.pointer (some ⟨bk1, 1, none⟩), .pointer (some ⟨bk1, 2, none⟩)] 11 En295 (by kernel_rfl) (by kernel_rfl) rfl ?_
                intro ac303 En304
                refine from_op (by kernel_rfl) ?_
                refine op_loadbox (d := some 63) (t := 22) (b := bk1) (off := 2) (k := 0) (v := .slice afr (List.length lfr) cfr) En304 (by kernel_rfl) Hv238 rfl rfl (by kernel_rfl) ?_
                intro ac305 En306
                refine d_pures [(1, .pointer (some ⟨bk1, 0, none⟩)), (2, .int .i64 0), (3, .slice ao32 (List.length (lh ++ lfw)) cp33), (55, .bool true), (60, .bool false), (64, .int .i64 ((List.length lfr : Nat) : Int)), (66, .pointer (some ⟨bk1, 5, none⟩))] [.int .i64 ((List.length lfr : Nat) : Int), .pointer (some ⟨bk1, 5, none⟩), .pointer (some ⟨bk1, 5, none⟩)] 15 En306 (by kernel_rfl) (by kernel_rfl) rfl ?_
                intro ac307 En308
                refine from_op (by kernel_rfl) ?_
                refine op_loadbox (d := some 67) (t := 22) (b := bk1) (off := 5) (k := 0) (v := .slice abw (List.length lbw) cbw) En308 (by kernel_rfl) Hv238 rfl rfl (by kernel_rfl) ?_
                intro ac309 En310
                refine d_pures [(1, .pointer (some ⟨bk1, 0, none⟩)), (2, .int .i64 0), (3, .slice ao32 (List.length (lh ++ lfw)) cp33), (51, .bool (((List.length lfr : Nat) : Int) != ((List.length lbw : Nat) : Int)))] [.int .i64 ((List.length lbw : Nat) : Int), .bool (((List.length lfr : Nat) : Int) != ((List.length lbw : Nat) : Int)), .bool (((List.length lfr : Nat) : Int) != ((List.length lbw : Nat) : Int)), .bool (((List.length lfr : Nat) : Int) != ((List.length lbw : Nat) : Int)), .bool (((List.length lfr : Nat) : Int) != ((List.length lbw : Nat) : Int))] 21 En310 (by kernel_rfl) (by kernel_rfl) rfl ?_
                intro ac311 En312
                refine from_end (by kernel_rfl) ?_
                refine then_normal ?_
                refine cond_at En312 (t := ((List.length lfr : Nat) : Int) != ((List.length lbw : Nat) : Int)) (by kernel_rfl) (fun hc313 => ?_) (fun hc313 => ?_)
                ·
                  replace hc313 : ¬ (((List.length lfr : Nat) : Int) = ((List.length lbw : Nat) : Int)) := by simpa using hc313
                  refine wp_seq ?_
                  refine region_from ?_  -- region 11
                  refine d_pures [(1, .pointer (some ⟨bk1, 0, none⟩)), (2, .int .i64 4), (3, .slice ao32 (List.length (lh ++ lfw)) cp33)] [.int .i64 4] 1 En312 (by kernel_rfl) (by kernel_rfl) rfl ?_
                  intro ac314 En315
                  refine from_end (by kernel_rfl) ?_
                  refine then_normal ?_
                  refine wp_ret ?_
                  refine block_ret ?_
                  refine then_ret ?_
                  refine d_ret1 (t := 2) (v := .int .i64 4) En315 (by kernel_rfl) (by kernel_rfl) ?_
                  refine ⟨?_, Hv238.pick [] (by kernel_rfl) (by decide)⟩
                  try rw [Int.natCast_inj] at hc244
                  try rw [List.length_append] at hc244
                  try rw [Int.natCast_inj] at hc249
                  try rw [List.length_append] at hc249
                  try rw [Int.natCast_inj] at hp259
                  try rw [List.length_append] at hp259
                  try rw [Int.natCast_inj] at hp272
                  try rw [List.length_append] at hp272
                  try rw [Int.natCast_inj] at hc279
                  try rw [List.length_append] at hc279
                  try rw [Int.natCast_inj] at hp289
                  try rw [List.length_append] at hp289
                  try rw [Int.natCast_inj] at hp302
                  try rw [List.length_append] at hp302
                  try rw [Int.natCast_inj] at hc313
                  try rw [List.length_append] at hc313
                  have e : relayF lh lfw lfr fc fe lbw lbr bc be = 4 := by
                    unfold relayF
                    simp [hc244, hc249, hp259, hp272, hc279, hp289, hp302, hc313]
                  rw [e]
                ·
                  replace hc313 : ((List.length lfr : Nat) : Int) = ((List.length lbw : Nat) : Int) := by simpa using hc313
                  refine wp_skip ?_
                  refine block_normal ?_
                  refine then_normal ?_
                  refine wp_seq ?_
                  refine region_from ?_  -- region 12
                  refine d_pures [(1, .pointer (some ⟨bk1, 0, none⟩)), (2, .int .i64 0), (3, .slice ao32 (List.length (lh ++ lfw)) cp33)] [.int .i64 0] 1 En312 (by kernel_rfl) (by kernel_rfl) rfl ?_
                  intro ac316 En317
                  refine from_end (by kernel_rfl) ?_
                  refine then_normal ?_
                  refine wp_ret ?_
                  refine d_ret1 (t := 2) (v := .int .i64 0) En317 (by kernel_rfl) (by kernel_rfl) ?_
                  refine ⟨?_, Hv238.pick [] (by kernel_rfl) (by decide)⟩
                  try rw [Int.natCast_inj] at hc244
                  try rw [List.length_append] at hc244
                  try rw [Int.natCast_inj] at hc249
                  try rw [List.length_append] at hc249
                  try rw [Int.natCast_inj] at hp259
                  try rw [List.length_append] at hp259
                  try rw [Int.natCast_inj] at hp272
                  try rw [List.length_append] at hp272
                  try rw [Int.natCast_inj] at hc279
                  try rw [List.length_append] at hc279
                  try rw [Int.natCast_inj] at hp289
                  try rw [List.length_append] at hp289
                  try rw [Int.natCast_inj] at hp302
                  try rw [List.length_append] at hp302
                  try rw [Int.natCast_inj] at hc313
                  try rw [List.length_append] at hc313
                  have e : relayF lh lfw lfr fc fe lbw lbr bc be = 0 := by
                    unfold relayF
                    simp [hc244, hc249, hp259, hp272, hc279, hp289, hp302, hc313]
                  rw [e]
            · rw [hb288] at En287
              have hp318 : ¬ (fe = true) := Bool.eq_false_iff.1 hb288
              refine d_pures [(1, .pointer (some ⟨bk1, 0, none⟩)), (2, .int .i64 0), (3, .slice ao32 (List.length (lh ++ lfw)) cp33), (51, .bool false)] [undef, undef, undef, undef, undef, undef, undef, undef, undef, undef, undef, undef, undef, undef, undef, .bool false, .bool false] 21 En287 (by kernel_rfl) (by kernel_rfl) rfl ?_
              intro ac319 En320
              refine from_end (by kernel_rfl) ?_
              refine then_normal ?_
              refine cond_false En320 (t := false) (by kernel_rfl) rfl ?_
              refine wp_skip ?_
              refine block_normal ?_
              refine then_normal ?_
              refine wp_seq ?_
              refine region_from ?_  -- region 12
              refine d_pures [(1, .pointer (some ⟨bk1, 0, none⟩)), (2, .int .i64 0), (3, .slice ao32 (List.length (lh ++ lfw)) cp33)] [.int .i64 0] 1 En320 (by kernel_rfl) (by kernel_rfl) rfl ?_
              intro ac321 En322
              refine from_end (by kernel_rfl) ?_
              refine then_normal ?_
              refine wp_ret ?_
              refine d_ret1 (t := 2) (v := .int .i64 0) En322 (by kernel_rfl) (by kernel_rfl) ?_
              refine ⟨?_, Hv238.pick [] (by kernel_rfl) (by decide)⟩
              try rw [Int.natCast_inj] at hc244
              try rw [List.length_append] at hc244
              try rw [Int.natCast_inj] at hc249
              try rw [List.length_append] at hc249
              try rw [Int.natCast_inj] at hp259
              try rw [List.length_append] at hp259
              try rw [Int.natCast_inj] at hp272
              try rw [List.length_append] at hp272
              try rw [Int.natCast_inj] at hc279
              try rw [List.length_append] at hc279
              try rw [Int.natCast_inj] at hp318
              try rw [List.length_append] at hp318
              have e : relayF lh lfw lfr fc fe lbw lbr bc be = 0 := by
                unfold relayF
                simp [hc244, hc249, hp259, hp272, hc279, hp318]
              rw [e]
      · rw [hb258] at En257
        have hp323 : ¬ (be = true) := Bool.eq_false_iff.1 hb258
        refine d_pures [(1, .pointer (some ⟨bk1, 0, none⟩)), (2, .int .i64 0), (3, .slice ao32 (List.length (lh ++ lfw)) cp33), (32, .bool false)] [undef, undef, undef, undef, undef, undef, undef, undef, undef, undef, undef, undef, undef, .bool false, .bool false] 19 En257 (by kernel_rfl) (by kernel_rfl) rfl ?_
        intro ac324 En325
        refine from_end (by kernel_rfl) ?_
        refine then_normal ?_
        refine cond_false En325 (t := false) (by kernel_rfl) rfl ?_
        refine wp_seq ?_
        refine region_from ?_  -- region 10
        refine d_pures [(1, .pointer (some ⟨bk1, 0, none⟩)), (2, .int .i64 0), (3, .slice ao32 (List.length (lh ++ lfw)) cp33), (53, .pointer (some ⟨bk1, 4, none⟩))] [.pointer (some ⟨bk1, 1, none⟩), .pointer (some ⟨bk1, 4, none⟩)] 2 En325 (by kernel_rfl) (by kernel_rfl) rfl ?_
        intro ac326 En327
        refine from_op (by kernel_rfl) ?_
        refine op_loadbox (d := some 54) (t := 4) (b := bk1) (off := 4) (k := 0) (v := .bool fe) En327 (by kernel_rfl) Hv238 rfl rfl (by kernel_rfl) ?_
        intro ac328 En329
        refine d_pures [(1, .pointer (some ⟨bk1, 0, none⟩)), (2, .int .i64 0), (3, .slice ao32 (List.length (lh ++ lfw)) cp33), (55, .bool fe)] [.bool fe] 4 En329 (by kernel_rfl) (by kernel_rfl) rfl ?_
        intro ac330 En331
        rcases Bool.eq_false_or_eq_true (fe) with hb332 | hb332
        · rw [hb332] at En331
          have hp333 : fe = true := hb332
          refine d_pures [(1, .pointer (some ⟨bk1, 0, none⟩)), (2, .int .i64 0), (3, .slice ao32 (List.length (lh ++ lfw)) cp33), (55, .bool true), (57, .pointer (some ⟨bk1, 7, none⟩))] [.pointer (some ⟨bk1, 5, none⟩), .pointer (some ⟨bk1, 7, none⟩)] 6 En331 (by kernel_rfl) (by kernel_rfl) rfl ?_
          intro ac334 En335
          refine from_op (by kernel_rfl) ?_
          refine op_loadbox (d := some 58) (t := 4) (b := bk1) (off := 7) (k := 0) (v := .bool bc) En335 (by kernel_rfl) Hv238 rfl rfl (by kernel_rfl) ?_
          intro ac336 En337
          refine d_pures [(1, .pointer (some ⟨bk1, 0, none⟩)), (2, .int .i64 0), (3, .slice ao32 (List.length (lh ++ lfw)) cp33), (55, .bool true), (60, .bool (!bc))] [.bool (!bc), .bool (!bc)] 9 En337 (by kernel_rfl) (by kernel_rfl) rfl ?_
          intro ac338 En339
          rcases Bool.eq_false_or_eq_true (!bc) with hb340 | hb340
          · rw [hb340] at En339
            have hp341 : ¬ (bc = true) := by simpa using hb340
            refine d_pures [(1, .pointer (some ⟨bk1, 0, none⟩)), (2, .int .i64 0), (3, .slice ao32 (List.length (lh ++ lfw)) cp33), (51, .bool true)] [undef, undef, undef, undef, undef, undef, undef, undef, undef, .bool true, .bool true, .bool true] 21 En339 (by kernel_rfl) (by kernel_rfl) rfl ?_
            intro ac342 En343
            refine from_end (by kernel_rfl) ?_
            refine then_normal ?_
            refine cond_true En343 (t := true) (by kernel_rfl) rfl ?_
            refine wp_seq ?_
            refine region_from ?_  -- region 11
            refine d_pures [(1, .pointer (some ⟨bk1, 0, none⟩)), (2, .int .i64 4), (3, .slice ao32 (List.length (lh ++ lfw)) cp33)] [.int .i64 4] 1 En343 (by kernel_rfl) (by kernel_rfl) rfl ?_
            intro ac344 En345
            refine from_end (by kernel_rfl) ?_
            refine then_normal ?_
            refine wp_ret ?_
            refine block_ret ?_
            refine then_ret ?_
            refine d_ret1 (t := 2) (v := .int .i64 4) En345 (by kernel_rfl) (by kernel_rfl) ?_
            refine ⟨?_, Hv238.pick [] (by kernel_rfl) (by decide)⟩
            try rw [Int.natCast_inj] at hc244
            try rw [List.length_append] at hc244
            try rw [Int.natCast_inj] at hc249
            try rw [List.length_append] at hc249
            try rw [Int.natCast_inj] at hp323
            try rw [List.length_append] at hp323
            try rw [Int.natCast_inj] at hp333
            try rw [List.length_append] at hp333
            try rw [Int.natCast_inj] at hp341
            try rw [List.length_append] at hp341
            have e : relayF lh lfw lfr fc fe lbw lbr bc be = 4 := by
              unfold relayF
              simp [hc244, hc249, hp323, hp333, hp341]
            rw [e]
          · rw [hb340] at En339
            have hp346 : bc = true := by simpa using hb340
            refine d_pures [(1, .pointer (some ⟨bk1, 0, none⟩)), (2, .int .i64 0), (3, .slice ao32 (List.length (lh ++ lfw)) cp33), (55, .bool true), (60, .bool false), (62, .pointer (some ⟨bk1, 2, none⟩))] [.pointer (some ⟨bk1, 1, none⟩), .pointer (some ⟨bk1, 2, none⟩)] 11 En339 (by kernel_rfl) (by kernel_rfl) rfl ?_
            intro ac347 En348
            refine from_op (by kernel_rfl) ?_
            refine op_loadbox (d := some 63) (t := 22) (b := bk1) (off := 2) (k := 0) (v := .slice afr (List.length lfr) cfr) En348 (by kernel_rfl) Hv238 rfl rfl (by kernel_rfl) ?_
            intro ac349 En350
            refine d_pures [(1, .pointer (some ⟨bk1, 0, none⟩)), (2, .int .i64 0), (3, .slice ao32 (List.length (lh ++ lfw)) cp33), (55, .bool true), (60, .bool false), (64, .int .i64 ((List.length lfr : Nat) : Int)), (66, .pointer (some ⟨bk1, 5, none⟩))] [.int .i64 ((List.length lfr : Nat) : Int), .pointer (some ⟨bk1, 5, none⟩), .pointer (some ⟨bk1, 5, none⟩)] 15 En350 (by kernel_rfl) (by kernel_rfl) rfl ?_
            intro ac351 En352
            refine from_op (by kernel_rfl) ?_
            refine op_loadbox (d := some 67) (t := 22) (b := bk1) (off := 5) (k := 0) (v := .slice abw (List.length lbw) cbw) En352 (by kernel_rfl) Hv238 rfl rfl (by kernel_rfl) ?_
            intro ac353 En354
            refine d_pures [(1, .pointer (some ⟨bk1, 0, none⟩)), (2, .int .i64 0), (3, .slice ao32 (List.length (lh ++ lfw)) cp33), (51, .bool (((List.length lfr : Nat) : Int) != ((List.length lbw : Nat) : Int)))] [.int .i64 ((List.length lbw : Nat) : Int), .bool (((List.length lfr : Nat) : Int) != ((List.length lbw : Nat) : Int)), .bool (((List.length lfr : Nat) : Int) != ((List.length lbw : Nat) : Int)), .bool (((List.length lfr : Nat) : Int) != ((List.length lbw : Nat) : Int)), .bool (((List.length lfr : Nat) : Int) != ((List.length lbw : Nat) : Int))] 21 En354 (by kernel_rfl) (by kernel_rfl) rfl ?_
            intro ac355 En356
            refine from_end (by kernel_rfl) ?_
            refine then_normal ?_
            refine cond_at En356 (t := ((List.length lfr : Nat) : Int) != ((List.length lbw : Nat) : Int)) (by kernel_rfl) (fun hc357 => ?_) (fun hc357 => ?_)
            ·
              replace hc357 : ¬ (((List.length lfr : Nat) : Int) = ((List.length lbw : Nat) : Int)) := by simpa using hc357
              refine wp_seq ?_
              refine region_from ?_  -- region 11
              refine d_pures [(1, .pointer (some ⟨bk1, 0, none⟩)), (2, .int .i64 4), (3, .slice ao32 (List.length (lh ++ lfw)) cp33)] [.int .i64 4] 1 En356 (by kernel_rfl) (by kernel_rfl) rfl ?_
              intro ac358 En359
              refine from_end (by kernel_rfl) ?_
              refine then_normal ?_
              refine wp_ret ?_
              refine block_ret ?_
              refine then_ret ?_
              refine d_ret1 (t := 2) (v := .int .i64 4) En359 (by kernel_rfl) (by kernel_rfl) ?_
              refine ⟨?_, Hv238.pick [] (by kernel_rfl) (by decide)⟩
              try rw [Int.natCast_inj] at hc244
              try rw [List.length_append] at hc244
              try rw [Int.natCast_inj] at hc249
              try rw [List.length_append] at hc249
              try rw [Int.natCast_inj] at hp323
              try rw [List.length_append] at hp323
              try rw [Int.natCast_inj] at hp333
              try rw [List.length_append] at hp333
              try rw [Int.natCast_inj] at hp346
              try rw [List.length_append] at hp346
              try rw [Int.natCast_inj] at hc357
              try rw [List.length_append] at hc357
              have e : relayF lh lfw lfr fc fe lbw lbr bc be = 4 := by
                unfold relayF
                simp [hc244, hc249, hp323, hp333, hp346, hc357]
              rw [e]
            ·
              replace hc357 : ((List.length lfr : Nat) : Int) = ((List.length lbw : Nat) : Int) := by simpa using hc357
              refine wp_skip ?_
              refine block_normal ?_
              refine then_normal ?_
              refine wp_seq ?_
              refine region_from ?_  -- region 12
              refine d_pures [(1, .pointer (some ⟨bk1, 0, none⟩)), (2, .int .i64 0), (3, .slice ao32 (List.length (lh ++ lfw)) cp33)] [.int .i64 0] 1 En356 (by kernel_rfl) (by kernel_rfl) rfl ?_
              intro ac360 En361
              refine from_end (by kernel_rfl) ?_
              refine then_normal ?_
              refine wp_ret ?_
              refine d_ret1 (t := 2) (v := .int .i64 0) En361 (by kernel_rfl) (by kernel_rfl) ?_
              refine ⟨?_, Hv238.pick [] (by kernel_rfl) (by decide)⟩
              try rw [Int.natCast_inj] at hc244
              try rw [List.length_append] at hc244
              try rw [Int.natCast_inj] at hc249
              try rw [List.length_append] at hc249
              try rw [Int.natCast_inj] at hp323
              try rw [List.length_append] at hp323
              try rw [Int.natCast_inj] at hp333
              try rw [List.length_append] at hp333
              try rw [Int.natCast_inj] at hp346
              try rw [List.length_append] at hp346
              try rw [Int.natCast_inj] at hc357
              try rw [List.length_append] at hc357
              have e : relayF lh lfw lfr fc fe lbw lbr bc be = 0 := by
                unfold relayF
                simp [hc244, hc249, hp323, hp333, hp346, hc357]
              rw [e]
        · rw [hb332] at En331
          have hp362 : ¬ (fe = true) := Bool.eq_false_iff.1 hb332
          refine d_pures [(1, .pointer (some ⟨bk1, 0, none⟩)), (2, .int .i64 0), (3, .slice ao32 (List.length (lh ++ lfw)) cp33), (51, .bool false)] [undef, undef, undef, undef, undef, undef, undef, undef, undef, undef, undef, undef, undef, undef, undef, .bool false, .bool false] 21 En331 (by kernel_rfl) (by kernel_rfl) rfl ?_
          intro ac363 En364
          refine from_end (by kernel_rfl) ?_
          refine then_normal ?_
          refine cond_false En364 (t := false) (by kernel_rfl) rfl ?_
          refine wp_skip ?_
          refine block_normal ?_
          refine then_normal ?_
          refine wp_seq ?_
          refine region_from ?_  -- region 12
          refine d_pures [(1, .pointer (some ⟨bk1, 0, none⟩)), (2, .int .i64 0), (3, .slice ao32 (List.length (lh ++ lfw)) cp33)] [.int .i64 0] 1 En364 (by kernel_rfl) (by kernel_rfl) rfl ?_
          intro ac365 En366
          refine from_end (by kernel_rfl) ?_
          refine then_normal ?_
          refine wp_ret ?_
          refine d_ret1 (t := 2) (v := .int .i64 0) En366 (by kernel_rfl) (by kernel_rfl) ?_
          refine ⟨?_, Hv238.pick [] (by kernel_rfl) (by decide)⟩
          try rw [Int.natCast_inj] at hc244
          try rw [List.length_append] at hc244
          try rw [Int.natCast_inj] at hc249
          try rw [List.length_append] at hc249
          try rw [Int.natCast_inj] at hp323
          try rw [List.length_append] at hp323
          try rw [Int.natCast_inj] at hp362
          try rw [List.length_append] at hp362
          have e : relayF lh lfw lfr fc fe lbw lbr bc be = 0 := by
            unfold relayF
            simp [hc244, hc249, hp323, hp362]
          rw [e]

end Go.Proofs.Ytjecaljhipfbfaa
